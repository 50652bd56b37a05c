/- awake answers true. -/
import Derived.Test.YtceenhjhejjdlaaGreatDoorP08
import Derived.Test.YtceenhjhejjdlaaGreatDoorP03
set_option linter.unusedSimpArgs false
set_option linter.unusedVariables false
namespace Go.Rs.Seat
open Go.Proofs
set_option maxRecDepth 100000

/-! ## Values, made by program (run2.lean.txt) -/
/-- awake's program -/
def vP : AVal := .agg [.str ⟨#[109]⟩, .int .i64 0, .nilslice, .nilslice, .nilslice, .nilslice, .nilslice, .list [.agg [.str ⟨#[80]⟩, .list [.str ⟨#[115]⟩] .none 1, .list [.agg [.int .i64 1, .str ⟨#[]⟩, .nilslice]] .none 3, .int .i64 1, .str ⟨#[]⟩, .nilslice, .int .i64 18, .int .i64 (-1), .str ⟨#[]⟩, .nilslice, .nilslice, .nilslice, .list [.agg [.int .i64 2, .int .i64 0, .str ⟨#[120]⟩, .nilslice, .int .i64 6, .int .i64 0, .str ⟨#[121]⟩, .nilslice, .nilslice, .list [.agg [.int .i64 20, .int .i64 0, .str ⟨#[]⟩, .nilslice, .nilslice, .list [.agg [.int .i64 8, .int .i64 0, .str ⟨#[43]⟩, .nilslice, .nilslice, .list [.agg [.int .i64 5, .int .i64 0, .str ⟨#[115]⟩, .nilslice, .nilslice, .nilslice, .nilslice, .int .i64 0], .agg [.int .i64 5, .int .i64 0, .str ⟨#[120]⟩, .nilslice, .nilslice, .nilslice, .nilslice, .int .i64 0]] .none 8, .nilslice, .int .i64 0]] .none 8, .nilslice, .int .i64 0], .agg [.int .i64 17, .int .i64 0, .str ⟨#[]⟩, .nilslice, .nilslice, .list [.agg [.int .i64 8, .int .i64 0, .str ⟨#[43]⟩, .nilslice, .nilslice, .list [.agg [.int .i64 5, .int .i64 0, .str ⟨#[115]⟩, .nilslice, .nilslice, .nilslice, .nilslice, .int .i64 0], .agg [.int .i64 5, .int .i64 0, .str ⟨#[120]⟩, .nilslice, .nilslice, .nilslice, .nilslice, .int .i64 0]] .none 8, .nilslice, .int .i64 0]] .none 8, .nilslice, .int .i64 0]] .none 8, .nilslice, .int .i64 0]] .none 12, .int .i64 0]] .none 14]

/-- lifted -/
def vLiftR : AVal := .tuple [.agg [.list [.agg [.str ⟨#[80]⟩, .int .i64 1, .int .i64 0, .int .i64 3, .int .i64 18, .int .i64 (-1), .str ⟨#[]⟩, .nilslice, .list [.agg [.int .i64 2, .int .i64 0, .str ⟨#[120]⟩, .nilslice]] .none 4, .list [.list [.int .i64 1] .none 1] .none 1, .list [.agg [.int .i64 6, .int .i64 2, .str ⟨#[]⟩, .list [.agg [.int .i64 20, .int .i64 0, .str ⟨#[]⟩, .list [.agg [.int .i64 8, .int .i64 0, .str ⟨#[43]⟩, .list [.agg [.int .i64 105, .int .i64 0, .str ⟨#[]⟩, .nilslice, .nilslice, .nilslice, .nilslice], .agg [.int .i64 105, .int .i64 1, .str ⟨#[]⟩, .nilslice, .nilslice, .nilslice, .nilslice]] .none 7, .nilslice, .nilslice, .nilslice]] .none 7, .nilslice, .nilslice, .nilslice], .agg [.int .i64 17, .int .i64 0, .str ⟨#[]⟩, .list [.agg [.int .i64 8, .int .i64 0, .str ⟨#[43]⟩, .list [.agg [.int .i64 105, .int .i64 0, .str ⟨#[]⟩, .nilslice, .nilslice, .nilslice, .nilslice], .agg [.int .i64 105, .int .i64 1, .str ⟨#[]⟩, .nilslice, .nilslice, .nilslice, .nilslice]] .none 7, .nilslice, .nilslice, .nilslice]] .none 7, .nilslice, .nilslice, .nilslice]] .none 7, .nilslice, .nilslice, .nilslice]] .none 7]] .none 11, .list [.agg [.str ⟨#[80]⟩, .int .i64 1, .int .i64 0]] .none 3, .nilslice], .int .i64 0]

/-- its function -/
def vF : AVal := .agg [.str ⟨#[80]⟩, .int .i64 1, .int .i64 0, .int .i64 8, .list [.agg [.int .i64 16, .int .i64 0, .int .i64 0, .int .i64 (-1), .list [.int .i64 (-1), .int .i64 1, .int .i64 1, .int .i64 1] .none 1], .agg [.int .i64 5, .int .i64 4, .int .i64 0, .int .i64 0, .list [.int .i64 0, .int .i64 1] .none 1], .agg [.int .i64 19, .int .i64 4, .int .i64 0, .int .i64 0, .nilslice], .agg [.int .i64 1, .int .i64 5, .int .i64 1, .int .i64 0, .nilslice], .agg [.int .i64 2, .int .i64 2, .int .i64 5, .int .i64 0, .nilslice], .agg [.int .i64 5, .int .i64 6, .int .i64 0, .int .i64 0, .list [.int .i64 0, .int .i64 1] .none 1], .agg [.int .i64 15, .int .i64 0, .int .i64 0, .int .i64 0, .list [.int .i64 6] .none 1], .agg [.int .i64 2, .int .i64 3, .int .i64 7, .int .i64 0, .nilslice], .agg [.int .i64 3, .int .i64 9, .int .i64 0, .int .i64 0, .nilslice], .agg [.int .i64 25, .int .i64 3, .int .i64 0, .int .i64 0, .nilslice]] .none 5]

/-- with fewer registers -/
def vFR : AVal := .agg [.str ⟨#[80]⟩, .int .i64 1, .int .i64 0, .int .i64 3, .list [.agg [.int .i64 16, .int .i64 0, .int .i64 0, .int .i64 (-1), .list [.int .i64 (-1), .int .i64 1, .int .i64 1, .int .i64 1] .none 1], .agg [.int .i64 5, .int .i64 2, .int .i64 0, .int .i64 0, .list [.int .i64 0, .int .i64 1] .none 1], .agg [.int .i64 19, .int .i64 2, .int .i64 0, .int .i64 0, .nilslice], .agg [.int .i64 1, .int .i64 2, .int .i64 1, .int .i64 0, .nilslice], .agg [.int .i64 2, .int .i64 2, .int .i64 2, .int .i64 0, .nilslice], .agg [.int .i64 5, .int .i64 0, .int .i64 0, .int .i64 0, .list [.int .i64 0, .int .i64 1] .none 1], .agg [.int .i64 15, .int .i64 0, .int .i64 0, .int .i64 0, .list [.int .i64 0] .none 1], .agg [.int .i64 2, .int .i64 0, .int .i64 0, .int .i64 0, .nilslice], .agg [.int .i64 3, .int .i64 9, .int .i64 0, .int .i64 0, .nilslice], .agg [.int .i64 25, .int .i64 0, .int .i64 0, .int .i64 0, .nilslice]] .none 5]

/-- compiled -/
def vCR : AVal := .tuple [.agg [.nilslice, .nilslice, .list [.agg [.str ⟨#[80]⟩, .int .i64 1, .int .i64 0, .int .i64 3, .list [.agg [.int .i64 16, .int .i64 0, .int .i64 0, .int .i64 (-1), .list [.int .i64 (-1), .int .i64 1, .int .i64 1, .int .i64 1] .none 1], .agg [.int .i64 5, .int .i64 2, .int .i64 0, .int .i64 0, .list [.int .i64 0, .int .i64 1] .none 1], .agg [.int .i64 19, .int .i64 2, .int .i64 0, .int .i64 0, .nilslice], .agg [.int .i64 1, .int .i64 2, .int .i64 1, .int .i64 0, .nilslice], .agg [.int .i64 2, .int .i64 2, .int .i64 2, .int .i64 0, .nilslice], .agg [.int .i64 5, .int .i64 0, .int .i64 0, .int .i64 0, .list [.int .i64 0, .int .i64 1] .none 1], .agg [.int .i64 15, .int .i64 0, .int .i64 0, .int .i64 0, .list [.int .i64 0] .none 1], .agg [.int .i64 2, .int .i64 0, .int .i64 0, .int .i64 0, .nilslice], .agg [.int .i64 3, .int .i64 9, .int .i64 0, .int .i64 0, .nilslice], .agg [.int .i64 25, .int .i64 0, .int .i64 0, .int .i64 0, .nilslice]] .none 5]] .none 5, .list [.agg [.str ⟨#[80]⟩, .int .i64 1, .int .i64 0, .bool true]] .none 4, .nilslice, .nilslice, .list [.list [.agg [.int .i64 2, .int .i64 0, .str ⟨#[120]⟩, .nilslice]] .none 4] .none 1], .int .i64 0]

def vC : AVal := .agg [.nilslice, .nilslice, .list [.agg [.str ⟨#[80]⟩, .int .i64 1, .int .i64 0, .int .i64 3, .list [.agg [.int .i64 16, .int .i64 0, .int .i64 0, .int .i64 (-1), .list [.int .i64 (-1), .int .i64 1, .int .i64 1, .int .i64 1] .none 1], .agg [.int .i64 5, .int .i64 2, .int .i64 0, .int .i64 0, .list [.int .i64 0, .int .i64 1] .none 1], .agg [.int .i64 19, .int .i64 2, .int .i64 0, .int .i64 0, .nilslice], .agg [.int .i64 1, .int .i64 2, .int .i64 1, .int .i64 0, .nilslice], .agg [.int .i64 2, .int .i64 2, .int .i64 2, .int .i64 0, .nilslice], .agg [.int .i64 5, .int .i64 0, .int .i64 0, .int .i64 0, .list [.int .i64 0, .int .i64 1] .none 1], .agg [.int .i64 15, .int .i64 0, .int .i64 0, .int .i64 0, .list [.int .i64 0] .none 1], .agg [.int .i64 2, .int .i64 0, .int .i64 0, .int .i64 0, .nilslice], .agg [.int .i64 3, .int .i64 9, .int .i64 0, .int .i64 0, .nilslice], .agg [.int .i64 25, .int .i64 0, .int .i64 0, .int .i64 0, .nilslice]] .none 5]] .none 5, .list [.agg [.str ⟨#[80]⟩, .int .i64 1, .int .i64 0, .bool true]] .none 4, .nilslice, .nilslice, .list [.list [.agg [.int .i64 2, .int .i64 0, .str ⟨#[120]⟩, .nilslice]] .none 4] .none 1]

noncomputable section
def deB : List AVal := [
  .int .u8 0, .int .u8 1, .int .u8 56, .int .u8 2, .int .u8 57, .int .u8 49, .int .u8 28, .int .u8 3, .int .u8 61, .int .u8 58, .int .u8 42, .int .u8 50, .int .u8 38, .int .u8 29, .int .u8 17, .int .u8 4,
  .int .u8 62, .int .u8 47, .int .u8 59, .int .u8 36, .int .u8 45, .int .u8 43, .int .u8 51, .int .u8 22, .int .u8 53, .int .u8 39, .int .u8 33, .int .u8 30, .int .u8 24, .int .u8 18, .int .u8 12, .int .u8 5,
  .int .u8 63, .int .u8 55, .int .u8 48, .int .u8 27, .int .u8 60, .int .u8 41, .int .u8 37, .int .u8 16, .int .u8 46, .int .u8 35, .int .u8 44, .int .u8 21, .int .u8 52, .int .u8 32, .int .u8 23, .int .u8 11,
  .int .u8 54, .int .u8 26, .int .u8 40, .int .u8 15, .int .u8 34, .int .u8 20, .int .u8 31, .int .u8 10, .int .u8 25, .int .u8 14, .int .u8 19, .int .u8 9, .int .u8 13, .int .u8 8, .int .u8 7, .int .u8 6]

/-- the tables' heap -/
def hpT : Hp := ⟨Tr.nil.set 0 (.cells deB), 4⟩

/-- is this the call's answer? -/
def checkG (call : List AVal → Hp → Option (AVal × Hp)) (args : List AVal) (val : AVal) : Bool :=
  match call args hpT with
  | some (r0, K') => tabsLe hpT K' 4 && (match renA nope false r0 with
    | some r1 => sameA r1 val
    | none => false)
  | none => false

/-- a call whose answers are known -/
def memo (key : List AVal) (val : AVal) (args : List AVal) (H : Hp) : Option (AVal × Hp) :=
  match renAs nope false args with
  | some bs => if sameAs bs key && tabsLe hpT H 4 then some (val, H) else none
  | none => none

theorem hpT_dead : ∀ i, hpT.next ≤ i → hpT.get i = .dead := by
  intro i hi
  have hi : 4 ≤ i := hi
  unfold hpT Hp.get
  simp only []
  rw [Tr.get_set _ _ _ _ (by decide), if_neg (by omega)]
  rfl

theorem memo_ok {f : Nat} {call : List AVal → Hp → Option (AVal × Hp)} {key : List AVal} {val : AVal} (hc : CallAt Tryz.prog (env noSpec) f call) (hchk : checkG call key val = true) : CallAt Tryz.prog (env noSpec) f (memo key val) := by
  have h0 := pureG_ok (K := hpT) (globs _) (by decide) hpT_dead hc
  refine h0.weaken fun args H r hr => ?_
  unfold memo at hr
  split at hr
  case h_2 => cases hr
  rename_i bs has
  split at hr
  case isFalse => cases hr
  rename_i hcnd
  simp only [Bool.and_eq_true] at hcnd
  injection hr with hr
  subst hr
  have hk := sameAs_eq _ _ hcnd.1
  subst hk
  unfold checkG at hchk
  split at hchk
  case h_2 => cases hchk
  rename_i r0 K' hcall
  simp only [Bool.and_eq_true] at hchk
  obtain ⟨h1, h2⟩ := hchk
  split at h2
  case h_2 => cases h2
  rename_i r1 hr1
  have hv := sameA_eq _ _ h2
  subst hv
  have e1 : tabsLe hpT H hpT.next = true := hcnd.2
  have e2 : tabsLe hpT K' hpT.next = true := h1
  unfold pureG
  simp only [has, e1, hcall, e2, hr1, if_true]

/-! ## The chain -/
def sp2 : Sp := [(298, countS), (315, indexS), (187, wordsS), (176, sortT)]
theorem sp2_ok : SpOk sp2 := .cons count298 (.cons index315 (.cons words_ok (.cons sortT_ok .nil)))

def sp3 : Sp := (114, Clash.clashS (env (ofSp sp2)) (evalCall (env (ofSp sp2)) (39 + 1))) :: sp2
theorem sp3_ok : SpOk sp3 := .cons (Clash.clash_ok rfl sp2_ok 39) sp2_ok

theorem right_eval : checkG (evalCall (env (ofSp sp3)) 40 false 54) [vP] (.int .i64 0) = true := by kernel_rfl
theorem right_ok : CallAt Tryz.prog (env noSpec) 54 (memo [vP] (.int .i64 0)) := memo_ok (call_ok (toldSp sp3_ok) 40 false 54) right_eval

def sp4 : Sp := (54, memo [vP] (.int .i64 0)) :: sp3
theorem sp4_ok : SpOk sp4 := .cons right_ok sp3_ok

theorem lift_eval : checkG (evalCall (env (ofSp sp4)) 40 false 33) [vP] vLiftR = true := by kernel_rfl
theorem lift_ok : CallAt Tryz.prog (env noSpec) 33 (memo [vP] vLiftR) := memo_ok (call_ok (toldSp sp4_ok) 40 false 33) lift_eval

theorem fun_eval : checkG (evalCall (env (ofSp sp3)) 40 false 36) [vF] vFR = true := by kernel_rfl
theorem fun_ok : CallAt Tryz.prog (env noSpec) 36 (memo [vF] vFR) := memo_ok (call_ok (toldSp sp3_ok) 40 false 36) fun_eval

def sp5 : Sp := (33, memo [vP] vLiftR) :: (36, memo [vF] vFR) :: sp4
theorem sp5_ok : SpOk sp5 := .cons lift_ok (.cons fun_ok sp4_ok)

theorem compile_eval : checkG (evalCall (env (ofSp sp5)) 40 false 20) [vP] vCR = true := by kernel_rfl
theorem compile_ok : CallAt Tryz.prog (env noSpec) 20 (memo [vP] vCR) := memo_ok (call_ok (toldSp sp5_ok) 40 false 20) compile_eval

theorem check_eval : checkG (evalCall (env (ofSp sp3)) 40 false 21) [vC] (.int .i64 0) = true := by kernel_rfl
theorem check_ok : CallAt Tryz.prog (env noSpec) 21 (memo [vC] (.int .i64 0)) := memo_ok (call_ok (toldSp sp3_ok) 40 false 21) check_eval

def sp6 : Sp := (20, memo [vP] vCR) :: (21, memo [vC] (.int .i64 0)) :: sp5
theorem sp6_ok : SpOk sp6 := .cons compile_ok (.cons check_ok sp5_ok)

theorem awake_eval : checkG (evalCall (env (ofSp sp6)) 60 false 6) [] (.bool true) = true := by kernel_rfl
/-- AWAKE. -/
theorem awake_ok : CallAt Tryz.prog (env noSpec) 6 (memo [] (.bool true)) := memo_ok (call_ok (toldSp sp6_ok) 60 false 6) awake_eval

end
end Go.Rs.Seat
