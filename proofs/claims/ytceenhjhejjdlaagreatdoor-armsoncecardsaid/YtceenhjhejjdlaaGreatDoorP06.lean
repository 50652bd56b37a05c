/- The words of the language: the list that token.Words makes. -/
import Derived.Test.YtceenhjhejjdlaaGreatDoorP05
set_option linter.unusedSimpArgs false
set_option linter.unusedVariables false
namespace Go.Rs.Seat
open Go.Proofs
set_option maxRecDepth 100000

/-- a table of contracts -/
abbrev Sp := List (Nat × (List AVal → Hp → Option (AVal × Hp)))

def lookSp (f : Nat) : Sp → Option (List AVal → Hp → Option (AVal × Hp))
  | [] => none
  | (g, s) :: rest => cond (Nat.beq g f) (some s) (lookSp f rest)

def ofSp (l : Sp) : Bool → FuncId → Option (List AVal → Hp → Option (AVal × Hp)) := fun _ f => lookSp f l

/-- all contracts of the table are kept -/
def SpOk (l : Sp) : Prop := ∀ x ∈ l, CallAt Tryz.prog (env noSpec) x.1 x.2

theorem lookSp_mem {f : Nat} : ∀ {l : Sp} {s}, lookSp f l = some s → (f, s) ∈ l
  | [], s, h => by simp [lookSp] at h
  | (g, t) :: rest, s, h => by
    unfold lookSp at h
    cases hb : Nat.beq g f with
    | true =>
      rw [hb] at h
      have := Nat.eq_of_beq_eq_true hb
      simp only [cond_true, Option.some.injEq] at h
      subst this h
      simp
    | false =>
      rw [hb] at h
      simp only [cond_false] at h
      exact List.mem_cons_of_mem _ (lookSp_mem h)

theorem toldSp {l : Sp} (h : SpOk l) : Told Tryz.prog (env (ofSp l)) := told _ fun _ f s hs => h (f, s) (lookSp_mem hs)

theorem SpOk.nil : SpOk [] := fun x hx => by cases hx
theorem SpOk.cons {f : Nat} {s} {l : Sp} (h : CallAt Tryz.prog (env noSpec) f s) (hl : SpOk l) : SpOk ((f, s) :: l) := fun x hx => by
  rcases List.mem_cons.1 hx with rfl | hx
  · exact h
  · exact hl x hx

def countS (args : List AVal) (H : Hp) : Option (AVal × Hp) := (countF args).map fun r => (r, H)
def indexS (args : List AVal) (H : Hp) : Option (AVal × Hp) := (indexF args).map fun r => (r, H)

theorem count298 : CallAt Tryz.prog (env noSpec) 298 countS := count_ok Tryz.func298 (by kernel_rfl) (by kernel_rfl) (by kernel_rfl) (by kernel_rfl)
theorem index315 : CallAt Tryz.prog (env noSpec) 315 indexS := index_ok Tryz.func315 (by kernel_rfl) (by kernel_rfl) (by kernel_rfl) (by kernel_rfl)

def sp1 : Sp := [(298, countS), (315, indexS)]
theorem sp1_ok : SpOk sp1 := .cons count298 (.cons index315 .nil)

/-- a call from its spelled result -/
theorem pure_eval {l : Sp} (h : SpOk l) {k : Nat} {md : Bool} {f : Nat} {args : List AVal} {r : AVal} (ha : renAs nope false args = some args) (he : pureS 4 (evalCall (env (ofSp l)) k md f) args ⟨.nil, 4⟩ = some (r, ⟨.nil, 4⟩)) :
    ∀ H, pureS 4 (evalCall (env (ofSp l)) k md f) args H = some (r, H) := by
  intro H
  unfold pureS at he ⊢
  rw [ha] at he ⊢
  simp only [] at he ⊢
  generalize evalCall (env (ofSp l)) k md f args ⟨.nil, 4⟩ = x at he ⊢
  cases x with
  | none => cases he
  | some x =>
    obtain ⟨r0, H0⟩ := x
    simp only [] at he ⊢
    generalize renA nope false r0 = y at he ⊢
    cases y with
    | none => cases he
    | some y =>
      simp only [Option.some.injEq, Prod.mk.injEq] at he ⊢
      exact ⟨he.1, trivial⟩

def wordsL : List AVal := [
  .str ⟨#[97, 99, 116, 111, 114]⟩,
  .str ⟨#[97, 102, 116, 101, 114]⟩,
  .str ⟨#[97, 110, 100]⟩,
  .str ⟨#[97, 112, 112, 108, 121]⟩,
  .str ⟨#[98, 101, 99, 111, 109, 101]⟩,
  .str ⟨#[98, 111, 111, 108]⟩,
  .str ⟨#[99, 101, 108, 108]⟩,
  .str ⟨#[100, 97, 116, 97]⟩,
  .str ⟨#[101, 108, 115, 101]⟩,
  .str ⟨#[102, 97, 105, 108]⟩,
  .str ⟨#[102, 97, 108, 115, 101]⟩,
  .str ⟨#[102, 110]⟩,
  .str ⟨#[102, 111, 114]⟩,
  .str ⟨#[102, 117, 110]⟩,
  .str ⟨#[103, 101, 116]⟩,
  .str ⟨#[105, 102]⟩,
  .str ⟨#[105, 109, 112, 108]⟩,
  .str ⟨#[105, 110]⟩,
  .str ⟨#[105, 110, 116]⟩,
  .str ⟨#[108, 101, 116]⟩,
  .str ⟨#[108, 105, 110, 107]⟩,
  .str ⟨#[109, 97, 116, 99, 104]⟩,
  .str ⟨#[109, 111, 100, 117, 108, 101]⟩,
  .str ⟨#[110, 111, 116]⟩,
  .str ⟨#[111, 114]⟩,
  .str ⟨#[112, 117, 116]⟩,
  .str ⟨#[114, 101, 99, 101, 105, 118, 101]⟩,
  .str ⟨#[115, 97, 121]⟩,
  .str ⟨#[115, 101, 108, 102]⟩,
  .str ⟨#[115, 101, 110, 100]⟩,
  .str ⟨#[115, 112, 97, 119, 110]⟩,
  .str ⟨#[116, 101, 120, 116]⟩,
  .str ⟨#[116, 104, 101, 110]⟩,
  .str ⟨#[116, 114, 97, 105, 116]⟩,
  .str ⟨#[116, 114, 117, 101]⟩,
  .str ⟨#[117, 110, 105, 116]⟩,
  .str ⟨#[117, 115, 101]⟩,
  .str ⟨#[119, 97, 116, 99, 104]⟩]

theorem words_eval : pureS 4 (evalCall (env (ofSp sp1)) 20 false 187) [] ⟨.nil, 4⟩ = some (.list wordsL .none 1, ⟨.nil, 4⟩) := by kernel_rfl

def wordsS (args : List AVal) (H : Hp) : Option (AVal × Hp) :=
  match args with
  | [] => some (.list wordsL .none 1, H)
  | _ => none

theorem globs (sp) : ∀ i, (env sp).glob i = true → i < 4 := fun i h => by simpa [env] using h

theorem words_ok : CallAt Tryz.prog (env noSpec) 187 wordsS := by
  have h : CallAt Tryz.prog (env noSpec) 187 (pureS 4 (evalCall (env (ofSp sp1)) 20 false 187)) :=
    pureS_ok (globs _) (by decide) (call_ok (toldSp sp1_ok) 20 false 187)
  refine h.weaken fun args H r hr => ?_
  unfold wordsS at hr
  split at hr
  · rw [← hr]; exact pure_eval sp1_ok rfl words_eval H
  · cases hr

end Go.Rs.Seat
