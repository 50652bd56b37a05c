/- What the interpreter is told of this seat's program is so. -/
import Derived.Test.YtceenhjhejjdlaaGreatDoorP04
import Derived.Test.YtceenhjhejjdlaaGreatDoorP03
import Derived.Recover
set_option linter.unusedSimpArgs false
set_option linter.unusedVariables false
namespace Go.Rs.Seat
open Go.Proofs
set_option maxRecDepth 100000

def regsAt (E : Env) (f : Nat) : Bool :=
  match E.fn f with
  | some fn => !(fn.name == "runtime.NumGoroutine") && (match fn.body with
    | some c => regsOk E f c
    | none => true)
  | none => true

def allTo (p : Nat → Bool) : Nat → Bool
  | 0 => true
  | n + 1 => p n && allTo p n

theorem allTo_spec {p : Nat → Bool} : ∀ {n : Nat}, allTo p n = true → ∀ i, i < n → p i = true
  | 0, _, i, h => by omega
  | n + 1, h, i, hi => by
    simp only [allTo, Bool.and_eq_true] at h
    by_cases e : i = n
    · subst e; exact h.1
    · exact allTo_spec h.2 i (by omega)

theorem nfuncs : Tryz.prog.funcs.size = 377 := by kernel_rfl
theorem mixed : Tryz.prog.follows .mixedOrders = true := by kernel_rfl
theorem regs_all (sp) : allTo (regsAt (env sp)) 377 = true := by kernel_rfl

theorem regs_at (sp) (f : Nat) (fn : Func) (h : (env sp).fn f = some fn) : (fn.name == "runtime.NumGoroutine") = false ∧ ∀ c, fn.body = some c → regsOk (env sp) f c = true := by
  have hlt : f < 377 := by
    have : Tryz.prog.funcs[f]? = some fn := h
    have := (Array.getElem?_eq_some_iff.1 this).1
    rw [nfuncs] at this; exact this
  have := allTo_spec (regs_all sp) f hlt
  unfold regsAt at this
  rw [h] at this
  simp only [Bool.and_eq_true, Bool.not_eq_true'] at this
  refine ⟨this.1, fun c hc => ?_⟩
  rw [hc] at this
  exact this.2

theorem enters {f : Nat} {fn : Func} {c : Code} (hf : Tryz.prog.funcs[f]? = some fn) (hname : (fn.name == "runtime.NumGoroutine") = false) (hb : fn.body = some c) (args : Array Value) (w : World) :
    (callFunc f args).run Tryz.prog w = .ok (.enter f args) w := by
  have h1 : fn.name ≠ "runtime.NumGoroutine" := by simpa using hname
  simp [callFunc, hf, h1, hb, mark]

theorem mute94 : MuteOk Tryz.prog 94 := by
  intro args w
  refine ⟨enters Tryz.func94 (by kernel_rfl) rfl args w, ?_⟩
  refine callsD_of_wpS Tryz.func94 rfl fun c₀ cs hu => ?_
  have hsz : ∀ t, t < 4 → t < (args ++ Array.replicate (Tryz.f94.ntmps - args.size) undef).size := fun t ht => by
    have : Tryz.f94.ntmps = 4 := rfl
    simp only [Array.size_append, Array.size_replicate, this]; omega
  generalize hT : args ++ Array.replicate (Tryz.f94.ntmps - args.size) undef = T at hsz
  refine wpS_seq (wpS_region ?_)
  have e0 : ∀ ρ : Operand → Value, (execOp ρ ⟨some 1, .call { callee := .builtin .recover, args := #[], argTypes := #[] }, 20, "flat.go:56", #[], none⟩).run Tryz.prog w = .ok .recover w := fun ρ => rfl
  have e1 : ∀ ρ : Operand → Value, ρ (.tmp 1) = .nilIface → ρ (.const .nilIface) = .nilIface → (execOp ρ ⟨some 2, .binOp .neq 20 (.tmp 1) (.const .nilIface) 20, 4, "flat.go:56", #[⟨0, .data⟩], none⟩).run Tryz.prog w = .ok (.value (.bool false)) w := by
    intro ρ h1 h2
    simp only [execOp, h1, h2]
    kernel_rfl
  have hrec : recoverD (c₀ :: cs) = none := by simp [recoverD, hu]
  have p1 : (({ tmps := T, defers := [] } : Act).put (some 1) .nilIface).eval (.tmp 1) = .nilIface := by
    show (T.setIfInBounds 1 .nilIface).getD 1 undef = _
    rw [getD_set, if_pos ⟨rfl, hsz 1 (by omega)⟩]
  have p2 : ((({ tmps := T, defers := [] } : Act).put (some 1) .nilIface).put (some 2) (.bool false)).eval (.tmp 2) = .bool false := by
    show ((T.setIfInBounds 1 .nilIface).setIfInBounds 2 (.bool false)).getD 2 undef = _
    rw [getD_set, if_pos ⟨rfl, by rw [Array.size_setIfInBounds]; exact hsz 2 (by omega)⟩]
  have g0 : ∀ l : List Nat, wpOpsS Tryz.prog #[⟨some 1, .call { callee := .builtin .recover, args := #[], argTypes := #[] }, 20, "flat.go:56", #[], none⟩, ⟨some 2, .binOp .neq 20 (.tmp 1) (.const .nilIface) 20, 4, "flat.go:56", #[⟨0, .data⟩], none⟩]
      (Exit.thenS ((Code.cond (.tmp 2) (.region 1 #[⟨some 3, .build 81 #[], 81, "flat.go:57", #[], none⟩, ⟨none, .store 81 (.tmp 0) (.tmp 3), 0, "flat.go:57", #[⟨0, .data⟩, ⟨0, .phase⟩], none⟩] false) .skip).wpS Tryz.prog
        (bodyPostS Tryz.prog Tryz.f94 c₀ cs fun e u' w' => (∃ v, e = .returned v) ∧ u' = .returning ∧ w' = w)) (bodyPostS Tryz.prog Tryz.f94 c₀ cs fun e u' w' => (∃ v, e = .returned v) ∧ u' = .returning ∧ w' = w)) [0, 1] { tmps := T, defers := [] } (c₀ :: cs) w := by
    intro _
    simp only [wpOpsS, List.getElem?_toArray, List.getElem?_cons_zero, List.getElem?_cons_succ, Region.wanted, if_true, e0, hrec]
    rw [e1 _ p1 rfl]
    simp only [Oper.upon, Exit.thenS]
    refine wpS_cond (t := false) p2 ?_
    simp only [Bool.false_eq_true, if_false]
    refine wpS_of_wp (wp_skip ?_)
    exact ⟨rfl, .returning, by rw [← hu], .tuple #[], by simp [Go.results, Tryz.f94], ⟨_, rfl⟩, rfl, rfl⟩
  exact g0 []

theorem told (sp) (h : ∀ md f s, sp md f = some s → CallAt Tryz.prog (env noSpec) f s) : Told Tryz.prog (env sp) where
  ok := { ty := fun _ => rfl, fn := fun _ _ h => h, mixed := mixed, mute := fun f hf => by
            have : f = 94 := by
              simp [env, memN, muteL] at hf; exact hf
            subst this; exact mute94 }
  regs := fun f fn c h hb => (regs_at sp f fn h).2 c hb
  name := fun f fn h => (regs_at sp f fn h).1
  spec := fun md f s hs => h md f s hs

end Go.Rs.Seat
