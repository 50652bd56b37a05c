/- Keys: what the machine does with them. -/
import Derived.Test.YtceenhjhejjdlaaGreatDoorP06
import Derived.Maps.Keyed
import Derived.DeepKeys4
set_option linter.unusedSimpArgs false
set_option linter.unusedVariables false
namespace Go.Rs.Seat
open Go.Proofs
set_option maxRecDepth 100000

/-- a string or an int -/
noncomputable def baseU (e : TypeId) : Bool := match (tyOf Tryz.prog e).u with
  | .str | .int .i64 => true
  | _ => false

noncomputable def chkPair (kt : TypeId) : Bool := Tryz.prog.keyTypeAt 3 kt && Tryz.prog.keyType kt && Tryz.prog.cellsOf kt == 2

/-- pairs of strings and ints are key types -/
noncomputable def chkK (kt : TypeId) : Bool := match (tyOf Tryz.prog kt).u with
  | .arr n e => !(n == 2) || !baseU e || (chkPair kt && Tryz.prog.cellsOf e == 1)
  | .struct [(o0, t0), (o1, t1)] => !(o0 == 0) || !(o1 == 1) || !baseU t0 || !baseU t1 || (chkPair kt && Tryz.prog.cellsOf t0 == 1 && Tryz.prog.cellsOf t1 == 1 && (match Tryz.prog.underlying kt with
    | some (.struct fs) => fs.all (·.name != "_")
    | _ => false))
  | _ => true

theorem laidOut : laidOutB Tryz.prog = true := by kernel_rfl
theorem chk_all : allTo chkK Tryz.prog.types.size = true := by kernel_rfl

theorem ntypes : Tryz.prog.types.size = 503 := by kernel_rfl
theorem chk_at {kt : TypeId} (h : kt < 503) : chkK kt = true := allTo_spec chk_all kt (by rw [ntypes]; exact h)

theorem base_of {u : UD} {a : AVal} (h : keyU u a = true) : (u = .str ∧ ∃ s, a = .str s ∧ s.size ≤ 1000000) ∨ (u = .int .i64 ∧ ∃ n, a = .int .i64 n ∧ -9223372036854775808 ≤ n ∧ n ≤ 9223372036854775807) := by
  unfold keyU at h
  split at h
  · exact .inl ⟨rfl, _, rfl, Nat.le_of_ble_eq_true h⟩
  · simp only [Bool.and_eq_true, decide_eq_true_eq] at h
    exact .inr ⟨rfl, _, rfl, h.1, h.2⟩
  · cases h

theorem wf_i64 {n : Int} (h1 : -9223372036854775808 ≤ n) (h2 : n ≤ 9223372036854775807) : (Lit.int .i64 n).wf = true := by
  simp [Lit.wf, IntKind.min, IntKind.max, IntKind.signed, IntKind.bits]
  omega

theorem base_lits {e : TypeId} {a : AVal} {d : Nat} (h : keyU (tyOf Tryz.prog e).u a = true) : ∃ ls, Tryz.prog.keyLits (d + 1) e [concKey a] = some ls := by
  rcases base_of h with ⟨hu, s, rfl, hs⟩ | ⟨hu, n, rfl, h1, h2⟩
  · have := ud_str hu
    refine ⟨[.string s.data.toList], ?_⟩
    simp only [Program.keyLits, this, concKey]
    rw [if_pos (by unfold maxLen; omega)]
  · have := ud_int hu
    refine ⟨[.int .i64 n], ?_⟩
    simp only [Program.keyLits, this, concKey]
    rw [if_pos ⟨trivial, wf_i64 h1 h2⟩]

theorem base_shape {u : UD} {a : AVal} (h : keyU u a = true) : baseKey a = true := by
  rcases base_of h with ⟨-, s, rfl, -⟩ | ⟨-, n, rfl, -⟩ <;> rfl
theorem base_baseU {e : TypeId} {a : AVal} (h : keyU (tyOf Tryz.prog e).u a = true) : baseU e = true := by
  unfold baseU
  rcases base_of h with ⟨hu, -⟩ | ⟨hu, -⟩ <;> rw [hu]

def kpP (kt : TypeId) (v : Value) : Prop := ∃ l, keyOf Tryz.prog kt v = some l

theorem keyL_of {kt : TypeId} (K : Maps.Keyed Tryz.prog kt) : KeyL Tryz.prog kt (kpP kt) where
  check w em v h := by obtain ⟨l, h⟩ := h; exact K.check w em h
  find w x h es hes := by obtain ⟨l, h⟩ := h; exact K.find w h es hes
  stays w v h := by obtain ⟨l, h⟩ := h; exact K.stays w h

theorem deep_keyed {kt : TypeId} (hlt : kt < Tryz.prog.types.size) (h : chkPair kt = true) (hw : (match Tryz.prog.underlying kt with | some (.array _ _) | some (.struct _) => true | _ => false) = true) : Maps.Keyed Tryz.prog kt := by
  unfold chkPair at h
  simp only [Bool.and_eq_true] at h
  exact Maps.Keyed.of_law (deep_law_laid laidOut (m := 3) (by omega) hlt h.1.1 hw)

theorem pair_arr {kt e : TypeId} {x y : AVal} (h5 : kt < 503) (hu : (tyOf Tryz.prog kt).u = .arr 2 e) (hx : keyU (tyOf Tryz.prog e).u x = true) (hy : keyU (tyOf Tryz.prog e).u y = true) :
    KeyL Tryz.prog kt (kpP kt) ∧ kpP kt (.agg #[concKey x, concKey y]) := by
  have hc := chk_at h5
  unfold chkK at hc
  rw [hu] at hc
  simp only [base_baseU hx, Bool.not_true, Bool.false_or, Bool.and_eq_true, beq_self_eq_true] at hc
  obtain ⟨hp, hce⟩ := hc
  have hlt : kt < Tryz.prog.types.size := by rw [ntypes]; exact h5
  have hud := ud_arr hu
  refine ⟨keyL_of (deep_keyed hlt hp (by rw [hud])), ?_⟩
  unfold chkPair at hp
  simp only [Bool.and_eq_true, beq_iff_eq] at hp hce
  obtain ⟨N, hN⟩ : ∃ N, Tryz.prog.types.size = N + 1 := ⟨_, (Nat.succ_pred_eq_of_pos (Nat.lt_of_le_of_lt (Nat.zero_le _) hlt)).symm⟩
  obtain ⟨lx, hlx⟩ := base_lits (d := N) hx
  obtain ⟨ly, hly⟩ := base_lits (d := N) hy
  unfold kpP keyOf
  have hf : (Value.agg #[concKey x, concKey y]).formed Tryz.prog kt = true := by simp [Value.formed, hud, hp.2]
  have hkl : ∀ M, M = N + 1 → Tryz.prog.keyLits (M + 1) kt (Value.agg #[concKey x, concKey y]).cells.toList = some (lx ++ ly) := by
    intro M hM
    rw [← hM] at hlx hly
    simp only [Program.keyLits, hud, Value.cells]
    rw [if_pos (by simp [hp.2])]
    simp [hce, hlx, hly, List.range, List.range.loop]
  rw [hud]
  simp only [hp.1.2, hf, Bool.and_self, if_true, hkl _ hN, Option.map_some]
  exact ⟨_, rfl⟩

theorem pair_struct {kt t0 t1 : TypeId} {x y : AVal} (h5 : kt < 503) (hu : (tyOf Tryz.prog kt).u = .struct [(0, t0), (1, t1)]) (hx : keyU (tyOf Tryz.prog t0).u x = true) (hy : keyU (tyOf Tryz.prog t1).u y = true) :
    KeyL Tryz.prog kt (kpP kt) ∧ kpP kt (.agg #[concKey x, concKey y]) := by
  have hc := chk_at h5
  unfold chkK at hc
  rw [hu] at hc
  obtain ⟨F, hud, hF⟩ := ud_struct hu
  simp only [base_baseU hx, base_baseU hy, Bool.not_true, Bool.false_or, Bool.and_eq_true, beq_self_eq_true, hud] at hc
  obtain ⟨⟨⟨hp, hc0⟩, hc1⟩, hnm⟩ := hc
  have hlt : kt < Tryz.prog.types.size := by rw [ntypes]; exact h5
  refine ⟨keyL_of (deep_keyed hlt hp (by rw [hud])), ?_⟩
  unfold chkPair at hp
  simp only [Bool.and_eq_true, beq_iff_eq] at hp hc0 hc1
  obtain ⟨N, hN⟩ : ∃ N, Tryz.prog.types.size = N + 1 := ⟨_, (Nat.succ_pred_eq_of_pos (Nat.lt_of_le_of_lt (Nat.zero_le _) hlt)).symm⟩
  obtain ⟨lx, hlx⟩ := base_lits (d := N) hx
  obtain ⟨ly, hly⟩ := base_lits (d := N) hy
  unfold kpP keyOf
  have hf : (Value.agg #[concKey x, concKey y]).formed Tryz.prog kt = true := by simp [Value.formed, hud, hp.2]
  have hkl : ∀ M, M = N + 1 → Tryz.prog.keyLits (M + 1) kt (Value.agg #[concKey x, concKey y]).cells.toList = some (lx ++ ly) := by
    intro M hM
    rw [← hM] at hlx hly
    simp only [Program.keyLits, hud, Value.cells]
    rw [if_pos ⟨by simp [hp.2], hnm⟩]
    obtain ⟨f0, f1, hFe, e0, e1, e2, e3⟩ : ∃ f0 f1, F.toList = [f0, f1] ∧ f0.offset = 0 ∧ f0.type = t0 ∧ f1.offset = 1 ∧ f1.type = t1 := by
      match hl : F.toList, hF with
      | [f0, f1], hF =>
        simp at hF
        exact ⟨f0, f1, rfl, hF.1.1.symm, hF.1.2.symm, hF.2.1.symm, hF.2.2.symm⟩
      | [], hF => simp at hF
      | [_], hF => simp at hF
      | _ :: _ :: _ :: _, hF => simp at hF
    rw [hFe]
    simp [e0, e1, e2, e3, hc0, hc1, hlx, hly]
  rw [hud]
  simp only [hp.1.2, hf, Bool.and_self, if_true, hkl _ hN, Option.map_some]
  exact ⟨_, rfl⟩

/-- keys that fit are keys -/
theorem kok (sp) {g : Gh} (hg : g.kp = kpP) : KOk Tryz.prog (env sp) g := by
  intro kt a h
  rw [hg]
  change keyF kt a = true at h
  unfold keyF at h
  split at h
  · cases h
  rename_i h5
  have h5 : kt < 503 := by simpa using h5
  split at h
  · rename_i e x y hu
    simp only [Bool.and_eq_true] at h
    have := pair_arr h5 hu h.1 h.2
    refine ⟨by simp [keyShape, base_shape h.1, base_shape h.2], this.1, ?_⟩
    simpa [concOf] using this.2
  · rename_i t0 t1 x y hu
    simp only [Bool.and_eq_true] at h
    have := pair_struct h5 hu h.1 h.2
    refine ⟨by simp [keyShape, base_shape h.1, base_shape h.2], this.1, ?_⟩
    simpa [concOf] using this.2
  · rcases base_of h with ⟨hu, s, rfl, hs⟩ | ⟨hu, n, rfl, h1, h2⟩
    · have hk := ud_str hu
      exact ⟨rfl, keyL_of (Maps.string_keyed hk), _, WideMaps.keyOf_string_mk hk (by unfold maxLen; omega)⟩
    · have hk := ud_int hu
      exact ⟨rfl, keyL_of (Maps.int_keyed hk), _, Maps.keyOf_int_mk hk (wf_i64 h1 h2)⟩
end Go.Rs.Seat
