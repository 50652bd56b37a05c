/- Literals of structs and slices, make, ranges over strings. -/
import Derived.Test.YtceenhjhejjdlaaGreatDoorP01
import Derived.Deep.AppendSrc
import Derived.Deep.Upon
import Derived.Orders
set_option linter.unusedSimpArgs false
set_option linter.unusedVariables false
section
namespace Go.Rs
section
variable {P : Program} {E : Env} {N : Nat} {g : Gh} {p : Nat → Option Nat} {H : Hp} {w : World} {lv : Lv} {o : Oper} {ev : Operand → AVal} {ρ : Operand → Value} {r : AVal}

theorem VRel.strip {a : AVal} {c : Value} (h : VRel g w a c) : VRel g w a.strip c := by
  cases h with
  | list tok b o cap f hl hs hc hv hcap hrow ht => exact .list .none b o cap f hl hs hc hv hcap hrow trivial
  | undef => exact .undef _
  | bool => exact .bool _
  | int => exact .int _ _
  | str => exact .str _
  | nilptr => exact .nilptr
  | ptr off h => exact .ptr off h
  | eptr i off b o sz f hl hs hc hv => exact .eptr i off b o sz f hl hs hc hv
  | nilslice => exact .nilslice
  | sl off len sz cap h hcap hrow => exact .sl off len sz cap h hcap hrow
  | sl0 off off' sz h => exact .sl0 off off' sz h
  | nilmap => exact .nilmap
  | map h => exact .map h
  | func fn h1 h2 hf hc => exact .func fn h1 h2 hf hc
  | nilfunc => exact .nilfunc
  | iface t h => exact .iface t h
  | niliface => exact .niliface
  | agg h1 hc => exact .agg h1 hc
  | tuple h1 hc => exact .tuple h1 hc
  | iter h => exact .iter h

theorem foldl_put (off : Nat) : ∀ (l : List Value) (k : Nat) (cs : Array Value), off + k + l.length ≤ cs.size →
    ((l.zipIdx k).foldl (fun cs x => cs.setIfInBounds (off + x.2) x.1) cs).size = cs.size ∧
    ∀ i, ((l.zipIdx k).foldl (fun cs x => cs.setIfInBounds (off + x.2) x.1) cs)[i]? = if off + k ≤ i ∧ i < off + k + l.length then l[i - (off + k)]? else cs[i]?
  | [], k, cs, _ => by simp; intro i h1 h2; omega
  | v :: l, k, cs, h => by
    simp only [List.length_cons] at h
    obtain ⟨h1, h2⟩ := foldl_put off l (k + 1) (cs.setIfInBounds (off + k) v) (by simp; omega)
    simp only [List.zipIdx_cons, List.foldl_cons]
    refine ⟨by rw [h1]; simp, fun i => ?_⟩
    rw [h2]
    by_cases hi : off + (k + 1) ≤ i ∧ i < off + (k + 1) + l.length
    · rw [if_pos hi, if_pos (by simp only [List.length_cons]; omega)]
      obtain ⟨m, hm⟩ : ∃ m, i - (off + k) = m + 1 := ⟨i - (off + k) - 1, by omega⟩
      rw [hm, List.getElem?_cons_succ]
      congr 1; omega
    · rw [if_neg hi]
      by_cases hio : i = off + k
      · subst hio
        rw [if_pos (by simp only [List.length_cons]; omega)]
        have : off + k < cs.size := by omega
        simp [this]
      · rw [if_neg (by simp only [List.length_cons]; omega), Array.getElem?_setIfInBounds_ne (Ne.symm hio)]

/-- a row filled part by part -/
theorem fill_rel {place : Nat → Option (Nat × Nat)} {placeA : Nat → Option (Nat × Nat)} (hp : ∀ i x, placeA i = some x → place i = some x) :
    ∀ (parts : List (Nat × AVal)) (parts' : List (Nat × Value)) (cs : List AVal) (cs' : Array Value) (out : List AVal), parts.length = parts'.length →
    (∀ (i : Nat) a c, parts[i]? = some a → parts'[i]? = some c → a.1 = c.1 ∧ TRel g w p a.2 c.2) → CRel g w cs cs'.toList → (∀ a ∈ cs, a.oneCell = true) →
    fillA placeA cs parts = some out → ∃ out' : Array Value, Instr.fill place cs' parts' = some out' ∧ CRel g w out out'.toList ∧ ∀ a ∈ out, a.oneCell = true
  | [], [], cs, cs', out, _, _, hc, hone, h => by
    simp only [fillA, Option.some.injEq] at h
    subst h
    exact ⟨cs', rfl, hc, hone⟩
  | (i, v) :: parts, (i', v') :: parts', cs, cs', out, hl, hr, hc, hone, h => by
    obtain ⟨e1, e2⟩ := hr 0 _ _ rfl rfl
    simp only at e1 e2
    subst e1
    unfold fillA at h
    split at h
    · cases h
    · rename_i off size hpl
      simp only [] at h
      split at h
      · rename_i hcond
        obtain ⟨hlen, hoff, hall⟩ := hcond
        split at h
        · rename_i cs2 hset
          have hvl : ∀ t o, v ≠ .lptr t o := by
            rintro t o rfl
            simp [AVal.strip, AVal.cells, AVal.oneCell] at hall
          have hv := (e2.val hvl).strip
          obtain ⟨hcr, hone'⟩ := cells_rel hv hall
          have hall' : ∀ a ∈ v.strip.cells, a.oneCell = true := fun a ha => by simpa using List.all_eq_true.1 hall a ha
          have hsz : v'.cells.size = size := by have := hcr.len; rw [hlen] at this; simpa using this.symm
          have hle : off + v'.cells.size ≤ cs'.size := by
            have := hc.len; simp at this; omega
          obtain ⟨f1, f2⟩ := foldl_put off v'.cells.toList 0 cs' (by simpa using hle)
          obtain ⟨s1, s2, s3⟩ := setCells_spec _ _ _ _ hset
          have hfold : (v'.cells.zipIdx.foldl (fun cs (x : Value × Nat) => cs.setIfInBounds (off + x.2) x.1) cs') = (v'.cells.toList.zipIdx 0).foldl (fun cs x => cs.setIfInBounds (off + x.2) x.1) cs' := by
            rw [← Array.foldl_toList]; simp
          have hc2 : CRel g w cs2 (v'.cells.zipIdx.foldl (fun cs (x : Value × Nat) => cs.setIfInBounds (off + x.2) x.1) cs').toList := by
            rw [hfold]
            refine ⟨by rw [s1, hc.len]; simp [f1], fun j a c ha hcj => ?_⟩
            rw [Array.getElem?_toList, f2] at hcj
            rw [s3] at ha
            have hq : v'.cells.toList.length = v.strip.cells.length := by rw [hlen]; simpa using hsz
            rw [hq] at hcj
            simp only [Nat.add_zero] at hcj
            split at ha
            · rename_i hj
              rw [if_pos hj] at hcj
              exact hcr.rel _ a c ha hcj
            · rename_i hj
              rw [if_neg hj] at hcj
              exact hc.rel j a c ha (by simpa using hcj)
          obtain ⟨out', g1, g2, g3⟩ := fill_rel hp parts parts' cs2 _ out (by simpa using hl) (fun j a c ha hcj => hr (j + 1) a c ha hcj) hc2 (allOne_set hone hall' hset) h
          refine ⟨out', ?_, g2, g3⟩
          unfold Instr.fill
          rw [hp _ _ hpl]
          simp only []
          rw [if_neg (by simp; omega)]
          exact g1
        · cases h
      · cases h
  | [], _ :: _, _, _, _, hl, _, _, _, _ => by simp at hl
  | _ :: _, [], _, _, _, hl, _, _, _, _ => by simp at hl

theorem parts_rel {ps : Array (Nat × Operand)} (h : ∀ x ∈ (ps.toList.map (·.2)), TRel g w p (ev x) (ρ x)) :
    ∀ (i : Nat) a c, (ps.toList.map fun (i, x) => (i, ev x))[i]? = some a → (ps.toList.map fun (i, x) => (i, ρ x))[i]? = some c → a.1 = c.1 ∧ TRel g w p a.2 c.2 := by
  intro i a c ha hc
  rw [List.getElem?_map] at ha hc
  cases hq : ps.toList[i]? with
  | none => rw [hq] at ha; cases ha
  | some y =>
    rw [hq] at ha hc
    injection ha with ha; injection hc with hc
    subst ha hc
    exact ⟨rfl, h _ (List.mem_map_of_mem (List.mem_of_getElem? hq))⟩

theorem run_mapM_list {α β : Type} (F : α → Sem β) (G : α → β) : ∀ (l : List α), (∀ f ∈ l, (F f).run P w = .ok (G f) w) → (l.mapM F).run P w = .ok (l.map G) w
  | [], _ => rfl
  | f :: l, h => by
    rw [List.mapM_cons]
    simp [h f (by simp), run_mapM_list F G l (fun f hf => h f (by simp [hf]))]

theorem run_mapM_arr {α β : Type} (F : α → Sem β) (G : α → β) (a : Array α) (h : ∀ f ∈ a.toList, (F f).run P w = .ok (G f) w) : (a.mapM F).run P w = .ok (a.map G) w := by
  rw [Array.mapM_eq_mapM_toList]
  simp only [Sem.run_bind, Sem.run_map, run_mapM_list F G a.toList h, Result.andThen_ok]
  congr 1
  apply Array.ext'
  simp

theorem op_build_struct (hE : EnvOk P E) {T : TypeId} {ps : Array (Nat × Operand)} {fs : List (Nat × TypeId)} {out : List AVal} (ho : o.op = .build T ps) (hH : HRel g H w) (hL : LvRel N g p H w lv)
    (hops : ∀ x ∈ o.op.operands, TRel g w p (ev x) (ρ x)) (hz : (tyOf P T).zok = true) (hu : (tyOf P T).u = .struct fs)
    (h : fillA (fun i => match fs[i]? with | some (off, t) => if (tyOf P t).ok then some (off, (tyOf P t).size) else none | none => none) (tyOf P T).zero (ps.toList.map fun (i, x) => (i, ev x)) = some out) :
    OpOk P N g p H w lv o ev ρ (.agg out) lv H := by
  obtain ⟨F, hF, hfs⟩ := ud_struct hu
  obtain ⟨z, z1, z2, z3, z4, z5, z6, z7⟩ := run_zero (P := P) hz g w
  have hfo := zok_fields hz
  unfold fieldsOk at hfo
  rw [hF] at hfo
  have hfok : ∀ f ∈ F.toList, (tyOf P f.type).ok = true := fun f hf => okOf_ok (by simpa using List.all_eq_true.1 hfo f hf)
  rw [ho] at hops
  have hpr := parts_rel (g := g) (w := w) (p := p) (ev := ev) (ρ := ρ) (ps := ps) (fun x hx => hops x (by simpa [Op.operands] using hx))
  obtain ⟨out', f1, f2, f3⟩ := fill_rel (place := fun i => (F.map fun f => (f.offset, (tyOf P f.type).size))[i]?) (fun i x hx => by
    subst hfs
    rw [List.getElem?_map] at hx
    cases hq : F.toList[i]? with
    | none => rw [hq] at hx; simp at hx
    | some f =>
      rw [hq] at hx
      simp only [Option.map_some] at hx
      split at hx
      · injection hx with hx
        subst hx
        rw [Array.getElem?_toList] at hq
        simp [hq]
      · cases hx) _ _ _ _ _ (by simp) hpr z2 z5 h
  refine ok_pure (c := .agg out') hH hL ?_ (by have := VRel.agg (g := g) (w := w) f2.len f2.rel; simpa using this)
  have hps : (ps.map fun (i, x) => (i, ρ x)).toList = ps.toList.map fun (i, x) => (i, ρ x) := by simp
  have hmap := run_mapM_arr (P := P) (w := w) (fun f : Field => do pure (f.offset, ← sizeOf f.type)) (fun f => (f.offset, (tyOf P f.type).size)) F (fun f hf => by simp [run_sizeOf' (hfok f hf)])
  simp only [execOp, ho, Instr.build, Sem.run_bind, z1, Result.andThen_ok, run_underlying hF, hmap, hps, f1, Sem.run_pure]

theorem op_build_arr (hE : EnvOk P E) {T e : TypeId} {n : Nat} {ps : Array (Nat × Operand)} {out : List AVal} (ho : o.op = .build T ps) (hH : HRel g H w) (hL : LvRel N g p H w lv)
    (hops : ∀ x ∈ o.op.operands, TRel g w p (ev x) (ρ x)) (hz : (tyOf P T).zok = true) (hu : (tyOf P T).u = .arr n e) (hok : (tyOf P e).ok = true)
    (h : fillA (fun i => some (i * (tyOf P e).size, (tyOf P e).size)) (tyOf P T).zero (ps.toList.map fun (i, x) => (i, ev x)) = some out) :
    OpOk P N g p H w lv o ev ρ (.agg out) lv H := by
  have hF := ud_arr hu
  obtain ⟨z, z1, z2, z3, z4, z5, z6, z7⟩ := run_zero (P := P) hz g w
  rw [ho] at hops
  have hpr := parts_rel (g := g) (w := w) (p := p) (ev := ev) (ρ := ρ) (ps := ps) (fun x hx => hops x (by simpa [Op.operands] using hx))
  obtain ⟨out', f1, f2, f3⟩ := fill_rel (place := fun i => some (i * (tyOf P e).size, (tyOf P e).size)) (fun i x hx => hx) _ _ _ _ _ (by simp) hpr z2 z5 h
  refine ok_pure (c := .agg out') hH hL ?_ (by have := VRel.agg (g := g) (w := w) f2.len f2.rel; simpa using this)
  have hps : (ps.map fun (i, x) => (i, ρ x)).toList = ps.toList.map fun (i, x) => (i, ρ x) := by simp
  simp only [execOp, ho, Instr.build, Sem.run_bind, z1, Result.andThen_ok, run_underlying hF, run_sizeOf' hok, hps, f1, Sem.run_pure]

/-! ### rows of zeros, groups -/
theorem crel_repl {z : List AVal} {z' : Array Value} (hz : CRel g w z z'.toList) (hpos : 0 < z.length) : ∀ n, CRel g w (repl n z) ((Array.range (n * z'.size)).map (z'[· % z'.size]!)).toList := by
  have hlen : z.length = z'.size := by have := hz.len; simpa using this
  have hl : ∀ n, (repl n z).length = n * z.length := by
    intro n; induction n with
    | zero => simp [repl]
    | succ n ih => simp [repl, ih, Nat.add_mul]; omega
  have hg : ∀ n i, i < n * z.length → (repl n z)[i]? = z[i % z.length]? := by
    intro n
    induction n with
    | zero => intro i hi; omega
    | succ n ih =>
      intro i hi
      simp only [repl]
      by_cases h : i < z.length
      · rw [List.getElem?_append_left h, Nat.mod_eq_of_lt h]
      · rw [List.getElem?_append_right (by omega), ih (i - z.length) (by rw [Nat.add_mul] at hi; omega)]
        congr 1
        rw [Nat.mod_eq_sub_mod (by omega : i ≥ z.length)]
  intro n
  refine ⟨by simp [hl, hlen], fun i a c ha hc => ?_⟩
  have hi : i < n * z.length := by rw [← hl]; exact (List.getElem?_eq_some_iff.1 ha).1
  rw [hg n i hi] at ha
  have hm : i % z'.size < z'.size := Nat.mod_lt _ (by omega)
  have hc2 : z'.toList[i % z'.size]? = some c := by
    have hi' : i < n * z'.size := by rw [← hlen]; exact hi
    rw [Array.getElem?_toList, Array.getElem?_map, Array.getElem?_range, if_pos hi'] at hc
    simp only [Option.map_some, Option.some.injEq] at hc
    rw [Array.getElem?_toList, ← hc, Array.getElem?_eq_getElem hm, getElem!_pos z' _ hm]
  rw [hlen] at ha
  exact hz.rel _ a c ha hc2

theorem repl_one {z : List AVal} (h : ∀ a ∈ z, a.oneCell = true) : ∀ n, ∀ a ∈ repl n z, a.oneCell = true := by
  intro n
  induction n with
  | zero => simp [repl]
  | succ n ih =>
    intro a ha
    simp only [repl, List.mem_append] at ha
    rcases ha with ha | ha
    · exact h a ha
    · exact ih a ha

theorem repl_length (z : List AVal) : ∀ n, (repl n z).length = n * z.length := by
  intro n; induction n with
  | zero => simp [repl]
  | succ n ih => simp [repl, ih, Nat.add_mul]; omega

theorem groups_length (sz : Nat) (agg : Bool) : ∀ n cs, (groups sz agg n cs).length = n
  | 0, _ => rfl
  | n + 1, cs => by simp [groups, groups_length sz agg n]

theorem groups_get (sz : Nat) (agg : Bool) (hpos : 0 < sz) : ∀ (n : Nat) (cs : List AVal), n * sz ≤ cs.length → (∀ a ∈ cs, a.oneCell = true) → ∀ i x, (groups sz agg n cs)[i]? = some x →
    Fit sz x ∧ ∀ j a, x.cells[j]? = some a → cs[i * sz + j]? = some a
  | 0, _, _, _, i, x, h => by simp [groups] at h
  | n + 1, cs, hl, hone, i, x, h => by
    have hl' : sz ≤ cs.length := by rw [Nat.add_mul] at hl; omega
    cases i with
    | zero =>
      simp only [groups, List.getElem?_cons_zero, Option.some.injEq] at h
      have hcells : x.cells = cs.take sz := by
        subst h
        split
        · rfl
        · rename_i hc
          have : sz = 1 := by simp at hc; exact hc.2
          subst this
          cases cs with
          | nil => simp at hl'
          | cons a cs =>
            simp only [List.headD_cons, List.take_succ_cons, List.take_zero]
            exact AVal.cells_one (hone a (by simp))
      refine ⟨⟨by rw [hcells]; simp; omega, fun a ha => hone a ?_⟩, fun j a ha => ?_⟩
      · rw [hcells] at ha; exact List.mem_of_mem_take ha
      · rw [hcells, List.getElem?_take] at ha
        split at ha
        · simpa using ha
        · cases ha
    | succ i =>
      simp only [groups, List.getElem?_cons_succ] at h
      obtain ⟨h1, h2⟩ := groups_get sz agg hpos n (cs.drop sz) (by simp; rw [Nat.add_mul] at hl; omega) (fun a ha => hone a (List.mem_of_mem_drop ha)) i x h
      refine ⟨h1, fun j a ha => ?_⟩
      have := h2 j a ha
      rw [List.getElem?_drop] at this
      rw [← this]; congr 1; rw [Nat.add_mul]; omega

/-- a new row that stays, as a list -/
theorem vrel_newList {cs : List AVal} {cs' : Array Value} {T : TypeId} {n sz cap : Nat} {agg : Bool} {tok : Tok} {g' : Gh} {w' : World} {b : Nat} (hpos : 0 < sz) (hlen : cs.length = n * sz)
    (hone : ∀ a ∈ cs, a.oneCell = true) (hlim : n * sz ≤ g'.lim b) (hr : rowIs w' b cs') (hle : cs.length ≤ cs'.size) (hcap : n ≤ cap) (hrow : cap * sz ≤ cs'.size)
    (hv : ∀ (i : Nat) a c, cs[i]? = some a → cs'[i]? = some c → VRel g' w' a c) (ht : tokOk g' b 0 n sz cap tok) :
    VRel g' w' (.list (groups sz agg n cs) tok sz) (.slice (some ⟨b, 0, none⟩) n cap) := by
  have hgl := groups_length sz agg n cs
  have := VRel.list (g := g') (w := w') (xs := groups sz agg n cs) (sz := sz) tok b 0 cap (fun k => cs'.getD k undef)
    (by rw [hgl]; omega)
    (fun x hx => by
      obtain ⟨i, hi⟩ := List.getElem?_of_mem hx
      exact (groups_get sz agg hpos n cs (by omega) hone i x hi).1)
    (fun k hk => by
      rw [hgl] at hk
      rw [Nat.zero_add, hr.cell]
      have : k < cs'.size := by omega
      simp [Array.getD, this])
    (fun i x j a hx hj => by
      have h1 := (groups_get sz agg hpos n cs (by omega) hone i x hx).2 j a hj
      have hlt : i * sz + j < cs'.size := by
        have := (List.getElem?_eq_some_iff.1 h1).1; omega
      exact hv _ a _ h1 (by simp [Array.getD, hlt]))
    (by rw [hgl]; exact hcap) (by rw [hr.size]; omega) (by rw [hgl]; exact ht)
  rw [hgl] at this
  exact this

end
end Go.Rs
end
/- Slices made and grown. -/
section
namespace Go.Rs
section
variable {P : Program} {E : Env} {N : Nat} {g : Gh} {p : Nat → Option Nat} {H : Hp} {w : World} {lv : Lv} {o : Oper} {ev : Operand → AVal} {ρ : Operand → Value} {r : AVal}

/-! ### flat rows -/
theorem flat_append : ∀ xs ys : List AVal, flat (xs ++ ys) = flat xs ++ flat ys
  | [], ys => rfl
  | x :: xs, ys => by simp [flat, flat_append xs ys]

theorem flat_length {sz : Nat} : ∀ {xs : List AVal}, (∀ x ∈ xs, Fit sz x) → (flat xs).length = xs.length * sz
  | [], _ => by simp [flat]
  | x :: xs, h => by
    simp only [flat, List.length_append, List.length_cons]
    rw [(h x (by simp)).1, flat_length (fun y hy => h y (by simp [hy])), Nat.add_mul]; omega

theorem flat_one {sz : Nat} : ∀ {xs : List AVal}, (∀ x ∈ xs, Fit sz x) → ∀ a ∈ flat xs, a.oneCell = true
  | [], _, a, ha => by simp [flat] at ha
  | x :: xs, h, a, ha => by
    simp only [flat, List.mem_append] at ha
    rcases ha with ha | ha
    · exact (h x (by simp)).2 a ha
    · exact flat_one (fun y hy => h y (by simp [hy])) a ha

theorem flat_get {sz : Nat} : ∀ {xs : List AVal}, (∀ x ∈ xs, Fit sz x) → ∀ (i : Nat) x (j : Nat) a, xs[i]? = some x → x.cells[j]? = some a → (flat xs)[i * sz + j]? = some a
  | [], _, i, x, j, a, h, _ => by simp at h
  | y :: xs, h, i, x, j, a, hx, ha => by
    have hy := h y (by simp)
    simp only [flat]
    cases i with
    | zero =>
      simp only [List.getElem?_cons_zero, Option.some.injEq] at hx
      subst hx
      have hj := (List.getElem?_eq_some_iff.1 ha).1
      rw [Nat.zero_mul, Nat.zero_add, List.getElem?_append_left hj]; exact ha
    | succ i =>
      simp only [List.getElem?_cons_succ] at hx
      have := flat_get (fun z hz => h z (by simp [hz])) i x j a hx ha
      rw [List.getElem?_append_right (by rw [hy.1, Nat.add_mul]; omega), ← this]
      congr 1
      rw [hy.1, Nat.add_mul]; omega

theorem flat_find {sz : Nat} : ∀ {xs : List AVal}, (∀ x ∈ xs, Fit sz x) → ∀ (k : Nat) a, (flat xs)[k]? = some a → ∃ i x j, xs[i]? = some x ∧ x.cells[j]? = some a ∧ k = i * sz + j
  | [], _, k, a, h => by simp [flat] at h
  | y :: xs, h, k, a, ha => by
    have hy := h y (by simp)
    simp only [flat] at ha
    by_cases hk : k < y.cells.length
    · rw [List.getElem?_append_left hk] at ha
      exact ⟨0, y, k, rfl, ha, by simp⟩
    · rw [List.getElem?_append_right (by omega)] at ha
      obtain ⟨i, x, j, h1, h2, h3⟩ := flat_find (fun z hz => h z (by simp [hz])) _ a ha
      exact ⟨i + 1, x, j, h1, h2, by rw [Nat.add_mul]; have := hy.1; omega⟩

/-- a row of cells as a list -/
theorem vrel_ofRow {xs : List AVal} {arr : Array Value} {b off sz cap : Nat} {tok : Tok} {g' : Gh} {w' : World} (hfit : ∀ x ∈ xs, Fit sz x) (hr : rowIs w' b arr)
    (hlim : off + xs.length * sz ≤ g'.lim b) (hle : off + xs.length * sz ≤ arr.size) (hcap : xs.length ≤ cap) (hrow : off + cap * sz ≤ arr.size)
    (hv : ∀ (k : Nat) a c, (flat xs)[k]? = some a → arr[off + k]? = some c → VRel g' w' a c) (ht : tokOk g' b off xs.length sz cap tok) :
    VRel g' w' (.list xs tok sz) (.slice (some ⟨b, off, none⟩) xs.length cap) := by
  refine VRel.list (xs := xs) (sz := sz) tok b off cap (fun k => arr.getD (off + k) undef) hlim hfit (fun k hk => ?_) (fun i x j a hx hj => ?_) hcap (by rw [hr.size]; exact hrow) ht
  · rw [hr.cell]
    have : off + k < arr.size := by omega
    simp [Array.getD, this]
  · have h1 := flat_get hfit i x j a hx hj
    have hlt : off + (i * sz + j) < arr.size := by
      have := (List.getElem?_eq_some_iff.1 h1).1
      rw [flat_length hfit] at this; omega
    exact hv _ a _ h1 (by simp [Array.getD, hlt])

/-- what stands in memory of a list -/
theorem list_cells {xs : List AVal} {b off sz : Nat} {f : Nat → Value} (hs : ∀ x ∈ xs, Fit sz x)
    (hc : ∀ k, k < xs.length * sz → w.cell? ⟨b, off + k, none⟩ = some (f k)) (hv : ∀ (i : Nat) x (j : Nat) a, xs[i]? = some x → x.cells[j]? = some a → VRel g w a (f (i * sz + j))) :
    (∀ w' : World, w'.heap = w.heap → (loadCells ⟨b, off, none⟩ (xs.length * sz)).run P w' = .ok ((List.range (xs.length * sz)).map f).toArray w') ∧ CRel g w (flat xs) ((List.range (xs.length * sz)).map f) := by
  refine ⟨fun w' hw => run_loadCells w' _ _ f (fun j hj => by rw [addr_add, cell_of_heap (w := w) (w' := w') (by rw [hw])]; exact hc j hj), by rw [flat_length hs]; simp, fun k a c ha hk => ?_⟩
  obtain ⟨i, x, j, h1, h2, h3⟩ := flat_find hs k a ha
  rw [List.getElem?_map] at hk
  have hlt : k < xs.length * sz := by
    have := (List.getElem?_eq_some_iff.1 ha).1
    rwa [flat_length hs] at this
  rw [List.getElem?_range hlt] at hk
  simp only [Option.map_some, Option.some.injEq] at hk
  subst hk h3
  exact hv i x j a h1 h2

/-- what stands in memory of an object's row -/
theorem obj_cells {cs : List AVal} {arr : Array Value} {b off n : Nat} (hr : rowIs w b arr) (hle : off + n ≤ cs.length) (hsz : cs.length ≤ arr.size)
    (hv : ∀ (i : Nat) a c, cs[i]? = some a → arr[i]? = some c → VRel g w a c) :
    ∃ l, (∀ w' : World, w'.heap = w.heap → (loadCells ⟨b, off, none⟩ n).run P w' = .ok l w') ∧ CRel g w ((cs.drop off).take n) l.toList ∧ l.size = n := by
  refine ⟨_, fun w' hw => run_loadCells w' _ n (fun k => arr.getD (off + k) undef) (fun j hj => ?_), ⟨by simp; omega, fun i a c ha hc => ?_⟩, by simp⟩
  · rw [addr_add, cell_of_heap (w := w) (w' := w') (by rw [hw]), hr.cell]
    have : off + j < arr.size := by omega
    simp [Array.getD, this]
  · rw [List.getElem?_take] at ha
    split at ha
    · rename_i hi
      rw [List.getElem?_drop] at ha
      simp only [List.getElem?_map, List.getElem?_range hi, Option.map_some, Option.some.injEq] at hc
      subst hc
      have : off + i < arr.size := by omega
      exact hv _ a _ ha (by simp [Array.getD, this])
    · cases ha

theorem groups_flat {sz : Nat} {agg : Bool} (hpos : 0 < sz) : ∀ (n : Nat) (cs : List AVal), n * sz ≤ cs.length → (∀ a ∈ cs, a.oneCell = true) → flat (groups sz agg n cs) = cs.take (n * sz)
  | 0, cs, _, _ => by simp [groups, flat]
  | n + 1, cs, h, hone => by
    have hl' : sz ≤ cs.length := by rw [Nat.add_mul] at h; omega
    simp only [groups, flat]
    rw [groups_flat hpos n (cs.drop sz) (by simp; rw [Nat.add_mul] at h; omega) (fun a ha => hone a (List.mem_of_mem_drop ha))]
    have hcells : (if (agg || sz != 1) = true then AVal.agg (cs.take sz) else cs.headD .undef).cells = cs.take sz := by
      split
      · rfl
      · rename_i hc
        have : sz = 1 := by simp at hc; exact hc.2
        subst this
        cases cs with
        | nil => simp at hl'
        | cons a cs =>
          simp only [List.headD_cons, List.take_succ_cons, List.take_zero]
          exact AVal.cells_one (hone a (by simp))
    rw [hcells, Nat.add_mul, Nat.one_mul, Nat.add_comm (n * sz) sz, List.take_add]

/-- the elements of a slice or a string, as the machine reads them -/
theorem elems_rel (hE : EnvOk P E) (hH : HRel g H w) {e : TypeId} {x : AVal} {cx : Value} {ys : List AVal} (hok : (tyOf P e).ok = true) (hpos : 0 < (tyOf P e).size) (hx : VRel g w x cx) (h : elemsOf E e H x = some ys) :
    (∀ w' : World, (Builtin.lenOf cx).run P w' = .ok ys.length w') ∧ (∀ y ∈ ys, Fit (tyOf P e).size y) ∧
    ∀ n, n ≤ ys.length → ∃ l, (∀ w' : World, w'.heap = w.heap → (Builtin.firstCells (tyOf P e).size n cx).run P w' = .ok l w') ∧ CRel g w (flat (ys.take n)) l.toList := by
  unfold elemsOf at h
  split at h
  · injection h with h; subst h
    cases hx
    refine ⟨fun _ => rfl, by simp, fun n hn => ⟨#[], fun _ _ => rfl, by simp [flat]; exact ⟨rfl, by simp⟩⟩⟩
  · rename_i xs tok sz
    rw [hE.ty] at h
    split at h
    · rename_i hsz
      injection h with h; subst h hsz
      cases hx with
      | list _ b off cap f hl hs hc hv hcap hrow ht =>
        refine ⟨fun _ => rfl, hs, fun n hn => ?_⟩
        have hle : n * (tyOf P e).size ≤ xs.length * (tyOf P e).size := Nat.mul_le_mul_right _ hn
        have hn' : (xs.take n).length = n := by simp; omega
        obtain ⟨h1, h2⟩ := list_cells (P := P) (xs := xs.take n) (sz := (tyOf P e).size) (f := f) (b := b) (off := off) (fun x hx => hs x (List.mem_of_mem_take hx)) (fun k hk => hc k (by rw [hn'] at hk; omega))
          (fun i x j a hx hj => by
            rw [List.getElem?_take] at hx
            split at hx
            · exact hv i x j a hx hj
            · cases hx)
        rw [hn'] at h1 h2
        exact ⟨_, h1, by simpa using h2⟩
    · cases h
  · rename_i id off len sz
    split at h
    · rename_i cs hcs
      rw [hE.ty] at h
      simp only [] at h
      split at h
      · rename_i hcond
        obtain ⟨hsz, hle⟩ := hcond
        injection h with h; subst h hsz
        have hgl := groups_length (tyOf P e).size (isAgg (tyOf P e).u) len (cs.drop off)
        cases hx with
        | @sl _ b _ _ _ cap hb hcap hrow =>
          have ob := hH.obj id b hb
          rw [hcs] at ob
          obtain ⟨_, hone, arr, hr, hs, hv⟩ := ob
          have hone' : ∀ a ∈ cs.drop off, a.oneCell = true := fun a ha => hone a (List.mem_of_mem_drop ha)
          have hle' : len * (tyOf P e).size ≤ (cs.drop off).length := by simp; omega
          refine ⟨fun _ => by rw [hgl]; rfl, fun y hy => ?_, fun n hn => ?_⟩
          · obtain ⟨i, hi⟩ := List.getElem?_of_mem hy
            exact (groups_get _ _ hpos len _ hle' hone' i y hi).1
          · rw [hgl] at hn
            have hnl : n * (tyOf P e).size ≤ len * (tyOf P e).size := Nat.mul_le_mul_right _ hn
            obtain ⟨l, h1, h2, h3⟩ := obj_cells (P := P) (n := n * (tyOf P e).size) (off := off) hr (by omega) hs hv
            refine ⟨l, h1, ?_⟩
            have e1 : flat ((groups (tyOf P e).size (isAgg (tyOf P e).u) len (cs.drop off)).take n) = (cs.drop off).take (n * (tyOf P e).size) := by
              have hfl := groups_flat (agg := isAgg (tyOf P e).u) hpos len _ hle' hone'
              have hsplit := List.take_append_drop n (groups (tyOf P e).size (isAgg (tyOf P e).u) len (cs.drop off))
              have hfit : ∀ x ∈ (groups (tyOf P e).size (isAgg (tyOf P e).u) len (cs.drop off)).take n, Fit (tyOf P e).size x := fun x hx => by
                obtain ⟨i, hi⟩ := List.getElem?_of_mem (List.mem_of_mem_take hx)
                exact (groups_get _ _ hpos len _ hle' hone' i x hi).1
              have hll := flat_length hfit
              rw [List.length_take, hgl, Nat.min_eq_left hn] at hll
              have : (flat (groups (tyOf P e).size (isAgg (tyOf P e).u) len (cs.drop off))).take (n * (tyOf P e).size) = flat ((groups (tyOf P e).size (isAgg (tyOf P e).u) len (cs.drop off)).take n) := by
                conv => lhs; rw [← hsplit, flat_append]
                rw [← hll, List.take_left]
              rw [← this, hfl, List.take_take, Nat.min_eq_left hnl]
            rw [e1]; exact h2
        | @sl0 _ b b' _ off' _ hb =>
          refine ⟨fun _ => rfl, by simp [groups], fun n hn => ?_⟩
          have : n = 0 := by simpa [groups] using hn
          subst this
          refine ⟨#[], fun _ _ => by simp [Builtin.firstCells, loadCells, loadCellsFrom], by simp [groups, flat]; exact ⟨rfl, by simp⟩⟩
      · cases h
    · cases h
  · rename_i s
    rw [hE.ty] at h
    split at h
    · rename_i hsz
      injection h with h; subst h
      cases hx
      have hlen : s.data.toList.length = s.size := by simp
      refine ⟨fun _ => by simp [Builtin.lenOf, hlen], fun y hy => ?_, fun n hn => ?_⟩
      · obtain ⟨b, _, rfl⟩ := List.mem_map.1 hy
        rw [hsz]; exact ⟨rfl, by simp [AVal.cells, AVal.oneCell]⟩
      · refine ⟨_, fun _ _ => rfl, ?_⟩
        have hfl : ∀ l : List UInt8, flat (l.map fun b => AVal.int .u8 b.toNat) = l.map fun b => AVal.int .u8 b.toNat := by
          intro l; induction l with
          | nil => rfl
          | cons b l ih => simp [flat, AVal.cells, ih]
        rw [← List.map_take, hfl]
        have e1 : ((s.extract 0 n).data.map fun b => Value.int .u8 b.toNat).toList = (s.data.toList.take n).map fun b => Value.int .u8 b.toNat := by
          simp [ByteArray.data_extract, List.extract_eq_take_drop]
        rw [e1]
        refine ⟨by simp, fun i a c ha hc => ?_⟩
        rw [List.getElem?_map] at ha hc
        cases hq : (s.data.toList.take n)[i]? with
        | none => rw [hq] at ha; cases ha
        | some b =>
          rw [hq] at ha hc
          injection ha with ha; injection hc with hc
          subst ha hc
          exact .int _ _
    · cases h
  · cases h

end
end Go.Rs
end
/- append. -/
section
namespace Go.Rs
section
variable {P : Program} {E : Env} {N : Nat} {g : Gh} {p : Nat → Option Nat} {H : Hp} {w : World} {lv : Lv} {o : Oper} {ev : Operand → AVal} {ρ : Operand → Value} {r : AVal}

/-- what the second argument of an append yields -/
structure Gives (P : Program) (T tx e : TypeId) (i : TypeInfo) (z : Value) (x : Value) (n : Nat) (news : List Value) (w : World) : Prop where
  none : n = 0 → ∀ (base : Option Addr) (sLen sCap : Nat) (ty : TypeId), sLen ≤ sCap → (Builtin.append_ #[T, tx] ty #[.slice base sLen sCap, x]).run P w = .ok (.slice base sLen sCap) w
  room : ∀ (b off sLen sCap : Nat) (ty : TypeId), sLen + n ≤ sCap → (∀ w', (storeCells ⟨b, off + sLen * i.size, Option.none⟩ news).run P w = .ok () w' →
    (Builtin.append_ #[T, tx] ty #[.slice (some ⟨b, off, Option.none⟩) sLen sCap, x]).run P w = .ok (.slice (some ⟨b, off, Option.none⟩) (sLen + n) sCap) w')
  grow : ∀ (base : Option Addr) (sLen sCap : Nat) (olds : List Value) (ty : TypeId), (Builtin.firstCells i.size sLen (.slice base sLen sCap)).run P w.drew = .ok olds.toArray w.drew → sCap < sLen + n →
    sLen + n < 2 ^ 32 → (Builtin.append_ #[T, tx] ty #[.slice base sLen sCap, x]).run P w =
      .ok (.slice (some ⟨w.heap.size, 0, Option.none⟩) (sLen + n) (grownCap w (sLen + n) sCap e))
        (w.drew.alloc (.cells ((olds ++ news).toArray ++ Builtin.zeroCells z.cells (grownCap w (sLen + n) sCap e - (sLen + n))) e))

theorem gives_src {T tx e : TypeId} {i : TypeInfo} {z x : Value} {n : Nat} {news : List Value} (ht : P.underlying T = some (.slice e)) (hi : P.info? e = some i) (hz : i.zero = some z) (hb : i.bytes < 4096)
    (hs : Src P i.size tx x n news w) : Gives P T tx e i z x n news w where
  none hn base sLen sCap ty hle := by
    subst hn
    have h0 : news = [] := by have := hs.newsLen; simp at this; exact this
    subst h0
    exact run_append_nothing w T tx ty e i ht hi base sLen sCap hle x hs
  room b off sLen sCap ty hroom w' hst := by
    rcases hs.kind with ⟨e', hk⟩ | hk <;> simp [Builtin.append_, run_underlying ht, run_underlying hk, sizeOf, typeInfo, hi, hs.len, hroom, hs.cells, addr_add, hst]
  grow base sLen sCap olds ty hold hg h32 := by
    refine run_append_grow_src w T tx ty e i z ht hi hz base sLen sCap olds hold x n news hs hg (by omega) ?_
    have h1 := nextslicecap_le hg
    calc Builtin.nextslicecap (sLen + n) sCap * i.bytes ≤ (2 * (sLen + n)) * 4096 := Nat.mul_le_mul h1 (by omega)
      _ ≤ 281474976710656 := by omega

theorem wrap_small {n : Int} (h0 : 0 ≤ n) (h1 : n < 9223372036854775808) : IntKind.i64.wrap n = n := by
  have e : IntKind.i64.bits = 64 := rfl
  have s : IntKind.i64.signed = true := rfl
  have e2 : (2 ^ 64 : Int) = 18446744073709551616 := by decide
  have e3 : (2 ^ (64 - 1) : Int) = 9223372036854775808 := by decide
  simp only [IntKind.wrap, e, s, e2, e3, Bool.true_and]
  have hm : n % 18446744073709551616 = n := Int.emod_eq_of_lt h0 (by omega)
  rw [hm, if_neg (by simp; omega)]

theorem gives_zeros {T tx e : TypeId} {i : TypeInfo} {z : Value} {k k' : IntKind} {n : Int} (ht : P.underlying T = some (.slice e)) (hk : P.underlying tx = some (.int k)) (hi : P.info? e = some i) (hz : i.zero = some z) (hb : i.bytes < 4096)
    (hzs : z.cells.size = i.size) (h0 : 0 ≤ n) (h32 : n < 2 ^ 32) : Gives P T tx e i z (.int k' n) n.toNat (Builtin.zeroCells z.cells n.toNat).toList w := by
  have hw : IntKind.i64.wrap n = n := wrap_small h0 (by omega)
  have hneg : ¬ n < 0 := by omega
  have hbig : ¬ (281474976710656 < n * (i.bytes : Int)) := by
    have h1 : n * (i.bytes : Int) ≤ 4294967296 * 4096 := Int.mul_le_mul (by omega) (by omega) (by omega) (by omega)
    omega
  have happ : ∀ w' : World, (if n.toNat * i.size = 0 then (Pure.pure #[] : Sem (Array Value)) else (do pure (Builtin.zeroCells (← zeroValue e).cells n.toNat))).run P w' = .ok (Builtin.zeroCells z.cells n.toNat) w' := by
    intro w'
    split
    · rename_i h
      have : Builtin.zeroCells z.cells n.toNat = #[] := by
        unfold Builtin.zeroCells
        rw [hzs, h]; simp
      rw [this]; rfl
    · simp [zeroValue, typeInfo, hi, hz]
  refine ⟨fun hn base sLen sCap ty hle => ?_, fun b off sLen sCap ty hroom w' hst => ?_, fun base sLen sCap olds ty hold hg h32' => ?_⟩
  · have e0 : Builtin.zeroCells z.cells n.toNat = #[] := by
      unfold Builtin.zeroCells
      rw [hn]; simp
    have hle' : sLen + n.toNat ≤ sCap := by omega
    have hn0 : n.toNat = 0 := hn
    cases base <;> simp [Builtin.append_, run_underlying ht, run_underlying hk, sizeOf, typeInfo, hi, asInt, asIntOf, hw, hneg, hbig, hn0, hle, storeCells]
  · have e0 : n.toNat * i.size = 0 → Builtin.zeroCells z.cells n.toNat = #[] := by
      intro h
      unfold Builtin.zeroCells
      rw [hzs, h]; simp
    by_cases hnz : n.toNat * i.size = 0
    · rw [e0 hnz] at hst
      simp [Builtin.append_, run_underlying ht, run_underlying hk, sizeOf, typeInfo, hi, asInt, asIntOf, hw, hneg, hbig, hroom, hnz, addr_add]
      have : (storeCells ⟨b, off + sLen * i.size, Option.none⟩ []).run P w = .ok () w' := by simpa using hst
      simp [this]
    · simp [Builtin.append_, run_underlying ht, run_underlying hk, sizeOf, typeInfo, zeroValue, hz, hi, asInt, asIntOf, hw, hneg, hbig, hroom, hnz, addr_add, hst]
  · have hn : ¬ (sLen + n.toNat ≤ sCap) := by omega
    have h63' : ¬ (9223372036854775807 < ((sLen : Int) + max n 0)) := by omega
    have h48' : ¬ (281474976710656 < Builtin.nextslicecap (sLen + n.toNat) sCap * i.bytes) := by
      have h1 := nextslicecap_le hg
      have : Builtin.nextslicecap (sLen + n.toNat) sCap * i.bytes ≤ (2 * (sLen + n.toNat)) * 4096 := Nat.mul_le_mul h1 (by omega)
      omega
    by_cases hnz : n.toNat * i.size = 0
    · have e0 : Builtin.zeroCells z.cells n.toNat = #[] := by
        unfold Builtin.zeroCells
        rw [hzs, hnz]; simp
      simp [Builtin.append_, run_underlying ht, run_underlying hk, sizeOf, typeInfo, zeroValue, hi, hz, asInt, asIntOf, hw, hneg, hbig, hn, h63', h48', Question.forced, hold, newRow, grownCap, hnz, e0]
    · simp [Builtin.append_, run_underlying ht, run_underlying hk, sizeOf, typeInfo, zeroValue, hi, hz, asInt, asIntOf, hw, hneg, hbig, hn, h63', h48', Question.forced, hold, newRow, grownCap, hnz]
      congr 2
      apply Array.ext'
      simp [List.append_assoc]

theorem crel_one {as : List AVal} {cs : List Value} (h : CRel g w as cs) (h1 : ∀ a ∈ as, a.oneCell = true) : ∀ v ∈ cs, v.oneCell' = true := by
  intro v hv
  obtain ⟨i, hi⟩ := List.getElem?_of_mem hv
  have hlt : i < as.length := by rw [h.len]; exact (List.getElem?_eq_some_iff.1 hi).1
  exact (h.rel i _ v (List.getElem?_eq_getElem hlt) hi).one (h1 _ (List.getElem_mem hlt))

theorem appended_rel (hE : EnvOk P E) (hH : HRel g H w) {T xT e : TypeId} {x : AVal} {cx : Value} {ys : List AVal} {i : TypeInfo} {z : Value} (ht : P.underlying T = some (.slice e)) (hi : P.info? e = some i) (hz : i.zero = some z)
    (hok : (tyOf P e).ok = true) (hzok : (tyOf P e).zok = true) (hb : i.bytes < 4096) (hx : VRel g w x cx) (h : appended E e xT H x = some ys) :
    ∃ news, Gives P T xT e i z cx ys.length news w ∧ CRel g w (flat ys) news ∧ ∀ y ∈ ys, Fit (tyOf P e).size y := by
  obtain ⟨z', z1, z2, z3, z4, z5, z6, z7⟩ := run_zero (P := P) hzok g w
  have hzz : z' = z := by
    unfold zeroValue typeInfo at z1
    simp [hi, hz] at z1
    exact z1.symm
  subst hzz
  have hsz : (tyOf P e).size = i.size := tyOf_size hi
  have hzs : z'.cells.size = i.size := by have := z2.len; rw [z6, hsz] at this; simpa using this.symm
  unfold appended at h
  rw [hE.ty] at h
  have src : ∀ (hk : (∃ e', P.underlying xT = some (.slice e')) ∨ P.underlying xT = some .string), elemsOf E e H x = some ys →
      ∃ news, Gives P T xT e i z' cx ys.length news w ∧ CRel g w (flat ys) news ∧ ∀ y ∈ ys, Fit (tyOf P e).size y := by
    intro hk h
    obtain ⟨e1, e2, e3⟩ := elems_rel hE hH hok z7 hx h
    obtain ⟨l, l1, l2⟩ := e3 ys.length (Nat.le_refl _)
    rw [List.take_length] at l2
    refine ⟨l.toList, gives_src ht hi hz hb ⟨hk, e1, ?_, ?_, ?_, crel_one l2 (flat_one e2)⟩, l2, e2⟩
    · rw [← hsz]; simpa using l1 w rfl
    · rw [← hsz]; simpa using l1 w.drew rfl
    · rw [← l2.len, flat_length e2, hsz]
  split at h
  · rename_i k hu
    split at h
    · rename_i k' n
      split at h
      · rename_i hn
        injection h with h
        subst h
        rw [hE.ty]
        have hcx : cx = .int k' n := by cases hx; rfl
        subst hcx
        rw [groups_length]
        have hone := repl_one z5 n.toNat
        have hlen := repl_length (tyOf P e).zero n.toNat
        rw [z6] at hlen
        refine ⟨_, gives_zeros ht (ud_int hu) hi hz hb hzs hn.1 (by have := hn.2; unfold maxRow at this; omega), ?_, ?_⟩
        · rw [groups_flat z7 n.toNat _ (by omega) hone, List.take_of_length_le (by omega)]
          have := crel_repl z2 (by omega) n.toNat
          simpa [Builtin.zeroCells] using this
        · intro y hy
          obtain ⟨j, hj⟩ := List.getElem?_of_mem hy
          exact (groups_get _ _ z7 n.toNat _ (by omega) hone j y hj).1
      · cases h
    · cases h
  · rename_i e' hu
    exact src (.inl ⟨e', ud_slice hu⟩) h
  · rename_i hu
    exact src (.inr (ud_str hu)) h
  · cases h

theorem grownCap_le (w : World) (need old : Nat) (e : TypeId) : need ≤ grownCap w need old e := by
  unfold grownCap; simp only [Question.cut]; omega

theorem zeroCells_size (z : Array Value) (n : Nat) : (Builtin.zeroCells z n).size = n * z.size := by simp [Builtin.zeroCells]

/-- a new row that has grown -/
theorem grown_row {i : TypeInfo} {z : Value} {sz need cap : Nat} {all : List AVal} {cs : List Value} (hsz : sz = i.size) (hzs : z.cells.size = i.size) (hle : need ≤ cap) (hc : CRel g w all cs) (hlen : all.length = need * sz) :
    ∃ arr : Array Value, (cs.toArray ++ Builtin.zeroCells z.cells (cap - need)) = arr ∧ arr.size = cap * sz ∧ ∀ (k : Nat) a c, all[k]? = some a → arr[k]? = some c → VRel g w a c := by
  refine ⟨_, rfl, ?_, fun k a c ha hk => ?_⟩
  · have := hc.len
    simp only [Array.size_append, List.size_toArray, zeroCells_size, hzs, ← hsz]
    rw [← this, hlen, ← Nat.add_mul]; congr 1; omega
  · have hlt : k < cs.length := by rw [← hc.len]; exact (List.getElem?_eq_some_iff.1 ha).1
    rw [Array.getElem?_append_left (by simpa using hlt)] at hk
    exact hc.rel k a c ha (by simpa using hk)

theorem crel_append {as bs : List AVal} {cs ds : List Value} (h : CRel g w as cs) (k : CRel g w bs ds) : CRel g w (as ++ bs) (cs ++ ds) := by
  refine ⟨by simp [h.len, k.len], fun i a c ha hc => ?_⟩
  by_cases hi : i < as.length
  · rw [List.getElem?_append_left hi] at ha
    rw [List.getElem?_append_left (by rw [← h.len]; exact hi)] at hc
    exact h.rel i a c ha hc
  · rw [List.getElem?_append_right (by omega)] at ha
    rw [List.getElem?_append_right (by rw [← h.len]; omega), ← h.len] at hc
    exact k.rel _ a c ha hc

/-- the machine appends as the interpreter does -/
def AppOk (P : Program) (g : Gh) (H : Hp) (w : World) (T xT : TypeId) (cs cx : Value) (r : AVal) (H' : Hp) : Prop :=
  ∀ ty, ∃ c w' g', (Builtin.append_ #[T, xT] ty #[cs, cx]).run P w = .ok c w' ∧ Step w.heap.size g H w g' H' w' ∧ VRel g' w' r c

/-- a new row, as a list that may grow -/
theorem grow_list {T xT e : TypeId} {cs cx : Value} {need cap sz : Nat} {all : List AVal} {arr : Array Value} {Hk : Hp} (hst : Step w.heap.size g H w g Hk w) (hm : Hk.next < maxTmp)
    (hfit : ∀ x ∈ all, Fit sz x) (hneed : need = all.length) (hle : need ≤ cap) (hsz : arr.size = cap * sz) (hv : ∀ (k : Nat) a c, (flat all)[k]? = some a → arr[k]? = some c → VRel g w a c)
    (hrun : ∀ ty, (Builtin.append_ #[T, xT] ty #[cs, cx]).run P w = .ok (.slice (some ⟨w.heap.size, 0, Option.none⟩) need cap) (w.drew.alloc (.cells arr e))) :
    AppOk P g H w T xT cs cx (.list all (.own Hk.next) sz) (Hk.alloc .tok).2 := by
  intro ty
  have h1 := hst.rel
  have hd : HRel g Hk w.drew := h1.heap_eq rfl
  have hs0 : Step w.heap.size g Hk w g Hk w.drew := Step.heap_eq h1 rfl rfl rfl
  have hr := row_new (w := w.drew) e arr
  have hle2 : need * sz ≤ arr.size := by rw [hsz]; exact Nat.mul_le_mul_right _ hle
  have hs1 := Step.newObj (N := w.heap.size) hd .tok (.cells arr e) (need * sz) (need * sz) hm ⟨by simp [Gh.upd], arr, hr, by simp [Gh.upd]; exact hle2⟩
  refine ⟨_, _, _, hrun ty, (hst.trans hs0).trans hs1, ?_⟩
  subst hneed
  have hsize : w.drew.heap.size = w.heap.size := rfl
  refine vrel_ofRow (b := w.heap.size) hfit hr ?_ (by omega) hle (by omega) (fun k a c ha hc => ?_) ?_
  · have : (g.upd Hk.next w.drew.heap.size (all.length * sz) (all.length * sz)).lim w.heap.size = all.length * sz := lim_upd (w := w) _ _
    rw [this]; omega
  · rw [Nat.zero_add] at hc
    exact ((hv k a c ha hc).mono hs0.ext).mono hs1.ext
  · exact ⟨⟨_, mu_new (w := w) _ _⟩, .inr ⟨mu_new (w := w) _ _, by simp [Gh.upd]⟩⟩

/-- a new row, as an object -/
theorem grow_obj {T xT e : TypeId} {cs cx : Value} {need cap sz : Nat} {cells : List AVal} {arr : Array Value} {Hk : Hp} (hst : Step w.heap.size g H w g Hk w) (hm : Hk.next < maxTmp)
    (hone : ∀ a ∈ cells, a.oneCell = true) (hlen : cells.length = need * sz) (hle : need ≤ cap) (hsz : arr.size = cap * sz) (hv : ∀ (k : Nat) a c, cells[k]? = some a → arr[k]? = some c → VRel g w a c)
    (hrun : ∀ ty, (Builtin.append_ #[T, xT] ty #[cs, cx]).run P w = .ok (.slice (some ⟨w.heap.size, 0, Option.none⟩) need cap) (w.drew.alloc (.cells arr e))) :
    AppOk P g H w T xT cs cx (.sl Hk.next 0 need sz) (Hk.alloc (.cells cells)).2 := by
  intro ty
  have h1 := hst.rel
  have hd : HRel g Hk w.drew := h1.heap_eq rfl
  have hs0 : Step w.heap.size g Hk w g Hk w.drew := Step.heap_eq h1 rfl rfl rfl
  have hr := row_new (w := w.drew) e arr
  have hle2 : need * sz ≤ arr.size := by rw [hsz]; exact Nat.mul_le_mul_right _ hle
  have ext := Ext.push hd (.cells arr e) 0 0
  have hs1 := Step.newObj (N := w.heap.size) hd (.cells cells) (.cells arr e) 0 0 hm ⟨by simp [Gh.upd], hone, arr, hr, by omega, fun k a c ha hc => ((hv k a c ha hc).mono hs0.ext).mono ext⟩
  refine ⟨_, _, _, hrun ty, (hst.trans hs0).trans hs1, ?_⟩
  refine .sl 0 need sz cap (mu_new (w := w) _ _) hle ?_
  have e1 : sizeAt (w.drew.alloc (.cells arr e)) w.heap.size = arr.size := hr.size
  rw [e1]; omega

end
end Go.Rs
end
/- append, all cases. -/
section
namespace Go.Rs
section
variable {P : Program} {E : Env} {N : Nat} {g : Gh} {p : Nat → Option Nat} {H : Hp} {w : World} {lv : Lv} {o : Oper} {ev : Operand → AVal} {ρ : Operand → Value} {r : AVal}

theorem fits_append {sz : Nat} {xs ys : List AVal} (h1 : ∀ x ∈ xs, Fit sz x) (h2 : ∀ y ∈ ys, Fit sz y) : ∀ x ∈ xs ++ ys, Fit sz x := by
  intro x hx
  rcases List.mem_append.1 hx with h | h
  · exact h1 x h
  · exact h2 x h

theorem newA_some {res : Nat × Hp} {k : Nat → AVal} {H' : Hp} (h : newA res k = some (r, H')) : res.1 < maxTmp ∧ r = k res.1 ∧ H' = res.2 := by
  unfold newA at h
  split at h
  · rename_i hlt
    injection h with h
    injection h with h1 h2
    exact ⟨hlt, h1.symm, h2.symm⟩
  · cases h

theorem appendA_ok (hE : EnvOk P E) (hH : HRel g H w) {wr : Bool} {T xT : TypeId} {s x : AVal} {cs cx : Value} {H' : Hp} (hs : VRel g w s cs) (hx : VRel g w x cx)
    (h : appendA E wr T xT H s x = some (r, H')) : AppOk P g H w T xT cs cx r H' := by
  unfold appendA at h
  rw [hE.ty] at h
  split at h
  · rename_i e hu
    have ht := ud_slice hu
    rw [hE.ty] at h
    simp only [] at h
    split at h
    · cases h
    · rename_i ys hys
      split at h
      · rename_i hcond
        simp only [Bool.and_eq_true, decide_eq_true_eq] at hcond
        obtain ⟨⟨hok, hzok⟩, hbytes⟩ := hcond
        obtain ⟨i, d, hi, hd⟩ := tyOf_ok hok
        obtain ⟨z, z1, z2, z3, z4, z5, z6, z7⟩ := run_zero (P := P) hzok g w
        have hz : i.zero = some z := by
          unfold zeroValue typeInfo at z1
          simp [hi] at z1
          cases hq : i.zero with
          | none => rw [hq] at z1; simp at z1
          | some z' => rw [hq] at z1; simp at z1; rw [z1]
        have hsz : (tyOf P e).size = i.size := tyOf_size hi
        have hzs : z.cells.size = i.size := by have := z2.len; rw [z6, hsz] at this; simpa using this.symm
        have hb : i.bytes < 4096 := by rw [← tyOf_bytes hi]; exact hbytes
        obtain ⟨news, hg, hcn, hfy⟩ := appended_rel hE hH ht hi hz hok hzok hb hx hys
        have hfl := flat_length hfy
        have hno := crel_one hcn (flat_one hfy)
        split at h
        · -- nothing
          have hrs : r = s ∧ H' = H := by
            split at h <;> first
              | (injection h with h; injection h with h1 h2; exact ⟨h1.symm, h2.symm⟩)
              | cases h
          obtain ⟨rfl, rfl⟩ := hrs
          have hshape : ∃ base len cap, cs = .slice base len cap ∧ len ≤ cap := by
            split at h <;> cases hs <;> first
              | exact ⟨_, _, _, rfl, by assumption⟩
              | exact ⟨_, _, _, rfl, Nat.le_refl _⟩
              | cases h
          obtain ⟨base, len, cap, rfl, hlc⟩ := hshape
          intro ty
          exact ⟨_, w, g, hg.none rfl base len cap ty hlc, .refl hH, hs⟩
        · rename_i hne
          have hpos : 0 < ys.length := by
            cases ys with
            | nil => exact absurd rfl hne
            | cons y ys => simp
          split at h
          · -- nil
            cases hs
            have hlt : ys.length < maxRow := by
              split at h
              · assumption
              · cases h
            rw [if_pos hlt] at h
            have hg0 := hg.grow none 0 0 []
            simp only [Nat.zero_add, List.nil_append] at hg0
            have hcap := grownCap_le w ys.length 0 e
            obtain ⟨arr, e1, e2, e3⟩ := grown_row (need := ys.length) hsz hzs hcap hcn hfl
            rw [e1] at hg0
            have hrun : ∀ ty, (Builtin.append_ #[T, xT] ty #[.slice none 0 0, cx]).run P w = .ok (.slice (some ⟨w.heap.size, 0, Option.none⟩) ys.length (grownCap w ys.length 0 e)) (w.drew.alloc (.cells arr e)) :=
              fun ty => hg0 ty rfl hpos (by unfold maxRow at hlt; omega)
            split at h
            · obtain ⟨hm, rfl, rfl⟩ := newA_some h
              exact grow_obj (.refl hH) hm (flat_one hfy) hfl hcap e2 e3 hrun
            · obtain ⟨hm, rfl, rfl⟩ := newA_some h
              exact grow_list (.refl hH) hm hfy rfl hcap e2 e3 hrun
          · -- list
            rename_i xs tok sz
            split at h
            · rename_i hc2
              obtain ⟨hsze, hlt⟩ := hc2
              cases hs with
              | list _ b off cap f hl hsf hc hv hcap hrow htk =>
                have hsz2 : sz = i.size := by rw [hsze, hsz]
                obtain ⟨lc1, lc2⟩ := list_cells (P := P) hsf hc hv
                have hfit := fits_append (sz := sz) hsf (by rw [hsze]; exact hfy)
                have hall := crel_append lc2 hcn
                rw [← flat_append] at hall
                have hlen : (flat (xs ++ ys)).length = (xs.length + ys.length) * sz := by rw [flat_length hfit]; simp
                have hold : (Builtin.firstCells i.size xs.length (.slice (some ⟨b, off, Option.none⟩) xs.length cap)).run P w.drew = .ok ((List.range (xs.length * sz)).map f).toArray w.drew := by
                  have := lc1 w.drew rfl
                  rw [hsz2] at this ⊢
                  exact this
                have growing : cap < xs.length + ys.length → ∀ ty, (Builtin.append_ #[T, xT] ty #[.slice (some ⟨b, off, Option.none⟩) xs.length cap, cx]).run P w =
                    .ok (.slice (some ⟨w.heap.size, 0, Option.none⟩) (xs.length + ys.length) (grownCap w (xs.length + ys.length) cap e))
                      (w.drew.alloc (.cells ((((List.range (xs.length * sz)).map f) ++ news).toArray ++ Builtin.zeroCells z.cells (grownCap w (xs.length + ys.length) cap e - (xs.length + ys.length))) e)) :=
                  fun hlt2 ty => hg.grow _ _ _ _ ty hold hlt2 (by unfold maxRow at hlt; omega)
                have hgc := grownCap_le w (xs.length + ys.length) cap e
                obtain ⟨arr, e1, e2, e3⟩ := grown_row (need := xs.length + ys.length) (sz := sz) hsz2 hzs hgc hall hlen
                rw [e1] at growing
                split at h
                · cases h
                · -- full
                  have hcf : cap = xs.length := htk
                  have hgt : cap < xs.length + ys.length := by omega
                  split at h
                  · obtain ⟨hm, rfl, rfl⟩ := newA_some h
                    rw [← hsze]
                    exact grow_obj (.refl hH) hm (flat_one hfit) hlen hgc e2 e3 (growing hgt)
                  · obtain ⟨hm, rfl, rfl⟩ := newA_some h
                    exact grow_list (.refl hH) hm hfit (by simp) hgc e2 e3 (growing hgt)
                · -- own
                  rename_i t
                  split at h
                  · rename_i htok
                    obtain ⟨hm, rfl, rfl⟩ := newA_some h
                    have hm : H.next < maxTmp := hm
                    have htk' : (∃ b', g.mu t = some b') ∧ (cap = xs.length ∨ (g.mu t = some b ∧ g.ka t = off + xs.length * sz)) := htk
                    obtain ⟨⟨bt, hbt⟩, htk'⟩ := htk'
                    by_cases hroom : xs.length + ys.length ≤ cap
                    · rcases htk' with htk' | ⟨t1, t2⟩
                      · omega
                      have ob := hH.obj t b t1
                      rw [htok] at ob
                      obtain ⟨o1, arr0, o2, o3⟩ := ob
                      have hsize0 : off + cap * sz ≤ arr0.size := by rw [← o2.size]; exact hrow
                      have hneedle : (xs.length + ys.length) * sz ≤ cap * sz := Nat.mul_le_mul_right _ hroom
                      have hadd : (xs.length + ys.length) * sz = xs.length * sz + ys.length * sz := Nat.add_mul _ _ _
                      obtain ⟨et, o2'⟩ := o2
                      have hnl : news.length = ys.length * sz := by rw [← hcn.len, hfl, hsze]
                      have hst := run_storeCells_at (P := P) b (off + xs.length * sz) et news 0 arr0 w o2' (by rw [hnl]; omega) hno
                      generalize harr : (arr0.toList.take (off + xs.length * sz + 0) ++ news ++ arr0.toList.drop (off + xs.length * sz + 0 + news.length)).toArray = arr1 at hst
                      have hle1 : off + xs.length * sz + news.length ≤ arr0.toList.length := by simp; omega
                      have hsz1 : arr1.size = arr0.size := by
                        rw [← harr]; simp only [List.size_toArray, Nat.add_zero]; rw [splice_length _ _ _ hle1]; simp
                      have hget : ∀ k, arr1[k]? = if off + xs.length * sz ≤ k ∧ k < off + xs.length * sz + news.length then news[k - (off + xs.length * sz)]? else arr0[k]? := by
                        intro k
                        rw [← harr]; simp only [List.getElem?_toArray, Nat.add_zero]
                        rw [splice_getElem? _ _ _ hle1]
                        split
                        · rfl
                        · simp
                      have hr0 : rowIs w b arr0 := ⟨et, o2'⟩
                      have hr1 := hr0.set arr1
                      intro ty
                      have hrun := hg.room b off xs.length cap ty hroom (w.setRow b arr1) (by rw [← hsz2]; exact hst)
                      have hlimb : g.lim b = off + xs.length * sz := by rw [o1, t2]
                      have hstep := Step.rehold (N := w.heap.size) (w' := w.setRow b arr1) hH .tok (off + (xs.length + ys.length) * sz) (off + (xs.length + ys.length) * sz) t1 (by unfold Alive; rw [htok]; simp) hm
                        (by rw [hlimb]; omega) (by simp) (fun c hc => setRow_other w b c arr1 hc) (by rw [hr0.size, hr1.size, hsz1]; exact Nat.le_refl _) (.setRow hr0 (by omega))
                        (fun k v hk hcell => by
                          rw [hr1.cell, hget, if_neg (by omega)]
                          rw [hr0.cell] at hcell; exact hcell)
                        (fun _ => ⟨by simp [Gh.upd], arr1, hr1, by simp [Gh.upd]; omega⟩)
                      refine ⟨_, _, _, hrun, hstep, ?_⟩
                      have e9 : (xs ++ ys).length = xs.length + ys.length := by simp
                      rw [← e9] at hstep ⊢
                      refine vrel_ofRow (b := b) hfit hr1 ?_ ?_ (by rw [e9]; exact hroom) (by omega) (fun k a c ha hck => ?_) ?_
                      · rw [e9]; simp [Gh.upd]
                      · rw [e9]; omega
                      · rw [hget] at hck
                        refine VRel.mono hstep.ext ?_
                        have hkl : k < (flat (xs ++ ys)).length := (List.getElem?_eq_some_iff.1 ha).1
                        rw [flat_append] at ha
                        have hfx := flat_length hsf
                        by_cases hk : k < xs.length * sz
                        · rw [if_neg (by omega)] at hck
                          rw [List.getElem?_append_left (by omega)] at ha
                          have hcell := hc k hk
                          rw [hr0.cell, hck] at hcell
                          injection hcell with hcell
                          subst hcell
                          refine lc2.rel k a _ ha ?_
                          rw [List.getElem?_map, List.getElem?_range hk]; rfl
                        · rw [if_pos (by omega)] at hck
                          rw [List.getElem?_append_right (by omega), hfx] at ha
                          have : off + k - (off + xs.length * sz) = k - xs.length * sz := by omega
                          rw [this] at hck
                          exact hcn.rel _ a c ha hck
                      · exact ⟨⟨b, by simp [Gh.upd]⟩, .inr ⟨by simp [Gh.upd], by simp [Gh.upd]⟩⟩
                    · have hgt : cap < xs.length + ys.length := by omega
                      have hkill : Step w.heap.size g H w g (H.set t .dead) w := Step.kill hH hbt
                      exact grow_list (Hk := H.set t .dead) hkill hm hfit (by simp) hgc e2 e3 (growing hgt)
                  · cases h
            · cases h
          · -- sl
            rename_i id off len sz
            split at h
            · rename_i cs0 hcs0
              split at h
              · rename_i hc2
                obtain ⟨rfl, hsze, hle0, hlt⟩ := hc2
                obtain ⟨hm, rfl, rfl⟩ := newA_some h
                have hm : H.next < maxTmp := hm
                have hsz2 : sz = i.size := by rw [hsze, hsz]
                have hone0 : ∀ b, g.mu id = some b → ∀ a ∈ cs0.take (len * sz) ++ flat ys, a.oneCell = true := by
                  intro b hb a ha
                  have ob := hH.obj id b hb
                  rw [hcs0] at ob
                  rcases List.mem_append.1 ha with ha | ha
                  · exact ob.2.1 a (List.mem_of_mem_take ha)
                  · exact flat_one hfy a ha
                have hlen0 : (cs0.take (len * sz) ++ flat ys).length = (len + ys.length) * sz := by
                  rw [List.length_append, List.length_take, hfl, ← hsze, Nat.min_eq_left hle0, Nat.add_mul]
                have hgc := grownCap_le w (len + ys.length)
                have growing : ∀ (base : Option Addr) (cap b : Nat) (olds : List Value), g.mu id = some b → cs = .slice base len cap → CRel g w (cs0.take (len * sz)) olds →
                    (Builtin.firstCells i.size len (.slice base len cap)).run P w.drew = .ok olds.toArray w.drew → cap < len + ys.length →
                    AppOk P g H w T xT cs cx (.sl H.next 0 (len + ys.length) sz) ((H.set id .dead).alloc (.cells (cs0.take (len * sz) ++ flat ys))).2 := by
                  intro base cap b olds hb hcs hco hold hgt
                  subst hcs
                  obtain ⟨arr, e1, e2, e3⟩ := grown_row (need := len + ys.length) (sz := sz) hsz2 hzs (hgc cap e) (crel_append hco hcn) hlen0
                  have hrun := fun ty => hg.grow base len cap olds ty hold hgt (by unfold maxRow at hlt; omega)
                  rw [e1] at hrun
                  exact grow_obj (Hk := H.set id .dead) (Step.kill hH hb) hm (hone0 b hb) hlen0 (hgc cap e) e2 e3 hrun
                cases hs with
                | @sl _ b _ _ _ cap hb hcap hrow =>
                  have ob := hH.obj id b hb
                  rw [hcs0] at ob
                  obtain ⟨hlim, hone, arr0, hr0, hle1, hv⟩ := ob
                  obtain ⟨l, l1, l2, l3⟩ := obj_cells (P := P) (n := len * sz) (off := 0) hr0 (by omega) hle1 hv
                  rw [List.drop_zero] at l2
                  by_cases hroom : len + ys.length ≤ cap
                  · have hsize0 : cap * sz ≤ arr0.size := by rw [← hr0.size]; simpa using hrow
                    have hneedle : (len + ys.length) * sz ≤ cap * sz := Nat.mul_le_mul_right _ hroom
                    have hadd : (len + ys.length) * sz = len * sz + ys.length * sz := Nat.add_mul _ _ _
                    have hnl : news.length = ys.length * sz := by rw [← hcn.len, hfl, hsze]
                    obtain ⟨et, hr0'⟩ := hr0
                    have hst := run_storeCells_at (P := P) b (0 + len * sz) et news 0 arr0 w hr0' (by rw [hnl]; omega) hno
                    generalize harr : (arr0.toList.take (0 + len * sz + 0) ++ news ++ arr0.toList.drop (0 + len * sz + 0 + news.length)).toArray = arr1 at hst
                    have hle2 : len * sz + news.length ≤ arr0.toList.length := by simp; omega
                    have hsz1 : arr1.size = arr0.size := by
                      rw [← harr]; simp only [List.size_toArray, Nat.add_zero, Nat.zero_add]; rw [splice_length _ _ _ hle2]; simp
                    have hget : ∀ k, arr1[k]? = if len * sz ≤ k ∧ k < len * sz + news.length then news[k - len * sz]? else arr0[k]? := by
                      intro k
                      rw [← harr]; simp only [List.getElem?_toArray, Nat.add_zero, Nat.zero_add]
                      rw [splice_getElem? _ _ _ hle2]
                      split
                      · rfl
                      · simp
                    have hr0 : rowIs w b arr0 := ⟨et, hr0'⟩
                    have hr1 := hr0.set arr1
                    intro ty
                    have hrun := hg.room b 0 len cap ty hroom (w.setRow b arr1) (by rw [← hsz2]; exact hst)
                    have hstep := Step.rehold (N := w.heap.size) (w' := w.setRow b arr1) hH (.cells (cs0.take (len * sz) ++ flat ys)) 0 0 hb (by unfold Alive; rw [hcs0]; simp) hm
                      (by omega) (by simp) (fun c hc => setRow_other w b c arr1 hc) (by rw [hr0.size, hr1.size, hsz1]; exact Nat.le_refl _) (.setRow hr0 (by omega))
                      (fun k v hk _ => by omega)
                      (fun ext => ⟨by simp [Gh.upd], hone0 b hb, arr1, hr1, by rw [hlen0, hsz1]; omega, fun k a c ha hck => by
                        refine VRel.mono ext ?_
                        rw [hget] at hck
                        have hfx : (cs0.take (len * sz)).length = len * sz := by rw [List.length_take]; omega
                        have hkl : k < (cs0.take (len * sz) ++ flat ys).length := (List.getElem?_eq_some_iff.1 ha).1
                        by_cases hk : k < len * sz
                        · rw [if_neg (by omega)] at hck
                          rw [List.getElem?_append_left (by omega), List.getElem?_take, if_pos hk] at ha
                          exact hv k a c ha hck
                        · rw [if_pos (by omega)] at hck
                          rw [List.getElem?_append_right (by omega), hfx] at ha
                          exact hcn.rel _ a c ha hck⟩)
                    refine ⟨_, _, _, hrun, hstep, ?_⟩
                    refine .sl 0 _ sz cap (by simp [Gh.upd]) hroom ?_
                    rw [hr1.size, hsz1]; omega
                  · refine growing (some ⟨b, 0, none⟩) cap b l.toList hb rfl (by simpa using l2) ?_ (by omega)
                    have := l1 w.drew rfl
                    rw [hsz2] at this
                    simpa [Builtin.firstCells] using this
                | @sl0 _ b b' _ off' _ hb =>
                  refine growing (some ⟨b', off', none⟩) 0 b [] hb rfl (by simp; exact ⟨rfl, by simp⟩) (by simp [Builtin.firstCells, loadCells, loadCellsFrom]) (by omega)
              · cases h
            · cases h
          · cases h
      · cases h
  · cases h

theorem op_append (hE : EnvOk P E) {c : Call} {s x : Operand} {T xT : TypeId} {wr : Bool} {H' : Hp} (ho : o.op = .call c) (hc : c.callee = .builtin .append) (ha : c.args.toList = [s, x]) (ht : c.argTypes.toList = [T, xT])
    (hH : HRel g H w) (hL : LvRel N g p H w lv) (hN : N ≤ w.heap.size) (hs : TRel g w p (ev s) (ρ s)) (hx : TRel g w p (ev x) (ρ x)) (h1 : (ev s).handed = true) (h2 : (ev x).handed = true)
    (h : appendA E wr T xT H (ev s) (ev x) = some (r, H')) : OpOk P N g p H w lv o ev ρ r lv H' := by
  obtain ⟨cv, w', g', h1, h2, h3⟩ := appendA_ok hE hH (hs.handed h1) (hx.handed h2) h o.type
  refine ⟨_, cv, w', g', p, ?_, .inl rfl, h2.weaken hN, hL.step h2, .of h3, fun _ _ => rfl, fun _ _ _ => rfl, Nat.le_refl _⟩
  rw [exec_builtin ho hc]
  show (do pure (Next.value (← Builtin.append_ _ _ _))).run P w = _
  rw [arr_of_toList ht]
  have e1 : c.args.map ρ = #[ρ s, ρ x] := by
    apply Array.ext'; simp [ha]
  rw [e1]
  simp [h1]

end
end Go.Rs
end
/- Literals of slices, make, copy, clear, ranges over strings. -/
section
namespace Go.Rs
section
variable {P : Program} {E : Env} {N : Nat} {g : Gh} {p : Nat → Option Nat} {H : Hp} {w : World} {lv : Lv} {o : Oper} {ev : Operand → AVal} {ρ : Operand → Value} {r : AVal}

/-! ### literals of slices -/
theorem run_buildSlice (hE : EnvOk P E) {T e : TypeId} {n : Nat} {ps : Array (Nat × Operand)} {out : List AVal} (ho : o.op = .buildSlice T n ps) (hops : ∀ x ∈ o.op.operands, TRel g w p (ev x) (ρ x)) (hu : (tyOf P T).u = .slice e)
    (hok : (tyOf P e).ok = true) (hz : (tyOf P e).zok = true) (hn : n * (tyOf P e).size ≤ 2 ^ 24)
    (h : fillA (fun k => some (k * (tyOf P e).size, (tyOf P e).size)) (repl n (tyOf P e).zero) (ps.toList.map fun (i, x) => (i, ev x)) = some out) :
    ∃ out' : Array Value, (execOp ρ o).run P w = .ok (.value (.slice (some ⟨w.heap.size, 0, none⟩) n n)) (w.alloc (.cells out' e)) ∧ CRel g w out out'.toList ∧ (∀ a ∈ out, a.oneCell = true) ∧ out.length = n * (tyOf P e).size ∧ 0 < (tyOf P e).size := by
  have hd := ud_slice hu
  obtain ⟨z, z1, z2, z3, z4, z5, z6, z7⟩ := run_zero (P := P) hz g w
  rw [ho] at hops
  have hpr := parts_rel (g := g) (w := w) (p := p) (ev := ev) (ρ := ρ) (ps := ps) (fun x hx => hops x (by simpa [Op.operands] using hx))
  have hzl : (tyOf P e).zero.length = z.cells.size := by have := z2.len; simpa using this
  have hc0 := crel_repl z2 (by omega) n
  obtain ⟨out', f1, f2, f3⟩ := fill_rel (place := fun i => some (i * (tyOf P e).size, (tyOf P e).size)) (fun i x hx => hx) _ _ _ _ _ (by simp) hpr hc0 (repl_one z5 n) h
  have hlen : out.length = n * (tyOf P e).size := by
    have hfl : ∀ (l : List (Nat × AVal)) (cs out : List AVal), fillA (fun k => some (k * (tyOf P e).size, (tyOf P e).size)) cs l = some out → out.length = cs.length := by
      intro l
      induction l with
      | nil => intro cs out h; simp only [fillA, Option.some.injEq] at h; rw [h]
      | cons x l ih =>
        intro cs out h
        obtain ⟨i, v⟩ := x
        unfold fillA at h
        simp only [] at h
        split at h
        · split at h
          · rename_i cs2 hset
            rw [ih _ _ h, (setCells_spec _ _ _ _ hset).1]
          · cases h
        · cases h
    rw [hfl _ _ _ h, repl_length, z6]
  refine ⟨out', ?_, f2, f3, hlen, z7⟩
  have hps : (ps.map fun (i, x) => (i, ρ x)).toList = ps.toList.map fun (i, x) => (i, ρ x) := by simp
  have hn' : ¬ (n * (tyOf P e).size > 2 ^ 24) := by omega
  by_cases h0 : n * (tyOf P e).size = 0
  · have hnz : n = 0 := by
      rcases Nat.eq_zero_or_pos n with h' | h'
      · exact h'
      · have := Nat.mul_pos h' z7; omega
    subst hnz
    have hrange : (Array.range (0 * z.cells.size)).map (z.cells[· % z.cells.size]!) = #[] := by simp
    rw [hrange] at f1
    have hr0 : Array.range 0 = #[] := rfl
    have f1' : Instr.fill (fun i => some (i * (tyOf P e).size, (tyOf P e).size)) #[] (ps.toList.map fun (i, x) => (i, ρ x)) = some out' := f1
    simp [execOp, ho, Instr.buildSlice, run_underlying hd, run_sizeOf' hok, hr0, f1', newRow]
  · rw [← z6, hzl] at h0 hn' f1
    simp only [execOp, ho, Instr.buildSlice, Sem.run_bind, run_underlying hd, run_sizeOf' hok, Result.andThen_ok, ← z6, hzl, if_neg hn', if_neg h0, z1, Sem.run_pure, hps, f1, newRow, run_newObj]
    rfl

theorem op_buildSlice_list (hE : EnvOk P E) {T e : TypeId} {n : Nat} {ps : Array (Nat × Operand)} {out : List AVal} {agg : Bool} (ho : o.op = .buildSlice T n ps) (hH : HRel g H w) (hL : LvRel N g p H w lv) (hN : N ≤ w.heap.size)
    (hops : ∀ x ∈ o.op.operands, TRel g w p (ev x) (ρ x)) (hu : (tyOf P T).u = .slice e) (hok : (tyOf P e).ok = true) (hz : (tyOf P e).zok = true) (hn : n * (tyOf P e).size ≤ 2 ^ 24)
    (h : fillA (fun k => some (k * (tyOf P e).size, (tyOf P e).size)) (repl n (tyOf P e).zero) (ps.toList.map fun (i, x) => (i, ev x)) = some out) :
    OpOk P N g p H w lv o ev ρ (.list (groups (tyOf P e).size agg n out) .full (tyOf P e).size) lv H := by
  obtain ⟨out', h1, h2, h3, h4, h5⟩ := run_buildSlice (w := w) hE ho hops hu hok hz hn h
  have hst := Step.newRow (N := w.heap.size) hH (.cells out' e) (n * (tyOf P e).size)
  have hlen := h2.len
  simp at hlen
  have hv := vrel_newList (g' := g.limit w.heap.size (n * (tyOf P e).size)) (w' := w.alloc (.cells out' e)) (b := w.heap.size) (cs := out) (cs' := out') (T := T) (agg := agg) (tok := .full) (cap := n) h5 h4 h3 (by simp [Gh.limit]) (row_new e out') (by omega) (Nat.le_refl _) (by omega)
    (fun i a c ha hc => (h2.rel i a c ha (by simpa using hc)).mono hst.ext) rfl
  exact ⟨_, _, _, _, p, h1, .inl rfl, hst.weaken hN, hL.step hst, .of hv, fun _ _ => rfl, fun _ _ _ => rfl, Nat.le_refl _⟩

theorem op_buildSlice_obj (hE : EnvOk P E) {T e : TypeId} {n : Nat} {ps : Array (Nat × Operand)} {out : List AVal} (ho : o.op = .buildSlice T n ps) (hH : HRel g H w) (hL : LvRel N g p H w lv) (hN : N ≤ w.heap.size) (hm : H.next < maxTmp)
    (hops : ∀ x ∈ o.op.operands, TRel g w p (ev x) (ρ x)) (hu : (tyOf P T).u = .slice e) (hok : (tyOf P e).ok = true) (hz : (tyOf P e).zok = true) (hn : n * (tyOf P e).size ≤ 2 ^ 24)
    (h : fillA (fun k => some (k * (tyOf P e).size, (tyOf P e).size)) (repl n (tyOf P e).zero) (ps.toList.map fun (i, x) => (i, ev x)) = some out) :
    OpOk P N g p H w lv o ev ρ (.sl H.next 0 n (tyOf P e).size) lv (H.alloc (.cells out)).2 := by
  obtain ⟨out', h1, h2, h3, h4, h5⟩ := run_buildSlice (w := w) hE ho hops hu hok hz hn h
  have hlen := h2.len
  simp at hlen
  refine ok_obj (O := .cells out' e) (c := .slice (some ⟨w.heap.size, 0, none⟩) n n) 0 0 hH hL hN hm (fun ext => orel_cells h2 h3 ext) h1 (.sl 0 n _ n (mu_new 0 0) (Nat.le_refl _) ?_)
  rw [(row_new e out').size]; omega

/-! ### make -/
theorem run_makeSlice {T e : TypeId} {l c : Operand} {k k' : IntKind} {n m : Int} (ho : o.op = .makeSlice T l c) (hu : (tyOf P T).u = .slice e) (hl : TRel g w p (.int k n) (ρ l)) (hc : TRel g w p (.int k' m) (ρ c))
    (h0 : 0 ≤ n) (h1 : n ≤ m) (h2 : m < maxRow) (hok : (tyOf P e).ok = true) (hz : (tyOf P e).zok = true) (hb : (tyOf P e).bytes < 4096) :
    ∃ z : Value, (execOp ρ o).run P w = .ok (.value (.slice (some ⟨w.heap.size, 0, none⟩) n.toNat m.toNat)) (w.alloc (.cells ((Array.range (m.toNat * z.cells.size)).map (z.cells[· % z.cells.size]!)) e)) ∧
      CRel g w (tyOf P e).zero z.cells.toList ∧ (∀ a ∈ (tyOf P e).zero, a.oneCell = true) ∧ (tyOf P e).zero.length = (tyOf P e).size ∧ z.cells.size = (tyOf P e).size ∧ 0 < (tyOf P e).size := by
  have hd := ud_slice hu
  obtain ⟨z, z1, z2, z3, z4, z5, z6, z7⟩ := run_zero (P := P) hz g w
  obtain ⟨i, hi, hi2, hi3, hi4⟩ := run_bytes' (P := P) hok w
  have e1 := trel_int hl
  have e2 := trel_int hc
  have hzl : z.cells.size = (tyOf P e).size := by have := z2.len; rw [z6] at this; simpa using this.symm
  unfold maxRow at h2
  have w1 : IntKind.i64.wrap n = n := wrap_small h0 (by omega)
  have w2 : IntKind.i64.wrap m = m := wrap_small (by omega) (by omega)
  have hbig : ¬ (281474976710656 < (i.bytes : Int) * m) := by
    have h1 : (i.bytes : Int) * m ≤ 4096 * 4294967296 := Int.mul_le_mul (by omega) (by omega) (by omega) (by omega)
    omega
  have hm0 : ¬ (m < 0) := by omega
  have hn0 : ¬ (n < 0) := by omega
  have hnm : ¬ (m < n) := by omega
  refine ⟨z, ?_, z2, z5, z6, hzl, z7⟩
  by_cases hmz : m.toNat * (tyOf P e).size = 0
  · have hmz' : m.toNat * z.cells.size = 0 := by rw [hzl]; exact hmz
    simp [execOp, ho, Instr.makeSlice, run_underlying hd, e1, e2, asInt, asIntOf, hi2, w1, w2, hbig, hm0, hn0, hnm, run_sizeOf' hok, hmz, hmz', newRow, show Array.range 0 = #[] from rfl]
  · simp [execOp, ho, Instr.makeSlice, run_underlying hd, e1, e2, asInt, asIntOf, hi2, w1, w2, hbig, hm0, hn0, hnm, run_sizeOf' hok, hmz, z1, newRow, hzl]

theorem crel_take {as : List AVal} {cs : List Value} {n : Nat} (h : CRel g w as cs) : CRel g w (as.take n) (cs.take n) := by
  refine ⟨by simp [h.len], fun i a c ha hc => ?_⟩
  rw [List.getElem?_take] at ha hc
  split at ha
  · rename_i hi
    rw [if_pos hi] at hc
    exact h.rel i a c ha hc
  · cases ha

theorem repl_add (z : List AVal) (k : Nat) : ∀ n, repl (n + k) z = repl n z ++ repl k z
  | 0 => by simp [repl]
  | n + 1 => by rw [Nat.add_right_comm]; simp only [repl, repl_add z k n, List.append_assoc]

theorem repl_take (z : List AVal) {n m : Nat} (h : n ≤ m) : (repl m z).take (n * z.length) = repl n z := by
  obtain ⟨k, rfl⟩ := Nat.exists_eq_add_of_le h
  rw [repl_add, List.take_append_of_le_length (by rw [repl_length]; omega), List.take_of_length_le (by rw [repl_length]; omega)]


theorem orel_prefix {T : TypeId} {cs : List AVal} {cs' : Array Value} {id : Nat} (hle : cs.length ≤ cs'.size) (hv : ∀ (i : Nat) a c, cs[i]? = some a → cs'[i]? = some c → VRel g w a c) (hone : ∀ a ∈ cs, a.oneCell = true) {e : Nat}
    (ext : Ext g w (g.upd H.next w.heap.size 0 e) (w.alloc (.cells cs' T))) :
    ORel (g.upd H.next w.heap.size 0 e) (w.alloc (.cells cs' T)) id w.heap.size (.cells cs) :=
  ⟨lim_upd 0 e, hone, cs', row_new T cs', hle, fun i a c ha hc' => (hv i a c ha hc').mono ext⟩

theorem op_makeSlice_sl {T e : TypeId} {l c : Operand} {k k' : IntKind} {n m : Int} (ho : o.op = .makeSlice T l c) (hH : HRel g H w) (hL : LvRel N g p H w lv) (hN : N ≤ w.heap.size) (hnx : H.next < maxTmp)
    (hu : (tyOf P T).u = .slice e) (hl : TRel g w p (.int k n) (ρ l)) (hc : TRel g w p (.int k' m) (ρ c))
    (h0 : 0 ≤ n) (h1 : n ≤ m) (h2 : m < maxRow) (hok : (tyOf P e).ok = true) (hz : (tyOf P e).zok = true) (hb : (tyOf P e).bytes < 4096) :
    OpOk P N g p H w lv o ev ρ (.sl H.next 0 n.toNat (tyOf P e).size) lv (H.alloc (.cells (repl n.toNat (tyOf P e).zero))).2 := by
  obtain ⟨z, hrun, z2, z5, z6, hzl, z7⟩ := run_makeSlice (w := w) ho hu hl hc h0 h1 h2 hok hz hb
  have hcm := crel_repl z2 (by omega) m.toNat
  have hnm : n.toNat ≤ m.toNat := by omega
  have hlen := repl_length (tyOf P e).zero n.toNat
  have hmul : n.toNat * (tyOf P e).size ≤ m.toNat * (tyOf P e).size := Nat.mul_le_mul_right _ hnm
  refine ok_obj (O := .cells _ e) (c := .slice (some ⟨w.heap.size, 0, none⟩) n.toNat m.toNat) 0 0 hH hL hN hnx (fun ext => orel_prefix ?_ ?_ (repl_one z5 _) ext) hrun (.sl 0 n.toNat _ m.toNat (mu_new 0 0) hnm ?_)
  · rw [hlen, z6]; simp [hzl]; exact hmul
  · intro i a c ha hc'
    rw [← repl_take _ hnm, List.getElem?_take] at ha
    split at ha
    · exact hcm.rel i a c ha (by rw [Array.getElem?_toList]; exact hc')
    · cases ha
  · rw [(row_new e _).size]; simp [hzl]

theorem op_makeSlice_list {T e : TypeId} {l c : Operand} {k k' : IntKind} {m : Int} (ho : o.op = .makeSlice T l c) (hH : HRel g H w) (hL : LvRel N g p H w lv) (hN : N ≤ w.heap.size) (hnx : H.next < maxTmp)
    (hu : (tyOf P T).u = .slice e) (hl : TRel g w p (.int k 0) (ρ l)) (hc : TRel g w p (.int k' m) (ρ c))
    (h1 : 0 ≤ m) (h2 : m < maxRow) (hok : (tyOf P e).ok = true) (hz : (tyOf P e).zok = true) (hb : (tyOf P e).bytes < 4096) :
    OpOk P N g p H w lv o ev ρ (.list [] (.own H.next) (tyOf P e).size) lv (H.alloc .tok).2 := by
  obtain ⟨z, hrun, z2, z5, z6, hzl, z7⟩ := run_makeSlice (w := w) ho hu hl hc (Int.le_refl 0) h1 h2 hok hz hb
  refine ok_obj (O := .cells _ e) (c := .slice (some ⟨w.heap.size, 0, none⟩) 0 m.toNat) 0 0 hH hL hN hnx (fun ext => ⟨by simp [Gh.upd], _, row_new e _, by simp [Gh.upd]⟩) hrun ?_
  refine .list (xs := []) _ w.heap.size 0 m.toNat (fun _ => undef) (by simp) (by simp) (by simp) (by simp) (by simp) ?_ ?_
  · rw [(row_new e _).size]; simp [hzl]
  · exact ⟨⟨_, mu_new 0 0⟩, .inr ⟨mu_new 0 0, by simp [Gh.upd]⟩⟩

/-! ### copy -/
theorem copyA_ok (hE : EnvOk P E) (hH : HRel g H w) {T : TypeId} {d s : AVal} {cd cs : Value} {H' : Hp} (hd : VRel g w d cd) (hs : VRel g w s cs) (h : copyA E T H d s = some (r, H')) (ts : List TypeId) (ty : TypeId) :
    ∃ c w', (Builtin.copy_ (T :: ts).toArray ty #[cd, cs]).run P w = .ok c w' ∧ Step w.heap.size g H w g H' w' ∧ VRel g w' r c := by
  unfold copyA at h
  rw [hE.ty] at h
  split at h
  · rename_i e hu
    have hd0 := ud_slice hu
    split at h
    · rename_i ys dl hel hdl
      rw [hE.ty] at h
      split at h
      · rename_i hoz
        obtain ⟨hok, hz⟩ := hoz
        obtain ⟨z, z1, z2, z3, z4, z5, z6, z7⟩ := run_zero (P := P) hz g w
        obtain ⟨e1, e2, e3⟩ := elems_rel hE hH hok z7 hs hel
        obtain ⟨l, l1, l2⟩ := e3 (min ys.length dl) (Nat.min_le_left _ _)
        have l1 := l1 w rfl
        have hdst : ∃ base cap, cd = .slice base dl cap := by
          cases hd <;> simp [dstLen] at hdl <;> subst hdl <;> exact ⟨_, _, rfl⟩
        obtain ⟨base, cap, rfl⟩ := hdst
        simp only [] at h
        split at h
        · rename_i hn
          injection h with h
          injection h with h h'
          subst h h'
          rw [hn] at l1 l2
          have hl0 : l.toList = [] := by have := l2.len; simp [flat] at this; simpa using this.symm
          refine ⟨.int .i64 0, w, ?_, .refl hH, .int _ _⟩
          cases base <;> simp [Builtin.copy_, run_underlying hd0, e1, run_sizeOf' hok, hn, l1, hl0, storeCells, goInt]
        · rename_i hn
          split at h
          · rename_i id off len sz
            split at h
            · rename_i c0 hc0
              split at h
              · rename_i hsz
                split at h
                · rename_i cs' hset
                  injection h with h
                  injection h with h h'
                  subst h h'
                  have hfl : ∀ y ∈ ys.take (min ys.length dl), Fit (tyOf P e).size y := fun y hy => e2 y (List.mem_of_mem_take hy)
                  have key : ∀ b, g.mu id = some b → base = some ⟨b, off, none⟩ → ∃ c w', (Builtin.copy_ (T :: ts).toArray ty #[.slice base dl cap, cs]).run P w = .ok c w' ∧ Step w.heap.size g H w g (H.set id (.cells cs')) w' ∧ VRel g w' (.int .i64 (min ys.length dl : Nat)) c := by
                    intro b hb hbase
                    obtain ⟨w', h1, h2, h3, h4⟩ := step_setCells (P := P) (N := w.heap.size) hH hb hc0 l2 (crel_one l2 (flat_one hfl)) (flat_one hfl) hset
                    refine ⟨.int .i64 (min ys.length dl : Nat), w', ?_, h2, .int _ _⟩
                    have h1' : (storeCells ⟨b, off, none⟩ l.toList).run P w = .ok () w' := h1
                    have l1' : (Builtin.firstCells (tyOf P e).size (ys.length.min dl) cs).run P w = .ok l w := l1
                    subst hbase
                    simp [Builtin.copy_, run_underlying hd0, e1, run_sizeOf' hok, l1', h1', goInt]
                  cases hd with
                  | @sl _ b _ _ _ cap hb hcap hrow => exact key b hb rfl
                  | sl0 _ off' _ hb =>
                    simp at hn
                · cases h
              · cases h
            · cases h
          · cases h
      · cases h
    · cases h
  · cases h

theorem op_copy (hE : EnvOk P E) {c : Call} {d s : Operand} {T : TypeId} {ts : List TypeId} {H' : Hp} (ho : o.op = .call c) (hc : c.callee = .builtin .copy) (ha : c.args.toList = [d, s]) (ht : c.argTypes.toList = T :: ts)
    (hH : HRel g H w) (hL : LvRel N g p H w lv) (hN : N ≤ w.heap.size) (hd : TRel g w p (ev d) (ρ d)) (hs : TRel g w p (ev s) (ρ s)) (h1 : (ev d).handed = true) (h2 : (ev s).handed = true)
    (h : copyA E T H (ev d) (ev s) = some (r, H')) : OpOk P N g p H w lv o ev ρ r lv H' := by
  obtain ⟨cv, w', h1, h2, h3⟩ := copyA_ok hE hH (hd.handed h1) (hs.handed h2) h ts o.type
  refine ⟨_, cv, w', g, p, ?_, .inl rfl, h2.weaken hN, hL.step h2, .of h3, fun _ _ => rfl, fun _ _ _ => rfl, Nat.le_refl _⟩
  rw [exec_builtin ho hc]
  show (do pure (Next.value (← Builtin.copy_ _ _ _))).run P w = _
  rw [arr_of_toList ht]
  have e1 : c.args.map ρ = #[ρ d, ρ s] := by
    apply Array.ext'; simp [ha]
  rw [e1]
  simp [h1]

/-! ### an object that is not a row -/
theorem run_getObj' {b : Nat} {O : Obj} (h : w.heap[b]? = some O) (hO : ∀ c e f, O ≠ .cells c e f) : (getObj b).run P w = .ok O w := by
  simp only [getObj, Sem.run, h]
theorem run_setObj' {b : Nat} {O : Obj} (O' : Obj) (h : w.heap[b]? = some O) (hO : ∀ c e f, O ≠ .cells c e f) : (setObj b O').run P w = .ok () { w with heap := w.heap.setIfInBounds b O' } := by
  simp only [setObj, Sem.run, h]

theorem heap_set_ne {b : Nat} {O : Obj} : ∀ c, c ≠ b → ({ w with heap := w.heap.setIfInBounds b O } : World).heap[c]? = w.heap[c]? := by
  intro c hc
  show (w.heap.setIfInBounds b O)[c]? = _
  rw [Array.getElem?_setIfInBounds, if_neg (Ne.symm hc)]

theorem heap_set_eq {b : Nat} {O : Obj} (hb : b < w.heap.size) : ({ w with heap := w.heap.setIfInBounds b O } : World).heap[b]? = some O := by
  show (w.heap.setIfInBounds b O)[b]? = _
  rw [Array.getElem?_setIfInBounds, if_pos rfl, if_pos hb]

theorem step_setObj (hH : HRel g H w) {id b : Nat} {O : Obj} {a : AObj} (hb : g.mu id = some b) (al : Alive H id) (al' : a ≠ .dead) (hl : g.lim b = 0) (hs : sizeAt w b = 0) (hnc : ∀ c t fr, w.heap[b]? ≠ some (.cells c t fr))
    (hO : Ext g w g { w with heap := w.heap.setIfInBounds b O } → ORel g { w with heap := w.heap.setIfInBounds b O } id b a) :
    Step N g H w g (H.set id a) { w with heap := w.heap.setIfInBounds b O } :=
  Step.write hH hb al al' hl (by simp) heap_set_ne (by rw [hs]; exact Nat.zero_le _) (.setObj hnc) hO

/-! ### range over a string -/
theorem op_range {T : TypeId} {x : Operand} {s : ByteArray} (ho : o.op = .range T x) (hu : (tyOf P T).u = .str) (hx : TRel g w p (.str s) (ρ x)) (hH : HRel g H w) (hL : LvRel N g p H w lv) (hN : N ≤ w.heap.size) (hm : H.next < maxTmp) :
    OpOk P N g p H w lv o ev ρ (.iter H.next) lv (H.alloc (.siter s 0)).2 := by
  have hd := ud_str hu
  have e := trel_str hx
  refine ok_obj (O := .stringIter s 0) (c := .pointer (some ⟨w.heap.size, 0, none⟩)) 0 0 hH hL hN hm (fun ext => ⟨lim_upd 0 0, heap_alloc_new' w _⟩) ?_ (.iter (mu_new 0 0))
  simp [execOp, ho, Instr.range, run_underlying hd, e]

theorem op_next_more {it : Operand} {id pos : Nat} {s : ByteArray} (ho : o.op = .next it true) (hx : TRel g w p (.iter id) (ρ it)) (hH : HRel g H w) (hL : LvRel N g p H w lv) (hN : N ≤ w.heap.size)
    (hg : H.get id = .siter s pos) (hp : pos < s.size) :
    OpOk P N g p H w lv o ev ρ (.tuple [.bool true, .int .i64 pos, .int .i32 (Utf8.decode s pos).1]) lv (H.set id (.siter s (pos + (Utf8.decode s pos).2))) := by
  have hv : VRel g w (.iter id) (ρ it) := hx
  generalize hc : ρ it = c at hv
  cases hv with
  | @iter _ b hb =>
    have ob := hH.obj id b hb
    rw [hg] at ob
    obtain ⟨hl, hh⟩ := ob
    have hst := step_setObj (N := w.heap.size) (O := .stringIter s (pos + (Utf8.decode s pos).2)) (a := .siter s (pos + (Utf8.decode s pos).2)) hH hb (by unfold Alive; rw [hg]; simp) (by simp) hl (by simp [sizeAt, hh]) (by intro c t fr; rw [hh]; simp)
      (fun _ => ⟨hl, heap_set_eq (hH.lt id b hb).2.2⟩)
    refine ⟨_, .tuple #[.bool true, goInt pos, .int .i32 (Utf8.decode s pos).1], _, g, p, ?_, .inl rfl, hst.weaken hN, hL.step hst, .of ?_, fun _ _ => rfl, fun _ _ _ => rfl, Nat.le_refl _⟩
    · simp only [execOp, ho, Instr.next, hc, Sem.run_bind, run_getObj' hh (by simp), Result.andThen_ok, if_pos hp, run_setObj' _ hh (by simp), Sem.run_pure]
    · refine .tuple (cs' := [.bool true, goInt pos, .int .i32 (Utf8.decode s pos).1]) rfl ?_
      intro i a c ha hc
      rcases i with _ | _ | _ | i
      · simp at ha hc; subst ha hc; exact .bool _
      · simp at ha hc; subst ha hc; exact .int _ _
      · simp at ha hc; subst ha hc; exact .int _ _
      · simp at ha

theorem op_next_over {it : Operand} {id pos : Nat} {s : ByteArray} (ho : o.op = .next it true) (hx : TRel g w p (.iter id) (ρ it)) (hH : HRel g H w) (hL : LvRel N g p H w lv)
    (hg : H.get id = .siter s pos) (hp : ¬ pos < s.size) : OpOk P N g p H w lv o ev ρ (.tuple [.bool false]) lv H := by
  have hv : VRel g w (.iter id) (ρ it) := hx
  generalize hc : ρ it = c at hv
  cases hv with
  | @iter _ b hb =>
    have ob := hH.obj id b hb
    rw [hg] at ob
    obtain ⟨hl, hh⟩ := ob
    refine ok_pure (c := .tuple #[.bool false]) hH hL ?_ ?_
    · simp only [execOp, ho, Instr.next, hc, Sem.run_bind, run_getObj' hh (by simp), Result.andThen_ok, if_neg hp, Sem.run_pure]
    · refine .tuple (cs' := [.bool false]) rfl ?_
      intro i a c ha hc
      rcases i with _ | i
      · simp at ha hc; subst ha hc; exact .bool _
      · simp at ha

/-! ### clear -/
theorem op_clear_map (hE : EnvOk P E) {c : Call} {x : Operand} {T k e kt : TypeId} {ts : List TypeId} {id : Nat} {es : List (AVal × AVal)} (ho : o.op = .call c) (hc : c.callee = .builtin .clear) (ha : c.args.toList = [x]) (ht : c.argTypes.toList = T :: ts)
    (hu : (tyOf P T).u = .map k e) (hx : TRel g w p (.map id) (ρ x)) (hg : H.get id = .map kt es) (hH : HRel g H w) (hL : LvRel N g p H w lv) (hN : N ≤ w.heap.size) :
    OpOk P N g p H w lv o ev ρ (.tuple []) lv (H.set id (.map kt [])) := by
  have hd := ud_map hu
  have hv : VRel g w (.map id) (ρ x) := hx
  generalize hc' : ρ x = cx at hv
  cases hv with
  | @map _ b hb =>
    have ob := hH.obj id b hb
    rw [hg] at ob
    obtain ⟨hl, ents, clock, hh, _⟩ := ob
    have hst := step_setObj (N := w.heap.size) (O := .map #[] clock) (a := .map kt []) hH hb (by unfold Alive; rw [hg]; simp) (by simp) hl (by simp [sizeAt, hh]) (by intro c t fr; rw [hh]; simp)
      (fun _ => ⟨hl, #[], clock, heap_set_eq (hH.lt id b hb).2.2, rfl, by simp, .empty _, by simp⟩)
    refine ⟨_, .tuple #[], _, g, p, ?_, .inl rfl, hst.weaken hN, hL.step hst, .of (.tuple (cs' := []) rfl (by simp)), fun _ _ => rfl, fun _ _ _ => rfl, Nat.le_refl _⟩
    rw [exec_builtin ho hc]
    show (do pure (Next.value (← Builtin.clear_ _ _ _))).run P w = _
    rw [arr_of_toList ht]
    have e1 : c.args.map ρ = #[.map (some b)] := by
      apply Array.ext'; simp [ha, hc']
    rw [e1]
    simp [Builtin.clear_, run_underlying hd, run_getObj' hh (by simp), run_setObj' _ hh (by simp)]

theorem op_clear_nil (hE : EnvOk P E) {c : Call} {x : Operand} {T : TypeId} {ts : List TypeId} (ho : o.op = .call c) (hc : c.callee = .builtin .clear) (ha : c.args.toList = [x]) (ht : c.argTypes.toList = T :: ts)
    (hok : (tyOf P T).ok = true) (hx : TRel g w p .nilslice (ρ x)) (hH : HRel g H w) (hL : LvRel N g p H w lv) :
    OpOk P N g p H w lv o ev ρ (.tuple []) lv H := by
  have hv : VRel g w .nilslice (ρ x) := hx
  generalize hc' : ρ x = cx at hv
  cases hv
  obtain ⟨i, d, hi, hd⟩ := tyOf_ok hok
  refine ok_pure (c := .tuple #[]) hH hL ?_ (.tuple (cs' := []) rfl (by simp))
  rw [exec_builtin ho hc]
  show (do pure (Next.value (← Builtin.clear_ _ _ _))).run P w = _
  rw [arr_of_toList ht]
  have e1 : c.args.map ρ = #[.slice none 0 0] := by
    apply Array.ext'; simp [ha, hc']
  rw [e1]
  cases d <;> simp [Builtin.clear_, run_underlying hd]

theorem op_clear_sl (hE : EnvOk P E) {c : Call} {x : Operand} {T e : TypeId} {ts : List TypeId} {id off len sz : Nat} {cs cs' : List AVal} (ho : o.op = .call c) (hc : c.callee = .builtin .clear) (ha : c.args.toList = [x]) (ht : c.argTypes.toList = T :: ts)
    (hu : (tyOf P T).u = .slice e) (hx : TRel g w p (.sl id off len sz) (ρ x)) (hg : H.get id = .cells cs) (hH : HRel g H w) (hL : LvRel N g p H w lv) (hN : N ≤ w.heap.size)
    (hok : (tyOf P e).ok = true) (hz : (tyOf P e).zok = true) (hset : setCells off (repl len (tyOf P e).zero) cs = some cs') :
    OpOk P N g p H w lv o ev ρ (.tuple []) lv (H.set id (.cells cs')) := by
  have hd := ud_slice hu
  obtain ⟨z, z1, z2, z3, z4, z5, z6, z7⟩ := run_zero (P := P) hz g w
  have hcr := crel_repl z2 (by omega) len
  have hv : VRel g w (.sl id off len sz) (ρ x) := hx
  have hrun : ∀ cx w', ρ x = cx → (Builtin.clear_ c.argTypes o.type #[cx]).run P w = .ok (.tuple #[]) w' → (execOp ρ o).run P w = .ok (.value (.tuple #[])) w' := by
    intro cx w' hcx h
    rw [exec_builtin ho hc]
    show (do pure (Next.value (← Builtin.clear_ _ _ _))).run P w = _
    have e1 : c.args.map ρ = #[cx] := by
      apply Array.ext'; simp [ha, hcx]
    rw [e1]
    simp [h]
  rw [arr_of_toList ht] at hrun
  have fin : ∀ w', (execOp ρ o).run P w = .ok (.value (.tuple #[])) w' → Step w.heap.size g H w g (H.set id (.cells cs')) w' → OpOk P N g p H w lv o ev ρ (.tuple []) lv (H.set id (.cells cs')) := fun w' h1 hst =>
    ⟨_, .tuple #[], w', g, p, h1, .inl rfl, hst.weaken hN, hL.step hst, .of (.tuple (cs' := []) rfl (by simp)), fun _ _ => rfl, fun _ _ _ => rfl, Nat.le_refl _⟩
  have same : ∀ b, g.mu id = some b → len = 0 → Step w.heap.size g H w g (H.set id (.cells cs')) w := by
    intro b hb h0
    subst h0
    simp [repl, setCells] at hset
    subst hset
    have ob := hH.obj id b hb
    rw [hg] at ob
    exact Step.write hH hb (by unfold Alive; rw [hg]; simp) (by simp) ob.1 rfl (fun _ _ => rfl) (Nat.le_refl _) (.refl _) (fun _ => ob)
  generalize hcx : ρ x = cx at hv
  cases hv with
  | @sl _ b _ _ _ cap hb hcap hrow =>
    cases len with
    | zero =>
      refine fin w (hrun _ _ hcx ?_) (same b hb rfl)
      simp [Builtin.clear_, run_underlying hd]
    | succ len =>
      obtain ⟨w', h1, h2, h3, h4⟩ := step_setCells (P := P) (N := w.heap.size) hH hb hg hcr (crel_one hcr (repl_one z5 _)) (repl_one z5 _) hset
      refine fin w' (hrun _ _ hcx ?_) h2
      have h1' : (storeCells ⟨b, off, none⟩ (Builtin.zeroCells z.cells (len + 1)).toList).run P w = .ok () w' := h1
      simp [Builtin.clear_, run_underlying hd, z1, h1']
  | @sl0 _ b b' _ off' _ hb =>
    refine fin w (hrun _ _ hcx ?_) (same b hb rfl)
    simp [Builtin.clear_, run_underlying hd]

end
end Go.Rs
end
/- Maps. -/
section
namespace Go.Rs

/-- what a map's code needs of its keys -/
structure KeyL (P : Program) (kt : TypeId) (G : Value → Prop) : Prop where
  check : ∀ (w : World) (em : Bool) (v : Value), G v → (Instr.checkKey em 10000 kt v).run P w = .ok () w
  find : ∀ (w : World) (x : Value), G x → ∀ es : List MapEntry, (∀ e ∈ es, G e.key) →
    ((Instr.findKey kt x es).run P w = .ok none w ∧ ∀ e ∈ es, e.key ≠ x) ∨ ∃ j e, (Instr.findKey kt x es).run P w = .ok (some (j, e.val)) w ∧ es[j]? = some e ∧ e.key = x
  stays : ∀ (w : World) (v : Value), G v → (Instr.keyThatStays v v).run P w = .ok v w

/-- keys that fit are keys -/
def KOk (P : Program) (E : Env) (g : Gh) : Prop :=
  ∀ kt a, E.keyFit kt a = true → keyShape a = true ∧ KeyL P kt (g.kp kt) ∧ g.kp kt (concOf a)

section
variable {P : Program} {E : Env} {N : Nat} {g : Gh} {p : Nat → Option Nat} {H : Hp} {w : World} {lv : Lv} {o : Oper} {ev : Operand → AVal} {ρ : Operand → Value} {r : AVal}

theorem KOk.ext {g' : Gh} {w' : World} (h : KOk P E g) (e : Ext g w g' w') : KOk P E g' := by
  intro kt a ha; rw [e.kp]; exact h kt a ha

theorem concKey_eq {a b : AVal} {r : Bool} (ha : baseKey a = true) (hb : baseKey b = true) (h : eqA a b = some r) : r = true ↔ concKey a = concKey b := by
  cases a <;> simp [baseKey] at ha <;> cases b <;> simp [baseKey] at hb <;> simp [eqA] at h
  · subst h; simp [concKey]
  · obtain ⟨rfl, h⟩ := h
    subst h; simp [concKey]
  · subst h
    simp [concKey]
    constructor
    · intro h; exact ByteArray.ext (Array.ext' (by simpa using h))
    · rintro rfl; simp

theorem eqAs_conc : ∀ (as bs : List AVal) (r : Bool), as.all baseKey = true → bs.all baseKey = true → eqAs as bs = some r → (r = true ↔ as.map concKey = bs.map concKey)
  | [], [], r, _, _, h => by simp [eqAs] at h; simp [← h]
  | a :: as, b :: bs, r, ha, hb, h => by
    simp only [List.all_cons, Bool.and_eq_true] at ha hb
    unfold eqAs at h
    split at h
    · rename_i he
      have h1 := (concKey_eq ha.1 hb.1 he).1 rfl
      have h2 := eqAs_conc as bs r ha.2 hb.2 h
      rw [h2]; simp [h1]
    · rename_i he
      injection h with h
      subst h
      have h1 : concKey a ≠ concKey b := fun e => by have := (concKey_eq ha.1 hb.1 he).2 e; cases this
      simp [h1]
    · cases h
  | [], _ :: _, _, _, _, h => by simp [eqAs] at h
  | _ :: _, [], _, _, _, h => by simp [eqAs] at h

theorem eqA_conc {a b : AVal} {r : Bool} (ha : keyShape a = true) (hb : keyShape b = true) (h : eqA a b = some r) : r = true ↔ concOf a = concOf b := by
  by_cases h1 : ∃ as, a = .agg as
  · obtain ⟨as, rfl⟩ := h1
    by_cases h2 : ∃ bs, b = .agg bs
    · obtain ⟨bs, rfl⟩ := h2
      have h : eqAs as bs = some r := by simpa [eqA] using h
      rw [eqAs_conc as bs r ha hb h]
      simp [concOf]
    · cases b <;> simp [eqA] at h
      exact absurd ⟨_, rfl⟩ h2
  · have ha' : baseKey a = true := by cases a <;> first | exact absurd ⟨_, rfl⟩ h1 | exact ha
    have ca : concOf a = concKey a := by cases a <;> first | exact absurd ⟨_, rfl⟩ h1 | rfl
    by_cases h2 : ∃ bs, b = .agg bs
    · obtain ⟨bs, rfl⟩ := h2
      cases a <;> simp [eqA] at h
      exact absurd ⟨_, rfl⟩ h1
    · have hb' : baseKey b = true := by cases b <;> first | exact absurd ⟨_, rfl⟩ h2 | exact hb
      have cb : concOf b = concKey b := by cases b <;> first | exact absurd ⟨_, rfl⟩ h2 | rfl
      rw [ca, cb]
      exact concKey_eq ha' hb' h

/-- what is found -/
theorem findE_spec {k : AVal} (hk : keyShape k = true) : ∀ (es : List (AVal × AVal)) (r : Option AVal), (∀ x ∈ es, keyShape x.1 = true) → findE k es = some r →
    (r = none ∧ ∀ x ∈ es, concOf x.1 ≠ concOf k) ∨ ∃ (i : Nat) (k' v : AVal), r = some v ∧ es[i]? = some (k', v) ∧ concOf k' = concOf k
  | [], r, _, h => by simp [findE] at h; subst h; exact .inl ⟨rfl, by simp⟩
  | (k', v) :: es, r, hs, h => by
    unfold findE at h
    split at h
    · rename_i he
      injection h with h
      subst h
      exact .inr ⟨0, k', v, rfl, rfl, ((eqA_conc hk (hs (k', v) (by simp)) he).1 rfl).symm⟩
    · rename_i he
      have hne : concOf k' ≠ concOf k := fun e => by have := (eqA_conc hk (hs (k', v) (by simp)) he).2 e.symm; cases this
      rcases findE_spec hk es r (fun x hx => hs x (by simp [hx])) h with ⟨h1, h2⟩ | ⟨i, k2, v2, h1, h2, h3⟩
      · refine .inl ⟨h1, fun x hx => ?_⟩
        rcases List.mem_cons.1 hx with rfl | hx
        · exact hne
        · exact h2 x hx
      · exact .inr ⟨i + 1, k2, v2, h1, h2, h3⟩
    · cases h

theorem updE_spec {k v : AVal} (hk : keyShape k = true) : ∀ (es es' : List (AVal × AVal)), (∀ x ∈ es, keyShape x.1 = true) → updE k v es = some es' →
    (es' = es ++ [(k, v)] ∧ ∀ x ∈ es, concOf x.1 ≠ concOf k) ∨ ∃ (i : Nat) (k' v' : AVal), es[i]? = some (k', v') ∧ concOf k' = concOf k ∧ es' = es.set i (k', v)
  | [], es', _, h => by simp [updE] at h; subst h; exact .inl ⟨rfl, by simp⟩
  | (k', v') :: es, es', hs, h => by
    unfold updE at h
    split at h
    · rename_i he
      injection h with h
      subst h
      exact .inr ⟨0, k', v', rfl, ((eqA_conc hk (hs (k', v') (by simp)) he).1 rfl).symm, rfl⟩
    · rename_i he
      have hne : concOf k' ≠ concOf k := fun e => by have := (eqA_conc hk (hs (k', v') (by simp)) he).2 e.symm; cases this
      cases hu : updE k v es with
      | none => rw [hu] at h; cases h
      | some es2 =>
        rw [hu] at h
        injection h with h
        subst h
        rcases updE_spec hk es es2 (fun x hx => hs x (by simp [hx])) hu with ⟨h1, h2⟩ | ⟨i, k2, v2, h1, h2, h3⟩
        · refine .inl ⟨by rw [h1]; rfl, fun x hx => ?_⟩
          rcases List.mem_cons.1 hx with rfl | hx
          · exact hne
          · exact h2 x hx
        · exact .inr ⟨i + 1, k2, v2, h1, h2, by rw [h3]; rfl⟩
    · cases h

theorem conc_rel {a : AVal} {c : Value} (h : VRel g w a c) (hs : keyShape a = true) : c = concOf a := by
  have base : ∀ {a : AVal} {c : Value}, VRel g w a c → baseKey a = true → c = concKey a := by
    intro a c h hs
    cases h <;> simp [baseKey] at hs <;> rfl
  cases h <;> first | (simp [keyShape, baseKey] at hs; done) | rfl | skip
  rename_i cs cs' h1 hc
  show Value.agg cs'.toArray = .agg (cs.map concKey).toArray
  congr 2
  apply List.ext_getElem?
  intro i
  cases ha : cs[i]? with
  | none =>
    have : cs.length ≤ i := by simpa using ha
    rw [List.getElem?_eq_none (by omega), List.getElem?_eq_none (by simp; omega)]
  | some a =>
    have hi : i < cs.length := (List.getElem?_eq_some_iff.1 ha).1
    have hc' : cs'[i]? = some cs'[i] := List.getElem?_eq_getElem (by omega)
    rw [hc', List.getElem?_map, ha]
    exact congrArg some (base (hc i a _ ha hc') (by simpa using List.all_eq_true.1 hs a (List.mem_of_getElem? ha)))

theorem keyShape_lptr {a : AVal} (h : keyShape a = true) : ∀ t off, a ≠ .lptr t off := by
  rintro t off rfl; simp [keyShape, baseKey] at h

/-- the entries of a map that stands for a list -/
theorem find_ents {kt : TypeId} (K : KeyL P kt (g.kp kt)) {k : AVal} (hks : keyShape k = true) (hkp : g.kp kt (concOf k)) {es : List (AVal × AVal)} {ents : Array MapEntry} (hlen : es.length = ents.size) (hg : ∀ e ∈ ents, g.kp kt e.key)
    (hall : ∀ (i : Nat) k v e, es[i]? = some (k, v) → ents[i]? = some e → keyShape k = true ∧ e.key = concOf k ∧ VRel g w v e.val) (w' : World) :
    ((Instr.findKey kt (concOf k) ents.toList).run P w' = .ok none w' ∧ ∀ x ∈ es, concOf x.1 ≠ concOf k) ∨
    ∃ j e, (Instr.findKey kt (concOf k) ents.toList).run P w' = .ok (some (j, e.val)) w' ∧ ents[j]? = some e ∧ e.key = concOf k := by
  rcases K.find w' _ hkp ents.toList (fun e he => hg e (by simpa using he)) with ⟨h1, h2⟩ | ⟨j, e, h1, h2, h3⟩
  · refine .inl ⟨h1, fun x hx he => ?_⟩
    obtain ⟨i, hi⟩ := List.getElem?_of_mem hx
    have hlt : i < ents.size := by have := (List.getElem?_eq_some_iff.1 hi).1; omega
    have he' : ents[i]? = some ents[i] := Array.getElem?_eq_getElem hlt
    have := hall i x.1 x.2 _ hi he'
    exact h2 ents[i] (by simp) (this.2.1.trans he)
  · exact .inr ⟨j, e, h1, by simpa using h2, h3⟩

theorem run_lookup (hE : EnvOk P E) (hK : KOk P E g) {T kt e : TypeId} {m k : Operand} {ok : Bool} (ho : o.op = .lookup T m k ok) (hH : HRel g H w) (hu : (tyOf P T).u = .map kt e)
    (hz : (tyOf P e).zok = true) (hm : TRel g w p (ev m) (ρ m)) (hk : TRel g w p (ev k) (ρ k)) (hkf : E.keyFit kt (ev k) = true) {f : Option AVal}
    (hf : foundA H kt (ev m) (ev k) = some f) :
    ∃ c, (execOp ρ o).run P w = .ok (.value (if ok then .tuple #[c, .bool f.isSome] else c)) w ∧ VRel g w (f.getD (tyOf P e).zv) c := by
  have hd := ud_map hu
  obtain ⟨hks, K, hkp⟩ := hK kt _ hkf
  have hkc : ρ k = concOf (ev k) := conc_rel (hk.val (keyShape_lptr hks)) hks
  obtain ⟨z, z1, z2⟩ := run_zv (P := P) hz g w
  unfold foundA at hf
  split at hf
  · rename_i hem
    injection hf with hf
    subst hf
    rw [hem] at hm
    have hv : VRel g w .nilmap (ρ m) := hm
    generalize hc : ρ m = cm at hv
    cases hv
    refine ⟨z, ?_, z2⟩
    have hfind : (Instr.findKey kt (concOf (ev k)) []).run P w = .ok none w := by
      rcases K.find w _ hkp [] (by simp) with ⟨h1, _⟩ | ⟨j, e, _, h2, _⟩
      · exact h1
      · simp at h2
    cases ok <;> simp [execOp, ho, Instr.lookup, run_underlying hd, hc, hkc, K.check w _ _ hkp, hfind, z1]
  · rename_i id hem
    rw [hem] at hm
    have hv : VRel g w (.map id) (ρ m) := hm
    generalize hc : ρ m = cm at hv
    cases hv with
    | @map _ b hb =>
      split at hf
      · rename_i kt' es hg
        split at hf
        · rename_i hkt
          subst hkt
          have ob := hH.obj id b hb
          rw [hg] at ob
          obtain ⟨hl, ents, clock, hh, hlen, hgood, hdis, hall⟩ := ob
          have hshape : ∀ x ∈ es, keyShape x.1 = true := fun x hx => by
            obtain ⟨i, hi⟩ := List.getElem?_of_mem hx
            have hlt : i < ents.size := by have := (List.getElem?_eq_some_iff.1 hi).1; omega
            exact (hall i x.1 x.2 _ hi (Array.getElem?_eq_getElem hlt)).1
          have hF := find_ents K hks hkp hlen hgood hall w
          have hfe := findE_spec hks es f hshape hf
          have hget := run_getObj' (P := P) hh (by simp)
          rcases hF with ⟨h1, h2⟩ | ⟨j, en, h1, h2, h3⟩
          · rcases hfe with ⟨rfl, _⟩ | ⟨i, k', v, _, hi, hkk⟩
            · refine ⟨z, ?_, z2⟩
              cases ok <;> simp [execOp, ho, Instr.lookup, run_underlying hd, hc, hkc, hget, K.check w _ _ hkp, h1, z1]
            · exact absurd hkk (h2 (k', v) (List.mem_of_getElem? hi))
          · have hj : j < es.length := by have := (Array.getElem?_eq_some_iff.1 h2).1; omega
            have hej : es[j]? = some es[j] := List.getElem?_eq_getElem hj
            have hrj := hall j es[j].1 es[j].2 en hej h2
            rcases hfe with ⟨rfl, hno⟩ | ⟨i, k', v, rfl, hi, hkk⟩
            · exact absurd (hrj.2.1.symm.trans h3) (hno _ (List.getElem_mem hj))
            · have hlt : i < ents.size := by have := (List.getElem?_eq_some_iff.1 hi).1; omega
              have hri := hall i k' v _ hi (Array.getElem?_eq_getElem hlt)
              have hij : i = j := hdis.key i j _ en (Array.getElem?_eq_getElem hlt) h2 (by rw [hri.2.1, hkk, h3])
              subst hij
              have he : ents[i] = en := by rw [Array.getElem?_eq_getElem hlt] at h2; exact Option.some.inj h2
              refine ⟨en.val, ?_, by rw [← he]; exact hri.2.2⟩
              cases ok <;> simp [execOp, ho, Instr.lookup, run_underlying hd, hc, hkc, hget, K.check w _ _ hkp, h1]
        · cases hf
      · cases hf
  · cases hf

theorem op_lookup (hE : EnvOk P E) (hK : KOk P E g) {T kt e : TypeId} {m k : Operand} {ok : Bool} (ho : o.op = .lookup T m k ok) (hH : HRel g H w) (hL : LvRel N g p H w lv) (hu : (tyOf P T).u = .map kt e)
    (hz : (tyOf P e).zok = true) (hm : TRel g w p (ev m) (ρ m)) (hk : TRel g w p (ev k) (ρ k)) (hkf : E.keyFit kt (ev k) = true) {f : Option AVal}
    (hf : foundA H kt (ev m) (ev k) = some f) :
    OpOk P N g p H w lv o ev ρ (if ok then .tuple [f.getD (tyOf P e).zv, .bool f.isSome] else f.getD (tyOf P e).zv) lv H := by
  obtain ⟨c, h1, h2⟩ := run_lookup hE hK ho hH hu hz hm hk hkf hf
  refine ok_pure hH hL h1 ?_
  cases ok
  · exact h2
  · refine .tuple (cs' := [c, .bool f.isSome]) rfl ?_
    intro i a c' ha hc
    rcases i with _ | _ | i
    · simp at ha hc; subst ha hc; exact h2
    · simp at ha hc; subst ha hc; exact .bool _
    · simp at ha

theorem op_mapUpdate (hE : EnvOk P E) (hK : KOk P E g) {T kt e : TypeId} {m k x : Operand} {id : Nat} {es es' : List (AVal × AVal)} (ho : o.op = .mapUpdate T m k x ∨ o.op = .insert T m k x) (hH : HRel g H w) (hL : LvRel N g p H w lv) (hN : N ≤ w.heap.size)
    (hu : (tyOf P T).u = .map kt e) (hm : TRel g w p (.map id) (ρ m)) (hk : TRel g w p (ev k) (ρ k)) (hx : TRel g w p (ev x) (ρ x)) (hkf : E.keyFit kt (ev k) = true) (hxh : (ev x).handed = true)
    (hg : H.get id = .map kt es) (hf : updE (ev k) (ev x) es = some es') :
    OpOk P N g p H w lv o ev ρ .undef lv (H.set id (.map kt es')) := by
  have hd := ud_map hu
  obtain ⟨hks, K, hkp⟩ := hK kt _ hkf
  have hkc : ρ k = concOf (ev k) := conc_rel (hk.val (keyShape_lptr hks)) hks
  have hvx := hx.handed hxh
  have hv : VRel g w (.map id) (ρ m) := hm
  generalize hc : ρ m = cm at hv
  cases hv with
  | @map _ b hb =>
    have ob := hH.obj id b hb
    rw [hg] at ob
    obtain ⟨hl, ents, clock, hh, hlen, hgood, hdis, hall⟩ := ob
    have hshape : ∀ x ∈ es, keyShape x.1 = true := fun x hx => by
      obtain ⟨i, hi⟩ := List.getElem?_of_mem hx
      have hlt : i < ents.size := by have := (List.getElem?_eq_some_iff.1 hi).1; omega
      exact (hall i x.1 x.2 _ hi (Array.getElem?_eq_getElem hlt)).1
    have hF := find_ents K hks hkp hlen hgood hall w
    have hfe := updE_spec hks es es' hshape hf
    have hget := run_getObj' (P := P) hh (by simp)
    have fin : ∀ ents' clock', (Instr.mapUpdate T (.map (some b)) (concOf (ev k)) (ρ x)).run P w = .ok () { w with heap := w.heap.setIfInBounds b (.map ents' clock') } →
        (Ext g w g { w with heap := w.heap.setIfInBounds b (.map ents' clock') } → ORel g { w with heap := w.heap.setIfInBounds b (.map ents' clock') } id b (.map kt es')) →
        OpOk P N g p H w lv o ev ρ .undef lv (H.set id (.map kt es')) := by
      intro ents' clock' h1 h2
      have hst := step_setObj (N := w.heap.size) (O := .map ents' clock') (a := .map kt es') hH hb (by unfold Alive; rw [hg]; simp) (by simp) hl (by simp [sizeAt, hh]) (by intro c t fr; rw [hh]; simp) h2
      refine ⟨.skip, undef, _, g, p, ?_, .inr ⟨rfl, rfl⟩, hst.weaken hN, hL.step hst, .of (.undef _), fun _ _ => rfl, fun _ _ _ => rfl, Nat.le_refl _⟩
      rcases ho with ho | ho <;> simp [execOp, ho, hc, hkc, h1]
    rcases hF with ⟨h1, h2⟩ | ⟨j, en, h1, h2, h3⟩
    · rcases hfe with ⟨rfl, hno⟩ | ⟨i, k', v, hi, hkk, _⟩
      · refine fin (ents.push { key := concOf (ev k), val := ρ x, born := clock }) (clock + 1) ?_ (fun ext => ⟨hl, _, _, heap_set_eq (hH.lt id b hb).2.2, by simp [hlen], ?_, ?_, ?_⟩)
        · simp [Instr.mapUpdate, run_underlying hd, hget, K.check w _ _ hkp, h1, run_setObj' _ hh (by simp)]
        · intro e he
          rcases Array.mem_push.1 he with he | rfl
          · exact hgood e he
          · exact hkp
        · refine ⟨?_, ?_, ?_⟩
          · intro i j e e' hi hj hee
            rw [Array.getElem?_push] at hi hj
            split at hi <;> split at hj
            · omega
            · rename_i a d
              injection hi with hi
              subst hi
              have hlt : j < es.length := by have := (Array.getElem?_eq_some_iff.1 hj).1; omega
              have := hall j es[j].1 es[j].2 e' (List.getElem?_eq_getElem hlt) hj
              exact absurd (this.2.1.symm.trans hee.symm) (hno _ (List.getElem_mem hlt))
            · rename_i a d
              injection hj with hj
              subst hj
              have hlt : i < es.length := by have := (Array.getElem?_eq_some_iff.1 hi).1; omega
              have := hall i es[i].1 es[i].2 e (List.getElem?_eq_getElem hlt) hi
              exact absurd (this.2.1.symm.trans hee) (hno _ (List.getElem_mem hlt))
            · exact hdis.key i j e e' hi hj hee
          · intro i e hi
            rw [Array.getElem?_push] at hi
            split at hi
            · injection hi with hi; subst hi; exact Nat.lt_succ_self _
            · exact Nat.lt_succ_of_lt (hdis.old i e hi)
          · intro i j e e' hi hj hee
            rw [Array.getElem?_push] at hi hj
            split at hi <;> split at hj
            · omega
            · injection hi with hi; subst hi
              have := hdis.old j e' hj
              exact absurd hee (by simp only []; omega)
            · injection hj with hj; subst hj
              have := hdis.old i e hi
              exact absurd hee (by simp only []; omega)
            · exact hdis.born i j e e' hi hj hee
        · intro i k2 v2 e hi he
          rw [Array.getElem?_push] at he
          split at he
          · rename_i hie
            injection he with he
            subst he
            rw [List.getElem?_append_right (by omega), hlen, hie] at hi
            simp at hi
            obtain ⟨rfl, rfl⟩ := hi
            exact ⟨hks, rfl, hvx.mono ext⟩
          · rename_i hie
            have hlt := (Array.getElem?_eq_some_iff.1 he).1
            rw [List.getElem?_append_left (by omega)] at hi
            have := hall i k2 v2 e hi he
            exact ⟨this.1, this.2.1, this.2.2.mono ext⟩
      · exact absurd hkk (h2 (k', v) (List.mem_of_getElem? hi))
    · have hj : j < es.length := by have := (Array.getElem?_eq_some_iff.1 h2).1; omega
      have hej : es[j]? = some es[j] := List.getElem?_eq_getElem hj
      have hrj := hall j es[j].1 es[j].2 en hej h2
      rcases hfe with ⟨rfl, hno⟩ | ⟨i, k', v, hi, hkk, rfl⟩
      · exact absurd (hrj.2.1.symm.trans h3) (hno _ (List.getElem_mem hj))
      · have hlt : i < ents.size := by have := (List.getElem?_eq_some_iff.1 hi).1; omega
        have hri := hall i k' v _ hi (Array.getElem?_eq_getElem hlt)
        have hij : i = j := hdis.key i j _ en (Array.getElem?_eq_getElem hlt) h2 (by rw [hri.2.1, hkk, h3])
        subst hij
        have hget' : ∀ l e, (ents.modify i fun e => { e with key := concOf (ev k), val := ρ x })[l]? = some e → (l = i ∧ e = { en with key := concOf (ev k), val := ρ x }) ∨ (l ≠ i ∧ ents[l]? = some e) := by
          intro l e he
          rw [Array.getElem?_modify] at he
          split at he
          · rename_i hli
            subst hli
            rw [h2] at he
            injection he with he
            exact .inl ⟨rfl, he.symm⟩
          · rename_i hli
            exact .inr ⟨Ne.symm hli, he⟩
        refine fin (ents.modify i fun e => { e with key := concOf (ev k), val := ρ x }) clock ?_ (fun ext => ⟨hl, _, _, heap_set_eq (hH.lt id b hb).2.2, by simp [hlen], ?_, ?_, ?_⟩)
        · simp [Instr.mapUpdate, run_underlying hd, hget, K.check w _ _ hkp, h1, h2, h3, K.stays w _ hkp, run_setObj' _ hh (by simp)]
        · intro e he
          obtain ⟨l, hl'⟩ := Array.getElem?_of_mem he
          rcases hget' l e hl' with ⟨_, rfl⟩ | ⟨_, h⟩
          · exact hkp
          · exact hgood e (Array.mem_of_getElem? h)
        · refine ⟨?_, ?_, ?_⟩
          · intro l1 l2 e e' he he' hee
            rcases hget' l1 e he with ⟨a, rfl⟩ | ⟨a, h⟩ <;> rcases hget' l2 e' he' with ⟨a', rfl⟩ | ⟨a', h'⟩
            · rw [a, a']
            · exact absurd (hdis.key l2 i e' en h' h2 (hee.symm.trans h3.symm)) a'
            · exact absurd (hdis.key l1 i e en h h2 (hee.trans h3.symm)) a
            · exact hdis.key l1 l2 e e' h h' hee
          · intro l e he
            rcases hget' l e he with ⟨a, rfl⟩ | ⟨a, h⟩
            · exact hdis.old i en h2
            · exact hdis.old l e h
          · intro l1 l2 e e' he he' hee
            rcases hget' l1 e he with ⟨a, rfl⟩ | ⟨a, h⟩ <;> rcases hget' l2 e' he' with ⟨a', rfl⟩ | ⟨a', h'⟩
            · rw [a, a']
            · exact absurd (hdis.born l2 i e' en h' h2 hee.symm) a'
            · exact absurd (hdis.born l1 i e en h h2 hee) a
            · exact hdis.born l1 l2 e e' h h' hee
        · intro l k2 v2 e hl' he
          rw [List.getElem?_set] at hl'
          rcases hget' l e he with ⟨a, rfl⟩ | ⟨a, h⟩
          · subst a
            have hll : l < es.length := hj
            simp only [if_true, hll] at hl'
            injection hl' with hl'
            injection hl' with e1 e2
            subst e1 e2
            exact ⟨hri.1, hkk.symm, hvx.mono ext⟩
          · rw [if_neg (Ne.symm a)] at hl'
            have := hall l k2 v2 e hl' h
            exact ⟨this.1, this.2.1, this.2.2.mono ext⟩

end
end Go.Rs
end
/- All operations but calls. -/
section
namespace Go.Rs
section
variable {P : Program} {E : Env} {N : Nat} {g : Gh} {p : Nat → Option Nat} {H : Hp} {w : World} {lv : Lv} {o : Oper} {ev : Operand → AVal} {ρ : Operand → Value} {r : AVal}

theorem op_cap (hE : EnvOk P E) {c : Call} {x : Operand} {T e : TypeId} {ts : List TypeId} {n : Nat} (ho : o.op = .call c) (hc : c.callee = .builtin .cap) (ha : c.args.toList = [x]) (ht : c.argTypes.toList = T :: ts)
    (hH : HRel g H w) (hL : LvRel N g p H w lv) (hx : TRel g w p (ev x) (ρ x)) (hu : (tyOf P T).u = .slice e)
    (h : ev x = .nilslice ∧ n = 0 ∨ ∃ xs sz, ev x = .list xs .full sz ∧ n = xs.length) : OpOk P N g p H w lv o ev ρ (.int .i64 n) lv H := by
  have hd := ud_slice hu
  have hcap : ∃ b l, ρ x = .slice b l n := by
    rcases h with ⟨h, rfl⟩ | ⟨xs, sz, h, rfl⟩
    · rw [h] at hx
      have hv : VRel g w .nilslice (ρ x) := hx
      cases hρ : ρ x <;> rw [hρ] at hv <;> cases hv
      exact ⟨_, _, rfl⟩
    · rw [h] at hx
      have hv : VRel g w (.list xs .full sz) (ρ x) := hx
      generalize ρ x = cx at hv
      cases hv with
      | list _ b o cap f hl hs hc hv hcap hrow htk =>
        have : cap = xs.length := htk
        exact ⟨_, _, by rw [this]⟩
  obtain ⟨b, l, hb⟩ := hcap
  refine ok_pure (c := goInt n) hH hL ?_ (.int _ _)
  rw [exec_builtin ho hc, arr_of_toList ht]
  have e1 : c.args.map ρ = #[.slice b l n] := by
    apply Array.ext'; simp [ha, hb]
  rw [e1]
  show (do pure (Next.value (← Builtin.cap_ _ _ _))).run P w = _
  simp [Builtin.cap_, run_underlying hd]

theorem methOf_spec {t : TypeId} {name : String} {f : FuncId} (h : methOf P t name = some f) :
    ∃ i e m, P.info? t = some i ∧ P.underlying t = some (.pointer e) ∧ i.methods.find? (·.name == name) = some m ∧ m.func = some (f, true) ∧ m.path.isEmpty = true := by
  unfold methOf at h
  split at h
  · rename_i i e hi hu
    split at h
    · rename_i m hm
      split at h
      · rename_i f' hf
        split at h
        · rename_i hp
          injection h with h
          subst h
          exact ⟨i, e, m, hi, hu, hm, hf, hp⟩
        · cases h
      · cases h
    · cases h
  · cases h

theorem run_nilAhead {t : TypeId} {name : String} {f : FuncId} {v : Value} (h : methOf P t name = some f) (n : Nat) : (nilAhead (n + 1) t v name).run P w = .ok (some false) w := by
  obtain ⟨i, e, m, hi, hu, hm, hf, hp⟩ := methOf_spec h
  have hpe : m.path.toList = [] := by simpa using hp
  simp [nilAhead, typeInfo, hi, hm, hpe, followBlind, hf]

theorem op_nilCheck_method {x : Operand} {t : TypeId} {name : String} {f : FuncId} {y : AVal} {a b : List AVal} (ho : o.op = .nilCheck x) (hH : HRel g H w) (hL : LvRel N g p H w lv) (hx : TRel g w p (.func (.method name) (.iface t y :: a) b) (ρ x))
    (hm : methOf P t name = some f) : OpOk P N g p H w lv o ev ρ (.func (.method name) (.iface t y :: a) b) lv H := by
  have hv : VRel g w (.func (.method name) (.iface t y :: a) b) (ρ x) := hx
  refine ok_pure (c := ρ x) hH hL ?_ hv
  generalize hc : ρ x = c at hv
  cases hv with
  | @func _ _ _ fs' cs' h1 h2 hf hcc =>
    cases fs' with
    | nil => simp at h1
    | cons v0 fs' =>
      have h0 := hf 0 _ v0 rfl rfl
      cases h0 with
      | @iface _ _ c0 h0 =>
        have hd : P.types.size + Made.depth = (P.types.size + Made.depth - 1) + 1 := by
          have : 0 < Made.depth := by decide
          omega
        have hn := run_nilAhead (w := w) (v := c0) hm (P.types.size + Made.depth - 1)
        rw [← hd] at hn
        have hp : ∀ w : World, (program).run P w = .ok P w := fun _ => rfl
        simp [execOp, ho, hc, hp, hn]

theorem keepA_some {x : Option AVal} {lv' : Lv} {H' : Hp} (h : keepA lv H x = some (r, lv', H')) : x = some r ∧ lv' = lv ∧ H' = H := by
  cases x with
  | none => cases h
  | some x => simp only [keepA, Option.some.injEq, Prod.mk.injEq] at h; exact ⟨by rw [h.1], h.2.1.symm, h.2.2.symm⟩

theorem newV_some {n : Nat} {H0 : Hp} {k : Nat → AVal} {lv' : Lv} {H' : Hp} (h : newV lv (n, H0) k = some (r, lv', H')) : n < maxTmp ∧ r = k n ∧ lv' = lv ∧ H' = H0 := by
  unfold newV at h
  split at h
  · rename_i hn
    simp only [Option.some.injEq, Prod.mk.injEq] at h; exact ⟨hn, h.1.symm, h.2.1.symm, h.2.2.symm⟩
  · cases h

theorem some3 {a : AVal} {l l' : Lv} {H0 H' : Hp} (h : some (a, l, H0) = some (r, l', H')) : r = a ∧ l' = l ∧ H' = H0 := by
  simp only [Option.some.injEq, Prod.mk.injEq] at h; exact ⟨h.1.symm, h.2.1.symm, h.2.2.symm⟩

variable {md : Bool} {f : FuncId} {lv' : Lv} {H' : Hp}

theorem case_builtin (hE : EnvOk P E) {c : Call} {b : Builtin} (ho : o.op = .call c) (hc : c.callee = .builtin b) (hH : HRel g H w) (hL : LvRel N g p H w lv) (hN : N ≤ w.heap.size)
    (hops : ∀ x ∈ o.op.operands, TRel g w p (ev x) (ρ x)) (h : evalOp E md f o ev lv H = some (r, lv', H')) : OpOk P N g p H w lv o ev ρ r lv' H' := by
  have hargs : ∀ x ∈ c.args.toList, TRel g w p (ev x) (ρ x) := fun x hx => hops x (by rw [ho]; simp [Op.operands, Call.operands, hc]; simpa using hx)
  cases b <;> (simp only [evalOp, opMove, opPick, opAlloc, opBox, opBuild, opBuildSlice, opLoad, opStore, opNilCheck, opBinOp, opUnOp, opConvert, opMakeInterface, opMakeFunc, opMakeMap, opMakeSlice, opSlice, opFieldAddr, opField, opIndexAddr, opIndex, opLookup, opMapUpdate, opRange, opNext, opExtract, opAppendB, opCopyB, opLenB, opCapB, opMaxB, opMinB, opClearB, ho, hc, hE.ty] at h) <;> try (cases h; done)
  case append =>
    split at h
    · rename_i s x T xT ha ht
      split at h
      · rename_i hh
        simp only [Bool.and_eq_true] at hh
        split at h
        · rename_i r' H1 hap
          obtain ⟨rfl, rfl, rfl⟩ := some3 h
          exact op_append hE ho hc ha ht hH hL hN (hargs s (by simp [ha])) (hargs x (by simp [ha])) hh.1 hh.2 hap
        · cases h
      · cases h
    · cases h
  case copy =>
    split at h
    · rename_i d s T ts ha ht
      split at h
      · rename_i hh
        simp only [Bool.and_eq_true] at hh
        split at h
        · rename_i r' H1 hap
          obtain ⟨rfl, rfl, rfl⟩ := some3 h
          exact op_copy hE ho hc ha ht hH hL hN (hargs d (by simp [ha])) (hargs s (by simp [ha])) hh.1 hh.2 hap
        · cases h
      · cases h
    · cases h
  case len =>
    split at h
    · rename_i x T ts ha ht
      have hx := hargs x (by simp [ha])
      split at h
      · rename_i n e hu
        obtain ⟨e1, rfl, rfl⟩ := keepA_some h
        injection e1 with e1; subst e1
        exact op_len_arr hE ho hc ha ht hH hL hu
      · rename_i k e hu hx0
        obtain ⟨e1, rfl, rfl⟩ := keepA_some h
        injection e1 with e1; subst e1
        exact op_len_map (n := 0) hE ho hc ha ht hH hL hx hu (.inl ⟨hx0, rfl⟩)
      · rename_i k e id hu hx0
        split at h
        · rename_i kt es hg
          obtain ⟨e1, rfl, rfl⟩ := keepA_some h
          injection e1 with e1; subst e1
          exact op_len_map hE ho hc ha ht hH hL hx hu (.inr ⟨id, kt, es, hx0, hg, rfl⟩)
        · cases h
      · rename_i s hu hx0
        obtain ⟨e1, rfl, rfl⟩ := keepA_some h
        injection e1 with e1; subst e1
        exact op_len hE ho hc ha ht hH hL hx (by rw [hx0]; rfl) (.inl ⟨⟨s, hx0⟩, hu⟩)
      · rename_i e hu
        obtain ⟨e1, rfl, rfl⟩ := keepA_some h
        cases hd : dstLen (ev x) with
        | none => rw [hd] at e1; cases e1
        | some n =>
          rw [hd] at e1
          injection e1 with e1; subst e1
          refine op_len hE ho hc ha ht hH hL hx ?_ (.inr ⟨⟨e, hu⟩, ?_⟩)
          · cases hev : ev x <;> rw [hev] at hd <;> simp [dstLen] at hd <;> subst hd <;> rfl
          · intro s hs; rw [hs] at hd; cases hd
      · cases h
    · cases h
  case cap =>
    split at h
    · rename_i x T ts ha ht
      have hx := hargs x (by simp [ha])
      split at h
      · rename_i e hu hx0
        obtain ⟨e1, rfl, rfl⟩ := keepA_some h
        injection e1 with e1; subst e1
        exact op_cap (n := 0) hE ho hc ha ht hH hL hx hu (.inl ⟨hx0, rfl⟩)
      · rename_i e xs sz hu hx0
        obtain ⟨e1, rfl, rfl⟩ := keepA_some h
        injection e1 with e1; subst e1
        exact op_cap hE ho hc ha ht hH hL hx hu (.inr ⟨xs, sz, hx0, rfl⟩)
      · cases h
    · cases h
  case max =>
    split at h
    · rename_i k a rest ha
      obtain ⟨e1, rfl, rfl⟩ := keepA_some h
      exact op_maxmin hE _ ho (.inl ⟨hc, rfl⟩) ha hH hL hargs e1
    · cases h
  case min =>
    split at h
    · rename_i k a rest ha
      obtain ⟨e1, rfl, rfl⟩ := keepA_some h
      exact op_maxmin hE _ ho (.inr ⟨hc, rfl⟩) ha hH hL hargs e1
    · cases h
  case clear =>
    split at h
    · rename_i x T ts ha ht
      have hx := hargs x (by simp [ha])
      split at h
      · rename_i e id off len sz hu hx0
        rw [hx0] at hx
        split at h
        · rename_i cs hg
          split at h
          · rename_i hcnd
            split at h
            · rename_i cs' hset
              obtain ⟨rfl, rfl, rfl⟩ := some3 h
              exact op_clear_sl hE ho hc ha ht hu hx hg hH hL hN hcnd.1 hcnd.2.1 hset
            · cases h
          · cases h
        · cases h
      · rename_i k e id hu hx0
        rw [hx0] at hx
        split at h
        · rename_i kt es hg
          obtain ⟨rfl, rfl, rfl⟩ := some3 h
          exact op_clear_map hE ho hc ha ht hu hx hg hH hL hN
        · cases h
      · rename_i hx0
        rw [hx0] at hx
        split at h
        · rename_i hok
          obtain ⟨e1, rfl, rfl⟩ := keepA_some h
          injection e1 with e1; subst e1
          exact op_clear_nil hE ho hc ha ht hok hx hH hL
        · cases h
      · cases h
    · cases h

end
end Go.Rs
end
/- All operations but calls: the cases put together. -/
section
namespace Go.Rs
section
variable {P : Program} {E : Env} {N : Nat} {g : Gh} {p : Nat → Option Nat} {H : Hp} {w : World} {lv : Lv} {o : Oper} {ev : Operand → AVal} {ρ : Operand → Value} {r : AVal}
variable {md : Bool} {f : FuncId} {lv' : Lv} {H' : Hp}

/-- what a plain operation does -/
theorem evalOp_ok (hE : EnvOk P E) (hK : KOk P E g) (hH : HRel g H w) (hL : LvRel N g p H w lv) (hN : N ≤ w.heap.size)
    (hops : ∀ x ∈ o.op.operands, TRel g w p (ev x) (ρ x)) (h : evalOp E md f o ev lv H = some (r, lv', H')) : OpOk P N g p H w lv o ev ρ r lv' H' := by
  cases ho : o.op with
  | move x =>
    simp only [evalOp, opMove, opPick, opAlloc, opBox, opBuild, opBuildSlice, opLoad, opStore, opNilCheck, opBinOp, opUnOp, opConvert, opMakeInterface, opMakeFunc, opMakeMap, opMakeSlice, opSlice, opFieldAddr, opField, opIndexAddr, opIndex, opLookup, opMapUpdate, opRange, opNext, opExtract, opAppendB, opCopyB, opLenB, opCapB, opMaxB, opMinB, opClearB, ho, hE.ty] at h
    split at h
    · rename_i hc
      obtain ⟨e1, rfl, rfl⟩ := keepA_some h
      injection e1 with e1; subst e1
      exact op_move (.inl ho) hH hL (hops x (by rw [ho]; simp [Op.operands])) hc
    · cases h
  | assign x =>
    simp only [evalOp, opMove, opPick, opAlloc, opBox, opBuild, opBuildSlice, opLoad, opStore, opNilCheck, opBinOp, opUnOp, opConvert, opMakeInterface, opMakeFunc, opMakeMap, opMakeSlice, opSlice, opFieldAddr, opField, opIndexAddr, opIndex, opLookup, opMapUpdate, opRange, opNext, opExtract, opAppendB, opCopyB, opLenB, opCapB, opMaxB, opMinB, opClearB, ho, hE.ty] at h
    split at h
    · rename_i hc
      obtain ⟨e1, rfl, rfl⟩ := keepA_some h
      injection e1 with e1; subst e1
      exact op_move (.inr ho) hH hL (hops x (by rw [ho]; simp [Op.operands])) hc
    · cases h
  | pick c a b =>
    simp only [evalOp, opMove, opPick, opAlloc, opBox, opBuild, opBuildSlice, opLoad, opStore, opNilCheck, opBinOp, opUnOp, opConvert, opMakeInterface, opMakeFunc, opMakeMap, opMakeSlice, opSlice, opFieldAddr, opField, opIndexAddr, opIndex, opLookup, opMapUpdate, opRange, opNext, opExtract, opAppendB, opCopyB, opLenB, opCapB, opMaxB, opMinB, opClearB, ho, hE.ty] at h
    split at h
    · rename_i t hc0
      by_cases hc : (if t = true then ev a else ev b).handed = true
      · rw [if_pos hc] at h
        obtain ⟨e1, rfl, rfl⟩ := keepA_some h
        injection e1 with e1; subst e1
        exact op_pick ho hH hL (by rw [← hc0]; exact hops c (by rw [ho]; simp [Op.operands])) (hops a (by rw [ho]; simp [Op.operands])) (hops b (by rw [ho]; simp [Op.operands])) hc
      · rw [if_neg hc] at h; cases h
    · cases h
  | alloc T =>
    simp only [evalOp, opMove, opPick, opAlloc, opBox, opBuild, opBuildSlice, opLoad, opStore, opNilCheck, opBinOp, opUnOp, opConvert, opMakeInterface, opMakeFunc, opMakeMap, opMakeSlice, opSlice, opFieldAddr, opField, opIndexAddr, opIndex, opLookup, opMapUpdate, opRange, opNext, opExtract, opAppendB, opCopyB, opLenB, opCapB, opMaxB, opMinB, opClearB, ho, hE.ty] at h
    split at h
    · rename_i d hd
      split at h
      · cases h
      · rename_i hz
        have hz : (tyOf P T).zok = true := by simpa using hz
        split at h
        · split at h
          · rename_i hm
            obtain ⟨rfl, rfl, rfl⟩ := some3 h
            exact op_alloc_local hE ho hH hL hN hm hz
          · cases h
        · obtain ⟨hm, rfl, rfl, rfl⟩ := newV_some h
          exact op_alloc_heap hE ho hH hL hN hm hz
    · cases h
  | box T x =>
    simp only [evalOp, opMove, opPick, opAlloc, opBox, opBuild, opBuildSlice, opLoad, opStore, opNilCheck, opBinOp, opUnOp, opConvert, opMakeInterface, opMakeFunc, opMakeMap, opMakeSlice, opSlice, opFieldAddr, opField, opIndexAddr, opIndex, opLookup, opMapUpdate, opRange, opNext, opExtract, opAppendB, opCopyB, opLenB, opCapB, opMaxB, opMinB, opClearB, ho, hE.ty] at h
    have hx := hops x (by rw [ho]; simp [Op.operands])
    split at h
    · rename_i hone
      split at h
      · split at h
        · split at h
          · rename_i hm
            obtain ⟨rfl, rfl, rfl⟩ := some3 h
            exact op_box_local hE ho hH hL hN hm hx hone
          · cases h
        · obtain ⟨hm, rfl, rfl, rfl⟩ := newV_some h
          exact op_box_heap hE ho hH hL hN hm hx hone
      · cases h
    · cases h
  | build T ps =>
    simp only [evalOp, opMove, opPick, opAlloc, opBox, opBuild, opBuildSlice, opLoad, opStore, opNilCheck, opBinOp, opUnOp, opConvert, opMakeInterface, opMakeFunc, opMakeMap, opMakeSlice, opSlice, opFieldAddr, opField, opIndexAddr, opIndex, opLookup, opMapUpdate, opRange, opNext, opExtract, opAppendB, opCopyB, opLenB, opCapB, opMaxB, opMinB, opClearB, ho, hE.ty] at h
    split at h
    · cases h
    · rename_i hz
      have hz : (tyOf P T).zok = true := by simpa using hz
      split at h
      · rename_i fs hu
        obtain ⟨e1, rfl, rfl⟩ := keepA_some h
        obtain ⟨out, hf, rfl⟩ := Option.map_eq_some_iff.1 e1
        exact op_build_struct hE ho hH hL hops hz hu hf
      · rename_i n e hu
        split at h
        · rename_i hok
          obtain ⟨e1, rfl, rfl⟩ := keepA_some h
          obtain ⟨out, hf, rfl⟩ := Option.map_eq_some_iff.1 e1
          exact op_build_arr hE ho hH hL hops hz hu hok hf
        · cases h
      · cases h
  | buildSlice T n ps =>
    simp only [evalOp, opMove, opPick, opAlloc, opBox, opBuild, opBuildSlice, opLoad, opStore, opNilCheck, opBinOp, opUnOp, opConvert, opMakeInterface, opMakeFunc, opMakeMap, opMakeSlice, opSlice, opFieldAddr, opField, opIndexAddr, opIndex, opLookup, opMapUpdate, opRange, opNext, opExtract, opAppendB, opCopyB, opLenB, opCapB, opMaxB, opMinB, opClearB, ho, hE.ty] at h
    split at h
    · rename_i e hu
      split at h
      · rename_i hc
        simp only [Bool.and_eq_true, decide_eq_true_eq] at hc
        split at h
        · rename_i cs hf
          obtain ⟨e1, rfl, rfl⟩ := keepA_some h
          injection e1 with e1; subst e1
          exact op_buildSlice_list hE ho hH hL hN hops hu hc.1.1 hc.1.2 hc.2 hf
        · cases h
      · cases h
    · cases h
  | load T a =>
    simp only [evalOp, opMove, opPick, opAlloc, opBox, opBuild, opBuildSlice, opLoad, opStore, opNilCheck, opBinOp, opUnOp, opConvert, opMakeInterface, opMakeFunc, opMakeMap, opMakeSlice, opSlice, opFieldAddr, opField, opIndexAddr, opIndex, opLookup, opMapUpdate, opRange, opNext, opExtract, opAppendB, opCopyB, opLenB, opCapB, opMaxB, opMinB, opClearB, ho] at h
    obtain ⟨e1, rfl, rfl⟩ := keepA_some h
    exact op_load hE ho hH hL (hops a (by rw [ho]; simp [Op.operands])) e1
  | store T a x =>
    simp only [evalOp, opMove, opPick, opAlloc, opBox, opBuild, opBuildSlice, opLoad, opStore, opNilCheck, opBinOp, opUnOp, opConvert, opMakeInterface, opMakeFunc, opMakeMap, opMakeSlice, opSlice, opFieldAddr, opField, opIndexAddr, opIndex, opLookup, opMapUpdate, opRange, opNext, opExtract, opAppendB, opCopyB, opLenB, opCapB, opMaxB, opMinB, opClearB, ho] at h
    split at h
    · rename_i l1 H1 hs
      obtain ⟨rfl, rfl, rfl⟩ := some3 h
      exact op_store hE ho hH hL hN (hops a (by rw [ho]; simp [Op.operands])) (hops x (by rw [ho]; simp [Op.operands])) hs
    · cases h
  | nilCheck x =>
    simp only [evalOp, opMove, opPick, opAlloc, opBox, opBuild, opBuildSlice, opLoad, opStore, opNilCheck, opBinOp, opUnOp, opConvert, opMakeInterface, opMakeFunc, opMakeMap, opMakeSlice, opSlice, opFieldAddr, opField, opIndexAddr, opIndex, opLookup, opMapUpdate, opRange, opNext, opExtract, opAppendB, opCopyB, opLenB, opCapB, opMaxB, opMinB, opClearB, ho, hE.ty] at h
    have hx := hops x (by rw [ho]; simp [Op.operands])
    split at h
    · rename_i id off hx0
      obtain ⟨e1, rfl, rfl⟩ := keepA_some h
      injection e1 with e1; subst e1
      rw [hx0] at hx
      exact op_nilCheck_ptr ho hH hL hx
    · rename_i fn a b hx0
      rw [hx0] at hx
      split at h
      · obtain ⟨e1, rfl, rfl⟩ := keepA_some h
        injection e1 with e1; subst e1
        exact op_nilCheck_func ho hH hL hx
      · rename_i name
        split at h
        · rename_i t y rest
          split at h
          · rename_i f' hm
            obtain ⟨e1, rfl, rfl⟩ := keepA_some h
            injection e1 with e1; subst e1
            refine op_nilCheck_method ho hH hL hx (f := f') ?_
            cases hi : P.info? t with
            | none => simp [tyOf, hi] at hm
            | some i => simpa [tyOf, hi] using hm
          · cases h
        · cases h
      · cases h
    · rename_i t y hx0
      obtain ⟨e1, rfl, rfl⟩ := keepA_some h
      injection e1 with e1; subst e1
      rw [hx0] at hx
      exact op_nilCheck_iface ho hH hL hx
    · cases h
  | binOp op T x y yT =>
    simp only [evalOp, opMove, opPick, opAlloc, opBox, opBuild, opBuildSlice, opLoad, opStore, opNilCheck, opBinOp, opUnOp, opConvert, opMakeInterface, opMakeFunc, opMakeMap, opMakeSlice, opSlice, opFieldAddr, opField, opIndexAddr, opIndex, opLookup, opMapUpdate, opRange, opNext, opExtract, opAppendB, opCopyB, opLenB, opCapB, opMaxB, opMinB, opClearB, ho] at h
    split at h
    · cases h
    · rename_i hn
      obtain ⟨e1, rfl, rfl⟩ := keepA_some h
      exact op_binOp hE ho hH hL (hops x (by rw [ho]; simp [Op.operands])) (hops y (by rw [ho]; simp [Op.operands])) e1 (by simpa using hn)
  | unOp op T x =>
    simp only [evalOp, opMove, opPick, opAlloc, opBox, opBuild, opBuildSlice, opLoad, opStore, opNilCheck, opBinOp, opUnOp, opConvert, opMakeInterface, opMakeFunc, opMakeMap, opMakeSlice, opSlice, opFieldAddr, opField, opIndexAddr, opIndex, opLookup, opMapUpdate, opRange, opNext, opExtract, opAppendB, opCopyB, opLenB, opCapB, opMaxB, opMinB, opClearB, ho] at h
    obtain ⟨e1, rfl, rfl⟩ := keepA_some h
    exact op_unOp ho hH hL (hops x (by rw [ho]; simp [Op.operands])) e1
  | convert s d x =>
    simp only [evalOp, opMove, opPick, opAlloc, opBox, opBuild, opBuildSlice, opLoad, opStore, opNilCheck, opBinOp, opUnOp, opConvert, opMakeInterface, opMakeFunc, opMakeMap, opMakeSlice, opSlice, opFieldAddr, opField, opIndexAddr, opIndex, opLookup, opMapUpdate, opRange, opNext, opExtract, opAppendB, opCopyB, opLenB, opCapB, opMaxB, opMinB, opClearB, ho] at h
    obtain ⟨e1, rfl, rfl⟩ := keepA_some h
    have hx := hops x (by rw [ho]; simp [Op.operands])
    unfold convA at e1
    rw [hE.ty, hE.ty] at e1
    split at e1
    · rename_i ks kd k n hs hd hx0
      injection e1 with e1; subst e1
      rw [hx0] at hx
      exact op_convert_int hE ho hH hL hx hs hd
    · rename_i s hs hd hx0
      injection e1 with e1; subst e1
      rw [hx0] at hx
      exact op_convert_str hE ho hH hL hx hs hd
    · cases e1
  | makeInterface T x =>
    simp only [evalOp, opMove, opPick, opAlloc, opBox, opBuild, opBuildSlice, opLoad, opStore, opNilCheck, opBinOp, opUnOp, opConvert, opMakeInterface, opMakeFunc, opMakeMap, opMakeSlice, opSlice, opFieldAddr, opField, opIndexAddr, opIndex, opLookup, opMapUpdate, opRange, opNext, opExtract, opAppendB, opCopyB, opLenB, opCapB, opMaxB, opMinB, opClearB, ho, hE.ty] at h
    split at h
    · rename_i hc
      simp only [Bool.and_eq_true] at hc
      obtain ⟨e1, rfl, rfl⟩ := keepA_some h
      injection e1 with e1; subst e1
      refine op_makeInterface ho hH hL (hops x (by rw [ho]; simp [Op.operands])) hc.1.1 hc.1.2 ?_
      intro hi
      rw [hi] at hc
      simp [notIface] at hc
    · cases h
  | makeFunc fn first captured =>
    simp only [evalOp, opMove, opPick, opAlloc, opBox, opBuild, opBuildSlice, opLoad, opStore, opNilCheck, opBinOp, opUnOp, opConvert, opMakeInterface, opMakeFunc, opMakeMap, opMakeSlice, opSlice, opFieldAddr, opField, opIndexAddr, opIndex, opLookup, opMapUpdate, opRange, opNext, opExtract, opAppendB, opCopyB, opLenB, opCapB, opMaxB, opMinB, opClearB, ho] at h
    split at h
    · rename_i hc
      simp only [Bool.and_eq_true] at hc
      obtain ⟨e1, rfl, rfl⟩ := keepA_some h
      injection e1 with e1; subst e1
      exact op_makeFunc ho hH hL (fun x hx => hops x (by rw [ho]; simp [Op.operands]; left; simpa using hx)) (fun x hx => hops x (by rw [ho]; simp [Op.operands]; right; simpa using hx)) hc.1 hc.2
    · cases h
  | makeMap T res =>
    cases res with
    | some _ => simp [evalOp, opMove, opPick, opAlloc, opBox, opBuild, opBuildSlice, opLoad, opStore, opNilCheck, opBinOp, opUnOp, opConvert, opMakeInterface, opMakeFunc, opMakeMap, opMakeSlice, opSlice, opFieldAddr, opField, opIndexAddr, opIndex, opLookup, opMapUpdate, opRange, opNext, opExtract, opAppendB, opCopyB, opLenB, opCapB, opMaxB, opMinB, opClearB, ho] at h
    | none =>
      simp only [evalOp, opMove, opPick, opAlloc, opBox, opBuild, opBuildSlice, opLoad, opStore, opNilCheck, opBinOp, opUnOp, opConvert, opMakeInterface, opMakeFunc, opMakeMap, opMakeSlice, opSlice, opFieldAddr, opField, opIndexAddr, opIndex, opLookup, opMapUpdate, opRange, opNext, opExtract, opAppendB, opCopyB, opLenB, opCapB, opMaxB, opMinB, opClearB, ho, hE.ty] at h
      split at h
      · rename_i kt e hu
        obtain ⟨hm, rfl, rfl, rfl⟩ := newV_some h
        exact op_makeMap hE ho hu hH hL hN hm
      · cases h
  | makeSlice T l c =>
    simp only [evalOp, opMove, opPick, opAlloc, opBox, opBuild, opBuildSlice, opLoad, opStore, opNilCheck, opBinOp, opUnOp, opConvert, opMakeInterface, opMakeFunc, opMakeMap, opMakeSlice, opSlice, opFieldAddr, opField, opIndexAddr, opIndex, opLookup, opMapUpdate, opRange, opNext, opExtract, opAppendB, opCopyB, opLenB, opCapB, opMaxB, opMinB, opClearB, ho, hE.ty] at h
    have hl := hops l (by rw [ho]; simp [Op.operands])
    have hc := hops c (by rw [ho]; simp [Op.operands])
    split at h
    · rename_i e k n k' m hu hl0 hc0
      rw [hl0] at hl
      rw [hc0] at hc
      split at h
      · rename_i hcnd
        obtain ⟨h0, h1, h2, h3, h4, h5⟩ := hcnd
        split at h
        · obtain ⟨hm, rfl, rfl, rfl⟩ := newV_some h
          exact op_makeSlice_sl ho hH hL hN hm hu hl hc h0 h1 h2 h3 h4 h5
        · split at h
          · rename_i hn
            subst hn
            obtain ⟨hm, rfl, rfl, rfl⟩ := newV_some h
            exact op_makeSlice_list ho hH hL hN hm hu hl hc h1 h2 h3 h4 h5
          · cases h
      · cases h
    · cases h
  | slice T x lo hi mx =>
    simp only [evalOp, opMove, opPick, opAlloc, opBox, opBuild, opBuildSlice, opLoad, opStore, opNilCheck, opBinOp, opUnOp, opConvert, opMakeInterface, opMakeFunc, opMakeMap, opMakeSlice, opSlice, opFieldAddr, opField, opIndexAddr, opIndex, opLookup, opMapUpdate, opRange, opNext, opExtract, opAppendB, opCopyB, opLenB, opCapB, opMaxB, opMinB, opClearB, ho] at h
    obtain ⟨e1, rfl, rfl⟩ := keepA_some h
    exact op_slice hE ho hH hL hops e1
  | fieldAddr T x k =>
    simp only [evalOp, opMove, opPick, opAlloc, opBox, opBuild, opBuildSlice, opLoad, opStore, opNilCheck, opBinOp, opUnOp, opConvert, opMakeInterface, opMakeFunc, opMakeMap, opMakeSlice, opSlice, opFieldAddr, opField, opIndexAddr, opIndex, opLookup, opMapUpdate, opRange, opNext, opExtract, opAppendB, opCopyB, opLenB, opCapB, opMaxB, opMinB, opClearB, ho, hE.ty] at h
    split at h
    · rename_i fs hu
      split at h
      · rename_i off t hf
        split at h
        · cases h
        · rename_i hc
          simp only [Bool.or_eq_true, decide_eq_true_eq, Bool.not_eq_true', not_or, Bool.not_eq_false] at hc
          obtain ⟨e1, rfl, rfl⟩ := keepA_some h
          exact op_fieldAddr hE ho hH hL (hops x (by rw [ho]; simp [Op.operands])) hu hf hc.1 hc.2 e1
      · cases h
    · cases h
  | field T x k =>
    simp only [evalOp, opMove, opPick, opAlloc, opBox, opBuild, opBuildSlice, opLoad, opStore, opNilCheck, opBinOp, opUnOp, opConvert, opMakeInterface, opMakeFunc, opMakeMap, opMakeSlice, opSlice, opFieldAddr, opField, opIndexAddr, opIndex, opLookup, opMapUpdate, opRange, opNext, opExtract, opAppendB, opCopyB, opLenB, opCapB, opMaxB, opMinB, opClearB, ho, hE.ty] at h
    split at h
    · rename_i fs cs hu hx0
      split at h
      · rename_i off t hf
        split at h
        · cases h
        · rename_i hok
          obtain ⟨e1, rfl, rfl⟩ := keepA_some h
          exact op_field hE ho hH hL hu (by rw [← hx0]; exact hops x (by rw [ho]; simp [Op.operands])) hf (by simpa using hok) e1
      · cases h
    · cases h
  | indexAddr T x ix =>
    simp only [evalOp, opMove, opPick, opAlloc, opBox, opBuild, opBuildSlice, opLoad, opStore, opNilCheck, opBinOp, opUnOp, opConvert, opMakeInterface, opMakeFunc, opMakeMap, opMakeSlice, opSlice, opFieldAddr, opField, opIndexAddr, opIndex, opLookup, opMapUpdate, opRange, opNext, opExtract, opAppendB, opCopyB, opLenB, opCapB, opMaxB, opMinB, opClearB, ho, hE.ty] at h
    have hx := hops x (by rw [ho]; simp [Op.operands])
    have hi := hops ix (by rw [ho]; simp [Op.operands])
    split at h
    · rename_i k i hi0
      rw [hi0] at hi
      split at h
      · rename_i e hu
        split at h
        · rename_i xs tok sz hx0
          rw [hx0] at hx
          split at h
          · rename_i hc
            obtain ⟨e1, rfl, rfl⟩ := keepA_some h
            injection e1 with e1; subst e1
            exact op_indexAddr_list hE ho hH hL hu hx hi hc.1 hc.2.1 hc.2.2.1 hc.2.2.2
          · cases h
        · rename_i id off len sz hx0
          rw [hx0] at hx
          split at h
          · rename_i hc
            obtain ⟨e1, rfl, rfl⟩ := keepA_some h
            injection e1 with e1; subst e1
            exact op_indexAddr_sl hE ho hH hL hu hx hi hc.1 hc.2.1 hc.2.2.1 hc.2.2.2
          · cases h
        · cases h
      · rename_i n e hu
        split at h
        · rename_i hc
          obtain ⟨e1, rfl, rfl⟩ := keepA_some h
          exact op_indexAddr_arr hE ho hH hL hu hx hi hc.1 hc.2.1 hc.2.2 e1
        · cases h
      · cases h
    · cases h
  | index T x ix =>
    simp only [evalOp, opMove, opPick, opAlloc, opBox, opBuild, opBuildSlice, opLoad, opStore, opNilCheck, opBinOp, opUnOp, opConvert, opMakeInterface, opMakeFunc, opMakeMap, opMakeSlice, opSlice, opFieldAddr, opField, opIndexAddr, opIndex, opLookup, opMapUpdate, opRange, opNext, opExtract, opAppendB, opCopyB, opLenB, opCapB, opMaxB, opMinB, opClearB, ho, hE.ty] at h
    have hx := hops x (by rw [ho]; simp [Op.operands])
    have hi := hops ix (by rw [ho]; simp [Op.operands])
    split at h
    · rename_i s k i hu hx0 hi0
      rw [hi0] at hi; rw [hx0] at hx
      split at h
      · rename_i hc
        obtain ⟨e1, rfl, rfl⟩ := keepA_some h
        injection e1 with e1; subst e1
        exact op_index_str hE ho hH hL hu hx hi hc.1 hc.2
      · cases h
    · rename_i n e cs k i hu hx0 hi0
      rw [hi0] at hi; rw [hx0] at hx
      split at h
      · rename_i hc
        obtain ⟨e1, rfl, rfl⟩ := keepA_some h
        exact op_index_arr hE ho hH hL hu hx hi hc.1 hc.2.1 hc.2.2 e1
      · cases h
    · cases h
  | lookup T m k ok =>
    simp only [evalOp, opMove, opPick, opAlloc, opBox, opBuild, opBuildSlice, opLoad, opStore, opNilCheck, opBinOp, opUnOp, opConvert, opMakeInterface, opMakeFunc, opMakeMap, opMakeSlice, opSlice, opFieldAddr, opField, opIndexAddr, opIndex, opLookup, opMapUpdate, opRange, opNext, opExtract, opAppendB, opCopyB, opLenB, opCapB, opMaxB, opMinB, opClearB, ho, hE.ty] at h
    split at h
    · rename_i kt e hu
      split at h
      · cases h
      · rename_i hc
        simp only [Bool.or_eq_true, Bool.not_eq_true', not_or, Bool.not_eq_false] at hc
        split at h
        · rename_i fo hfo
          obtain ⟨e1, rfl, rfl⟩ := keepA_some h
          injection e1 with e1; subst e1
          split at hfo
          · rename_i hkf
            exact op_lookup hE hK ho hH hL hu hc.2 (hops m (by rw [ho]; simp [Op.operands])) (hops k (by rw [ho]; simp [Op.operands])) hkf hfo
          · cases hfo
        · cases h
    · cases h
  | mapUpdate T m k x =>
    simp only [evalOp, opMove, opPick, opAlloc, opBox, opBuild, opBuildSlice, opLoad, opStore, opNilCheck, opBinOp, opUnOp, opConvert, opMakeInterface, opMakeFunc, opMakeMap, opMakeSlice, opSlice, opFieldAddr, opField, opIndexAddr, opIndex, opLookup, opMapUpdate, opRange, opNext, opExtract, opAppendB, opCopyB, opLenB, opCapB, opMaxB, opMinB, opClearB, ho, hE.ty] at h
    split at h
    · rename_i kt e id hu hm0
      split at h
      · rename_i kt' es hg
        split at h
        · rename_i hc
          obtain ⟨rfl, hc1, hc2⟩ := hc
          split at h
          · rename_i es' hup
            obtain ⟨rfl, rfl, rfl⟩ := some3 h
            exact op_mapUpdate hE hK (.inl ho) hH hL hN hu (by rw [← hm0]; exact hops m (by rw [ho]; simp [Op.operands])) (hops k (by rw [ho]; simp [Op.operands])) (hops x (by rw [ho]; simp [Op.operands])) hc1 hc2 hg hup
          · cases h
        · cases h
      · cases h
    · cases h
  | insert T m k x =>
    simp only [evalOp, opMove, opPick, opAlloc, opBox, opBuild, opBuildSlice, opLoad, opStore, opNilCheck, opBinOp, opUnOp, opConvert, opMakeInterface, opMakeFunc, opMakeMap, opMakeSlice, opSlice, opFieldAddr, opField, opIndexAddr, opIndex, opLookup, opMapUpdate, opRange, opNext, opExtract, opAppendB, opCopyB, opLenB, opCapB, opMaxB, opMinB, opClearB, ho, hE.ty] at h
    split at h
    · rename_i kt e id hu hm0
      split at h
      · rename_i kt' es hg
        split at h
        · rename_i hc
          obtain ⟨rfl, hc1, hc2⟩ := hc
          split at h
          · rename_i es' hup
            obtain ⟨rfl, rfl, rfl⟩ := some3 h
            exact op_mapUpdate hE hK (.inr ho) hH hL hN hu (by rw [← hm0]; exact hops m (by rw [ho]; simp [Op.operands])) (hops k (by rw [ho]; simp [Op.operands])) (hops x (by rw [ho]; simp [Op.operands])) hc1 hc2 hg hup
          · cases h
        · cases h
      · cases h
    · cases h
  | range T x =>
    simp only [evalOp, opMove, opPick, opAlloc, opBox, opBuild, opBuildSlice, opLoad, opStore, opNilCheck, opBinOp, opUnOp, opConvert, opMakeInterface, opMakeFunc, opMakeMap, opMakeSlice, opSlice, opFieldAddr, opField, opIndexAddr, opIndex, opLookup, opMapUpdate, opRange, opNext, opExtract, opAppendB, opCopyB, opLenB, opCapB, opMaxB, opMinB, opClearB, ho, hE.ty] at h
    split at h
    · rename_i s hu hx0
      obtain ⟨hm, rfl, rfl, rfl⟩ := newV_some h
      exact op_range ho hu (by rw [← hx0]; exact hops x (by rw [ho]; simp [Op.operands])) hH hL hN hm
    · cases h
  | next it b =>
    simp only [evalOp, opMove, opPick, opAlloc, opBox, opBuild, opBuildSlice, opLoad, opStore, opNilCheck, opBinOp, opUnOp, opConvert, opMakeInterface, opMakeFunc, opMakeMap, opMakeSlice, opSlice, opFieldAddr, opField, opIndexAddr, opIndex, opLookup, opMapUpdate, opRange, opNext, opExtract, opAppendB, opCopyB, opLenB, opCapB, opMaxB, opMinB, opClearB, ho] at h
    split at h
    · rename_i hb
      subst hb
      split at h
      · rename_i id hi0
        have hi := hops it (by rw [ho]; simp [Op.operands])
        rw [hi0] at hi
        split at h
        · rename_i s pos hg
          split at h
          · rename_i hp
            obtain ⟨rfl, rfl, rfl⟩ := some3 h
            exact op_next_more ho hi hH hL hN hg hp
          · rename_i hp
            obtain ⟨rfl, rfl, rfl⟩ := some3 h
            exact op_next_over ho hi hH hL hg hp
        · cases h
      · cases h
    · cases h
  | extract t i =>
    simp only [evalOp, opMove, opPick, opAlloc, opBox, opBuild, opBuildSlice, opLoad, opStore, opNilCheck, opBinOp, opUnOp, opConvert, opMakeInterface, opMakeFunc, opMakeMap, opMakeSlice, opSlice, opFieldAddr, opField, opIndexAddr, opIndex, opLookup, opMapUpdate, opRange, opNext, opExtract, opAppendB, opCopyB, opLenB, opCapB, opMaxB, opMinB, opClearB, ho] at h
    split at h
    · rename_i vs ht0
      obtain ⟨e1, rfl, rfl⟩ := keepA_some h
      exact op_extract ho hH hL (by rw [← ht0]; exact hops t (by rw [ho]; simp [Op.operands])) e1
    · cases h
  | call c =>
    cases hc : c.callee with
    | builtin b => exact case_builtin hE ho hc hH hL hN hops h
    | value fv => simp [evalOp, opMove, opPick, opAlloc, opBox, opBuild, opBuildSlice, opLoad, opStore, opNilCheck, opBinOp, opUnOp, opConvert, opMakeInterface, opMakeFunc, opMakeMap, opMakeSlice, opSlice, opFieldAddr, opField, opIndexAddr, opIndex, opLookup, opMapUpdate, opRange, opNext, opExtract, opAppendB, opCopyB, opLenB, opCapB, opMaxB, opMinB, opClearB, ho, hc] at h
    | invoke r m => simp [evalOp, opMove, opPick, opAlloc, opBox, opBuild, opBuildSlice, opLoad, opStore, opNilCheck, opBinOp, opUnOp, opConvert, opMakeInterface, opMakeFunc, opMakeMap, opMakeSlice, opSlice, opFieldAddr, opField, opIndexAddr, opIndex, opLookup, opMapUpdate, opRange, opNext, opExtract, opAppendB, opCopyB, opLenB, opCapB, opMaxB, opMinB, opClearB, ho, hc] at h
  | _ => simp [evalOp, opMove, opPick, opAlloc, opBox, opBuild, opBuildSlice, opLoad, opStore, opNilCheck, opBinOp, opUnOp, opConvert, opMakeInterface, opMakeFunc, opMakeMap, opMakeSlice, opSlice, opFieldAddr, opField, opIndexAddr, opIndex, opLookup, opMapUpdate, opRange, opNext, opExtract, opAppendB, opCopyB, opLenB, opCapB, opMaxB, opMinB, opClearB, ho] at h

end
end Go.Rs
end
/- Operations and calls: the machine does what the interpreter does. -/
section
namespace Go.Rs

/-- what is in a place: .undef stands for the undefined value alone -/
def TRelU (g : Gh) (w : World) (p : Nat → Option Nat) (a : AVal) (c : Value) : Prop := (a = .undef → c = undef) ∧ TRel g w p a c

def GlobOk (E : Env) (g : Gh) : Prop := ∀ i, E.glob i = true → g.mu i = some i

theorem GlobOk.ext {E : Env} {g g' : Gh} {w w' : World} (h : GlobOk E g) (e : Ext g w g' w') : GlobOk E g' := fun i hi => e.mu _ _ (h i hi)

/-- a function's call comes back with ... -/
def Does (P : Program) (f : FuncId) (args : Array Value) (w : World) (Q : Value → World → Prop) : Prop :=
  match (callFunc f args).run P w with
  | .ok (.value v) w' => Q v w'
  | .ok (.enter f args) w' => Calls P f args w' fun
    | .returned v, w'' => Q v w''
    | _, _ => False
  | _ => False

/-- the call of f does what s says -/
def CallAt (P : Program) (E : Env) (f : FuncId) (s : List AVal → Hp → Option (AVal × Hp)) : Prop :=
  ∀ args H r H', s args H = some (r, H') → r ≠ .undef → ∀ g w (args' : List Value), HRel g H w → GlobOk E g → KOk P E g → args.length = args'.length →
    (∀ (i : Nat) a c, args[i]? = some a → args'[i]? = some c → VRel g w a c) → args.all (·.handed) = true →
    Does P f args'.toArray w fun v w' => ∃ g', Step w.heap.size g H w g' H' w' ∧ VRel g' w' r v

def CallsOk (P : Program) (E : Env) (call : CallF) : Prop := ∀ md f, CallAt P E f (call md f)

section
variable {P : Program} {E : Env} {N : Nat} {g : Gh} {p : Nat → Option Nat} {H : Hp} {w : World} {lv : Lv} {o : Oper} {ev : Operand → AVal} {ρ : Operand → Value} {r : AVal}
variable {md : Bool} {f : FuncId} {lv' : Lv} {H' : Hp} {call : CallF}

/-- what stands behind an operation -/
structure Out (N : Nat) (g : Gh) (p : Nat → Option Nat) (H : Hp) (w : World) (lv : Lv) (r : AVal) (lv' : Lv) (H' : Hp) (c : Value) (g' : Gh) (p' : Nat → Option Nat) (w' : World) : Prop where
  step : Step N g H w g' H' w'
  lvr : LvRel N g' p' H' w' lv'
  val : TRelU g' w' p' r c
  pold : ∀ t, t < lv.next → p' t = p t
  lold : ∀ t, t < lv.next → p t = none → lv'.get t = lv.get t
  next : lv.next ≤ lv'.next

theorem vals_rel {l : List Operand} (hops : ∀ x ∈ l, TRel g w p (ev x) (ρ x)) (hh : (l.map ev).all (·.handed) = true) :
    ∀ (i : Nat) a c, (l.map ev)[i]? = some a → (l.map ρ)[i]? = some c → VRel g w a c := by
  intro i a c ha hc
  rw [List.getElem?_map] at ha hc
  cases hx : l[i]? with
  | none => rw [hx] at ha; cases ha
  | some x =>
    rw [hx] at ha hc
    injection ha with ha; injection hc with hc
    subst ha hc
    have hm := List.mem_of_getElem? hx
    exact (hops x hm).handed (by simpa using List.all_eq_true.1 hh (ev x) (List.mem_map_of_mem hm))

theorem rel_append {as bs : List AVal} {cs ds : List Value} (hl : as.length = cs.length) (h1 : ∀ (i : Nat) a c, as[i]? = some a → cs[i]? = some c → VRel g w a c)
    (h2 : ∀ (i : Nat) a c, bs[i]? = some a → ds[i]? = some c → VRel g w a c) : ∀ (i : Nat) a c, (as ++ bs)[i]? = some a → (cs ++ ds)[i]? = some c → VRel g w a c := by
  intro i a c ha hc
  by_cases hi : i < as.length
  · rw [List.getElem?_append_left hi] at ha
    rw [List.getElem?_append_left (by omega)] at hc
    exact h1 i a c ha hc
  · rw [List.getElem?_append_right (by omega)] at ha
    rw [List.getElem?_append_right (by omega), ← hl] at hc
    exact h2 _ a c ha hc

theorem rel_cons {a0 : AVal} {c0 : Value} {as : List AVal} {cs : List Value} (h0 : VRel g w a0 c0) (h1 : ∀ (i : Nat) a c, as[i]? = some a → cs[i]? = some c → VRel g w a c) :
    ∀ (i : Nat) a c, (a0 :: as)[i]? = some a → (c0 :: cs)[i]? = some c → VRel g w a c := by
  intro i a c ha hc
  cases i with
  | zero => simp at ha hc; subst ha hc; exact h0
  | succ i => exact h1 i a c (by simpa using ha) (by simpa using hc)

theorem run_method {t : TypeId} {name : String} {f : FuncId} {v : Value} (h : methOf P t name = some f) : (method (P.types.size + Made.depth) t v name).run P w = .ok (f, v) w := by
  obtain ⟨i, e, m, hi, hu, hm, hf, hp⟩ := methOf_spec h
  have hpe : m.path.toList = [] := by simpa using hp
  have hd : P.types.size + Made.depth = (P.types.size + Made.depth - 1) + 1 := by
    have : 0 < Made.depth := by decide
    omega
  rw [hd]
  simp [method, typeInfo, hi, hm, hpe, follow, hf, receiverAt, run_underlying hu, Place.get]

theorem run_callMethod {t : TypeId} {name : String} {f : FuncId} {v : Value} {args : Array Value} (h : methOf P t name = some f) :
    (callMethod (.iface t v) name args).run P w = (callFunc f (#[v] ++ args)).run P w := by
  have hp : ∀ w : World, (program).run P w = .ok P w := fun _ => rfl
  simp [callMethod, hp, run_method h]

theorem meth_tyOf {t : TypeId} {name : String} {f : FuncId} (h : (tyOf P t).meth name = some f) : methOf P t name = some f := by
  cases hi : P.info? t with
  | none => simp [tyOf, hi] at h
  | some i => simpa [tyOf, hi] using h

/-- the machine comes to the same function -/
theorem target_ok (hE : EnvOk P E) {fn : FuncId} {args : List AVal} (hc : isCall o = true) (hops : ∀ x ∈ o.op.operands, TRel g w p (ev x) (ρ x)) (h : target E o ev = some (fn, args)) (hh : args.all (·.handed) = true) :
    ∃ args' : List Value, (execOp ρ o).run P w = (callFunc fn args'.toArray).run P w ∧ args.length = args'.length ∧ ∀ (i : Nat) a c, args[i]? = some a → args'[i]? = some c → VRel g w a c := by
  unfold target at h
  split at h
  · rename_i c ho
    have hargs : ∀ x ∈ c.args.toList, TRel g w p (ev x) (ρ x) := fun x hx => hops x (by rw [ho]; simp [Op.operands, Call.operands]; right; simpa using hx)
    simp only [] at h
    split at h
    · cases h
    · rename_i fv hcal
      have hfv : TRel g w p (ev fv) (ρ fv) := hops fv (by rw [ho]; simp [Op.operands, Call.operands, hcal])
      split at h
      · rename_i gg a b hev
        rw [hev] at hfv
        have hv : VRel g w (.func (.func gg) a b) (ρ fv) := hfv
        generalize hρ : ρ fv = cv at hv
        cases hv with
        | @func _ _ _ fs' cs' h1 h2 hf hcc =>
          injection h with h; injection h with e1 e2
          subst e1 e2
          simp only [List.all_append, Bool.and_eq_true] at hh
          refine ⟨fs' ++ c.args.toList.map ρ ++ cs', ?_, by simp [h1, h2], ?_⟩
          · simp only [execOp, ho, resolve, hcal, hρ, Deferred.ofValue, Sem.run_bind, Sem.run_pure, Result.andThen_ok, invoke]
            congr 2
            apply Array.ext'; simp
          · exact rel_append (by simp [h1]) (rel_append h1 hf (vals_rel hargs hh.1.2)) hcc
      · rename_i name t rv a b hev
        split at h
        · rename_i gg hm
          rw [hE.ty] at hm
          injection h with h; injection h with e1 e2
          subst e1 e2
          rw [hev] at hfv
          have hv : VRel g w (.func (.method name) (.iface t rv :: a) b) (ρ fv) := hfv
          generalize hρ : ρ fv = cv at hv
          cases hv with
          | @func _ _ _ fs' cs' h1 h2 hf hcc =>
            cases fs' with
            | nil => simp at h1
            | cons v0 fs' =>
              have h0 := hf 0 _ v0 rfl rfl
              cases h0 with
              | @iface _ _ c0 h0 =>
                simp only [List.all_cons, List.all_append, Bool.and_eq_true] at hh
                refine ⟨c0 :: (fs' ++ c.args.toList.map ρ), ?_, by simp at h1; simp [h1], ?_⟩
                · simp only [execOp, ho, resolve, hcal, hρ, Deferred.ofValue, Sem.run_bind, Sem.run_pure, Result.andThen_ok, invoke]
                  have e0 : (((Value.iface t c0 :: fs').toArray ++ c.args.map ρ)[0]? : Option Value) = some (.iface t c0) := by simp [Array.getElem?_append]
                  simp only [e0]
                  rw [run_callMethod (meth_tyOf hm)]
                  congr 2
                  apply Array.ext'
                  simp
                  rw [List.take_of_length_le (by omega), List.take_of_length_le (by simp)]
                · refine rel_cons h0 (rel_append (by simpa using h1) (fun i a c ha hc => hf (i + 1) a c (by simpa using ha) (by simpa using hc)) (vals_rel hargs hh.2.2))
        · cases h
      · cases h
    · rename_i rv name hcal
      have hfv : TRel g w p (ev rv) (ρ rv) := hops rv (by rw [ho]; simp [Op.operands, Call.operands, hcal])
      split at h
      · rename_i t y hev
        split at h
        · rename_i gg hm
          rw [hE.ty] at hm
          injection h with h; injection h with e1 e2
          subst e1 e2
          rw [hev] at hfv
          have hv : VRel g w (.iface t y) (ρ rv) := hfv
          generalize hρ : ρ rv = cv at hv
          cases hv with
          | @iface _ _ c0 h0 =>
            simp only [List.all_cons, Bool.and_eq_true] at hh
            refine ⟨c0 :: c.args.toList.map ρ, ?_, by simp, rel_cons h0 (vals_rel hargs hh.2)⟩
            simp only [execOp, ho, resolve, hcal, hρ, Sem.run_bind, Sem.run_pure, Result.andThen_ok, invoke]
            have e0 : ((#[Value.iface t c0] ++ c.args.map ρ)[0]? : Option Value) = some (.iface t c0) := by simp [Array.getElem?_append]
            simp only [e0]
            rw [run_callMethod (meth_tyOf hm)]
            congr 2
            apply Array.ext'
            simp
            rw [List.take_of_length_le (by simp)]
        · cases h
      · cases h
  · cases h

theorem Does.upon {fn : FuncId} {args : Array Value} {a : Act} {K : Act → World → Prop} {Q : Exit → Act → World → Prop} {R : Value → World → Prop} (h : Does P fn args w R) (hK : ∀ v w', R v w' → K (a.put o.dst v) w') :
    o.upon P a K Q ((callFunc fn args).run P w) := by
  unfold Does at h
  generalize (callFunc fn args).run P w = res at h
  split at h
  · exact hK _ _ h
  · refine Calls.mono h fun e w'' he => ?_
    cases e with
    | returned v => exact hK _ _ he
    | panicked c => exact he.elim
    | outgrown => exact he.elim
  · exact h.elim

theorem undef_store {nx : Next} {w' : World} (hr : resOk o .undef = true) (h : (execOp ρ o).run P w = .ok nx w') : nx = .skip := by
  have key : ∀ s : Sem Unit, (do s; pure Next.skip : Sem Next).run P w = .ok nx w' → nx = .skip := by
    intro s hs
    rw [Sem.run_bind] at hs
    cases hx : s.run P w with
    | ok u w1 => rw [hx] at hs; simp at hs; exact hs.1.symm
    | halt x w1 => rw [hx] at hs; cases hs
  unfold resOk at hr
  simp only [] at hr
  split at hr
  · rename_i T a x ho; simp only [execOp, ho] at h; exact key _ h
  · rename_i T m k x ho; simp only [execOp, ho] at h; exact key _ h
  · rename_i T m k x ho; simp only [execOp, ho] at h; exact key _ h
  · cases hr

/-- ONE OPERATION. -/
theorem act_ok (hE : EnvOk P E) (hC : CallsOk P E call) (hK : KOk P E g) (hG : GlobOk E g) (hH : HRel g H w) (hL : LvRel N g p H w lv) (hN : N ≤ w.heap.size) {a : Act}
    (hops : ∀ x ∈ o.op.operands, TRel g w p (ev x) (a.eval x)) (h : actA E call md f o ev lv H = some (r, lv', H')) {K : Act → World → Prop} {Q : Exit → Act → World → Prop}
    (hk : ∀ c g' p' w', Out N g p H w lv r lv' H' c g' p' w' → K (a.put o.dst c) w') : o.wp P a w K Q := by
  unfold actA at h
  unfold Oper.wp
  split at h
  · rename_i hcall
    split at h
    · cases h
    · rename_i fn args ht
      split at h
      · rename_i hh
        obtain ⟨args', e1, e2, e3⟩ := target_ok hE hcall hops ht hh
        rw [e1]
        split at h
        · cases h
        · rename_i r' H1 hnu hcl
          simp only [Option.some.injEq, Prod.mk.injEq] at h
          obtain ⟨rfl, rfl, rfl⟩ := h
          have hru : r' ≠ .undef := fun e => hnu e
          refine (hC _ fn args H r' H1 hcl hru g w args' hH hG hK e2 e3 hh).upon fun v w' hv => ?_
          obtain ⟨g', hs, hvr⟩ := hv
          exact hk v g' p w' ⟨hs.weaken hN, hL.step hs, ⟨fun e => absurd e hru, .of hvr⟩, fun _ _ => rfl, fun _ _ _ => rfl, Nat.le_refl _⟩
        · cases h
      · cases h
  · split at h
    · rename_i r' l1 H1 hev
      split at h
      · rename_i hro
        simp only [Option.some.injEq, Prod.mk.injEq] at h
        obtain ⟨rfl, rfl, rfl⟩ := h
        obtain ⟨nx, c, w', g', p', h1, h2, h3, h4, h5, h6, h7, h8⟩ := evalOp_ok (ρ := a.eval) hE hK hH hL hN hops hev
        have hu : r' = .undef → c = undef := by
          rintro rfl
          have := undef_store hro h1
          subst this
          rcases h2 with h2 | h2
          · cases h2
          · exact h2.2
        have := hk c g' p' w' ⟨h3, h4, ⟨hu, h5⟩, h6, h7, h8⟩
        rw [h1]
        rcases h2 with rfl | ⟨rfl, rfl⟩
        · exact this
        · exact this
      · cases h
    · cases h

end
end Go.Rs
end
/- Frames; regions in the order of the text. -/
section
namespace Go.Rs
section
variable {P : Program} {E : Env} {N n : Nat} {g : Gh} {p : Nat → Option Nat} {H : Hp} {w : World} {lv : Lv} {o : Oper} {ev : Operand → AVal} {ρ : Operand → Value} {r : AVal}
variable {md : Bool} {f : FuncId} {lv' : Lv} {H' : Hp} {call : CallF} {tm : Tr AVal} {a : Act}

structure FrRel (g : Gh) (w : World) (p : Nat → Option Nat) (n : Nat) (tm : Tr AVal) (a : Act) : Prop where
  tm : ∀ t v, tm.get t = some v → TRelU g w p v (a.tmps.getD t undef)
  size : a.tmps.size = n

/-- all that stands between the machine and the interpreter -/
structure Good (P : Program) (E : Env) (N n : Nat) (g : Gh) (p : Nat → Option Nat) (H : Hp) (w : World) (lv : Lv) (tm : Tr AVal) (a : Act) : Prop where
  hH : HRel g H w
  hL : LvRel N g p H w lv
  hN : N ≤ w.heap.size
  hK : KOk P E g
  hG : GlobOk E g
  hF : FrRel g w p n tm a
  hD : ∀ d ∈ a.defers, MuteD P d

theorem TRelU.mono {g' : Gh} {w' : World} {p' : Nat → Option Nat} {v : AVal} {c : Value} (e : Ext g w g' w') (hp : ∀ t b, p t = some b → p' t = some b) (h : TRelU g w p v c) : TRelU g' w' p' v c :=
  ⟨h.1, h.2.mono e hp⟩

theorem FrRel.mono {g' : Gh} {w' : World} {p' : Nat → Option Nat} (h : FrRel g w p n tm a) (e : Ext g w g' w') (hp : ∀ t b, p t = some b → p' t = some b) : FrRel g' w' p' n tm a :=
  ⟨fun t v ht => (h.tm t v ht).mono e hp, h.size⟩

theorem evT_rel (hG : GlobOk E g) (x : Operand) (hF : ∀ t, x = .tmp t → ∀ v, tm.get t = some v → TRel g w p v (a.tmps.getD t undef)) : TRel g w p (evT E tm x) (a.eval x) := by
  cases x with
  | tmp t =>
    show TRel g w p ((tm.get t).getD .undef) (a.tmps.getD t undef)
    cases ht : tm.get t with
    | none => exact .of (.undef _)
    | some v => exact hF t rfl v ht
  | const v => exact .of (toA_rel g w v)
  | global i =>
    show TRel g w p (if E.glob i = true then .ptr i 0 else .undef) _
    split
    · rename_i hi; exact VRel.ptr 0 (hG i hi)
    · exact .of (.undef _)
  | func i => exact .of (.func _ (fs' := []) (cs' := []) rfl rfl (by simp) (by simp))

theorem Good.ops (h : Good P E N n g p H w lv tm a) : ∀ x ∈ o.op.operands, TRel g w p (evT E tm x) (a.eval x) := fun x _ => evT_rel h.hG x (fun t _ v ht => (h.hF.tm t v ht).2)

theorem getD_set (tmps : Array Value) (d t : Nat) (c : Value) : (tmps.setIfInBounds d c).getD t undef = if d = t ∧ d < tmps.size then c else tmps.getD t undef := by
  simp only [Array.getD_eq_getD_getElem?, Array.getElem?_setIfInBounds]
  by_cases h : d = t
  · subst h
    by_cases h2 : d < tmps.size
    · simp [h2]
    · simp [h2]
  · simp [h]

theorem FrRel.put {d : Option Tmp} {c : Value} {tm' : Tr AVal} (h : FrRel g w p n tm a) (hp : putA n tm d r = some tm') (hr : TRelU g w p r c) : FrRel g w p n tm' (a.put d c) := by
  cases d with
  | none => simp only [putA, Option.some.injEq] at hp; subst hp; exact h
  | some d =>
    unfold putA at hp
    simp only [] at hp
    split at hp
    · rename_i hd
      injection hp with hp
      subst hp
      refine ⟨fun t v ht => ?_, by simp [Act.put, h.size]⟩
      rw [Tr.get_set _ _ _ _ hd.2] at ht
      show TRelU g w p v ((a.tmps.setIfInBounds d c).getD t undef)
      rw [getD_set]
      split at ht
      · rename_i he
        injection ht with ht
        subst ht
        rw [if_pos ⟨he, by rw [h.size]; exact hd.1⟩]
        exact hr
      · rename_i he
        rw [if_neg (fun hh => he hh.1)]
        exact h.tm t v ht
    · cases hp

theorem put_defers {d : Option Tmp} {c : Value} : (a.put d c).defers = a.defers := by cases d <;> rfl

theorem Good.put {d : Option Tmp} {c : Value} {tm' : Tr AVal} (h : Good P E N n g p H w lv tm a) (hp : putA n tm d r = some tm') (hr : TRelU g w p r c) : Good P E N n g p H w lv tm' (a.put d c) :=
  { h with hF := h.hF.put hp hr, hD := by rw [put_defers]; exact h.hD }

theorem Out.pmono {r : AVal} {c : Value} {g' : Gh} {p' : Nat → Option Nat} {w' : World} (h : Out N g p H w lv r lv' H' c g' p' w') (hL : LvRel N g p H w lv) : ∀ t b, p t = some b → p' t = some b := fun t b hb => by
  rw [h.pold t (hL.nx t b hb).1]; exact hb

theorem Good.out {d : Option Tmp} {c : Value} {tm' : Tr AVal} {g' : Gh} {p' : Nat → Option Nat} {w' : World} (h : Good P E N n g p H w lv tm a) (ho : Out N g p H w lv r lv' H' c g' p' w') (hp : putA n tm d r = some tm') :
    Good P E N n g' p' H' w' lv' tm' (a.put d c) := by
  have : Good P E N n g' p' H' w' lv' tm a :=
    ⟨ho.step.rel, ho.lvr, Nat.le_trans h.hN ho.step.size, h.hK.ext ho.step.ext, h.hG.ext ho.step.ext, h.hF.mono ho.step.ext (ho.pmono h.hL), h.hD⟩
  exact this.put hp ho.val

theorem wanted_ok {ops : Array Oper} {b : Bool} (hF : ∀ t ∈ o.looksAt ops, ∀ v, tm.get t = some v → TRelU g w p v (a.tmps.getD t undef)) (h : wantedA ops.toList tm o = some b) : Region.wanted o (yielded ops a.tmps) = b := by
  unfold wantedA at h
  unfold Region.wanted
  cases hg : o.guard with
  | none => rw [hg] at h; simpa using h
  | some jw =>
    obtain ⟨j, want⟩ := jw
    rw [hg] at h
    simp only [Array.getElem?_toList] at h
    unfold yielded
    simp only []
    cases hd : (ops[j]?).bind (·.dst) with
    | none => rw [hd] at h; cases h
    | some d =>
      rw [hd] at h
      simp only [Option.bind_some] at h ⊢
      have hlk : d ∈ o.looksAt ops := by simp [Oper.looksAt, hg, hd]
      have hun : ∀ b, undef ≠ Value.bool b := by intro b; unfold undef; simp
      have tm2 : ∀ c, a.tmps.getD d undef = c → (∀ b, c = .bool b → a.tmps[d]? = some c) ∧ (c = undef → ∀ b, a.tmps[d]? ≠ some (.bool b)) := by
        intro c hc
        rw [Array.getD_eq_getD_getElem?] at hc
        refine ⟨fun b hb => ?_, fun hu b hb => ?_⟩
        · cases hx : a.tmps[d]? with
          | none => rw [hx] at hc; simp at hc; rw [hb] at hc; exact absurd hc (hun b)
          | some y => rw [hx] at hc; simp at hc; rw [hc]
        · rw [hb] at hc; simp at hc; rw [hu] at hc; exact hun b hc.symm
      split at h
      · rename_i b0 ht
        have h1 := (hF d hlk _ ht).2
        have hc := trel_bool h1
        have := (tm2 _ hc).1 b0 rfl
        injection h with h
        rw [this]
        simp only []
        rw [← h]
        simp
      · rename_i ht
        have h1 := (hF d hlk _ ht).1 rfl
        have hno := (tm2 _ h1).2 rfl
        injection h with h
        subst h
        split
        · rename_i b0 hb; exact absurd hb (hno b0)
        · rfl
      · cases h

theorem Good.wanted {ops : Array Oper} {b : Bool} (h : Good P E N n g p H w lv tm a) (hw : wantedA ops.toList tm o = some b) : Region.wanted o (yielded ops a.tmps) = b := wanted_ok (fun t _ => h.hF.tm t) hw

/-- one operation of a region, wanted or not -/
theorem stepA_ok (hE : EnvOk P E) (hC : CallsOk P E call) {ops : Array Oper} (h : Good P E N n g p H w lv tm a) (hs : stepA E call md f ops.toList o tm lv H = some (r, lv', H')) {K : Act → World → Prop} {Q : Exit → Act → World → Prop}
    (hk : ∀ c g' p' w', Out N g p H w lv r lv' H' c g' p' w' → K (a.put o.dst c) w') :
    if Region.wanted o (yielded ops a.tmps) then o.wp P a w K Q ∨ (o.asks P a w ∧ LetsOut Q) else K (a.put o.dst undef) w := by
  unfold stepA at hs
  split at hs
  · rename_i hw
    rw [h.wanted hw]
    obtain ⟨rfl, rfl, rfl⟩ := some3 hs
    exact hk undef g p w ⟨.refl h.hH, h.hL, ⟨fun _ => rfl, .of (.undef _)⟩, fun _ _ => rfl, fun _ _ _ => rfl, Nat.le_refl _⟩
  · rename_i hw
    rw [h.wanted hw]
    exact .inl (act_ok hE hC h.hK h.hG h.hH h.hL h.hN h.ops hs hk)
  · cases hs

/-- a deferred call of a mute function -/
theorem mute_ok (hE : EnvOk P E) (h : Good P E N n g p H w lv tm a) (hm : muteOp E o tm = true) : o.guard = none ∧
    ∃ d, (execOp a.eval o).run P w = .ok (.defer d) w ∧ o.dst = none ∧ MuteD P d := by
  unfold muteOp at hm
  split at hm
  · rename_i c hop
    simp only [Bool.and_eq_true, Option.isNone_iff_eq_none] at hm
    obtain ⟨⟨h1, h2⟩, h3⟩ := hm
    refine ⟨h1, ?_⟩
    split at h3
    · rename_i fv hc
      split at h3
      · rename_i g0 x y hev
        have hv := evT_rel (E := E) (g := g) (w := w) (p := p) (tm := tm) (a := a) h.hG fv (fun t _ v ht => (h.hF.tm t v ht).2)
        rw [hev] at hv
        have hv : VRel g w (.func (.func g0) x y) (a.eval fv) := hv
        generalize hcv : a.eval fv = cv at hv
        cases hv with
        | @func _ _ _ fs' cs' _ _ _ _ =>
          refine ⟨{ target := .fn (.func g0) cs'.toArray, args := fs'.toArray ++ c.args.map a.eval }, ?_, h2, g0, _, rfl, hE.mute g0 h3⟩
          simp [execOp, hop, resolve, hc, hcv, Deferred.ofValue]
      · cases h3
    · cases h3
  · cases hm

/-- IN THE ORDER OF THE TEXT. -/
theorem runOps_ok (hE : EnvOk P E) (hC : CallsOk P E call) {ops : Array Oper} {Q : Exit → Act → World → Prop} : ∀ (rest : List Oper) (k : Nat) (g : Gh) (p : Nat → Option Nat) (H : Hp) (w : World) (lv : Lv) (tm : Tr AVal) (a : Act) (tm' : Tr AVal) (lv' : Lv) (H' : Hp),
    ops.toList.drop k = rest → Good P E N n g p H w lv tm a → runOps E call md f ops.toList n rest tm lv H = some (tm', lv', H') →
    (∀ g' p' w' a', Step N g H w g' H' w' → Good P E N n g' p' H' w' lv' tm' a' → Q .normal a' w') → wpOps P ops Q (List.range' k rest.length) a w
  | [], k, g, p, H, w, lv, tm, a, tm', lv', H', _, hg, hr, hq => by
    simp only [runOps, Option.some.injEq, Prod.mk.injEq] at hr
    obtain ⟨rfl, rfl, rfl⟩ := hr
    exact hq g p w a (.refl hg.hH) hg
  | o :: rest, k, g, p, H, w, lv, tm, a, tm', lv', H', hd, hg, hr, hq => by
    have hk : ops[k]? = some o := by
      have : (ops.toList.drop k)[0]? = some o := by rw [hd]; rfl
      rw [List.getElem?_drop] at this
      simpa using this
    have hd' : ops.toList.drop (k + 1) = rest := by
      have : (ops.toList.drop k).drop 1 = rest := by rw [hd]; rfl
      rwa [List.drop_drop] at this
    simp only [List.length_cons, List.range'_succ, wpOps, hk]
    simp only [runOps] at hr
    split at hr
    · rename_i hm
      obtain ⟨h1, d, h2, h3, h4⟩ := mute_ok hE hg hm
      have hw : Region.wanted o (yielded ops a.tmps) = true := by simp [Region.wanted, h1]
      rw [if_pos hw]
      refine .inl ?_
      show o.upon P a _ Q ((execOp a.eval o).run P w)
      rw [h2]
      simp only [Oper.upon, h3, Act.put]
      refine runOps_ok hE hC rest (k + 1) g p H w lv tm _ tm' lv' H' hd' ?_ hr hq
      refine ⟨hg.hH, hg.hL, hg.hN, hg.hK, hg.hG, ⟨hg.hF.tm, hg.hF.size⟩, fun d' hd' => ?_⟩
      rcases List.mem_cons.1 hd' with rfl | hd'
      · exact h4
      · exact hg.hD d' hd'
    · split at hr
      · rename_i r lv1 H1 hs
        split at hr
        · rename_i tm1 hp
          refine stepA_ok hE hC hg hs fun c g1 p1 w1 ho => ?_
          refine runOps_ok hE hC rest (k + 1) g1 p1 H1 w1 lv1 tm1 _ tm' lv' H' hd' (hg.out ho hp) hr fun g' p' w' a' hst hgd => hq g' p' w' a' (ho.step.trans hst) hgd
        · cases hr
      · cases hr

end
end Go.Rs
end
/- Regions whose order is drawn: what a check of the text says. -/
section
namespace Go.Rs
noncomputable section

/-! ## Masks -/
def bitOf (t : Nat) : Nat := 2 ^ t

def maskOf : List Nat → Nat
  | [] => 0
  | t :: ts => bitOf t ||| maskOf ts

theorem mem_maskOf : ∀ {l : List Nat} {t : Nat}, (maskOf l).testBit t = true ↔ t ∈ l
  | [], t => by simp [maskOf]
  | x :: l, t => by
    simp only [maskOf, bitOf, Nat.testBit_or, Nat.testBit_two_pow, Bool.or_eq_true, decide_eq_true_eq, mem_maskOf (l := l), List.mem_cons]
    constructor
    · rintro (h | h)
      · exact .inl h.symm
      · exact .inr h
    · rintro (h | h)
      · exact .inl h.symm
      · exact .inr h

theorem and_zero {a b t : Nat} (h : a &&& b = 0) (ha : a.testBit t = true) : b.testBit t = false := by
  have : (a &&& b).testBit t = false := by rw [h]; simp
  rw [Nat.testBit_and, ha, Bool.true_and] at this
  exact this

/-! ## What must stand before what -/
inductive Before (ops : Array Oper) : Nat → Nat → Prop
  | edge {i : Nat} {o : Oper} {e : Edge} (hi : ops[i]? = some o) (he : e ∈ o.after) (hb : Region.binds .any e = true) : Before ops e.on i
  | trans {i j k : Nat} : Before ops i j → Before ops j k → Before ops i k

/-- a set that has, with each operation, all that it hangs on -/
def Closed (ops : Array Oper) (dn : Nat → Bool) : Prop := ∀ (i : Nat) (o : Oper) (e : Edge), dn i = true → ops[i]? = some o → e ∈ o.after → Region.binds .any e = true → dn e.on = true

theorem Closed.before {ops : Array Oper} {dn : Nat → Bool} (h : Closed ops dn) {i j : Nat} (hb : Before ops i j) : dn j = true → dn i = true := by
  induction hb with
  | edge hi he hb => exact fun hd => h _ _ _ hd hi he hb
  | trans _ _ ih1 ih2 => exact fun hd => ih1 (ih2 hd)

/-- the masks of all that stands before, in the order of the text -/
def preGo (ts : Tr Nat) (i : Nat) : List Oper → Tr Nat
  | [] => ts
  | o :: rest =>
    let m := o.after.toList.foldl (fun m e => if Region.binds .any e then m ||| bitOf e.on ||| (ts.get e.on).getD 0 else m) 0
    preGo (ts.set i m) (i + 1) rest

def PreOk (ops : Array Oper) (ts : Tr Nat) : Prop := ∀ i m b, ts.get i = some m → m.testBit b = true → Before ops b i

theorem foldl_pre {ops : Array Oper} {ts : Tr Nat} {i : Nat} {o : Oper} (ht : PreOk ops ts) (hi : ops[i]? = some o) : ∀ (l : List Edge) (m : Nat), (∀ e ∈ l, e ∈ o.after) → (∀ b, m.testBit b = true → Before ops b i) →
    ∀ b, (l.foldl (fun m e => if Region.binds .any e then m ||| bitOf e.on ||| (ts.get e.on).getD 0 else m) m).testBit b = true → Before ops b i
  | [], m, _, hm => hm
  | e :: l, m, hl, hm => by
    refine foldl_pre ht hi l _ (fun x hx => hl x (by simp [hx])) ?_
    intro b hb
    simp only [] at hb
    split at hb
    · rename_i hbi
      have hedge : Before ops e.on i := .edge hi (hl e (by simp)) hbi
      simp only [Nat.testBit_or, Bool.or_eq_true, bitOf, Nat.testBit_two_pow, decide_eq_true_eq] at hb
      rcases hb with (h | h) | h
      · exact hm b h
      · rw [← h]; exact hedge
      · cases hg : ts.get e.on with
        | none => rw [hg] at h; simp at h
        | some m' => rw [hg] at h; exact .trans (ht _ _ b hg h) hedge
    · exact hm b hb

theorem preGo_ok {ops : Array Oper} : ∀ (l : List Oper) (ts : Tr Nat) (i : Nat), ops.toList.drop i = l → i + l.length < 2 ^ 12 → PreOk ops ts → PreOk ops (preGo ts i l)
  | [], ts, i, _, _, h => h
  | o :: l, ts, i, hd, hn, h => by
    have hi : ops[i]? = some o := by
      have : (ops.toList.drop i)[0]? = some o := by rw [hd]; rfl
      rw [List.getElem?_drop] at this
      simpa using this
    have hd' : ops.toList.drop (i + 1) = l := by
      have : (ops.toList.drop i).drop 1 = l := by rw [hd]; rfl
      rwa [List.drop_drop] at this
    refine preGo_ok l _ (i + 1) hd' (by simp at hn; omega) ?_
    intro j m b hj hb
    rw [Tr.get_set _ _ _ _ (by simp at hn; omega)] at hj
    split at hj
    · rename_i hij
      subst hij
      injection hj with hj
      subst hj
      exact foldl_pre h hi _ 0 (by simp) (by simp) b hb
    · exact h j m b hj hb

/-! ## The entries -/
/-- an operation as the check sees it -/
structure Chk where
  i : Nat
  o : Oper
  /-- the number of effects before it -/
  k : Nat
  looks : Nat
  dst : Nat
  eff : Bool
  read : Bool
  lo : Nat
  hi : Nat

def isRead (E : Env) (o : Oper) : Bool :=
  match o.op with
  | .load .. | .lookup .. => true
  | .call c => match c.argTypes.toList with
    | T :: _ => match (E.ty T).u with
      | .map .. => true
      | _ => false
    | _ => true
  | _ => false

def chkOf (E : Env) (ops : Array Oper) (ask : List (Nat × Nat × Nat)) : Nat → List (Nat × Oper × Bool) → List Chk
  | _, [] => []
  | k, (i, o, h) :: rest =>
    let eff := isEff o && !h
    let lh := (askOf ask i).getD (k, k)
    { i, o, k, looks := maskOf (o.looksAt ops), dst := maskOf o.dst.toList, eff, read := !isEff o && isRead E o, lo := lh.1, hi := lh.2 } :: chkOf E ops ask (if eff then k + 1 else k) rest

/-- must x stand before y? (x stands before y in the order) -/
def need (x y : Chk) : Bool :=
  !(x.dst &&& (y.looks ||| y.dst) == 0) || !(x.looks &&& y.dst == 0) || (x.eff && y.eff) || (x.eff && y.read && decide (x.k < y.lo)) || (x.read && y.eff && y.k == x.hi)

def chkOne (x : Chk) : Bool := (!x.read || (decide (x.lo ≤ x.k) && decide (x.k ≤ x.hi)))

def chkPairs (pre : Tr Nat) : List Chk → Bool
  | [] => true
  | x :: rest => chkOne x && rest.all (fun y => !need x y || ((pre.get y.i).getD 0).testBit x.i) && chkPairs pre rest

/-- all edges go back -/
def edgesOk : Nat → List Oper → Bool
  | _, [] => true
  | i, o :: rest => o.after.toList.all (fun e => !Region.binds .any e || decide (e.on < i)) && edgesOk (i + 1) rest

theorem edgesOk_spec : ∀ (l : List Oper) (n i : Nat) (o : Oper) (e : Edge), edgesOk n l = true → l[i]? = some o → e ∈ o.after → Region.binds .any e = true → e.on < n + i
  | [], _, _, _, _, _, h, _, _ => by simp at h
  | x :: l, n, i, o, e, hk, h, he, hb => by
    simp only [edgesOk, Bool.and_eq_true, List.all_eq_true] at hk
    cases i with
    | zero =>
      simp only [List.getElem?_cons_zero, Option.some.injEq] at h
      subst h
      have := hk.1 e (by simpa using he)
      rw [hb] at this
      simpa using this
    | succ i =>
      have := edgesOk_spec l (n + 1) i o e hk.2 (by simpa using h) he hb
      omega

def regionOk (E : Env) (ops : Array Oper) (ask : List (Nat × Nat × Nat)) : Bool :=
  decide (ops.size < 2 ^ 12) && edgesOk 0 ops.toList && chkPairs (preGo .nil 0 ops.toList) (chkOf E ops ask 0 (orderA ops.toList))

theorem Tr.get_nil {α : Type} (i : Nat) : (Tr.nil : Tr α).get i = none := rfl

theorem chkPairs_ok {ops : Array Oper} {pre : Tr Nat} (hp : PreOk ops pre) : ∀ l : List Chk, chkPairs pre l = true → (∀ x ∈ l, chkOne x = true) ∧ l.Pairwise (fun x y => need x y = true → Before ops x.i y.i)
  | [], _ => ⟨by simp, List.Pairwise.nil⟩
  | x :: rest, h => by
    simp only [chkPairs, Bool.and_eq_true, List.all_eq_true] at h
    obtain ⟨⟨h1, h2⟩, h3⟩ := h
    obtain ⟨i1, i2⟩ := chkPairs_ok hp rest h3
    refine ⟨fun y hy => ?_, List.pairwise_cons.2 ⟨fun y hy hn => ?_, i2⟩⟩
    · rcases List.mem_cons.1 hy with rfl | hy
      · exact h1
      · exact i1 y hy
    · have := h2 y hy
      rw [hn] at this
      simp only [Bool.not_true, Bool.false_or] at this
      cases hg : pre.get y.i with
      | none => rw [hg] at this; simp at this
      | some m => rw [hg] at this; exact hp _ _ _ hg this

theorem regionOk_spec {E : Env} {ops : Array Oper} {ask : List (Nat × Nat × Nat)} (h : regionOk E ops ask = true) :
    (∀ (i : Nat) (o : Oper) (e : Edge), ops[i]? = some o → e ∈ o.after → Region.binds .any e = true → e.on < i) ∧ (∀ x ∈ chkOf E ops ask 0 (orderA ops.toList), chkOne x = true) ∧ (chkOf E ops ask 0 (orderA ops.toList)).Pairwise (fun x y => need x y = true → Before ops x.i y.i) := by
  unfold regionOk at h
  simp only [Bool.and_eq_true, decide_eq_true_eq] at h
  refine ⟨fun i o e ho he hb => ?_, chkPairs_ok (preGo_ok _ _ 0 rfl (by simpa using h.1.1) (by intro i m b hi; rw [Tr.get_nil] at hi; cases hi)) _ h.2⟩
  have := edgesOk_spec ops.toList 0 i o e h.1.2 (by simpa using ho) he hb
  omega

/-! ## The order -/
theorem hoistGo_mem : ∀ (l : List Oper) (hm n : Nat) (i : Nat) (o : Oper) (h : Bool), (i, o, h) ∈ hoistGo hm n l → n ≤ i ∧ l[i - n]? = some o ∧ (h = true → o.guard = none ∧ (isNew o || isMv o) = true)
  | [], _, _, _, _, _, hm => by simp [hoistGo] at hm
  | x :: l, m, n, i, o, h, hmem => by
    unfold hoistGo at hmem
    have tail : ∀ m', (i, o, h) ∈ hoistGo m' (n + 1) l → n ≤ i ∧ (x :: l)[i - n]? = some o ∧ (h = true → o.guard = none ∧ (isNew o || isMv o) = true) := by
      intro m' hm'
      obtain ⟨h1, h2, h3⟩ := hoistGo_mem l m' (n + 1) i o h hm'
      refine ⟨by omega, ?_, h3⟩
      have : i - n = (i - (n + 1)) + 1 := by omega
      rw [this]; simpa using h2
    split at hmem
    · rename_i hh
      rcases List.mem_cons.1 hmem with he | he
      · injection he with e1 e2
        injection e2 with e2 e3
        subst e1 e2 e3
        unfold hoists at hh
        simp only [Bool.and_eq_true] at hh
        exact ⟨Nat.le_refl _, by simp, fun _ => ⟨by simpa using hh.1.1, hh.1.2⟩⟩
      · exact tail _ he
    · rcases List.mem_cons.1 hmem with he | he
      · injection he with e1 e2
        injection e2 with e2 e3
        subst e1 e2 e3
        exact ⟨Nat.le_refl _, by simp, fun h => by cases h⟩
      · exact tail _ he

theorem hoistGo_fst : ∀ (l : List Oper) (hm n : Nat), (hoistGo hm n l).map (·.1) = List.range' n l.length
  | [], _, _ => rfl
  | x :: l, m, n => by
    unfold hoistGo
    split <;> simp [List.range'_succ, hoistGo_fst l]

theorem orderA_perm (l : List Oper) : ((orderA l).map (·.1)).Perm (List.range' 0 l.length) := by
  unfold orderA
  simp only []
  have hp : ((hoistGo 0 0 l).filter (fun x => x.2.2) ++ (hoistGo 0 0 l).filter (fun x => !x.2.2)).Perm (hoistGo 0 0 l) := List.filter_append_perm _ _
  rw [← hoistGo_fst l 0 0]
  exact hp.map _

theorem orderA_nodup (l : List Oper) : ((orderA l).map (·.1)).Nodup := (orderA_perm l).nodup_iff.2 List.nodup_range'

theorem mem_orderA {ops : Array Oper} {i : Nat} {o : Oper} {h : Bool} (hm : (i, o, h) ∈ orderA ops.toList) : ops[i]? = some o ∧ (h = true → o.guard = none ∧ (isNew o || isMv o) = true) := by
  unfold orderA at hm
  simp only [List.mem_append, List.mem_filter] at hm
  have := hoistGo_mem ops.toList 0 0 i o h (by rcases hm with h | h <;> exact h.1)
  exact ⟨by simpa using this.2.1, this.2.2⟩

theorem idx_orderA {ops : Array Oper} {i : Nat} (hi : i < ops.size) : ∃ o h, (i, o, h) ∈ orderA ops.toList := by
  have : i ∈ (orderA ops.toList).map (·.1) := (orderA_perm ops.toList).mem_iff.2 (by simp; exact hi)
  obtain ⟨⟨j, o, h⟩, hm, rfl⟩ := List.mem_map.1 this
  exact ⟨o, h, hm⟩

/-- hoisted ones first -/
theorem orderA_first (l : List Oper) : ∃ a b, orderA l = a ++ b ∧ (∀ x ∈ a, x.2.2 = true) ∧ (∀ x ∈ b, x.2.2 = false) := by
  refine ⟨_, _, rfl, fun x hx => (List.mem_filter.1 hx).2, fun x hx => ?_⟩
  simpa using (List.mem_filter.1 hx).2

end
end Go.Rs
end
