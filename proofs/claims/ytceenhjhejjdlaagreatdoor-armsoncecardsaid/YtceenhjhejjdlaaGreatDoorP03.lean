/- Objects that the machine makes later than the interpreter. -/
import Derived.Test.YtceenhjhejjdlaaGreatDoorP02
import Derived.LoopN
import Derived.Lib.Bytealg
set_option linter.unusedSimpArgs false
set_option linter.unusedVariables false
section
namespace Go.Rs
section
variable {P : Program} {E : Env} {N n : Nat} {g : Gh} {p : Nat → Option Nat} {H : Hp} {w : World} {lv : Lv} {o : Oper} {ev : Operand → AVal} {ρ : Operand → Value} {r : AVal}
variable {md : Bool} {f : FuncId} {lv' : Lv} {H' : Hp} {call : CallF} {tm : Tr AVal} {a : Act}

theorem late_ext (h : HRel g H w) {id : Nat} (hn : g.mu id = none) (O : Obj) : Ext g w (g.upd id w.heap.size 0 0) (w.alloc O) where
  kp := rfl
  mu i b hb := by
    show (if i = id then _ else _) = _
    rw [if_neg (by rintro rfl; rw [hn] at hb; cases hb)]; exact hb
  ka i b hb := by
    show (if i = id then _ else _) = _
    rw [if_neg (by rintro rfl; rw [hn] at hb; cases hb)]
  lim b := by
    show g.lim b ≤ if b = w.heap.size then 0 else g.lim b
    split
    · rename_i hb; rw [hb, lim_new h]; exact Nat.le_refl _
    · exact Nat.le_refl _
  imm b k v hk hc := by
    have hb := h.limlt b (by omega)
    rw [cell_of_heap (heap_alloc_old w O hb)]; exact hc
  size b := by
    rcases Nat.lt_or_ge b w.heap.size with hb | hb
    · rw [sizeAt_of_heap (heap_alloc_old w O hb)]; exact Nat.le_refl _
    · have : sizeAt w b = 0 := by simp [sizeAt, Array.getElem?_eq_none hb]
      omega

theorem late_lim (h : HRel g H w) {id : Nat} (b : Nat) : (g.upd id w.heap.size 0 0).lim b = g.lim b := by
  show (if b = w.heap.size then 0 else g.lim b) = _
  split
  · rename_i hb; rw [hb, lim_new h]
  · rfl

theorem late_obj (h : HRel g H w) {id : Nat} (hn : g.mu id = none) (hlt : id < H.next) (hm : id < maxTmp) {O : Obj} (hO : ORel (g.upd id w.heap.size 0 0) (w.alloc O) id w.heap.size (H.get id)) :
    HRel (g.upd id w.heap.size 0 0) H (w.alloc O) := by
  have ext := late_ext h hn O
  have mu_eq : ∀ i, (g.upd id w.heap.size 0 0).mu i = if i = id then some w.heap.size else g.mu i := fun _ => rfl
  refine ⟨?_, ?_, ?_, h.fresh, ?_⟩
  · intro i b hb
    rw [mu_eq] at hb
    split at hb
    · rename_i hi
      injection hb with hb
      subst hi hb
      exact hO
    · rename_i hi
      refine (h.obj i b hb).mono ext (heap_alloc_old w O (h.lt i b hb).2.2) (late_lim h b) ?_
      show (if i = id then 0 else g.ka i) = _
      rw [if_neg hi]
  · intro i j b hi hj ai aj
    rw [mu_eq] at hi hj
    split at hi <;> split at hj
    · rename_i a c; rw [a, c]
    · injection hi with hi
      have := (h.lt j b hj).2.2; omega
    · injection hj with hj
      have := (h.lt i b hi).2.2; omega
    · exact h.inj i j b hi hj ai aj
  · intro i b hb
    rw [mu_eq] at hb
    rw [size_alloc']
    split at hb
    · rename_i hi; injection hb with hb; exact ⟨by omega, by omega, by omega⟩
    · have := h.lt i b hb; exact ⟨this.1, this.2.1, by omega⟩
  · intro b hb
    rw [late_lim h] at hb
    rw [size_alloc']
    have := h.limlt b hb; omega

theorem late_held (h : HRel g H w) {id b : Nat} (hb : b < w.heap.size) : Held (g.upd id w.heap.size 0 0) H b → Held g H b := by
  rintro ⟨i, hi, al⟩
  have mu_eq : ∀ i, (g.upd id w.heap.size 0 0).mu i = if i = id then some w.heap.size else g.mu i := fun _ => rfl
  rw [mu_eq] at hi
  split at hi
  · injection hi with hi; omega
  · exact ⟨i, hi, al⟩

theorem Step.late {g0 : Gh} {H0 : Hp} {w0 : World} (h : Step N g0 H0 w0 g H w) {id : Nat} (hid : H0.next ≤ id) (hn : g.mu id = none) {O : Obj} (hrel : HRel (g.upd id w.heap.size 0 0) H (w.alloc O)) :
    Step N g0 H0 w0 (g.upd id w.heap.size 0 0) H (w.alloc O) := by
  refine ⟨h.ext.trans (late_ext h.rel hn O), hrel, h.next, by rw [size_alloc']; have := h.size; omega, ?_, ?_, ?_, h.pend, h.kw.trans (.alloc w O)⟩
  · intro b hb hb0 hnh
    have := h.keep b hb hb0 hnh
    refine ⟨(heap_alloc_old w O (by have := h.size; omega)).trans this.1, (late_lim h.rel b).trans this.2⟩
  · intro b hb hh
    exact h.img b hb (late_held h.rel (by have := h.size; omega) hh)
  · intro i hi
    show (if i = id then _ else _) = _
    rw [if_neg (by omega)]
    exact h.old i hi

theorem late_lv (hL : LvRel N g p H w lv) (h : HRel g H w) {id : Nat} (hn : g.mu id = none) (O : Obj) : LvRel N (g.upd id w.heap.size 0 0) p H (w.alloc O) lv := by
  have ext := late_ext h hn O
  refine ⟨fun t b hb => ?_, hL.inj, fun t b hb hh => ?_, fun t b hb => ?_, hL.nx⟩
  · obtain ⟨cs, arr, h1, h2, h3, h4, h5, h6⟩ := hL.one t b hb
    have hlt := (hL.lt t b hb).2
    exact ⟨cs, arr, h1, (late_lim h b).trans h2, h3, h4.of_heap (heap_alloc_old w O hlt), h5, fun i a c ha hc => (h6 i a c ha hc).mono ext⟩
  · exact hL.priv t b hb (late_held h (hL.lt t b hb).2 hh)
  · have := hL.lt t b hb; rw [size_alloc']; omega

theorem late_local (hL : LvRel N g p H w lv) (hH : HRel g H w) (hN : N ≤ w.heap.size) {s : Nat} {T : TypeId} {cs : List AVal} {cs' : Array Value} (hp : p s = none) (hs : s < lv.next) (hm : s < maxTmp) (hget : lv.get s = some cs)
    (hc : CRel g w cs cs'.toList) (hone : ∀ a ∈ cs, a.oneCell = true) : LvRel N g (fun t => if t = s then some w.heap.size else p t) H (w.alloc (.cells cs' T)) lv := by
  have hst := Step.plain (N := w.heap.size) hH (.cells cs' T)
  have hL' := hL.step hst
  refine ⟨fun t b hb => ?_, fun t u b ht hu => ?_, fun t b hb => ?_, fun t b hb => ?_, fun t b hb => ?_⟩
  · split at hb
    · rename_i htd
      injection hb with hb
      subst hb htd
      have hlen := hc.len
      refine ⟨cs, cs', hget, lim_new hH, hone, row_new T cs', by simpa using Nat.le_of_eq hlen, fun i a c ha hc' => ?_⟩
      exact (hc.rel i a c ha (by simpa using hc')).mono hst.ext
    · exact hL'.one t b hb
  · split at ht <;> split at hu
    · rename_i a c; rw [a, c]
    · injection ht with ht; have := (hL.lt u b hu).2; omega
    · injection hu with hu; have := (hL.lt t b ht).2; omega
    · exact hL.inj t u b ht hu
  · split at hb
    · injection hb with hb
      rintro ⟨id, hid, _⟩
      have := (hH.lt id b hid).2.2; omega
    · exact hL'.priv t b hb
  · split at hb
    · injection hb with hb; rw [size_alloc']; omega
    · exact hL'.lt t b hb
  · split at hb
    · rename_i htd; rw [htd]; exact ⟨hs, hm⟩
    · exact hL.nx t b hb

/-! ## The interpreter alone makes an object -/
theorem ghost_alive (h : HRel g H w) {obj : AObj} (hm : H.next < maxTmp) {i b : Nat} (hi : g.mu i = some b) : Alive (H.alloc obj).2 i ↔ Alive H i := by
  unfold Alive
  rw [Hp.get_alloc H i obj hm, if_neg (by have := (h.lt i b hi).1; omega)]

theorem Step.ghost (h : HRel g H w) (obj : AObj) (hm : H.next < maxTmp) : Step N g H w g (H.alloc obj).2 w := by
  have get : ∀ i b, g.mu i = some b → (H.alloc obj).2.get i = H.get i := fun i b hi => by
    rw [Hp.get_alloc H i obj hm, if_neg (by have := (h.lt i b hi).1; omega)]
  refine ⟨.refl _ _, ⟨?_, ?_, ?_, ?_, h.limlt⟩, by simp, Nat.le_refl _, fun _ _ _ _ => ⟨rfl, rfl⟩, ?_, fun _ _ => rfl, ?_, .refl w⟩
  · intro i b hb; rw [get i b hb]; exact h.obj i b hb
  · intro i j b hi hj ai aj; exact h.inj i j b hi hj ((ghost_alive h hm hi).1 ai) ((ghost_alive h hm hj).1 aj)
  · intro i b hb
    have := h.lt i b hb
    exact ⟨by simp; omega, this.2⟩
  · intro i hi
    simp at hi
    rw [Hp.get_alloc H i obj hm, if_neg (by omega)]
    exact h.fresh i (by omega)
  · rintro b _ ⟨i, hi, al⟩
    exact ⟨i, hi, (ghost_alive h hm hi).1 al⟩
  · intro i hi _
    rw [Hp.get_alloc H i obj hm, if_neg (by omega)]

theorem ghost_lv (hL : LvRel N g p H w lv) (h : HRel g H w) (obj : AObj) (hm : H.next < maxTmp) : LvRel N g p (H.alloc obj).2 w lv :=
  ⟨hL.one, hL.inj, fun t b hb hh => hL.priv t b hb (by obtain ⟨i, hi, al⟩ := hh; exact ⟨i, hi, (ghost_alive h hm hi).1 al⟩), hL.lt, hL.nx⟩

theorem ghost_push (hL : LvRel N g p H w lv) (cs : List AVal) (hm : lv.next < maxTmp) : LvRel N g p H w (lv.push cs) := by
  refine ⟨fun t b hb => ?_, hL.inj, hL.priv, hL.lt, fun t b hb => ?_⟩
  · have := (hL.nx t b hb).1
    rw [Lv.get_push _ _ _ hm, if_neg (by omega)]
    exact hL.one t b hb
  · have := hL.nx t b hb
    exact ⟨by simp; omega, this.2⟩

/-! ## What a new object is -/
/-- the interpreter's side -/
inductive NewA (lv : Lv) (H : Hp) : AVal → Lv → Hp → Prop
  | loc (cs : List AVal) (hm : lv.next < maxTmp) : NewA lv H (.lptr lv.next 0) (lv.push cs) H
  | obj (r : AVal) (ob : AObj) (hm : H.next < maxTmp) (hd : ob ≠ .dead) : NewA lv H r lv (H.alloc ob).2

theorem new_rel (hE : EnvOk P E) (hn : isNew o = true) (hops : ∀ x ∈ o.op.operands, TRel g w p (ev x) (ρ x)) (h : evalOp E md f o ev lv H = some (r, lv', H')) :
    (∃ cs cs' T, r = .lptr lv.next 0 ∧ lv' = lv.push cs ∧ H' = H ∧ lv.next < maxTmp ∧ CRel g w cs cs'.toList ∧ (∀ a ∈ cs, a.oneCell = true) ∧
      (execOp ρ o).run P w = .ok (.value (.pointer (some ⟨w.heap.size, 0, none⟩))) (w.alloc (.cells cs' T))) ∨
    (∃ ob O c, lv' = lv ∧ H' = (H.alloc ob).2 ∧ H.next < maxTmp ∧ ob ≠ .dead ∧ (execOp ρ o).run P w = .ok (.value c) (w.alloc O) ∧
      ∀ g', Ext g w g' (w.alloc O) → g'.mu H.next = some w.heap.size → g'.lim w.heap.size = 0 → g'.ka H.next = 0 → ORel g' (w.alloc O) H.next w.heap.size ob ∧ VRel g' (w.alloc O) r c) := by
  cases ho : o.op with
  | alloc T =>
    simp only [evalOp, opMove, opPick, opAlloc, opBox, opBuild, opBuildSlice, opLoad, opStore, opNilCheck, opBinOp, opUnOp, opConvert, opMakeInterface, opMakeFunc, opMakeMap, opMakeSlice, opSlice, opFieldAddr, opField, opIndexAddr, opIndex, opLookup, opMapUpdate, opRange, opNext, opExtract, opAppendB, opCopyB, opLenB, opCapB, opMaxB, opMinB, opClearB, ho, hE.ty] at h
    split at h
    · split at h
      · cases h
      · rename_i hz
        have hz : (tyOf P T).zok = true := by simpa using hz
        obtain ⟨z, h1, h2, h3, h4, h5, h6, h7⟩ := run_zero (P := P) hz g w
        have hrun : (execOp ρ o).run P w = .ok (.value (.pointer (some ⟨w.heap.size, 0, none⟩))) (w.alloc (.cells z.cells T)) := by simp [execOp, ho, Instr.alloc, h1, run_newVar]
        split at h
        · split at h
          · rename_i hm
            obtain ⟨rfl, rfl, rfl⟩ := some3 h
            exact .inl ⟨_, z.cells, T, rfl, rfl, rfl, hm, h2, h5, hrun⟩
          · cases h
        · obtain ⟨hm, rfl, rfl, rfl⟩ := newV_some h
          refine .inr ⟨_, _, _, rfl, rfl, hm, by simp, hrun, fun g' ext hmu hl hka => ⟨?_, .ptr _ hmu⟩⟩
          have hlen := h2.len
          exact ⟨hl, h5, z.cells, row_new T _, by simpa using Nat.le_of_eq hlen, fun i a c ha hc' => (h2.rel i a c ha (by simpa using hc')).mono ext⟩
    · cases h
  | makeMap T res =>
    cases res with
    | some _ => simp [evalOp, opMove, opPick, opAlloc, opBox, opBuild, opBuildSlice, opLoad, opStore, opNilCheck, opBinOp, opUnOp, opConvert, opMakeInterface, opMakeFunc, opMakeMap, opMakeSlice, opSlice, opFieldAddr, opField, opIndexAddr, opIndex, opLookup, opMapUpdate, opRange, opNext, opExtract, opAppendB, opCopyB, opLenB, opCapB, opMaxB, opMinB, opClearB, ho] at h
    | none =>
      simp only [evalOp, opMove, opPick, opAlloc, opBox, opBuild, opBuildSlice, opLoad, opStore, opNilCheck, opBinOp, opUnOp, opConvert, opMakeInterface, opMakeFunc, opMakeMap, opMakeSlice, opSlice, opFieldAddr, opField, opIndexAddr, opIndex, opLookup, opMapUpdate, opRange, opNext, opExtract, opAppendB, opCopyB, opLenB, opCapB, opMaxB, opMinB, opClearB, ho, hE.ty] at h
      split at h
      · rename_i kt e hu
        obtain ⟨hm, rfl, rfl, rfl⟩ := newV_some h
        refine .inr ⟨_, .map #[] 0, .map (some w.heap.size), rfl, rfl, hm, by simp, ?_, fun g' ext hmu hl hka => ⟨⟨hl, #[], 0, heap_alloc_new' w _, rfl, by simp, .empty _, by simp⟩, .map hmu⟩⟩
        simp [execOp, ho, Instr.makeMap]
      · cases h
  | makeSlice T l c =>
    simp only [evalOp, opMove, opPick, opAlloc, opBox, opBuild, opBuildSlice, opLoad, opStore, opNilCheck, opBinOp, opUnOp, opConvert, opMakeInterface, opMakeFunc, opMakeMap, opMakeSlice, opSlice, opFieldAddr, opField, opIndexAddr, opIndex, opLookup, opMapUpdate, opRange, opNext, opExtract, opAppendB, opCopyB, opLenB, opCapB, opMaxB, opMinB, opClearB, ho, hE.ty] at h
    have hl := hops l (by rw [ho]; simp [Op.operands])
    have hc := hops c (by rw [ho]; simp [Op.operands])
    split at h
    · rename_i e k n k' m hu hl0 hc0
      rw [hl0] at hl
      rw [hc0] at hc
      split at h
      · rename_i hcnd
        obtain ⟨h0, h1, h2, h3, h4, h5⟩ := hcnd
        obtain ⟨z, hrun, z2, z5, z6, hzl, z7⟩ := run_makeSlice (w := w) ho hu hl hc h0 h1 h2 h3 h4 h5
        have hnm : n.toNat ≤ m.toNat := by omega
        have hcm := crel_repl z2 (by omega) m.toNat
        have hlen := repl_length (tyOf P e).zero n.toNat
        have hmul : n.toNat * (tyOf P e).size ≤ m.toNat * (tyOf P e).size := Nat.mul_le_mul_right _ hnm
        split at h
        · obtain ⟨hm, rfl, rfl, rfl⟩ := newV_some h
          refine .inr ⟨_, _, _, rfl, rfl, hm, by simp, hrun, fun g' ext hmu hl hka => ⟨⟨hl, repl_one z5 _, _, row_new e _, by rw [hlen, z6]; simp [hzl]; exact hmul, ?_⟩, ?_⟩⟩
          · intro i a c ha hc'
            rw [← repl_take _ hnm, List.getElem?_take] at ha
            split at ha
            · exact (hcm.rel i a c ha (by rw [Array.getElem?_toList]; exact hc')).mono ext
            · cases ha
          · refine .sl 0 n.toNat _ m.toNat hmu hnm ?_
            rw [(row_new e _).size]; simp [hzl]
        · split at h
          · rename_i hn0
            subst hn0
            obtain ⟨hm, rfl, rfl, rfl⟩ := newV_some h
            refine .inr ⟨_, _, _, rfl, rfl, hm, by simp, hrun, fun g' ext hmu hl hka => ⟨⟨by rw [hl, hka], _, row_new e _, by omega⟩, ?_⟩⟩
            refine .list (xs := []) _ w.heap.size 0 m.toNat (fun _ => undef) (by simp) (by simp) (by simp) (by simp) (by simp) ?_ ?_
            · rw [(row_new e _).size]; simp [hzl]
            · exact ⟨⟨_, hmu⟩, .inr ⟨hmu, by simp [hka]⟩⟩
          · cases h
      · cases h
    · cases h
  | _ => simp [isNew, ho] at hn

theorem new_kind (hn : isNew o = true) (h : evalOp E md f o ev lv H = some (r, lv', H')) : NewA lv H r lv' H' := by
  cases ho : o.op with
  | alloc T =>
    simp only [evalOp, opMove, opPick, opAlloc, opBox, opBuild, opBuildSlice, opLoad, opStore, opNilCheck, opBinOp, opUnOp, opConvert, opMakeInterface, opMakeFunc, opMakeMap, opMakeSlice, opSlice, opFieldAddr, opField, opIndexAddr, opIndex, opLookup, opMapUpdate, opRange, opNext, opExtract, opAppendB, opCopyB, opLenB, opCapB, opMaxB, opMinB, opClearB, ho] at h
    split at h
    · split at h
      · cases h
      · split at h
        · split at h
          · rename_i hm
            obtain ⟨rfl, rfl, rfl⟩ := some3 h
            exact .loc _ hm
          · cases h
        · obtain ⟨hm, rfl, rfl, rfl⟩ := newV_some h
          exact .obj _ _ hm (by simp)
    · cases h
  | makeMap T res =>
    cases res with
    | some _ => simp [evalOp, opMove, opPick, opAlloc, opBox, opBuild, opBuildSlice, opLoad, opStore, opNilCheck, opBinOp, opUnOp, opConvert, opMakeInterface, opMakeFunc, opMakeMap, opMakeSlice, opSlice, opFieldAddr, opField, opIndexAddr, opIndex, opLookup, opMapUpdate, opRange, opNext, opExtract, opAppendB, opCopyB, opLenB, opCapB, opMaxB, opMinB, opClearB, ho] at h
    | none =>
      simp only [evalOp, opMove, opPick, opAlloc, opBox, opBuild, opBuildSlice, opLoad, opStore, opNilCheck, opBinOp, opUnOp, opConvert, opMakeInterface, opMakeFunc, opMakeMap, opMakeSlice, opSlice, opFieldAddr, opField, opIndexAddr, opIndex, opLookup, opMapUpdate, opRange, opNext, opExtract, opAppendB, opCopyB, opLenB, opCapB, opMaxB, opMinB, opClearB, ho] at h
      split at h
      · obtain ⟨hm, rfl, rfl, rfl⟩ := newV_some h
        exact .obj _ _ hm (by simp)
      · cases h
  | makeSlice T l c =>
    simp only [evalOp, opMove, opPick, opAlloc, opBox, opBuild, opBuildSlice, opLoad, opStore, opNilCheck, opBinOp, opUnOp, opConvert, opMakeInterface, opMakeFunc, opMakeMap, opMakeSlice, opSlice, opFieldAddr, opField, opIndexAddr, opIndex, opLookup, opMapUpdate, opRange, opNext, opExtract, opAppendB, opCopyB, opLenB, opCapB, opMaxB, opMinB, opClearB, ho] at h
    split at h
    · split at h
      · split at h
        · obtain ⟨hm, rfl, rfl, rfl⟩ := newV_some h
          exact .obj _ _ hm (by simp)
        · split at h
          · obtain ⟨hm, rfl, rfl, rfl⟩ := newV_some h
            exact .obj _ _ hm (by simp)
          · cases h
      · cases h
    · cases h
  | _ => simp [isNew, ho] at hn

/-- what is no effect leaves all as it is -/
theorem eff_same (hn : isEff o = false) (h : evalOp E md f o ev lv H = some (r, lv', H')) : lv' = lv ∧ H' = H := by
  cases ho : o.op with
  | call c =>
    cases hc : c.callee with
    | builtin b =>
      simp only [isEff, ho, hc] at hn
      cases b <;> simp at hn <;> simp only [evalOp, opMove, opPick, opAlloc, opBox, opBuild, opBuildSlice, opLoad, opStore, opNilCheck, opBinOp, opUnOp, opConvert, opMakeInterface, opMakeFunc, opMakeMap, opMakeSlice, opSlice, opFieldAddr, opField, opIndexAddr, opIndex, opLookup, opMapUpdate, opRange, opNext, opExtract, opAppendB, opCopyB, opLenB, opCapB, opMaxB, opMinB, opClearB, ho, hc] at h
      all_goals
        repeat' split at h
        all_goals first
          | (cases h; done)
          | exact (keepA_some h).2
    | value fv => simp [isEff, ho, hc] at hn
    | invoke r m => simp [isEff, ho, hc] at hn
  | store T a x => simp [isEff, ho] at hn
  | _ =>
    first
      | (simp [isEff, ho] at hn; done)
      | (simp only [evalOp, opMove, opPick, opAlloc, opBox, opBuild, opBuildSlice, opLoad, opStore, opNilCheck, opBinOp, opUnOp, opConvert, opMakeInterface, opMakeFunc, opMakeMap, opMakeSlice, opSlice, opFieldAddr, opField, opIndexAddr, opIndex, opLookup, opMapUpdate, opRange, opNext, opExtract, opAppendB, opCopyB, opLenB, opCapB, opMaxB, opMinB, opClearB, ho] at h
         repeat' split at h
         all_goals first
           | (cases h; done)
           | exact (keepA_some h).2)

theorem sliceA_indep (T : TypeId) (H H2 : Hp) (x : AVal) (lo hi mx : Option AVal) : sliceA E T H x lo hi mx = sliceA E T H2 x lo hi mx := rfl

theorem keep_self {x : Option AVal} {l l2 : Lv} {h h2 : Hp} : keepA l2 h2 x = keepA l2 h2 ((keepA l h x).map (·.1)) := by cases x <;> rfl

/-- what reads nothing yields the same everywhere -/
theorem read_keep (hn : isEff o = false) (hr : isRead E o = false) (lv lv2 : Lv) (H H2 : Hp) : evalOp E md f o ev lv2 H2 = keepA lv2 H2 ((evalOp E md f o ev lv H).map (·.1)) := by
  cases ho : o.op with
  | call c =>
    cases hc : c.callee with
    | builtin b =>
      simp only [isEff, ho, hc] at hn
      simp only [isRead, ho] at hr
      cases b <;> simp at hn <;> simp only [evalOp, opMove, opPick, opAlloc, opBox, opBuild, opBuildSlice, opLoad, opStore, opNilCheck, opBinOp, opUnOp, opConvert, opMakeInterface, opMakeFunc, opMakeMap, opMakeSlice, opSlice, opFieldAddr, opField, opIndexAddr, opIndex, opLookup, opMapUpdate, opRange, opNext, opExtract, opAppendB, opCopyB, opLenB, opCapB, opMaxB, opMinB, opClearB, ho, hc]
      case len =>
        split
        · rename_i x T ts hx ht
          rw [ht] at hr
          simp only [] at hr
          split <;> first
            | exact keep_self
            | rfl
            | (exfalso; simp_all; done)
        · rfl
      all_goals
        repeat' split
        all_goals first
          | exact keep_self
          | rfl
    | value fv => simp [isEff, ho, hc] at hn
    | invoke r m => simp [isEff, ho, hc] at hn
  | load T a => simp [isRead, ho] at hr
  | lookup T m k b => simp [isRead, ho] at hr
  | slice T x lo hi mx => simp only [evalOp, opMove, opPick, opAlloc, opBox, opBuild, opBuildSlice, opLoad, opStore, opNilCheck, opBinOp, opUnOp, opConvert, opMakeInterface, opMakeFunc, opMakeMap, opMakeSlice, opSlice, opFieldAddr, opField, opIndexAddr, opIndex, opLookup, opMapUpdate, opRange, opNext, opExtract, opAppendB, opCopyB, opLenB, opCapB, opMaxB, opMinB, opClearB, ho]; rw [sliceA_indep T H2 H]; exact keep_self
  | _ =>
    first
      | (simp [isEff, ho] at hn; done)
      | (simp only [evalOp, opMove, opPick, opAlloc, opBox, opBuild, opBuildSlice, opLoad, opStore, opNilCheck, opBinOp, opUnOp, opConvert, opMakeInterface, opMakeFunc, opMakeMap, opMakeSlice, opSlice, opFieldAddr, opField, opIndexAddr, opIndex, opLookup, opMapUpdate, opRange, opNext, opExtract, opAppendB, opCopyB, opLenB, opCapB, opMaxB, opMinB, opClearB, ho]
         first
           | exact keep_self
           | (repeat' split
              all_goals first
                | exact keep_self
                | rfl))

theorem read_indep (hn : isEff o = false) (hr : isRead E o = false) (h : evalOp E md f o ev lv H = some (r, lv', H')) (lv2 : Lv) (H2 : Hp) : evalOp E md f o ev lv2 H2 = some (r, lv2, H2) := by
  rw [read_keep hn hr lv lv2 H H2, h]; rfl

end
end Go.Rs
end
/- Regions whose order is drawn: the run that the interpreter makes. -/
section
namespace Go.Rs

/-! ## One value -/
mutual
theorem sameA_eq : ∀ (a b : AVal), sameA a b = true → a = b
  | a, b, h => by
    cases a <;> cases b <;> simp only [sameA, Bool.and_eq_true, beq_iff_eq, decide_eq_true_eq, Bool.false_eq_true] at h
    case bool.bool => rw [h]
    case int.int => rw [h.1, h.2]
    case str.str => rw [h]
    case nilptr.nilptr => rfl
    case ptr.ptr => rw [h.1, h.2]
    case lptr.lptr => rw [h.1, h.2]
    case eptr.eptr => rw [h.1.1, h.1.2, sameAs_eq _ _ h.2]
    case nilslice.nilslice => rfl
    case list.list => rw [h.1.1, h.1.2, sameAs_eq _ _ h.2]
    case sl.sl => rw [h.1.1.1, h.1.1.2, h.1.2, h.2]
    case nilmap.nilmap => rfl
    case map.map => rw [h]
    case nilfunc.nilfunc => rfl
    case iface.iface => rw [h.1, sameA_eq _ _ h.2]
    case niliface.niliface => rfl
    case agg.agg => rw [sameAs_eq _ _ h]
    case tuple.tuple => rw [sameAs_eq _ _ h]
theorem sameAs_eq : ∀ (a b : List AVal), sameAs a b = true → a = b
  | [], [], _ => rfl
  | x :: xs, y :: ys, h => by
    simp only [sameAs, Bool.and_eq_true] at h
    rw [sameA_eq x y h.1, sameAs_eq xs ys h.2]
  | [], _ :: _, h => by simp [sameAs] at h
  | _ :: _, [], h => by simp [sameAs] at h
end

/-! ## The run, entry by entry -/
structure Ent where
  i : Nat
  o : Oper
  h : Bool
  tm : Tr AVal
  lv : Lv
  H : Hp
  r : AVal
  lv1 : Lv
  H1 : Hp

def Ent.c (e : Ent) : Nat × Oper × Bool := (e.i, e.o, e.h)
def Ent.eff (e : Ent) : Bool := isEff e.o && !e.h

inductive Trace (E : Env) (call : CallF) (md : Bool) (f : FuncId) (ops : List Oper) (n : Nat) : List Ent → Tr AVal → Lv → Hp → Tr AVal → Lv → Hp → Prop
  | nil (tm : Tr AVal) (lv : Lv) (H : Hp) : Trace E call md f ops n [] tm lv H tm lv H
  | cons {e : Ent} {es : List Ent} {tm1 tm' : Tr AVal} {lv' : Lv} {H' : Hp} (hs : stepA E call md f ops e.o e.tm e.lv e.H = some (e.r, e.lv1, e.H1)) (hp : putA n e.tm e.o.dst e.r = some tm1)
      (ht : Trace E call md f ops n es tm1 e.lv1 e.H1 tm' lv' H') : Trace E call md f ops n (e :: es) e.tm e.lv e.H tm' lv' H'

def effStates (es : List Ent) : List (Lv × Hp) := (es.filter Ent.eff).map fun e => (e.lv, e.H)

def numE (es : List Ent) : Nat := (es.filter Ent.eff).length

section
variable {E : Env} {call : CallF} {md : Bool} {f : FuncId} {ops : List Oper} {n : Nat}

theorem runDraw_trace {ask : List (Nat × Nat × Nat)} : ∀ (C : List (Nat × Oper × Bool)) (tm : Tr AVal) (lv : Lv) (H : Hp) (sts : List (Lv × Hp)) (rs : List Rec) (tm' : Tr AVal) (lv' : Lv) (H' : Hp) (sts' : List (Lv × Hp)) (rs' : List Rec),
    runDraw E call md f ops n ask C tm lv H sts rs = some (tm', lv', H', sts', rs') →
    ∃ es, es.map Ent.c = C ∧ Trace E call md f ops n es tm lv H tm' lv' H' ∧ sts' = (effStates es).reverse ++ sts ∧ (∀ x ∈ rs, x ∈ rs') ∧
      ∀ e ∈ es, ∀ lo hi, askOf ask e.i = some (lo, hi) → (⟨e.o, e.tm, e.r, lo, hi⟩ : Rec) ∈ rs'
  | [], tm, lv, H, sts, rs, tm', lv', H', sts', rs', h => by
    simp only [runDraw, Option.some.injEq, Prod.mk.injEq] at h
    obtain ⟨rfl, rfl, rfl, rfl, rfl⟩ := h
    exact ⟨[], rfl, .nil _ _ _, by simp [effStates], fun _ h => h, by simp⟩
  | (i, o, hh) :: C, tm, lv, H, sts, rs, tm', lv', H', sts', rs', h => by
    simp only [runDraw] at h
    split at h
    · rename_i r lv1 H1 hs
      split at h
      · rename_i tm1 hp
        obtain ⟨es, h1, h2, h3, h4, h5⟩ := runDraw_trace C _ _ _ _ _ _ _ _ _ _ h
        refine ⟨⟨i, o, hh, tm, lv, H, r, lv1, H1⟩ :: es, by simp [Ent.c, h1], .cons (e := ⟨i, o, hh, tm, lv, H, r, lv1, H1⟩) hs hp h2, ?_, fun x hx => ?_, fun e he lo hi ha => ?_⟩
        · rw [h3]
          unfold effStates
          by_cases heff : (isEff o && !hh) = true
          · simp only [heff, if_true, List.filter_cons, Ent.eff]
            simp
          · have heff : (isEff o && !hh) = false := by simpa using heff
            simp only [heff, List.filter_cons, Ent.eff]
            simp
        · refine h4 x ?_
          split
          · exact List.mem_cons_of_mem _ hx
          · exact hx
        · rcases List.mem_cons.1 he with rfl | he
          · refine h4 _ ?_
            simp only [] at ha
            rw [ha]
            exact List.mem_cons_self
          · exact h5 e he lo hi ha
      · cases h
    · cases h

theorem Trace.append {es1 es2 : List Ent} {tm : Tr AVal} {lv : Lv} {H : Hp} {tm' : Tr AVal} {lv' : Lv} {H' : Hp} (h : Trace E call md f ops n (es1 ++ es2) tm lv H tm' lv' H') :
    ∃ tm1 lv1 H1, Trace E call md f ops n es1 tm lv H tm1 lv1 H1 ∧ Trace E call md f ops n es2 tm1 lv1 H1 tm' lv' H' := by
  induction es1 generalizing tm lv H with
  | nil => exact ⟨tm, lv, H, .nil _ _ _, h⟩
  | cons e es ih =>
    cases h with
    | cons hs hp ht =>
      obtain ⟨tm1, lv1, H1, a, b⟩ := ih ht
      exact ⟨tm1, lv1, H1, .cons hs hp a, b⟩

/-- the start of a run -/
theorem Trace.head {e : Ent} {es : List Ent} {tm : Tr AVal} {lv : Lv} {H : Hp} {tm' : Tr AVal} {lv' : Lv} {H' : Hp} (h : Trace E call md f ops n (e :: es) tm lv H tm' lv' H') :
    tm = e.tm ∧ lv = e.lv ∧ H = e.H ∧ stepA E call md f ops e.o e.tm e.lv e.H = some (e.r, e.lv1, e.H1) ∧ ∃ tm1, putA n e.tm e.o.dst e.r = some tm1 ∧ Trace E call md f ops n es tm1 e.lv1 e.H1 tm' lv' H' := by
  cases h with
  | cons hs hp ht => exact ⟨rfl, rfl, rfl, hs, _, hp, ht⟩

theorem stepA_same {o : Oper} {tm : Tr AVal} {lv lv1 : Lv} {H H1 : Hp} {r : AVal} (hn : isEff o = false) (h : stepA E call md f ops o tm lv H = some (r, lv1, H1)) : lv1 = lv ∧ H1 = H := by
  unfold stepA at h
  split at h
  · simp only [Option.some.injEq, Prod.mk.injEq] at h; exact ⟨h.2.1.symm, h.2.2.symm⟩
  · unfold actA at h
    have hc : isCall o = false := by
      unfold isCall
      unfold isEff at hn
      cases ho : o.op <;> rw [ho] at hn <;> simp only [] at hn ⊢
      rename_i c
      cases hc : c.callee <;> rw [hc] at hn <;> simp at hn
      obtain ⟨ca, cb, cc⟩ := c
      simp only [] at hc
      subst hc
      rfl
    rw [hc] at h
    simp only [Bool.false_eq_true, if_false] at h
    split at h
    · rename_i r' l1 h1 hev
      split at h
      · simp only [Option.some.injEq, Prod.mk.injEq] at h
        obtain ⟨rfl, rfl, rfl⟩ := h
        exact eff_same hn hev
      · cases h
    · cases h
  · cases h

/-- the states, from the start -/
def states (es : List Ent) (lv' : Lv) (H' : Hp) : List (Lv × Hp) := effStates es ++ [(lv', H')]

theorem states_head : ∀ {es : List Ent} {tm : Tr AVal} {lv : Lv} {H : Hp} {tm' : Tr AVal} {lv' : Lv} {H' : Hp}, Trace E call md f ops n es tm lv H tm' lv' H' → (∀ e ∈ es, e.h = false) → (states es lv' H')[0]? = some (lv, H)
  | [], _, _, _, _, _, _, .nil _ _ _, _ => rfl
  | e :: es, _, _, _, _, _, _, .cons hs hp ht, hb => by
    by_cases he : e.eff = true
    · simp [states, effStates, List.filter_cons, he]
    · have ih := states_head ht (fun x hx => hb x (by simp [hx]))
      have hne : isEff e.o = false := by
        have := hb e (by simp)
        simp only [Ent.eff, this] at he
        simpa using he
      obtain ⟨h1, h2⟩ := stepA_same hne hs
      rw [h1, h2] at ih
      simpa [states, effStates, List.filter_cons, he] using ih

theorem states_at {es1 es2 : List Ent} {e : Ent} {tm : Tr AVal} {lv : Lv} {H : Hp} {tm' : Tr AVal} {lv' : Lv} {H' : Hp} (h : Trace E call md f ops n (es1 ++ e :: es2) tm lv H tm' lv' H') (hb : ∀ x ∈ e :: es2, x.h = false) :
    (states (es1 ++ e :: es2) lv' H')[numE es1]? = some (e.lv, e.H) := by
  obtain ⟨tm1, lv1, H1, _, h2⟩ := h.append
  have h3 := h2.head
  have := states_head h2 hb
  rw [h3.2.1, h3.2.2.1] at this
  unfold states effStates numE at *
  rw [List.filter_append, List.map_append, List.append_assoc, List.getElem?_append_right (by simp)]
  simpa using this

theorem states_next {es1 es2 : List Ent} {e : Ent} {tm : Tr AVal} {lv : Lv} {H : Hp} {tm' : Tr AVal} {lv' : Lv} {H' : Hp} (h : Trace E call md f ops n (es1 ++ e :: es2) tm lv H tm' lv' H') (hb : ∀ x ∈ es2, x.h = false) (he : e.eff = true) :
    (states (es1 ++ e :: es2) lv' H')[numE es1 + 1]? = some (e.lv1, e.H1) := by
  obtain ⟨tm1, lv1, H1, _, h2⟩ := h.append
  obtain ⟨_, _, _, _, tm2, _, h3⟩ := h2.head
  have := states_head h3 hb
  unfold states effStates numE at *
  rw [List.filter_append, List.map_append, List.append_assoc, List.getElem?_append_right (by simp)]
  simp only [List.filter_cons, he, if_true, List.map_cons, List.length_map]
  have hsub : (es1.filter Ent.eff).length + 1 - (es1.filter Ent.eff).length = 1 := by omega
  rw [hsub]
  simpa using this

/-! ### the slots -/
/-- the value of a slot when those of dn are done -/
def cur (v0 : Option AVal) (dn : Nat → Bool) (t : Nat) : List Ent → Option AVal
  | [] => v0
  | e :: es => cur (if dn e.i = true ∧ e.o.dst = some t then some e.r else v0) dn t es

theorem cur_append (dn : Nat → Bool) (t : Nat) : ∀ (es1 es2 : List Ent) (v0 : Option AVal), cur v0 dn t (es1 ++ es2) = cur (cur v0 dn t es1) dn t es2
  | [], _, _ => rfl
  | e :: es1, es2, v0 => by simp only [List.cons_append, cur, cur_append dn t es1 es2]

theorem cur_congr {dn dn' : Nat → Bool} {t : Nat} : ∀ (es : List Ent) (v0 : Option AVal), (∀ e ∈ es, e.o.dst = some t → dn e.i = dn' e.i) → cur v0 dn t es = cur v0 dn' t es
  | [], _, _ => rfl
  | e :: es, v0, h => by
    simp only [cur]
    rw [cur_congr es _ (fun x hx => h x (by simp [hx]))]
    by_cases hd : e.o.dst = some t
    · rw [h e (by simp) hd]
    · simp [hd]

theorem cur_none {dn : Nat → Bool} {t : Nat} : ∀ (es : List Ent) (v0 : Option AVal), (∀ e ∈ es, e.o.dst = some t → dn e.i = false) → cur v0 dn t es = v0
  | [], _, _ => rfl
  | e :: es, v0, h => by
    simp only [cur]
    rw [if_neg (fun hc => by have := h e (by simp) hc.2; rw [this] at hc; cases hc.1)]
    exact cur_none es v0 (fun x hx => h x (by simp [hx]))

theorem putA_get {tm tm1 : Tr AVal} {d : Option Tmp} {r : AVal} (h : putA n tm d r = some tm1) (t : Nat) : tm1.get t = if d = some t then some r else tm.get t := by
  cases d with
  | none => simp only [putA, Option.some.injEq] at h; subst h; simp
  | some d =>
    unfold putA at h
    simp only [] at h
    split at h
    · rename_i hd
      injection h with h
      subst h
      rw [Tr.get_set _ _ _ _ hd.2]
      simp
    · cases h

theorem trace_cur : ∀ {es : List Ent} {tm : Tr AVal} {lv : Lv} {H : Hp} {tm' : Tr AVal} {lv' : Lv} {H' : Hp}, Trace E call md f ops n es tm lv H tm' lv' H' → ∀ t, tm'.get t = cur (tm.get t) (fun _ => true) t es
  | [], _, _, _, _, _, _, .nil _ _ _, t => rfl
  | e :: es, _, _, _, _, _, _, .cons hs hp ht, t => by
    rw [trace_cur ht t, putA_get hp t]
    simp only [cur, true_and]

/-! ### what the check says of the entries -/
def chk1 (E : Env) (ops : Array Oper) (ask : List (Nat × Nat × Nat)) (k : Nat) (e : Ent) : Chk :=
  { i := e.i, o := e.o, k, looks := maskOf (e.o.looksAt ops), dst := maskOf e.o.dst.toList, eff := e.eff, read := !isEff e.o && isRead E e.o, lo := ((askOf ask e.i).getD (k, k)).1, hi := ((askOf ask e.i).getD (k, k)).2 }

theorem chkOf_cons {ops : Array Oper} {ask : List (Nat × Nat × Nat)} (k : Nat) (e : Ent) (es : List Ent) :
    chkOf E ops ask k ((e :: es).map Ent.c) = chk1 E ops ask k e :: chkOf E ops ask (if e.eff then k + 1 else k) (es.map Ent.c) := rfl

theorem numE_cons (e : Ent) (es : List Ent) : numE (e :: es) = (if e.eff then 1 else 0) + numE es := by
  unfold numE
  rw [List.filter_cons]
  split <;> simp <;> omega

theorem chkOf_append {ops : Array Oper} {ask : List (Nat × Nat × Nat)} : ∀ (es1 es2 : List Ent) (k : Nat), chkOf E ops ask k ((es1 ++ es2).map Ent.c) = chkOf E ops ask k (es1.map Ent.c) ++ chkOf E ops ask (k + numE es1) (es2.map Ent.c)
  | [], es2, k => by simp [chkOf, numE]
  | e :: es1, es2, k => by
    rw [List.cons_append, chkOf_cons, chkOf_cons, chkOf_append es1 es2, numE_cons]
    simp only [List.cons_append]
    congr 3
    split <;> omega

theorem chk_pair {ops : Array Oper} {ask : List (Nat × Nat × Nat)} {es1 es2 es3 : List Ent} {x y : Ent}
    (h : (chkOf E ops ask 0 ((es1 ++ x :: es2 ++ y :: es3).map Ent.c)).Pairwise (fun x y => need x y = true → Before ops x.i y.i))
    (hn : need (chk1 E ops ask (numE es1) x) (chk1 E ops ask (numE (es1 ++ x :: es2)) y) = true) : Before ops x.i y.i := by
  rw [List.append_assoc, chkOf_append] at h
  have h2 := (List.pairwise_append.1 h).2.1
  simp only [Nat.zero_add, List.cons_append] at h2
  rw [chkOf_cons] at h2
  have h3 := (List.pairwise_cons.1 h2).1
  refine h3 (chk1 E ops ask (numE (es1 ++ x :: es2)) y) ?_ hn
  rw [chkOf_append, List.mem_append, chkOf_cons]
  right
  have hk : (if x.eff = true then numE es1 + 1 else numE es1) + numE es2 = numE (es1 ++ x :: es2) := by
    have : numE (es1 ++ x :: es2) = numE es1 + numE (x :: es2) := by unfold numE; rw [List.filter_append, List.length_append]
    rw [this, numE_cons]
    split <;> omega
  rw [hk]
  exact List.mem_cons_self

theorem chk_one {ops : Array Oper} {ask : List (Nat × Nat × Nat)} {es1 es2 : List Ent} {x : Ent} (h : ∀ c ∈ chkOf E ops ask 0 ((es1 ++ x :: es2).map Ent.c), chkOne c = true) : chkOne (chk1 E ops ask (numE es1) x) = true := by
  refine h _ ?_
  rw [chkOf_append, List.mem_append, chkOf_cons, Nat.zero_add]
  exact .inr List.mem_cons_self

theorem need_writes {ops : Array Oper} {ask : List (Nat × Nat × Nat)} {x y : Ent} {k k' t : Nat} (hx : x.o.dst = some t) (hy : t ∈ y.o.looksAt ops ∨ y.o.dst = some t) : need (chk1 E ops ask k x) (chk1 E ops ask k' y) = true := by
  unfold need
  have h : ((chk1 E ops ask k x).dst &&& ((chk1 E ops ask k' y).looks ||| (chk1 E ops ask k' y).dst) == 0) = false := by
    cases hc : ((chk1 E ops ask k x).dst &&& ((chk1 E ops ask k' y).looks ||| (chk1 E ops ask k' y).dst) == 0) with
    | false => rfl
    | true =>
      have hc0 := eq_of_beq hc
      have h1 : ((chk1 E ops ask k x).dst).testBit t = true := mem_maskOf.2 (by simp [hx])
      have := and_zero hc0 h1
      rw [Nat.testBit_or] at this
      rcases hy with hy | hy
      · have h2 : ((chk1 E ops ask k' y).looks).testBit t = true := mem_maskOf.2 hy
        rw [h2] at this; simp at this
      · have h2 : ((chk1 E ops ask k' y).dst).testBit t = true := mem_maskOf.2 (by simp [hy])
        rw [h2] at this; simp at this
  rw [h]; simp

theorem need_looks {ops : Array Oper} {ask : List (Nat × Nat × Nat)} {x y : Ent} {k k' t : Nat} (hx : t ∈ x.o.looksAt ops) (hy : y.o.dst = some t) : need (chk1 E ops ask k x) (chk1 E ops ask k' y) = true := by
  unfold need
  have h : ((chk1 E ops ask k x).looks &&& (chk1 E ops ask k' y).dst == 0) = false := by
    cases hc : ((chk1 E ops ask k x).looks &&& (chk1 E ops ask k' y).dst == 0) with
    | false => rfl
    | true =>
      have hc0 := eq_of_beq hc
      have h1 : ((chk1 E ops ask k x).looks).testBit t = true := mem_maskOf.2 hx
      have := and_zero hc0 h1
      have h2 : ((chk1 E ops ask k' y).dst).testBit t = true := mem_maskOf.2 (by simp [hy])
      rw [h2] at this; simp at this
  rw [h]; simp

theorem need_effs {ops : Array Oper} {ask : List (Nat × Nat × Nat)} {x y : Ent} {k k' : Nat} (hx : x.eff = true) (hy : y.eff = true) : need (chk1 E ops ask k x) (chk1 E ops ask k' y) = true := by
  unfold need
  have h1 : (chk1 E ops ask k x).eff = true := hx
  have h2 : (chk1 E ops ask k' y).eff = true := hy
  rw [h1, h2]; simp

end
end Go.Rs
end
/- Regions whose order is drawn: whatever the order, the machine ends as the interpreter does. -/
section
namespace Go.Rs
section
variable {P : Program} {E : Env} {N n : Nat} {g : Gh} {p : Nat → Option Nat} {H : Hp} {w : World} {lv : Lv} {r : AVal}
variable {md : Bool} {f : FuncId} {lv' : Lv} {H' : Hp} {call : CallF} {tm tm' : Tr AVal} {a : Act} {ops : Array Oper}

/-! ### the part that stands ahead -/
/-- the object of e is made, and as it was made -/
inductive PendA (e : Ent) (lv : Lv) (H : Hp) : Prop
  | loc (cs : List AVal) (h1 : e.r = .lptr e.lv.next 0) (h2 : e.lv1 = e.lv.push cs) (h3 : e.H1 = e.H) (hm : e.lv.next < maxTmp) (hn : e.lv.next < lv.next) (hg : lv.get e.lv.next = some cs)
  | obj (ob : AObj) (h2 : e.lv1 = e.lv) (h3 : e.H1 = (e.H.alloc ob).2) (hm : e.H.next < maxTmp) (hn : e.H.next < H.next) (hg : H.get e.H.next = ob)

theorem isNew_noCall {o : Oper} (h : isNew o = true ∨ isMv o = true) : isCall o = false := by
  unfold isCall
  cases ho : o.op <;> simp [isNew, isMv, ho] at h <;> rfl

theorem step_evalOp {e : Ent} (hg : e.o.guard = none) (hc : isCall e.o = false) (h : stepA E call md f ops.toList e.o e.tm e.lv e.H = some (e.r, e.lv1, e.H1)) :
    evalOp E md f e.o (evT E e.tm) e.lv e.H = some (e.r, e.lv1, e.H1) ∧ resOk e.o e.r = true := by
  unfold stepA at h
  have hw : wantedA ops.toList e.tm e.o = some true := by unfold wantedA; rw [hg]
  rw [hw] at h
  simp only [] at h
  unfold actA at h
  rw [hc] at h
  simp only [Bool.false_eq_true, if_false] at h
  split at h
  · rename_i r l h1 hev
    split at h
    · rename_i hro
      simp only [Option.some.injEq, Prod.mk.injEq] at h
      obtain ⟨rfl, rfl, rfl⟩ := h
      exact ⟨hev, hro⟩
    · cases h
  · cases h

/-- what stands ahead has no guard, and makes or moves -/
def Ahead (e : Ent) : Prop := e.o.guard = none ∧ (isNew e.o || isMv e.o) = true

theorem isMv_eff {o : Oper} (h : isMv o = true) : isEff o = false := by
  unfold isMv at h
  unfold isEff
  cases ho : o.op <;> simp [ho] at h
  rfl

theorem isNew_eff {o : Oper} (h : isNew o = true) : isEff o = true := by
  unfold isNew at h
  unfold isEff
  cases ho : o.op <;> simp [ho] at h <;> rfl

theorem ahead_ok : ∀ {es : List Ent} {tm : Tr AVal} {lv : Lv} {H : Hp} {tm' : Tr AVal} {lv' : Lv} {H' : Hp}, Trace E call md f ops.toList n es tm lv H tm' lv' H' → (∀ e ∈ es, Ahead e) →
    (∀ (g : Gh) (p : Nat → Option Nat) (w : World), HRel g H w → LvRel N g p H w lv → Step N g H w g H' w ∧ LvRel N g p H' w lv') ∧
    lv.next ≤ lv'.next ∧ H.next ≤ H'.next ∧ (∀ s, s < lv.next → lv'.get s = lv.get s) ∧ (∀ i, i < H.next → H'.get i = H.get i) ∧
    (∀ e ∈ es, isNew e.o = true → PendA e lv' H') ∧ (∀ e ∈ es, lv.next ≤ e.lv.next ∧ H.next ≤ e.H.next) ∧
    es.Pairwise (fun x y => x.lv1.next ≤ y.lv.next ∧ x.H1.next ≤ y.H.next)
  | [], _, _, _, _, _, _, .nil _ _ _, _ => ⟨fun g p w h1 h2 => ⟨.refl h1, h2⟩, Nat.le_refl _, Nat.le_refl _, fun _ _ => rfl, fun _ _ => rfl, by simp, by simp, List.Pairwise.nil⟩
  | e :: es, _, _, _, _, _, _, .cons hs hp ht, ha => by
    obtain ⟨i1, i2, i3, i4, i5, i6, i7, i8⟩ := ahead_ok ht (fun x hx => ha x (by simp [hx]))
    obtain ⟨hg, hk⟩ := ha e (by simp)
    have hk' : isNew e.o = true ∨ isMv e.o = true := by simpa using hk
    by_cases hn : isNew e.o = true
    · obtain ⟨hev, _⟩ := step_evalOp hg (isNew_noCall hk') hs
      have hkind := new_kind hn hev
      generalize hr : e.r = r at hkind
      generalize hl1 : e.lv1 = l1 at hkind
      generalize hh1 : e.H1 = h1 at hkind
      cases hkind with
      | loc cs hm =>
        simp only [hl1, hh1] at i1 i2 i3 i4 i5 i7
        refine ⟨fun g p w a1 a2 => ?_, by simp at i2; omega, i3, fun s hs' => ?_, i5, fun x hx hxn => ?_, fun x hx => ?_, List.pairwise_cons.2 ⟨fun x hx => ?_, i8⟩⟩
        · exact i1 g p w a1 (ghost_push a2 cs hm)
        · rw [i4 s (by simp; omega), Lv.get_push _ _ _ hm, if_neg (by omega)]
        · rcases List.mem_cons.1 hx with rfl | hx
          · refine .loc cs hr hl1 hh1 hm (by simp at i2; omega) ?_
            rw [i4 _ (by simp), Lv.get_push _ _ _ hm, if_pos rfl]
          · exact i6 x hx hxn
        · rcases List.mem_cons.1 hx with rfl | hx
          · exact ⟨Nat.le_refl _, Nat.le_refl _⟩
          · have := i7 x hx; simp at this; omega
        · rw [hl1, hh1]; exact i7 x hx
      | obj _ ob hm hd =>
        simp only [hl1, hh1] at i1 i2 i3 i4 i5 i7
        refine ⟨fun g p w a1 a2 => ?_, i2, by simp at i3; omega, i4, fun i hi => ?_, fun x hx hxn => ?_, fun x hx => ?_, List.pairwise_cons.2 ⟨fun x hx => ?_, i8⟩⟩
        · have s1 := Step.ghost (N := N) a1 ob hm
          obtain ⟨s2, l2⟩ := i1 g p w s1.rel (ghost_lv a2 a1 ob hm)
          exact ⟨s1.trans s2, l2⟩
        · rw [i5 i (by simp; omega), Hp.get_alloc _ _ _ hm, if_neg (by omega)]
        · rcases List.mem_cons.1 hx with rfl | hx
          · refine .obj ob hl1 hh1 hm (by simp at i3; omega) ?_
            rw [i5 _ (by simp), Hp.get_alloc _ _ _ hm, if_pos rfl]
          · exact i6 x hx hxn
        · rcases List.mem_cons.1 hx with rfl | hx
          · exact ⟨Nat.le_refl _, Nat.le_refl _⟩
          · have := i7 x hx; simp at this; omega
        · rw [hl1, hh1]; exact i7 x hx
    · have hmv : isMv e.o = true := hk'.resolve_left hn
      obtain ⟨e1, e2⟩ := stepA_same (isMv_eff hmv) hs
      simp only [e1, e2] at i1 i2 i3 i4 i5 i7
      refine ⟨i1, i2, i3, i4, i5, fun x hx hxn => ?_, fun x hx => ?_, List.pairwise_cons.2 ⟨fun x hx => ?_, i8⟩⟩
      · rcases List.mem_cons.1 hx with rfl | hx
        · exact absurd hxn hn
        · exact i6 x hx hxn
      · rcases List.mem_cons.1 hx with rfl | hx
        · exact ⟨Nat.le_refl _, Nat.le_refl _⟩
        · exact i7 x hx
      · rw [e1, e2]; exact i7 x hx

/-! ### the plan -/
/-- the run of the interpreter over a region, and what is known of it -/
structure Plan (P : Program) (E : Env) (call : CallF) (md : Bool) (f : FuncId) (ops : Array Oper) (n : Nat) (ask : List (Nat × Nat × Nat)) (es : List Ent) (tm : Tr AVal) (lv : Lv) (H : Hp) (tm' : Tr AVal) (lv' : Lv) (H' : Hp) : Prop where
  hc : es.map Ent.c = orderA ops.toList
  back : ∀ (i : Nat) (o : Oper) (e : Edge), ops[i]? = some o → e ∈ o.after → Region.binds .any e = true → e.on < i
  ones : ∀ c ∈ chkOf E ops ask 0 (es.map Ent.c), chkOne c = true
  pairs : (chkOf E ops ask 0 (es.map Ent.c)).Pairwise (fun x y => need x y = true → Before ops x.i y.i)
  T : Trace E call md f ops.toList n es tm lv H tm' lv' H'
  asks : ∀ e ∈ es, ∀ lo hi, askOf ask e.i = some (lo, hi) → wantedA ops.toList e.tm e.o = some true → ∀ k st, lo ≤ k → k ≤ hi → (states es lv' H')[k]? = some st →
    ∃ l h, evalOp E md f e.o (evT E e.tm) st.1 st.2 = some (e.r, l, h)

section
variable {ask : List (Nat × Nat × Nat)} {es : List Ent} {H0 : Hp} {lv0 : Lv} {tm0 : Tr AVal}

theorem Plan.op (pl : Plan P E call md f ops n ask es tm0 lv0 H0 tm' lv' H') {e : Ent} (he : e ∈ es) : ops[e.i]? = some e.o ∧ (e.h = true → Ahead e) :=
  mem_orderA (h := e.h) (by rw [← pl.hc]; exact List.mem_map_of_mem he)

theorem Plan.inj (pl : Plan P E call md f ops n ask es tm0 lv0 H0 tm' lv' H') {es1 es2 : List Ent} {e : Ent} (hes : es = es1 ++ e :: es2) : ∀ x ∈ es1 ++ es2, x.i ≠ e.i := by
  have hn := orderA_nodup ops.toList
  rw [← pl.hc, List.map_map, hes, List.map_append, List.map_cons] at hn
  have := (List.nodup_append.1 hn)
  intro x hx hxe
  rcases List.mem_append.1 hx with hx | hx
  · exact this.2.2 x.i (List.mem_map_of_mem (f := Prod.fst ∘ Ent.c) hx) x.i (by rw [hxe]; exact List.mem_cons_self) rfl
  · have h2 := (List.nodup_cons.1 this.2.1).1
    exact h2 (by
      have := List.mem_map_of_mem (f := Prod.fst ∘ Ent.c) hx
      have e1 : (Prod.fst ∘ Ent.c) x = e.i := hxe
      rw [e1] at this; exact this)

theorem Plan.ex (pl : Plan P E call md f ops n ask es tm0 lv0 H0 tm' lv' H') {i : Nat} (hi : i < ops.size) : ∃ e ∈ es, e.i = i := by
  obtain ⟨o, h, hm⟩ := idx_orderA hi
  rw [← pl.hc] at hm
  obtain ⟨e, he, hc⟩ := List.mem_map.1 hm
  refine ⟨e, he, ?_⟩
  have := congrArg Prod.fst hc
  exact this

/-- all that i hangs on is done -/
def Ready (ops : Array Oper) (dn : Nat → Bool) (i : Nat) : Prop := ∀ (o : Oper) (e : Edge), ops[i]? = some o → e ∈ o.after → Region.binds .any e = true → dn e.on = true

theorem Ready.before {dn : Nat → Bool} {i j : Nat} (hcl : Closed ops dn) (hb : Before ops j i) : Ready ops dn i → dn j = true := by
  induction hb with
  | edge hi he hb => exact fun hr => hr _ _ hi he hb
  | trans h1 _ _ ih2 => exact fun hr => hcl.before h1 (ih2 hr)

/-- what the slots show to an operation that is ready -/
theorem Plan.slot (pl : Plan P E call md f ops n ask es tm0 lv0 H0 tm' lv' H') {dn : Nat → Bool} (hcl : Closed ops dn) {es1 es2 : List Ent} {e : Ent} (hes : es = es1 ++ e :: es2) (hr : Ready ops dn e.i) (hd : dn e.i = false)
    {t : Nat} (ht : t ∈ e.o.looksAt ops) : cur (tm0.get t) dn t es = e.tm.get t := by
  have T := pl.T
  rw [hes] at T
  obtain ⟨tm1, lv1, H1, T1, T2⟩ := T.append
  have h1 := T2.head.1
  rw [← h1, trace_cur T1 t, hes, cur_append, cur_none (e :: es2) _ ?_, cur_congr es1]
  · intro x hx hdst
    obtain ⟨a1, a2, rfl⟩ := List.append_of_mem hx
    refine hr.before hcl (chk_pair (E := E) (ask := ask) (es1 := a1) (x := x) (es2 := a2) (y := e) (es3 := es2) ?_ (need_writes hdst (.inl ht)))
    have := pl.pairs
    rw [hes] at this
    simpa using this
  · intro x hx hdst
    rcases List.mem_cons.1 hx with rfl | hx
    · exact hd
    · obtain ⟨a1, a2, rfl⟩ := List.append_of_mem hx
      have hb : Before ops e.i x.i := chk_pair (E := E) (ask := ask) (es1 := es1) (x := e) (es2 := a1) (y := x) (es3 := a2) (by
        have := pl.pairs
        rw [hes] at this
        simpa using this) (need_looks ht hdst)
      cases hx : dn x.i with
      | false => rfl
      | true => rw [hcl.before hb hx] at hd; cases hd

/-- what is written behind the operation is not done -/
theorem Plan.later (pl : Plan P E call md f ops n ask es tm0 lv0 H0 tm' lv' H') {dn : Nat → Bool} (hcl : Closed ops dn) {es1 es2 : List Ent} {e : Ent} (hes : es = es1 ++ e :: es2) (hd : dn e.i = false)
    {t : Nat} (ht : e.o.dst = some t) : ∀ x ∈ es2, x.o.dst = some t → dn x.i = false := by
  intro x hx hdst
  obtain ⟨a1, a2, rfl⟩ := List.append_of_mem hx
  have hb : Before ops e.i x.i := chk_pair (E := E) (ask := ask) (es1 := es1) (x := e) (es2 := a1) (y := x) (es3 := a2) (by
    have := pl.pairs
    rw [hes] at this
    simpa using this) (need_writes ht (.inr hdst))
  cases hx : dn x.i with
  | false => rfl
  | true => rw [hcl.before hb hx] at hd; cases hd

/-! ### effects, by their number -/
theorem eff_at : ∀ (es : List Ent) (q : Nat), q < numE es → ∃ es1 e es2, es = es1 ++ e :: es2 ∧ e.eff = true ∧ numE es1 = q
  | [], q, h => by simp [numE] at h
  | x :: es, q, h => by
    rw [numE_cons] at h
    by_cases hx : x.eff = true
    · cases q with
      | zero => exact ⟨[], x, es, rfl, hx, rfl⟩
      | succ q =>
        rw [if_pos hx] at h
        obtain ⟨a, e, b, h1, h2, h3⟩ := eff_at es q (by omega)
        exact ⟨x :: a, e, b, by rw [h1]; rfl, h2, by rw [numE_cons, if_pos hx, h3]; omega⟩
    · rw [if_neg hx] at h
      obtain ⟨a, e, b, h1, h2, h3⟩ := eff_at es q (by omega)
      exact ⟨x :: a, e, b, by rw [h1]; rfl, h2, by rw [numE_cons, if_neg hx, h3]; omega⟩

theorem numE_append (a b : List Ent) : numE (a ++ b) = numE a + numE b := by unfold numE; rw [List.filter_append, List.length_append]

/-- how the effects that are done are counted -/
def Count (es : List Ent) (dn : Nat → Bool) (q : Nat) : Prop := ∀ es1 e es2, es = es1 ++ e :: es2 → e.eff = true → (dn e.i = true ↔ numE es1 < q)

theorem Plan.effNow (pl : Plan P E call md f ops n ask es tm0 lv0 H0 tm' lv' H') {dn : Nat → Bool} {q : Nat} (hcl : Closed ops dn) (hq : Count es dn q) {es1 es2 : List Ent} {e : Ent} (hes : es = es1 ++ e :: es2) (hr : Ready ops dn e.i) (hd : dn e.i = false)
    (he : e.eff = true) : numE es1 = q := by
  have h1 : ¬ numE es1 < q := fun h => by rw [(hq es1 e es2 hes he).2 h] at hd; cases hd
  rcases Nat.lt_or_ge q (numE es1) with h2 | h2
  · obtain ⟨a, x, b, e1, e2, e3⟩ := eff_at es1 q h2
    have hb : Before ops x.i e.i := chk_pair (E := E) (ask := ask) (es1 := a) (x := x) (es2 := b) (y := e) (es3 := es2) (by
      have := pl.pairs
      rw [hes, e1] at this
      simpa using this) (need_effs e2 he)
    have := hr.before hcl hb
    have := (hq a x (b ++ e :: es2) (by rw [hes, e1]; simp) e2).1 this
    omega
  · omega

theorem Plan.readNow (pl : Plan P E call md f ops n ask es tm0 lv0 H0 tm' lv' H') {dn : Nat → Bool} {q : Nat} (hcl : Closed ops dn) (hq : Count es dn q) (hqt : q ≤ numE es) {es1 es2 : List Ent} {e : Ent} (hes : es = es1 ++ e :: es2) (hr : Ready ops dn e.i) (hd : dn e.i = false)
    (he : isEff e.o = false) (hrd : isRead E e.o = true) : ((askOf ask e.i).getD (numE es1, numE es1)).1 ≤ q ∧ q ≤ ((askOf ask e.i).getD (numE es1, numE es1)).2 := by
  have hpairs := pl.pairs
  have hone := chk_one (E := E) (ops := ops) (ask := ask) (es1 := es1) (es2 := es2) (x := e) (by rw [← hes]; exact pl.ones)
  have hread : (chk1 E ops ask (numE es1) e).read = true := by simp [chk1, he, hrd]
  unfold chkOne at hone
  rw [hread] at hone
  simp only [Bool.not_true, Bool.false_or, Bool.and_eq_true, decide_eq_true_eq] at hone
  have hlo : ((askOf ask e.i).getD (numE es1, numE es1)).1 ≤ numE es1 := hone.1
  have hhi : numE es1 ≤ ((askOf ask e.i).getD (numE es1, numE es1)).2 := hone.2
  have hne : e.eff = false := by simp [Ent.eff, he]
  constructor
  · apply Classical.byContradiction
    intro hlt
    obtain ⟨a, x, b, e1, e2, e3⟩ := eff_at es1 q (by omega)
    have hb : Before ops x.i e.i := chk_pair (E := E) (ask := ask) (es1 := a) (x := x) (es2 := b) (y := e) (es3 := es2) (by
      rw [hes, e1] at hpairs
      simpa using hpairs) (by
        have hxe : (chk1 E ops ask (numE a) x).eff = true := e2
        have hk : (chk1 E ops ask (numE a) x).k < (chk1 E ops ask (numE (a ++ x :: b)) e).lo := by
          have : numE (a ++ x :: b) = numE es1 := by rw [e1]
          show numE a < ((askOf ask e.i).getD (numE (a ++ x :: b), numE (a ++ x :: b))).1
          rw [this]; omega
        have hread2 : (chk1 E ops ask (numE (a ++ x :: b)) e).read = true := by simp [chk1, he, hrd]
        unfold need
        rw [hxe, hread2]
        simp [hk])
    have := hr.before hcl hb
    have := (hq a x (b ++ e :: es2) (by rw [hes, e1]; simp) e2).1 this
    omega
  · apply Classical.byContradiction
    intro hgt
    generalize hhv : ((askOf ask e.i).getD (numE es1, numE es1)).2 = hv at hhi hgt
    obtain ⟨a, y, b, e1, e2, e3⟩ := eff_at es hv (by omega)
    have hy : ∃ c d, es2 = c ++ y :: d ∧ numE (es1 ++ e :: c) = hv := by
      have heq : es1 ++ e :: es2 = a ++ y :: b := hes.symm.trans e1
      rcases List.append_eq_append_iff.1 heq with ⟨c, h1, h2⟩ | ⟨c, h1, h2⟩
      · cases c with
        | nil =>
          simp at h1 h2
          rw [← h2.1, hne] at e2; cases e2
        | cons z c =>
          simp only [List.cons_append, List.cons.injEq] at h2
          obtain ⟨rfl, h2⟩ := h2
          exact ⟨c, b, h2, by rw [← h1]; exact e3⟩
      · have h3 : numE es1 = numE a + numE c := by rw [h1, numE_append]
        cases c with
        | nil =>
          simp at h1 h2
          rw [h2.1, hne] at e2; cases e2
        | cons z c =>
          simp only [List.cons_append, List.cons.injEq] at h2
          rw [← h2.1, numE_cons, if_pos e2] at h3
          omega
    obtain ⟨c, d, h1, h2⟩ := hy
    have hb : Before ops e.i y.i := chk_pair (E := E) (ask := ask) (es1 := es1) (x := e) (es2 := c) (y := y) (es3 := d) (by
      rw [hes, h1] at hpairs
      simpa using hpairs) (by
        have hye : (chk1 E ops ask (numE (es1 ++ e :: c)) y).eff = true := e2
        have hk : (chk1 E ops ask (numE (es1 ++ e :: c)) y).k = (chk1 E ops ask (numE es1) e).hi := by
          show numE (es1 ++ e :: c) = ((askOf ask e.i).getD (numE es1, numE es1)).2
          rw [hhv, h2]
        unfold need
        rw [hread, hye]
        simp [hk])
    have hdy : dn y.i = true := (hq (es1 ++ e :: c) y d (by rw [hes, h1]; simp) e2).2 (by omega)
    rw [hcl.before hb hdy] at hd; cases hd

end
end
end Go.Rs
end
/- Regions whose order is drawn: the machine's side. -/
section
namespace Go.Rs
section
variable {P : Program} {E : Env} {N n : Nat} {g : Gh} {p : Nat → Option Nat} {H : Hp} {w : World} {lv : Lv} {r : AVal}
variable {md : Bool} {f : FuncId} {lv' : Lv} {H' : Hp} {call : CallF} {tm tm' : Tr AVal} {a : Act} {ops : Array Oper}
variable {ask : List (Nat × Nat × Nat)} {es : List Ent} {H0 : Hp} {lv0 : Lv} {tm0 : Tr AVal} {g0 : Gh} {w0 : World}

/-- the object of e is made by the interpreter, and not yet by the machine -/
inductive Pend (e : Ent) (H0 : Hp) (g : Gh) (p : Nat → Option Nat) (lv : Lv) (H : Hp) : Prop
  | loc (cs : List AVal) (h1 : e.r = .lptr e.lv.next 0) (h2 : e.lv1 = e.lv.push cs) (h3 : e.H1 = e.H) (hm : e.lv.next < maxTmp) (hp : p e.lv.next = none) (hn : e.lv.next < lv.next) (hg : lv.get e.lv.next = some cs)
  | obj (ob : AObj) (h2 : e.lv1 = e.lv) (h3 : e.H1 = (e.H.alloc ob).2) (hm : e.H.next < maxTmp) (hp : g.mu e.H.next = none) (h0 : H0.next ≤ e.H.next) (hn : e.H.next < H.next) (hg : H.get e.H.next = ob)

theorem Pend.out {e : Ent} {r : AVal} {c : Value} {g' : Gh} {p' : Nat → Option Nat} {w' : World} (h : Pend e H0 g p lv H) (ho : Out N g p H w lv r lv' H' c g' p' w') : Pend e H0 g' p' lv' H' := by
  cases h with
  | loc cs h1 h2 h3 hm hp hn hg =>
    exact .loc cs h1 h2 h3 hm (by rw [ho.pold _ hn]; exact hp) (Nat.lt_of_lt_of_le hn ho.next) (by rw [ho.lold _ hn hp]; exact hg)
  | obj ob h2 h3 hm hp h0 hn hg =>
    exact .obj ob h2 h3 hm (by rw [ho.step.old _ hn]; exact hp) h0 (Nat.lt_of_lt_of_le hn ho.step.next) (by rw [ho.step.pend _ hn hp]; exact hg)

/-- WHERE THE MACHINE STANDS when the operations of dn are done -/
structure Inv (P : Program) (E : Env) (N n : Nat) (ops : Array Oper) (es : List Ent) (tm0 : Tr AVal) (g0 : Gh) (H0 : Hp) (w0 : World) (lv' : Lv) (H' : Hp) (dn : Nat → Bool) (g : Gh) (p : Nat → Option Nat) (w : World) (a : Act) (q : Nat) (lvq : Lv) (Hq : Hp) : Prop where
  cl : Closed ops dn
  st : (states es lv' H')[q]? = some (lvq, Hq)
  cnt : Count es dn q
  step : Step N g0 H0 w0 g Hq w
  hL : LvRel N g p Hq w lvq
  hN : N ≤ w.heap.size
  hK : KOk P E g
  hG : GlobOk E g
  hD : ∀ d ∈ a.defers, MuteD P d
  size : a.tmps.size = n
  tmp : ∀ t v, cur (tm0.get t) dn t es = some v → TRelU g w p v (a.tmps.getD t undef)
  pend : ∀ e ∈ es, e.h = true → isNew e.o = true → dn e.i = false → Pend e H0 g p lvq Hq

theorem states_length : (states es lv' H').length = numE es + 1 := by simp [states, effStates, numE]

theorem Inv.le {dn : Nat → Bool} {q : Nat} {lvq : Lv} {Hq : Hp} (I : Inv P E N n ops es tm0 g0 H0 w0 lv' H' dn g p w a q lvq Hq) : q ≤ numE es := by
  have := (List.getElem?_eq_some_iff.1 I.st).1
  rw [states_length] at this
  omega

def add (dn : Nat → Bool) (i : Nat) : Nat → Bool := fun j => j == i || dn j

theorem add_self (dn : Nat → Bool) (i : Nat) : add dn i i = true := by simp [add]
theorem add_ne {dn : Nat → Bool} {i j : Nat} (h : j ≠ i) : add dn i j = dn j := by simp [add, h]
theorem add_of {dn : Nat → Bool} {i j : Nat} (h : dn j = true) : add dn i j = true := by simp [add, h]

theorem closed_add {dn : Nat → Bool} {i : Nat} (hcl : Closed ops dn) (hr : Ready ops dn i) : Closed ops (add dn i) := by
  intro j o e hj ho he hb
  by_cases h : j = i
  · subst h; exact add_of (hr o e ho he hb)
  · rw [add_ne h] at hj; exact add_of (hcl j o e hj ho he hb)

/-- the slots behind the operation -/
theorem Plan.put (pl : Plan P E call md f ops n ask es tm0 lv0 H0 tm' lv' H') {dn : Nat → Bool} (hcl : Closed ops dn) {es1 es2 : List Ent} {e : Ent} (hes : es = es1 ++ e :: es2) (hd : dn e.i = false)
    (hsize : a.tmps.size = n) (htmp : ∀ t v, cur (tm0.get t) dn t es = some v → TRelU g w p v (a.tmps.getD t undef)) {c : Value} (hr : TRelU g w p e.r c) :
    ∀ t v, cur (tm0.get t) (add dn e.i) t es = some v → TRelU g w p v ((a.put e.o.dst c).tmps.getD t undef) := by
  have hput : ∃ tm1, putA n e.tm e.o.dst e.r = some tm1 := by
    have T := pl.T
    rw [hes] at T
    obtain ⟨_, _, _, _, T2⟩ := T.append
    obtain ⟨_, _, _, _, tm1, h, _⟩ := T2.head
    exact ⟨tm1, h⟩
  obtain ⟨tm1, hput⟩ := hput
  intro t v hv
  by_cases ht : e.o.dst = some t
  · have hlt : t < n := by
      rw [ht] at hput
      unfold putA at hput
      simp only [] at hput
      split at hput
      · rename_i h; exact h.1
      · cases hput
    have hcur : cur (tm0.get t) (add dn e.i) t es = some e.r := by
      rw [hes, cur_append]
      simp only [cur]
      rw [if_pos ⟨add_self _ _, ht⟩]
      refine cur_none es2 _ fun x hx hdst => ?_
      rw [add_ne (pl.inj hes x (List.mem_append_right _ hx))]
      exact pl.later hcl hes hd ht x hx hdst
    rw [hcur] at hv
    injection hv with hv
    subst hv
    rw [ht]
    show TRelU g w p e.r ((a.tmps.setIfInBounds t c).getD t undef)
    rw [getD_set, if_pos ⟨rfl, by omega⟩]
    exact hr
  · have hcur : cur (tm0.get t) (add dn e.i) t es = cur (tm0.get t) dn t es := by
      refine cur_congr es _ fun x hx hdst => ?_
      refine add_ne fun hxe => ?_
      have h1 := (pl.op hx).1
      have h2 := (pl.op (e := e) (by rw [hes]; simp)).1
      rw [hxe, h2] at h1
      injection h1 with h1
      rw [h1] at ht
      exact ht hdst
    rw [hcur] at hv
    have := htmp t v hv
    cases hdst : e.o.dst with
    | none => exact this
    | some d =>
      show TRelU g w p v ((a.tmps.setIfInBounds d c).getD t undef)
      rw [getD_set, if_neg (fun h => ht (by rw [hdst, h.1]))]
      exact this

theorem put_size {d : Option Tmp} {c : Value} : (a.put d c).tmps.size = a.tmps.size := by cases d <;> simp [Act.put]

/-- behind an operation -/
theorem Inv.next (pl : Plan P E call md f ops n ask es tm0 lv0 H0 tm' lv' H') {dn : Nat → Bool} {q q2 : Nat} {lvq lv2 : Lv} {Hq H2 : Hp} (I : Inv P E N n ops es tm0 g0 H0 w0 lv' H' dn g p w a q lvq Hq) {es1 es2 : List Ent} {e : Ent} (hes : es = es1 ++ e :: es2) (hr : Ready ops dn e.i) (hd : dn e.i = false)
    {c : Value} {g' : Gh} {p' : Nat → Option Nat} {w' : World} (ho : Out N g p Hq w lvq e.r lv2 H2 c g' p' w') (hst : (states es lv' H')[q2]? = some (lv2, H2)) (hcnt : Count es (add dn e.i) q2) :
    Inv P E N n ops es tm0 g0 H0 w0 lv' H' (add dn e.i) g' p' w' (a.put e.o.dst c) q2 lv2 H2 := by
  have pm := ho.pmono I.hL
  refine ⟨closed_add I.cl hr, hst, hcnt, I.step.trans ho.step, ho.lvr, Nat.le_trans I.hN ho.step.size, I.hK.ext ho.step.ext, I.hG.ext ho.step.ext, by rw [put_defers]; exact I.hD, by rw [put_size]; exact I.size, ?_, ?_⟩
  · exact pl.put I.cl hes hd I.size (fun t v hv => (I.tmp t v hv).mono ho.step.ext pm) ho.val
  · intro x hx hh hnew hdx
    have : dn x.i = false := by
      cases hh : dn x.i with
      | false => rfl
      | true => rw [add_of hh] at hdx; cases hdx
    exact (I.pend x hx hh hnew this).out ho

/-- the count stays where the operation is no effect -/
theorem Count.pure (pl : Plan P E call md f ops n ask es tm0 lv0 H0 tm' lv' H') {dn : Nat → Bool} {q : Nat} (h : Count es dn q) {e : Ent} (hmem : e ∈ es) (he : e.eff = false) : Count es (add dn e.i) q := by
  intro b1 x b2 hb hx
  have hne : x.i ≠ e.i := by
    intro hxe
    have : e ∈ b1 ++ b2 := by
      rw [hb] at hmem
      rcases List.mem_append.1 hmem with h | h
      · exact List.mem_append_left _ h
      · rcases List.mem_cons.1 h with rfl | h
        · rw [hx] at he; cases he
        · exact List.mem_append_right _ h
    exact pl.inj hb e this hxe.symm
  rw [add_ne hne]
  exact h b1 x b2 hb hx

theorem Count.eff (pl : Plan P E call md f ops n ask es tm0 lv0 H0 tm' lv' H') {dn : Nat → Bool} {es1 es2 : List Ent} {e : Ent} (hes : es = es1 ++ e :: es2) (h : Count es dn (numE es1)) (he : e.eff = true) : Count es (add dn e.i) (numE es1 + 1) := by
  intro b1 x b2 hb hx
  by_cases hxe : x.i = e.i
  · rw [hxe, add_self]
    simp only [true_iff]
    have heq : es1 ++ e :: es2 = b1 ++ x :: b2 := hes.symm.trans hb
    rcases List.append_eq_append_iff.1 heq with ⟨c, h1, h2⟩ | ⟨c, h1, h2⟩
    · cases c with
      | nil => simp at h1; rw [← h1]; omega
      | cons z c =>
        simp only [List.cons_append, List.cons.injEq] at h2
        exfalso
        refine pl.inj hes x ?_ hxe
        rw [h2.2]; simp
    · have : numE es1 = numE b1 + numE c := by rw [h1, numE_append]
      omega
  · rw [add_ne hxe, h b1 x b2 hb hx]
    have hne : numE b1 ≠ numE es1 := by
      intro hnn
      have heq : es1 ++ e :: es2 = b1 ++ x :: b2 := hes.symm.trans hb
      rcases List.append_eq_append_iff.1 heq with ⟨c, h1, h2⟩ | ⟨c, h1, h2⟩
      · cases c with
        | nil => simp at h2; exact hxe (by rw [h2.1])
        | cons z c =>
          simp only [List.cons_append, List.cons.injEq] at h2
          rw [h1, numE_append, numE_cons, ← h2.1, if_pos he] at hnn; omega
      · cases c with
        | nil => simp at h2; exact hxe (by rw [h2.1])
        | cons z c =>
          simp only [List.cons_append, List.cons.injEq] at h2
          rw [h1, numE_append, numE_cons, ← h2.1, if_pos hx] at hnn; omega
    omega

/-- the part ahead, and the rest -/
theorem Plan.parts (pl : Plan P E call md f ops n ask es tm0 lv0 H0 tm' lv' H') : ∃ ea eb, es = ea ++ eb ∧ (∀ e ∈ ea, e.h = true) ∧ (∀ e ∈ eb, e.h = false) := by
  obtain ⟨A, B, h1, h2, h3⟩ := orderA_first ops.toList
  have hc := pl.hc
  rw [h1] at hc
  obtain ⟨ea, eb, e1, e2, e3⟩ := List.map_eq_append_iff.1 hc
  refine ⟨ea, eb, e1, fun e he => ?_, fun e he => ?_⟩
  · exact h2 e.c (by rw [← e2]; exact List.mem_map_of_mem he)
  · exact h3 e.c (by rw [← e3]; exact List.mem_map_of_mem he)

/-- where an entry that does not stand ahead has only such behind it -/
theorem Plan.behind (pl : Plan P E call md f ops n ask es tm0 lv0 H0 tm' lv' H') {es1 es2 : List Ent} {e : Ent} (hes : es = es1 ++ e :: es2) (hh : e.h = false) : ∀ x ∈ e :: es2, x.h = false := by
  obtain ⟨ea, eb, h1, h2, h3⟩ := pl.parts
  have heq : es1 ++ e :: es2 = ea ++ eb := hes.symm.trans h1
  rcases List.append_eq_append_iff.1 heq with ⟨c, k1, k2⟩ | ⟨c, k1, k2⟩
  · cases c with
    | nil => simp at k2; intro x hx; exact h3 x (by rw [← k2]; exact hx)
    | cons z c =>
      simp only [List.cons_append, List.cons.injEq] at k2
      have := h2 e (by rw [k1, k2.1]; simp)
      rw [hh] at this; cases this
  · intro x hx; exact h3 x (by rw [k2]; exact List.mem_append_right _ hx)

theorem Plan.distinct (pl : Plan P E call md f ops n ask es tm0 lv0 H0 tm' lv' H') {x y : Ent} (hx : x ∈ es) (hy : y ∈ es) (hxh : x.h = true) (hyh : y.h = true) (hne : x.i ≠ y.i) :
    (x.lv1.next ≤ y.lv.next ∧ x.H1.next ≤ y.H.next) ∨ (y.lv1.next ≤ x.lv.next ∧ y.H1.next ≤ x.H.next) := by
  obtain ⟨ea, eb, h1, h2, h3⟩ := pl.parts
  have T := pl.T
  rw [h1] at T
  obtain ⟨_, _, _, T1, _⟩ := T.append
  have hpw := (ahead_ok (N := 0) T1 (fun e he => (pl.op (by rw [h1]; exact List.mem_append_left _ he)).2 (h2 e he))).2.2.2.2.2.2.2
  have inA : ∀ z ∈ es, z.h = true → z ∈ ea := by
    intro z hz hzh
    rw [h1] at hz
    rcases List.mem_append.1 hz with h | h
    · exact h
    · rw [h3 z h] at hzh; cases hzh
  have hxa := inA x hx hxh
  have hya := inA y hy hyh
  obtain ⟨a, b, rfl⟩ := List.append_of_mem hxa
  rcases List.mem_append.1 hya with h | h
  · right
    exact (List.pairwise_append.1 hpw).2.2 y h x (by simp)
  · rcases List.mem_cons.1 h with rfl | h
    · exact absurd rfl hne
    · left
      exact (List.pairwise_cons.1 (List.pairwise_append.1 hpw).2.1).1 y h

/-- ONE OPERATION, in its turn. -/
theorem Plan.one (hE : EnvOk P E) (hC : CallsOk P E call) (pl : Plan P E call md f ops n ask es tm0 lv0 H0 tm' lv' H') {Q : Exit → Act → World → Prop} {dn : Nat → Bool} {q : Nat} {lvq : Lv} {Hq : Hp}
    (I : Inv P E N n ops es tm0 g0 H0 w0 lv' H' dn g p w a q lvq Hq) {e : Ent} (hmem : e ∈ es) (hr : Ready ops dn e.i) (hd : dn e.i = false) {K : Act → World → Prop}
    (hk : ∀ g' p' w' a' q' lv2 H2, Inv P E N n ops es tm0 g0 H0 w0 lv' H' (add dn e.i) g' p' w' a' q' lv2 H2 → K a' w') : wpOp P ops Q e.i K a w := by
  obtain ⟨es1, es2, hes⟩ := List.append_of_mem hmem
  have hop := pl.op hmem
  have T := pl.T
  rw [hes] at T
  have T0 := T
  obtain ⟨tmx, lvx, Hx, T1, T2⟩ := T.append
  obtain ⟨_, _, _, hs, tm1, hput, T3⟩ := T2.head
  have hslot : ∀ t ∈ e.o.looksAt ops, ∀ v, e.tm.get t = some v → TRelU g w p v (a.tmps.getD t undef) := fun t ht v hv => by
    refine I.tmp t v ?_
    rw [pl.slot I.cl hes hr hd ht]; exact hv
  have hops : ∀ x ∈ e.o.op.operands, TRel g w p (evT E e.tm x) (a.eval x) := fun x hx => evT_rel I.hG x fun t hxt v hv => by
    refine (hslot t ?_ v hv).2
    subst hxt
    exact List.mem_append_left _ (List.mem_filterMap.2 ⟨.tmp t, by simpa using hx, rfl⟩)
  have hH := I.step.rel
  unfold wpOp
  rw [hop.1]
  simp only []
  have hs0 := hs
  unfold stepA at hs
  split at hs
  · -- not wanted
    rename_i hw
    rw [wanted_ok hslot hw]
    simp only [Option.some.injEq, Prod.mk.injEq] at hs
    obtain ⟨hr0, hl0, hh0⟩ := hs
    have out : Out N g p Hq w lvq e.r lvq Hq undef g p w := ⟨.refl hH, I.hL, by rw [← hr0]; exact ⟨fun _ => rfl, .of (.undef _)⟩, fun _ _ => rfl, fun _ _ _ => rfl, Nat.le_refl _⟩
    simp only [Bool.false_eq_true, if_false]
    by_cases heff : e.eff = true
    · have hnum := pl.effNow I.cl I.cnt hes hr hd heff
      have hh : e.h = false := by
        have := heff
        simp only [Ent.eff, Bool.and_eq_true, Bool.not_eq_true'] at this
        exact this.2
      have hst := states_next T0 (fun x hx => pl.behind hes hh x (List.mem_cons_of_mem _ hx)) heff
      have hat := states_at T0 (pl.behind hes hh)
      rw [← hes] at hst hat
      rw [hnum, I.st] at hat
      injection hat with hat
      injection hat with hat1 hat2
      rw [← hl0, ← hh0, ← hat1, ← hat2, hnum] at hst
      refine hk g p w _ (q + 1) lvq Hq (I.next pl hes hr hd out hst ?_)
      rw [← hnum]
      exact Count.eff pl hes (by rw [hnum]; exact I.cnt) heff
    · exact hk g p w _ q lvq Hq (I.next pl hes hr hd out I.st (Count.pure pl I.cnt hmem (by simpa using heff)))
  · rename_i hw
    rw [wanted_ok hslot hw]
    simp only [if_true]
    left
    by_cases heff : e.eff = true
    · -- an effect
      have hnum := pl.effNow I.cl I.cnt hes hr hd heff
      have hh : e.h = false := by
        have := heff
        simp only [Ent.eff, Bool.and_eq_true, Bool.not_eq_true'] at this
        exact this.2
      have hst := states_next T0 (fun x hx => pl.behind hes hh x (List.mem_cons_of_mem _ hx)) heff
      have hat := states_at T0 (pl.behind hes hh)
      rw [← hes] at hst hat
      rw [hnum, I.st] at hat
      injection hat with hat
      injection hat with hat1 hat2
      subst hat1 hat2
      rw [hnum] at hst
      refine act_ok hE hC I.hK I.hG hH I.hL I.hN hops hs fun c g' p' w' out => ?_
      refine hk g' p' w' _ (q + 1) e.lv1 e.H1 (I.next pl hes hr hd out hst ?_)
      rw [← hnum]
      exact Count.eff pl hes (by rw [hnum]; exact I.cnt) heff
    · have heff : e.eff = false := by simpa using heff
      by_cases hio : isEff e.o = true
      · -- a new object
        have hh : e.h = true := by simpa [Ent.eff, hio] using heff
        obtain ⟨hgn, hkind⟩ := hop.2 hh
        have hnew : isNew e.o = true := by
          rcases (by simpa using hkind : isNew e.o = true ∨ isMv e.o = true) with h | h
          · exact h
          · rw [isMv_eff h] at hio; cases hio
        obtain ⟨hev, hro⟩ := step_evalOp hgn (isNew_noCall (.inl hnew)) hs0
        have hpend := I.pend e hmem hh hnew hd
        have hcnt := Count.pure pl I.cnt hmem heff
        have pend' : ∀ (g' : Gh) (p' : Nat → Option Nat), (∀ x ∈ es, x.h = true → isNew x.o = true → x.i ≠ e.i → Pend x H0 g p lvq Hq → Pend x H0 g' p' lvq Hq) →
            ∀ x ∈ es, x.h = true → isNew x.o = true → add dn e.i x.i = false → Pend x H0 g' p' lvq Hq := by
          intro g' p' hx x hxm hxh hxn hxd
          have hne : x.i ≠ e.i := by intro h; rw [h, add_self] at hxd; cases hxd
          rw [add_ne hne] at hxd
          exact hx x hxm hxh hxn hne (I.pend x hxm hxh hxn hxd)
        unfold Oper.wp
        rcases new_rel (ρ := a.eval) hE hnew hops hev with ⟨cs, cs', T, e1, e2, e3, e4, e5, e6, e7⟩ | ⟨ob, O, c, e2, e3, e4, e5, e6, e7⟩
        · rw [e7]
          cases hpend with
          | obj ob h2 h3 =>
            exfalso
            rw [e3] at h3
            have := congrArg Hp.next h3
            simp at this
          | loc cs2 h1 h2 h3 hm hp hn hg =>
            have hcs : cs2 = cs := by
              rw [e2] at h2
              have := congrArg (fun l => l.get e.lv.next) h2
              simp only [Lv.get_push _ _ _ hm, if_true] at this
              injection this with this; exact this.symm
            subst hcs
            have hst0 : Step N g Hq w g Hq (w.alloc (.cells cs' T)) := Step.plain hH _
            have hL2 := late_local (T := T) I.hL hH I.hN hp hn hm hg e5 e6
            have pm : ∀ t b, p t = some b → (fun t => if t = e.lv.next then some w.heap.size else p t) t = some b := by
              intro t b hb
              show (if t = e.lv.next then _ else _) = _
              rw [if_neg (by rintro rfl; rw [hp] at hb; cases hb)]; exact hb
            refine hk g (fun t => if t = e.lv.next then some w.heap.size else p t) _ _ q lvq Hq ?_
            refine ⟨closed_add I.cl hr, I.st, hcnt, I.step.trans hst0, hL2, Nat.le_trans I.hN (by rw [size_alloc']; omega), I.hK, I.hG, by rw [put_defers]; exact I.hD, by rw [put_size]; exact I.size, ?_, ?_⟩
            · refine pl.put I.cl hes hd I.size (fun t v hv => (I.tmp t v hv).mono hst0.ext pm) ⟨fun h => (by rw [h1] at h; cases h), ?_⟩
              rw [h1]
              exact ⟨w.heap.size, by simp, rfl⟩
            · refine pend' _ _ fun x hxm hxh hxn hne hxp => ?_
              cases hxp with
              | obj ob k2 k3 km kp k0 kn kg => exact .obj ob k2 k3 km kp k0 kn kg
              | loc ds k1 k2 k3 km kp kn kg =>
                refine .loc ds k1 k2 k3 km ?_ kn kg
                show (if x.lv.next = e.lv.next then _ else _) = _
                rw [if_neg ?_]
                · exact kp
                · rcases pl.distinct hxm hmem hxh hh hne with h | h
                  · have := h.1; rw [k2] at this; simp at this; omega
                  · have := h.1; rw [h2] at this; simp at this; omega
        · rw [e6]
          cases hpend with
          | loc cs2 h1 h2 h3 =>
            exfalso
            rw [e2] at h2
            have := congrArg Lv.next h2
            simp at this
          | obj ob2 h2 h3 hm hp h0 hn hg =>
            have hob : ob2 = ob := by
              rw [e3] at h3
              have := congrArg (fun h => h.get e.H.next) h3
              simp only [Hp.get_alloc _ _ _ hm, if_true] at this
              exact this.symm
            subst hob
            have ext := late_ext hH hp O
            obtain ⟨k1, k2⟩ := e7 (g.upd e.H.next w.heap.size 0 0) ext (by simp [Gh.upd]) (by simp [Gh.upd]) (by simp [Gh.upd])
            have hrel := late_obj hH hp hn hm (O := O) (by rw [hg]; exact k1)
            refine hk (g.upd e.H.next w.heap.size 0 0) p _ _ q lvq Hq ?_
            refine ⟨closed_add I.cl hr, I.st, hcnt, I.step.late h0 hp hrel, late_lv I.hL hH hp O, Nat.le_trans I.hN (by rw [size_alloc']; omega), I.hK.ext ext, I.hG.ext ext, by rw [put_defers]; exact I.hD, by rw [put_size]; exact I.size, ?_, ?_⟩
            · refine pl.put I.cl hes hd I.size (fun t v hv => (I.tmp t v hv).mono ext (fun _ _ h => h)) ⟨fun h => ?_, .of k2⟩
              rw [h] at hro
              cases ho : e.o.op <;> simp [isNew, ho] at hnew <;> simp [resOk, ho] at hro
            · refine pend' _ _ fun x hxm hxh hxn hne hxp => ?_
              cases hxp with
              | loc ds j1 j2 j3 jm jp jn jg => exact .loc ds j1 j2 j3 jm jp jn jg
              | obj ob' j2 j3 jm jp j0 jn jg =>
                refine .obj ob' j2 j3 jm ?_ j0 jn jg
                show (if x.H.next = e.H.next then _ else _) = _
                rw [if_neg ?_]
                · exact jp
                · rcases pl.distinct hxm hmem hxh hh hne with h | h
                  · have := h.2; rw [j3] at this; simp at this; omega
                  · have := h.2; rw [h3] at this; simp at this; omega
      · -- no effect
        have hio : isEff e.o = false := by simpa using hio
        have hsame := stepA_same hio hs0
        have hcall : isCall e.o = false := by
          unfold isCall
          unfold isEff at hio
          cases ho : e.o.op <;> rw [ho] at hio <;> simp only [] at hio ⊢
          rename_i c
          cases hc : c.callee <;> rw [hc] at hio <;> simp at hio
          obtain ⟨ca, cb, cc⟩ := c
          simp only [] at hc
          subst hc
          rfl
        have hs1 := hs
        unfold actA at hs1
        rw [hcall] at hs1
        simp only [Bool.false_eq_true, if_false] at hs1
        split at hs1
        · rename_i r0 l0 h0 hev
          split at hs1
          · rename_i hro
            simp only [Option.some.injEq, Prod.mk.injEq] at hs1
            obtain ⟨e1, e2, e3⟩ := hs1
            rw [e1, e2, e3, hsame.1, hsame.2] at hev
            rw [e1] at hro
            have hact : actA E call md f e.o (evT E e.tm) lvq Hq = some (e.r, lvq, Hq) := by
              have hnow : evalOp E md f e.o (evT E e.tm) lvq Hq = some (e.r, lvq, Hq) := by
                by_cases hrd : isRead E e.o = true
                · obtain ⟨hlo, hhi⟩ := pl.readNow I.cl I.cnt I.le hes hr hd hio hrd
                  cases hask : askOf ask e.i with
                  | none =>
                    rw [hask] at hlo hhi
                    simp only [Option.getD_none] at hlo hhi
                    have hq : numE es1 = q := by omega
                    by_cases hh : e.h = true
                    · exfalso
                      have := (hop.2 hh).2
                      cases ho : e.o.op <;> simp [isNew, isMv, ho] at this <;> simp [isRead, ho] at hrd
                    · have hh : e.h = false := by simpa using hh
                      have hat := states_at T0 (pl.behind hes hh)
                      rw [← hes, hq, I.st] at hat
                      injection hat with hat
                      injection hat with hat1 hat2
                      rw [hat1, hat2]; exact hev
                  | some lh =>
                    obtain ⟨lo, hi⟩ := lh
                    rw [hask] at hlo hhi
                    simp only [Option.getD_some] at hlo hhi
                    obtain ⟨l, h, h1⟩ := pl.asks e hmem lo hi hask hw q _ hlo hhi I.st
                    have := eff_same hio h1
                    simp only [] at this h1
                    rw [this.1, this.2] at h1
                    exact h1
                · exact read_indep hio (by simpa using hrd) hev lvq Hq
              unfold actA
              rw [hcall]
              simp only [Bool.false_eq_true, if_false]
              rw [hnow]
              simp only []
              rw [if_pos hro]
            refine act_ok hE hC I.hK I.hG hH I.hL I.hN hops hact fun c g' p' w' out => ?_
            exact hk g' p' w' _ q lvq Hq (I.next pl hes hr hd out I.st (Count.pure pl I.cnt hmem heff))
          · cases hs1
        · cases hs1
  · cases hs

end
end Go.Rs
end
/- Regions. -/
section
namespace Go.Rs
section
variable {P : Program} {E : Env} {N n : Nat} {g : Gh} {p : Nat → Option Nat} {H : Hp} {w : World} {lv : Lv} {r : AVal}
variable {md : Bool} {f : FuncId} {lv' : Lv} {H' : Hp} {call : CallF} {tm tm' : Tr AVal} {a : Act} {ops : Array Oper}
variable {ask : List (Nat × Nat × Nat)} {es : List Ent} {H0 : Hp} {lv0 : Lv} {tm0 : Tr AVal} {g0 : Gh} {w0 : World}

def unl (ops : Array Oper) (listed : Array Bool) : List Nat := (List.range ops.size).filter fun i => !listed.getD i false

def dnOf (listed : Array Bool) : Nat → Bool := fun i => listed.getD i false

theorem mem_ready {listed : Array Bool} {i : Nat} (hs : listed.size = ops.size) : i ∈ Region.ready .any ops listed ↔ i < ops.size ∧ dnOf listed i = false ∧ Ready ops (dnOf listed) i := by
  unfold Region.ready
  simp only [List.mem_filter, List.mem_range, Bool.and_eq_true]
  constructor
  · rintro ⟨h1, h2, h3⟩
    have h4 : listed[i]? = some listed[i] := Array.getElem?_eq_getElem (by omega)
    refine ⟨h1, ?_, ?_⟩
    · simp only [dnOf, Array.getD_eq_getD_getElem?, h4, Option.getD_some] at h2 ⊢
      simpa using h2
    · intro o e ho he hb
      rw [ho] at h3
      simp only [Option.map_some, Option.getD_some, Array.all_eq_true'] at h3
      have := h3 e he
      rw [hb] at this
      simpa [dnOf] using this
  · rintro ⟨h1, h2, h3⟩
    have h4 : listed[i]? = some listed[i] := Array.getElem?_eq_getElem (by omega)
    refine ⟨h1, ?_, ?_⟩
    · simp only [dnOf, Array.getD_eq_getD_getElem?, h4, Option.getD_some] at h2 ⊢
      simpa using h2
    · have ho : ops[i]? = some ops[i] := Array.getElem?_eq_getElem h1
      rw [ho]
      simp only [Option.map_some, Option.getD_some, Array.all_eq_true']
      intro e he
      cases hb : Region.binds .any e with
      | false => simp
      | true =>
        have := h3 _ e ho he hb
        simpa [dnOf] using this

theorem ready_nil (pl : Plan P E call md f ops n ask es tm0 lv0 H0 tm' lv' H') {listed : Array Bool} (hs : listed.size = ops.size) (h : Region.ready .any ops listed = []) : ∀ i, i < ops.size → dnOf listed i = true := by
  intro i
  induction i using Nat.strongRecOn with
  | _ i ih =>
    intro hi
    cases hd : dnOf listed i with
    | true => rfl
    | false =>
      exfalso
      have : i ∈ Region.ready .any ops listed := (mem_ready hs).2 ⟨hi, hd, fun o e ho he hb => ih e.on (pl.back i o e ho he hb) (by have := pl.back i o e ho he hb; omega)⟩
      rw [h] at this; cases this

theorem dnOf_set {listed : Array Bool} {i : Nat} (hi : i < listed.size) : dnOf (listed.setIfInBounds i true) = add (dnOf listed) i := by
  funext j
  unfold dnOf add
  rw [Array.getD_eq_getD_getElem?, Array.getElem?_setIfInBounds]
  by_cases h : i = j
  · subst h; simp [hi]
  · simp [h, Ne.symm h]

/-- when all is done -/
theorem Inv.done (pl : Plan P E call md f ops n ask es tm0 lv0 H0 tm' lv' H') {dn : Nat → Bool} {q : Nat} {lvq : Lv} {Hq : Hp} (I : Inv P E N n ops es tm0 g0 H0 w0 lv' H' dn g p w a q lvq Hq) (hall : ∀ i, i < ops.size → dn i = true) :
    Step N g0 H0 w0 g H' w ∧ Good P E N n g p H' w lv' tm' a := by
  have hdn : ∀ e ∈ es, dn e.i = true := fun e he => hall _ (by
    have := (pl.op he).1
    exact (Array.getElem?_eq_some_iff.1 this).1)
  have hq : q = numE es := by
    rcases Nat.lt_or_ge q (numE es) with h | h
    · obtain ⟨b1, e, b2, h1, h2, h3⟩ := eff_at es q h
      have := (I.cnt b1 e b2 h1 h2).1 (hdn e (by rw [h1]; simp))
      omega
    · have := I.le; omega
  have hst := I.st
  rw [hq] at hst
  unfold states at hst
  rw [List.getElem?_append_right (by simp [effStates, numE])] at hst
  simp [effStates, numE] at hst
  obtain ⟨rfl, rfl⟩ := hst
  refine ⟨I.step, ⟨I.step.rel, I.hL, I.hN, I.hK, I.hG, ⟨fun t v hv => ?_, I.size⟩, I.hD⟩⟩
  refine I.tmp t v ?_
  rw [← hv, trace_cur pl.T t]
  exact cur_congr es _ fun e he _ => hdn e he

theorem draw_any (hE : EnvOk P E) (hC : CallsOk P E call) (pl : Plan P E call md f ops n ask es tm0 lv0 H0 tm' lv' H') {Q : Exit → Act → World → Prop}
    (hq : ∀ g' p' w' a', Step N g0 H0 w0 g' H' w' → Good P E N n g' p' H' w' lv' tm' a' → Q .normal a' w') :
    ∀ (fuel : Nat) (listed : Array Bool) (g : Gh) (p : Nat → Option Nat) (w : World) (a : Act) (q : Nat) (lvq : Lv) (Hq : Hp), (unl ops listed).length ≤ fuel → listed.size = ops.size →
      Inv P E N n ops es tm0 g0 H0 w0 lv' H' (dnOf listed) g p w a q lvq Hq → wpAny P .any ops Q fuel listed a w
  | 0, listed, g, p, w, a, q, lvq, Hq, hf, hs, I => by
    have hall : ∀ i, i < ops.size → dnOf listed i = true := by
      intro i hi
      cases hd : dnOf listed i with
      | true => rfl
      | false =>
        have : i ∈ unl ops listed := by simp [unl, hi]; simpa [dnOf] using hd
        have h0 : unl ops listed = [] := List.length_eq_zero_iff.1 (by omega)
        rw [h0] at this; cases this
    refine ⟨?_, ?_⟩
    · cases hr : Region.ready .any ops listed with
      | nil => rfl
      | cons i rest =>
        have := (mem_ready hs).1 (by rw [hr]; exact List.mem_cons_self : i ∈ Region.ready .any ops listed)
        rw [hall i this.1] at this; cases this.2.1
    · have := I.done pl hall; exact hq _ _ _ _ this.1 this.2
  | fuel + 1, listed, g, p, w, a, q, lvq, Hq, hf, hs, I => by
    refine ⟨fun hr => ?_, fun i hi => ?_⟩
    · have := I.done pl (ready_nil pl hs hr); exact hq _ _ _ _ this.1 this.2
    · obtain ⟨h1, h2, h3⟩ := (mem_ready hs).1 hi
      obtain ⟨e, he, rfl⟩ := pl.ex h1
      refine pl.one hE hC I he h3 h2 fun g' p' w' a' q' lv2 H2 I' => ?_
      refine draw_any hE hC pl hq fuel _ g' p' w' a' q' lv2 H2 ?_ (by simp [hs]) (by rw [dnOf_set (by omega)]; exact I')
      have hsub : unl ops (listed.setIfInBounds e.i true) = (unl ops listed).filter (fun j => j != e.i) := by
        unfold unl
        rw [List.filter_filter]
        refine List.filter_congr fun j hj => ?_
        have := congrFun (dnOf_set (listed := listed) (i := e.i) (by omega)) j
        unfold dnOf at this
        rw [this]
        unfold add
        cases h : (j == e.i) <;> simp [bne, h]
      have hmem : e.i ∈ unl ops listed := by simp [unl, h1]; simpa [dnOf] using h2
      have hlt : ((unl ops listed).filter (fun j => j != e.i)).length < (unl ops listed).length :=
        List.length_filter_lt_length_iff_exists.2 ⟨e.i, hmem, by simp⟩
      rw [hsub]
      omega

theorem askAll_spec {o : Oper} {ev : Operand → AVal} {r : AVal} : ∀ {l : List (Lv × Hp)}, askAll E md f o ev r l = true → ∀ st ∈ l, ∃ l h, evalOp E md f o ev st.1 st.2 = some (r, l, h)
  | [], _, st, h => by cases h
  | (l1, h1) :: rest, hk, st, hst => by
    simp only [askAll, Bool.and_eq_true] at hk
    rcases List.mem_cons.1 hst with rfl | hst
    · have := hk.1
      split at this
      · rename_i r' l h hev
        rw [sameA_eq _ _ this]
        exact ⟨l, h, hev⟩
      · cases this
    · exact askAll_spec hk.2 st hst

theorem askRecs_spec {ops : List Oper} {sts : List (Lv × Hp)} : ∀ {rs : List Rec}, askRecs E md f ops sts rs = true → ∀ x ∈ rs, wantedA ops x.tm x.o = some true → ∀ k st, x.lo ≤ k → k ≤ x.hi → sts[k]? = some st →
    ∃ l h, evalOp E md f x.o (evT E x.tm) st.1 st.2 = some (x.r, l, h)
  | [], _, x, h => by cases h
  | y :: rest, hk, x, hx => by
    simp only [askRecs, Bool.and_eq_true] at hk
    rcases List.mem_cons.1 hx with rfl | hx
    · intro hw k st h1 h2 h3
      have := hk.1
      rw [hw] at this
      refine askAll_spec this st ?_
      refine List.mem_of_getElem? (i := k - x.lo) ?_
      rw [List.getElem?_drop, List.getElem?_take]
      have : x.lo + (k - x.lo) = k := by omega
      rw [this, if_pos (by omega)]
      exact h3
    · exact askRecs_spec hk.2 x hx

/-- A REGION. -/
theorem region_ok (hE : EnvOk P E) (hC : CallsOk P E call) {id : Nat} {draw : Bool} (hreg : draw = true → regionOk E ops (E.ask f id) = true) {fr fr' : Fr} (hg : Good P E N fr.n g p H w fr.lv fr.tm a)
    (h : regionA E call md f id ops.toList draw fr H = some (fr', H')) {Q : Exit → Act → World → Prop}
    (hq : ∀ g' p' w' a', Step N g H w g' H' w' → Good P E N fr'.n g' p' H' w' fr'.lv fr'.tm a' → Q .normal a' w') : (Code.region id ops draw).wp P Q a w := by
  unfold regionA at h
  cases draw with
  | false =>
    simp only [Bool.false_eq_true, if_false] at h
    split at h
    · rename_i tm1 lv1 H1 hr
      simp only [Option.some.injEq, Prod.mk.injEq] at h
      obtain ⟨rfl, rfl⟩ := h
      refine wp_region ?_
      rw [List.range_eq_range']
      have := runOps_ok (n := fr.n) (N := N) (Q := Q) hE hC ops.toList 0 g p H w fr.lv fr.tm a tm1 lv1 H1 rfl hg hr hq
      simpa using this
    · cases h
  | true =>
    simp only [if_true] at h
    split at h
    · rename_i tm1 lv1 H1 sts rs hr
      obtain ⟨es, hc, hT, hsts, _, hrec⟩ := runDraw_trace _ _ _ _ _ _ _ _ _ _ _ hr
      have hask : rs = [] ∨ askRecs E md f ops.toList (((lv1, H1) :: sts).reverse) rs = true := by
        split at h
        · exact .inl rfl
        · split at h
          · rename_i hh; exact .inr hh
          · cases h
      have hfr : fr' = { fr with tm := tm1, lv := lv1 } ∧ H' = H1 := by
        split at h
        · simp only [Option.some.injEq, Prod.mk.injEq] at h; exact ⟨h.1.symm, h.2.symm⟩
        · split at h
          · simp only [Option.some.injEq, Prod.mk.injEq] at h; exact ⟨h.1.symm, h.2.symm⟩
          · cases h
      obtain ⟨rfl, rfl⟩ := hfr
      obtain ⟨hback, hones, hpairs⟩ := regionOk_spec (hreg rfl)
      have hstates : ((lv1, H') :: sts).reverse = states es lv1 H' := by
        rw [hsts]; simp [states]
      have pl : Plan P E call md f ops fr.n (E.ask f id) es fr.tm fr.lv H tm1 lv1 H' := by
        refine ⟨hc, hback, by rw [hc]; exact hones, by rw [hc]; exact hpairs, hT, fun e he lo hi ha hw k st h1 h2 h3 => ?_⟩
        have hm := hrec e he lo hi ha
        rcases hask with h0 | h0
        · rw [h0] at hm; cases hm
        · rw [hstates] at h0
          exact askRecs_spec h0 _ hm hw k st h1 h2 h3
      -- the start
      obtain ⟨ea, eb, hes, ha, hb⟩ := pl.parts
      have T := pl.T
      rw [hes] at T
      obtain ⟨tmA, lvA, HA, TA, TB⟩ := T.append
      obtain ⟨i1, i2, i3, i4, i5, i6, i7, i8⟩ := ahead_ok (N := N) TA (fun e he => (pl.op (by rw [hes]; exact List.mem_append_left _ he)).2 (ha e he))
      have hdrew : HRel g H { w with drawn := w.drawn + 1 } := hg.hH.heap_eq rfl
      have hst1 : Step N g H w g H { w with drawn := w.drawn + 1 } := Step.heap_eq hg.hH rfl rfl rfl
      have hL1 : LvRel N g p H { w with drawn := w.drawn + 1 } fr.lv := hg.hL.step (Step.heap_eq hg.hH rfl rfl rfl)
      obtain ⟨hst2, hL2⟩ := i1 g p _ hdrew hL1
      refine wp_region_any hE.mixed ?_
      refine draw_any (g0 := g) (H0 := H) (w0 := w) (N := N) hE hC pl hq ops.size _ g p _ a 0 lvA HA ?_ (by simp) ?_
      · unfold unl
        have := List.length_filter_le (fun i => !(Array.replicate ops.size false).getD i false) (List.range ops.size)
        simpa using this
      · have hdn : ∀ i, dnOf (Array.replicate ops.size false) i = false := by
          intro i
          unfold dnOf
          rw [Array.getD_eq_getD_getElem?, Array.getElem?_replicate]
          split <;> rfl
        have hea : numE ea = 0 := by
          unfold numE
          rw [List.filter_eq_nil_iff.2 (fun e he => by simp [Ent.eff, ha e he])]
          rfl
        refine ⟨fun i o e hi => (by rw [hdn] at hi; cases hi), ?_, ?_, hst1.trans hst2, hL2, hg.hN, hg.hK, hg.hG, hg.hD, hg.hF.size, ?_, ?_⟩
        · have := states_head TB hb
          rw [hes]
          unfold states effStates at this ⊢
          rw [List.filter_append, List.filter_eq_nil_iff.2 (fun e he => by simp [Ent.eff, ha e he]), List.nil_append]
          exact this
        · intro b1 e b2 _ _
          rw [hdn]
          simp
        · intro t v hv
          rw [cur_none es _ (fun e _ _ => hdn e.i)] at hv
          exact (hg.hF.tm t v hv).mono hst1.ext (fun _ _ h => h)
        · intro e he hh hn _
          have hea' : e ∈ ea := by
            rw [hes] at he
            rcases List.mem_append.1 he with h | h
            · exact h
            · rw [hb e h] at hh; cases hh
          have h7 := i7 e hea'
          cases i6 e hea' hn with
          | loc cs h1 h2 h3 hm hn' hg' =>
            refine .loc cs h1 h2 h3 hm ?_ hn' hg'
            cases hp : p e.lv.next with
            | none => rfl
            | some b => have := (hg.hL.nx _ b hp).1; omega
          | obj ob h2 h3 hm hn' hg' =>
            refine .obj ob h2 h3 hm ?_ h7.2 hn' hg'
            cases hp : g.mu e.H.next with
            | none => rfl
            | some b => have := (hg.hH.lt _ b hp).1; omega
    · cases h

end
end Go.Rs
end
/- Code and calls. -/
section
namespace Go.Rs
section
variable {P : Program} {E : Env} {N n : Nat} {g : Gh} {p : Nat → Option Nat} {H : Hp} {w : World} {lv : Lv} {r : AVal}
variable {md : Bool} {f : FuncId} {lv' : Lv} {H' : Hp} {call : CallF} {tm tm' : Tr AVal} {a : Act}

/-- all drawn regions of a body pass the check -/
def regsOk (E : Env) (f : FuncId) : Code → Bool
  | .region id ops draw => !draw || regionOk E ops (E.ask f id)
  | .seq a b => regsOk E f a && regsOk E f b
  | .cond _ a b => regsOk E f a && regsOk E f b
  | .block _ b => regsOk E f b
  | .loop b => regsOk E f b
  | _ => true

def AExit.out : AExit → Exit
  | .normal => .normal
  | .exit id => .exit id
  | .ret => .ret

theorem iter_ok {c : Code} (ih : ∀ (st : St) (ex : AExit) (st' : St), evalCode E call md f c st = some (ex, st') → ∀ (g : Gh) (p : Nat → Option Nat) (w : World) (a : Act), Good P E N st.1.n g p st.2 w st.1.lv st.1.tm a → ∀ (Q : Exit → Act → World → Prop),
      (∀ g' p' w' a', Step N g st.2 w g' st'.2 w' → Good P E N st'.1.n g' p' st'.2 w' st'.1.lv st'.1.tm a' → Q ex.out a' w') → c.wp P Q a w) :
    ∀ (k : Nat) (st : St) (ex : AExit) (st' : St), iterA (evalCode E call md f c) k st = some (ex, st') → ∀ (g : Gh) (p : Nat → Option Nat) (w : World) (a : Act), Good P E N st.1.n g p st.2 w st.1.lv st.1.tm a → ∀ (Q : Exit → Act → World → Prop),
      (∀ g' p' w' a', Step N g st.2 w g' st'.2 w' → Good P E N st'.1.n g' p' st'.2 w' st'.1.lv st'.1.tm a' → Q ex.out a' w') → Code.rounds P c Q k a w
  | 0, st, ex, st', h, g, p, w, a, hg, Q, hq => by simp [iterA] at h
  | k + 1, st, ex, st', h, g, p, w, a, hg, Q, hq => by
    simp only [iterA] at h
    rw [rounds_succ]
    split at h
    · rename_i st1 h1
      refine ih st .normal st1 h1 g p w a hg _ fun g' p' w' a' hs hg' => ?_
      exact iter_ok ih k st1 ex st' h g' p' w' a' hg' Q fun g2 p2 w2 a2 hs2 hg2 => hq g2 p2 w2 a2 (hs.trans hs2) hg2
    · rename_i id st1 h1
      simp only [Option.some.injEq, Prod.mk.injEq] at h
      obtain ⟨rfl, rfl⟩ := h
      exact ih st (.exit id) st1 h1 g p w a hg _ fun g' p' w' a' hs hg' => hq g' p' w' a' hs hg'
    · rename_i st1 h1
      simp only [Option.some.injEq, Prod.mk.injEq] at h
      obtain ⟨rfl, rfl⟩ := h
      exact ih st .ret st1 h1 g p w a hg _ fun g' p' w' a' hs hg' => hq g' p' w' a' hs hg'
    · cases h

theorem code_ok (hE : EnvOk P E) (hC : CallsOk P E call) : ∀ (c : Code), regsOk E f c = true → ∀ (st : St) (ex : AExit) (st' : St), evalCode E call md f c st = some (ex, st') → ∀ (g : Gh) (p : Nat → Option Nat) (w : World) (a : Act), Good P E N st.1.n g p st.2 w st.1.lv st.1.tm a → ∀ (Q : Exit → Act → World → Prop),
    (∀ g' p' w' a', Step N g st.2 w g' st'.2 w' → Good P E N st'.1.n g' p' st'.2 w' st'.1.lv st'.1.tm a' → Q ex.out a' w') → c.wp P Q a w
  | .skip, _, st, ex, st', h, g, p, w, a, hg, Q, hq => by
    simp only [evalCode, Option.some.injEq, Prod.mk.injEq] at h
    obtain ⟨rfl, rfl⟩ := h
    exact wp_skip (hq g p w a (.refl hg.hH) hg)
  | .region id ops draw, hr, st, ex, st', h, g, p, w, a, hg, Q, hq => by
    simp only [evalCode] at h
    split at h
    · rename_i st1 h1
      simp only [Option.some.injEq, Prod.mk.injEq] at h
      obtain ⟨rfl, rfl⟩ := h
      refine region_ok hE hC (fun hd => ?_) hg h1 hq
      subst hd
      simpa [regsOk] using hr
    · cases h
  | .seq x y, hr, st, ex, st', h, g, p, w, a, hg, Q, hq => by
    simp only [regsOk, Bool.and_eq_true] at hr
    simp only [evalCode] at h
    refine wp_seq ?_
    split at h
    · rename_i st1 h1
      refine code_ok hE hC x hr.1 st .normal st1 h1 g p w a hg _ fun g' p' w' a' hs hg' => ?_
      exact code_ok hE hC y hr.2 st1 ex st' h g' p' w' a' hg' Q fun g2 p2 w2 a2 hs2 hg2 => hq g2 p2 w2 a2 (hs.trans hs2) hg2
    · rename_i id st1 h1
      simp only [Option.some.injEq, Prod.mk.injEq] at h
      obtain ⟨rfl, rfl⟩ := h
      exact code_ok hE hC x hr.1 st (.exit id) st1 h1 g p w a hg _ fun g' p' w' a' hs hg' => hq g' p' w' a' hs hg'
    · rename_i st1 h1
      simp only [Option.some.injEq, Prod.mk.injEq] at h
      obtain ⟨rfl, rfl⟩ := h
      exact code_ok hE hC x hr.1 st .ret st1 h1 g p w a hg _ fun g' p' w' a' hs hg' => hq g' p' w' a' hs hg'
    · cases h
  | .cond c x y, hr, st, ex, st', h, g, p, w, a, hg, Q, hq => by
    simp only [regsOk, Bool.and_eq_true] at hr
    simp only [evalCode] at h
    have hc := evT_rel (E := E) (g := g) (w := w) (p := p) (tm := st.1.tm) (a := a) hg.hG c (fun t _ v ht => (hg.hF.tm t v ht).2)
    split at h
    · rename_i hb
      rw [hb] at hc
      exact wp_cond_true (trel_bool hc) (code_ok hE hC x hr.1 st ex st' h g p w a hg Q hq)
    · rename_i hb
      rw [hb] at hc
      exact wp_cond_false (trel_bool hc) (code_ok hE hC y hr.2 st ex st' h g p w a hg Q hq)
    · cases h
  | .block id b, hr, st, ex, st', h, g, p, w, a, hg, Q, hq => by
    simp only [regsOk] at hr
    simp only [evalCode] at h
    refine wp_block ?_
    split at h
    · rename_i id' st1 h1
      refine code_ok hE hC b hr st (.exit id') st1 h1 g p w a hg _ fun g' p' w' a' hs hg' => ?_
      split at h
      · rename_i hid
        simp only [Option.some.injEq, Prod.mk.injEq] at h
        obtain ⟨rfl, rfl⟩ := h
        simp only [AExit.out, Exit.inBlock, hid, if_true]
        exact hq g' p' w' a' hs hg'
      · rename_i hid
        simp only [Option.some.injEq, Prod.mk.injEq] at h
        obtain ⟨rfl, rfl⟩ := h
        simp only [AExit.out, Exit.inBlock, hid, if_false]
        exact hq g' p' w' a' hs hg'
    · rename_i st1 h1
      simp only [Option.some.injEq, Prod.mk.injEq] at h
      obtain ⟨rfl, rfl⟩ := h
      exact code_ok hE hC b hr st .normal st1 h1 g p w a hg _ fun g' p' w' a' hs hg' => hq g' p' w' a' hs hg'
    · rename_i st1 h1
      simp only [Option.some.injEq, Prod.mk.injEq] at h
      obtain ⟨rfl, rfl⟩ := h
      exact code_ok hE hC b hr st .ret st1 h1 g p w a hg _ fun g' p' w' a' hs hg' => hq g' p' w' a' hs hg'
    · cases h
  | .loop b, hr, st, ex, st', h, g, p, w, a, hg, Q, hq => by
    simp only [regsOk] at hr
    simp only [evalCode] at h
    exact wp_loop_rounds E.loops (iter_ok (fun st ex st' h g p w a hg Q hq => code_ok hE hC b hr st ex st' h g p w a hg Q hq) E.loops st ex st' h g p w a hg Q hq)
  | .exit id, _, st, ex, st', h, g, p, w, a, hg, Q, hq => by
    simp only [evalCode, Option.some.injEq, Prod.mk.injEq] at h
    obtain ⟨rfl, rfl⟩ := h
    exact wp_exit (hq g p w a (.refl hg.hH) hg)
  | .ret, _, st, ex, st', h, g, p, w, a, hg, Q, hq => by
    simp only [evalCode, Option.some.injEq, Prod.mk.injEq] at h
    obtain ⟨rfl, rfl⟩ := h
    exact wp_ret (hq g p w a (.refl hg.hH) hg)
  | .goto _, _, st, ex, st', h, g, p, w, a, hg, Q, hq => by simp [evalCode] at h
  | .label _, _, st, ex, st', h, g, p, w, a, hg, Q, hq => by simp [evalCode] at h
  | .scope _, _, st, ex, st', h, g, p, w, a, hg, Q, hq => by simp [evalCode] at h
  | .rangeFunc .., _, st, ex, st', h, g, p, w, a, hg, Q, hq => by simp [evalCode] at h
  | .refuse _, _, st, ex, st', h, g, p, w, a, hg, Q, hq => by simp [evalCode] at h

end
end Go.Rs
end
/- Whole calls. -/
section
namespace Go.Rs
section
variable {P : Program} {E : Env} {N n : Nat} {g : Gh} {p : Nat → Option Nat} {H : Hp} {w : World} {lv : Lv} {r : AVal}
variable {md : Bool} {f : FuncId} {lv' : Lv} {H' : Hp} {call : CallF} {tm tm' : Tr AVal} {a : Act}

/-- values side by side -/
def VRels (g : Gh) (w : World) (vs : List AVal) (cs : List Value) : Prop := vs.length = cs.length ∧ ∀ (i : Nat) x c, vs[i]? = some x → cs[i]? = some c → VRel g w x c

theorem VRels.nil : VRels g w [] [] := ⟨rfl, by simp⟩
theorem VRels.cons {x : AVal} {c : Value} {vs : List AVal} {cs : List Value} (h : VRel g w x c) (hs : VRels g w vs cs) : VRels g w (x :: vs) (c :: cs) := ⟨by simp [hs.1], rel_cons h hs.2⟩
theorem VRels.mono {g' : Gh} {w' : World} {vs : List AVal} {cs : List Value} (h : VRels g w vs cs) (e : Ext g w g' w') : VRels g' w' vs cs := ⟨h.1, fun i x c hx hc => (h.2 i x c hx hc).mono e⟩
theorem VRels.inv {x : AVal} {vs : List AVal} {cs : List Value} (h : VRels g w (x :: vs) cs) : ∃ c cs', cs = c :: cs' ∧ VRel g w x c ∧ VRels g w vs cs' := by
  cases cs with
  | nil => have := h.1; simp at this
  | cons c cs' => exact ⟨c, cs', rfl, h.2 0 x c rfl rfl, by have := h.1; simpa using this, fun i y d hy hd => h.2 (i + 1) y d (by simpa using hy) (by simpa using hd)⟩

def resultOf (a : Act) : ResultVar → Sem Value
  | .tmp t => pure (a.tmps.getD t undef)
  | .cell x t => do loadVar t (← asAddr (a.tmps.getD x undef))

theorem results_ok (hE : EnvOk P E) (hg : Good P E N n g p H w lv tm a) : ∀ (l : List ResultVar) (vs : List AVal), results E tm lv H l = some vs →
    ∃ cs, (l.mapM (resultOf a)).run P w = .ok cs w ∧ VRels g w vs cs
  | [], vs, h => by
    simp only [results, Option.some.injEq] at h
    subst h
    exact ⟨[], rfl, .nil⟩
  | r :: l, vs, h => by
    simp only [results] at h
    split at h
    · rename_i x xs hx hxs
      split at h
      · rename_i hh
        injection h with h
        subst h
        obtain ⟨cs, h1, h2⟩ := results_ok hE hg l xs hxs
        cases r with
        | tmp t =>
          simp only [Option.some.injEq] at hx
          have hv := evT_rel (E := E) (g := g) (w := w) (p := p) (tm := tm) (a := a) hg.hG (.tmp t) (fun t _ v ht => (hg.hF.tm t v ht).2)
          have hv : TRel g w p x (a.tmps.getD t undef) := by rw [← hx]; exact hv
          refine ⟨a.tmps.getD t undef :: cs, ?_, .cons (hv.handed hh) h2⟩
          rw [List.mapM_cons]
          simp only [resultOf, Sem.run_bind, Sem.run_pure, Result.andThen_ok, h1]
        | cell y T =>
          simp only [] at hx
          have hv := evT_rel (E := E) (g := g) (w := w) (p := p) (tm := tm) (a := a) hg.hG (.tmp y) (fun t _ v ht => (hg.hF.tm t v ht).2)
          obtain ⟨addr, c, k1, k2, k3⟩ := loadA_rel hE hg.hH hg.hL hv hx
          have k1' : a.tmps.getD y undef = .pointer (some addr) := k1
          refine ⟨c :: cs, ?_, .cons k3 h2⟩
          rw [List.mapM_cons]
          have hasa : (asAddr (Value.pointer (some addr))).run P w = .ok addr w := rfl
          simp only [resultOf, k1', Sem.run_bind, hasa, k2, Sem.run_pure, Result.andThen_ok, h1]
      · cases h
    · cases h

theorem freezeN_len : ∀ (k : Nat) (H : Hp) (vs : List AVal), (freezeN k H vs).1.length = vs.length
  | 0, H, vs => rfl
  | k + 1, H, [] => rfl
  | k + 1, H, v :: vs => by simp [freezeN, freezeN_len k]

theorem fit_one {n : Nat} {x : AVal} (h : x.oneCell = true) : Fit n x ↔ n = 1 := by
  unfold Fit
  rw [AVal.cells_one h]
  constructor
  · rintro ⟨h1, _⟩; simpa using h1.symm
  · rintro rfl; exact ⟨rfl, by simpa using h⟩

/-- what a piece of freezing is to do -/
def FrzOk (N : Nat) (w : World) (k : Hp → List AVal → List AVal × Hp) : Prop :=
  (∀ H vs, (k H vs).1.length = vs.length) ∧ ∀ (g : Gh) (H : Hp) (vs : List AVal) (cs : List Value), HRel g H w → VRels g w vs cs →
    ∃ g', Step N g H w g' (k H vs).2 w ∧ VRels g' w (k H vs).1 cs ∧ (∀ (i n : Nat) x y, vs[i]? = some x → (k H vs).1[i]? = some y → Fit n x → Fit n y)

theorem frz_ones {vs ys : List AVal} (hl : ys.length = vs.length) (h : ∀ (i n : Nat) x y, vs[i]? = some x → ys[i]? = some y → Fit n x → Fit n y) (ho : ∀ v ∈ vs, v.oneCell = true) : ∀ v ∈ ys, v.cells = [v] → v.oneCell = true := by
  intro y hy hc
  obtain ⟨i, hi⟩ := List.mem_iff_getElem?.1 hy
  have hlt : i < vs.length := by have := (List.getElem?_eq_some_iff.1 hi).1; omega
  have := h i 1 vs[i] y (List.getElem?_eq_getElem hlt) hi ((fit_one (ho _ (List.getElem_mem hlt))).2 rfl)
  exact this.2 y (by rw [hc]; simp)

/-- an element as one value -/
theorem elem_val {x : AVal} {sz : Nat} {f : Nat → Value} (hf : Fit sz x) (hv : ∀ (j : Nat) a, x.cells[j]? = some a → VRel g w a (f j)) :
    ∃ c, VRel g w x c ∧ ∀ g' y, VRel g' w y c → Fit sz y → (∀ cs, x = .agg cs → ∃ ds, y = .agg ds) → ((∀ cs, x ≠ .agg cs) → ∀ ds, y ≠ .agg ds) → ∀ (j : Nat) a, y.cells[j]? = some a → VRel g' w a (f j) := by
  by_cases hx : ∃ cs, x = .agg cs
  · obtain ⟨cs, rfl⟩ := hx
    refine ⟨.agg ((List.range cs.length).map f).toArray, .agg (by simp) (fun i a c ha hc => ?_), ?_⟩
    · simp only [List.getElem?_map] at hc
      cases hr : (List.range cs.length)[i]? with
      | none => rw [hr] at hc; cases hc
      | some j =>
        rw [hr] at hc
        have hj : j = i := by
          have := List.getElem?_eq_some_iff.1 hr
          obtain ⟨_, h⟩ := this
          simpa using h.symm
        subst hj
        injection hc with hc
        subst hc
        exact hv _ a ha
    · intro g' y hy hfy hag _ j a ha
      obtain ⟨ds, rfl⟩ := hag cs rfl
      have hlen : ds.length = cs.length := hfy.1.trans hf.1.symm
      have hj : j < ds.length := (List.getElem?_eq_some_iff.1 ha).1
      cases hy with
      | @agg _ cs' h1 h2 => exact h2 j a (f j) ha (by simp [show j < cs.length by omega])
  · have hx' : ∀ cs, x ≠ .agg cs := fun cs e => hx ⟨cs, e⟩
    have hc1 : x.cells = [x] := by cases x <;> first | rfl | exact absurd rfl (hx' _)
    refine ⟨f 0, hv 0 x (by rw [hc1]; rfl), ?_⟩
    intro g' y hy _ _ hna j a ha
    have hc2 : y.cells = [y] := by
      have := hna hx'
      cases y <;> first | rfl | exact absurd rfl (this _)
    rw [hc2] at ha
    cases j with
    | zero => simp at ha; subst ha; exact hy
    | succ j => simp at ha

/-- aggregates stay aggregates -/
theorem freeze1_agg (k : Hp → List AVal → List AVal × Hp) (H : Hp) (v : AVal) : (∀ cs, v = .agg cs → ∃ ds, (freeze1 k H v).1 = .agg ds) ∧ ((∀ cs, v ≠ .agg cs) → ∀ ds, (freeze1 k H v).1 ≠ .agg ds) := by
  constructor
  · rintro cs rfl; exact ⟨_, rfl⟩
  · intro h ds
    unfold freeze1
    split
    · split
      · split
        · simp only []
          split
          · intro e; cases e
          · intro e; cases e
        · intro e; cases e
      · intro e; cases e
    · exact absurd rfl (h _)
    · intro e; cases e
    · exact h _

theorem freezeN_agg : ∀ (k : Nat) (H : Hp) (vs : List AVal) (i : Nat) (x y : AVal), vs[i]? = some x → (freezeN k H vs).1[i]? = some y → (∀ cs, x = .agg cs → ∃ ds, y = .agg ds) ∧ ((∀ cs, x ≠ .agg cs) → ∀ ds, y ≠ .agg ds)
  | 0, H, vs, i, x, y, hx, hy => by
    have hy : vs[i]? = some y := hy
    rw [hx] at hy; injection hy with hy; subst hy
    exact ⟨fun cs e => ⟨cs, e⟩, fun h => h⟩
  | k + 1, H, [], i, x, y, hx, hy => by simp at hx
  | k + 1, H, v :: vs, 0, x, y, hx, hy => by
    simp only [List.getElem?_cons_zero, Option.some.injEq] at hx
    subst hx
    simp only [freezeN, List.getElem?_cons_zero, Option.some.injEq] at hy
    subst hy
    exact freeze1_agg _ H v
  | k + 1, H, v :: vs, i + 1, x, y, hx, hy => by
    simp only [freezeN, List.getElem?_cons_succ] at hx hy
    exact freezeN_agg k _ vs i x y hx hy

theorem freeze1_ok {m : Nat} (hk : FrzOk N w (freezeN m)) {v : AVal} {c : Value} (hH : HRel g H w) (hvc : VRel g w v c) :
    ∃ g', Step N g H w g' (freeze1 (freezeN m) H v).2 w ∧ VRel g' w (freeze1 (freezeN m) H v).1 c ∧ (∀ n, Fit n v → Fit n (freeze1 (freezeN m) H v).1) := by
  obtain ⟨klen, kok⟩ := hk
  have same : ∃ g', Step N g H w g' H w ∧ VRel g' w v c ∧ (∀ n, Fit n v → Fit n v) := ⟨g, .refl hH, hvc, fun _ h => h⟩
  unfold freeze1
  split
  · rename_i id len sz
    split
    · rename_i cl hcl
      split
      · rename_i hcnd
        obtain ⟨hlen, hne⟩ := hcnd
        cases hvc with
        | sl0 => simp at hne
        | @sl _ b _ _ _ cap hb hcap hrow =>
          have ob := hH.obj id b hb
          rw [hcl] at ob
          obtain ⟨hl0, hone, arr, hra, hle, hrel⟩ := ob
          have hin : VRels g w cl (arr.toList.take cl.length) := ⟨by simp; omega, fun i x c hx hc => by
            rw [List.getElem?_take] at hc
            split at hc
            · exact hrel i x c hx (by simpa using hc)
            · cases hc⟩
          obtain ⟨g2, s2, v2, o2⟩ := kok g H cl _ hH hin
          have hb2 := s2.ext.mu id b hb
          simp only []
          split
          · rename_i c2 hc2
            have ob2 := s2.rel.obj id b hb2
            rw [hc2] at ob2
            obtain ⟨hl2, _, arr2, hra2, _, _⟩ := ob2
            have harr : arr2 = arr := by
              obtain ⟨e1, h1⟩ := hra
              obtain ⟨e2, h2⟩ := hra2
              rw [h1] at h2
              injection h2 with h2
              injection h2 with h2
              exact h2.symm
            subst harr
            have s3 := Step.freeze (N := N) s2.rel (len * sz) hb2 (by unfold Alive; rw [hc2]; simp) (by omega)
            have hone2 : ∀ a ∈ (freezeN m H cl).1, a.oneCell = true := by
              intro y hy
              refine frz_ones (klen H cl) o2 hone y hy ?_
              obtain ⟨i, hi⟩ := List.mem_iff_getElem?.1 hy
              have hlt : i < cl.length := by have := (List.getElem?_eq_some_iff.1 hi).1; rw [klen] at this; exact this
              have hx : cl[i]? = some cl[i] := List.getElem?_eq_getElem hlt
              have hnx : ∀ cs, cl[i] ≠ .agg cs := fun cs e => by have := hone _ (List.getElem_mem hlt); rw [e] at this; cases this
              have := (freezeN_agg m H cl i _ _ hx hi).2 hnx
              cases y <;> first | rfl | exact absurd rfl (this _)
            refine ⟨_, s2.trans s3, ?_, fun n hn => ?_⟩
            · have hsz : 0 < sz := by
                rcases Nat.eq_zero_or_pos sz with h | h
                · subst h; simp at hne
                · exact h
              refine vrel_newList (T := 0) hsz (by rw [klen, hlen]) hone2 (by simp [Gh.limit]) hra2 (by rw [klen]; exact hle) hcap (by rw [hra2.size] at hrow; omega) ?_ trivial
              intro i x c hx hc
              refine (v2.2 i x c hx ?_).mono s3.ext
              have hi : i < cl.length := by
                have := (List.getElem?_eq_some_iff.1 hx).1
                rw [klen] at this; exact this
              rw [List.getElem?_take, if_pos hi]
              simpa using hc
            · exact (fit_one rfl).2 ((fit_one rfl).1 hn)
          · exact ⟨g2, s2, (VRel.sl 0 len sz cap hb hcap hrow).mono s2.ext, fun _ h => h⟩
      · exact same
    · exact same
  · rename_i cl
    cases hvc with
    | @agg _ cl' h1 h2 =>
      obtain ⟨g2, s2, v2, o2⟩ := kok g H cl cl' hH ⟨h1, h2⟩
      refine ⟨g2, s2, .agg v2.1 v2.2, fun n hn => ⟨?_, ?_⟩⟩
      · show (freezeN m H cl).1.length = n
        rw [klen]; exact hn.1
      · intro y hy
        have hy : y ∈ (freezeN m H cl).1 := hy
        have hone : ∀ a ∈ cl, a.oneCell = true := hn.2
        refine frz_ones (klen H cl) o2 hone y hy ?_
        obtain ⟨i, hi⟩ := List.mem_iff_getElem?.1 hy
        have hlt : i < cl.length := by have := (List.getElem?_eq_some_iff.1 hi).1; rw [klen] at this; exact this
        have hx : cl[i]? = some cl[i] := List.getElem?_eq_getElem hlt
        have hnx : ∀ cs, cl[i] ≠ .agg cs := fun cs e => by have := hone _ (List.getElem_mem hlt); rw [e] at this; cases this
        have := (freezeN_agg m H cl i _ _ hx hi).2 hnx
        cases y <;> first | rfl | exact absurd rfl (this _)
  · rename_i xs tok sz
    cases hvc with
    | list tok b o cap f hl hs hc hv hcap hrow ht =>
      -- the elements as values
      have hel : ∀ i, i < xs.length → ∃ c, VRel g w (xs.getD i .undef) c ∧ ∀ g' y, VRel g' w y c → Fit sz y → (∀ cs, xs.getD i .undef = .agg cs → ∃ ds, y = .agg ds) → ((∀ cs, xs.getD i .undef ≠ .agg cs) → ∀ ds, y ≠ .agg ds) →
          ∀ (j : Nat) a, y.cells[j]? = some a → VRel g' w a (f (i * sz + j)) := by
        intro i hi
        have hx : xs[i]? = some (xs.getD i .undef) := by rw [List.getD_eq_getElem?_getD, List.getElem?_eq_getElem hi]; rfl
        exact elem_val (f := fun j => f (i * sz + j)) (hs _ (List.mem_of_getElem? hx)) (fun j a ha => hv i _ j a hx ha)
      obtain ⟨cs, hcl, hcs⟩ := exists_list (fun i c => VRel g w (xs.getD i .undef) c ∧ ∀ g' y, VRel g' w y c → Fit sz y → (∀ cs, xs.getD i .undef = .agg cs → ∃ ds, y = .agg ds) → ((∀ cs, xs.getD i .undef ≠ .agg cs) → ∀ ds, y ≠ .agg ds) →
          ∀ (j : Nat) a, y.cells[j]? = some a → VRel g' w a (f (i * sz + j))) xs.length hel
      have getx : ∀ {i x}, xs[i]? = some x → xs.getD i .undef = x := fun h => by rw [List.getD_eq_getElem?_getD, h]; rfl
      have hin : VRels g w xs cs := ⟨hcl.symm, fun i x c hx hc' => by have := (hcs i c hc').1; rw [getx hx] at this; exact this⟩
      obtain ⟨g2, s2, v2, o2⟩ := kok g H xs cs hH hin
      have hlen := klen H xs
      refine ⟨g2, s2, ?_, fun n hn => (fit_one rfl).2 ((fit_one rfl).1 hn)⟩
      have key : VRel g2 w (.list (freezeN m H xs).1 tok sz) (.slice (some ⟨b, o, none⟩) (freezeN m H xs).1.length cap) := by
        refine .list tok b o cap f (by rw [hlen]; exact Nat.le_trans hl (s2.ext.lim b)) ?_ (by rw [hlen]; exact fun k hk => s2.ext.imm _ _ _ (by omega) (hc k hk)) ?_ (by rw [hlen]; exact hcap) (Nat.le_trans hrow (s2.ext.size b)) (by rw [hlen]; exact ht.mono s2.ext)
        · intro y hy
          obtain ⟨i, hi⟩ := List.mem_iff_getElem?.1 hy
          have hlt : i < xs.length := by have := (List.getElem?_eq_some_iff.1 hi).1; omega
          exact o2 i sz xs[i] y (List.getElem?_eq_getElem hlt) hi (hs _ (List.getElem_mem hlt))
        · intro i y j a hy ha
          have hlt : i < xs.length := by have := (List.getElem?_eq_some_iff.1 hy).1; omega
          have hx : xs[i]? = some xs[i] := List.getElem?_eq_getElem hlt
          have hci : cs[i]? = some (cs[i]'(by omega)) := List.getElem?_eq_getElem (by omega)
          have h2 := (hcs i _ hci).2
          rw [getx hx] at h2
          have hag := freezeN_agg m H xs i _ _ hx hy
          exact h2 g2 y (v2.2 i y _ hy hci) (o2 i sz _ y hx hy (hs _ (List.getElem_mem hlt))) hag.1 hag.2 j a ha
      rw [hlen] at key
      exact key
  · exact same

theorem freezeN_ok : ∀ (k : Nat), FrzOk N w (freezeN k)
  | 0 => ⟨fun _ _ => rfl, fun g H vs cs hH hv => ⟨g, .refl hH, hv, fun i n x y hx hy h => by
      have hy : vs[i]? = some y := hy
      rw [hx] at hy; injection hy with hy; subst hy; exact h⟩⟩
  | k + 1 => by
    have ih := freezeN_ok k
    refine ⟨freezeN_len (k + 1), fun g H vs cs hH hv => ?_⟩
    cases vs with
    | nil => exact ⟨g, .refl hH, hv, fun i n x y hx => by simp at hx⟩
    | cons v vs =>
      obtain ⟨c, cs', rfl, hvc, hvs⟩ := hv.inv
      obtain ⟨g1, s1, v1, o1⟩ := freeze1_ok ih hH hvc
      obtain ⟨g2, s2, v2, o2⟩ := ih.2 g1 _ vs cs' s1.rel (hvs.mono s1.ext)
      refine ⟨g2, s1.trans s2, VRels.cons (v1.mono s2.ext) v2, fun i n x y hx hy hf => ?_⟩
      cases i with
      | zero =>
        simp only [List.getElem?_cons_zero, Option.some.injEq] at hx
        subst hx
        simp only [freezeN, List.getElem?_cons_zero, Option.some.injEq] at hy
        subst hy
        exact o1 n hf
      | succ i =>
        simp only [freezeN, List.getElem?_cons_succ] at hx hy
        exact o2 i n x y hx hy hf

theorem freezeIn_ok {v : AVal} {c : Value} (hH : HRel g H w) (hvc : VRel g w v c) : ∃ g', Step N g H w g' (freezeIn H v) w := by
  unfold freezeIn
  split
  · rename_i id off len sz
    split
    · rename_i cl hcl
      have hb : ∃ b, g.mu id = some b := by
        cases hvc with
        | sl _ _ _ _ hb _ _ => exact ⟨_, hb⟩
        | sl0 _ _ _ hb => exact ⟨_, hb⟩
      obtain ⟨b, hb⟩ := hb
      have ob := hH.obj id b hb
      rw [hcl] at ob
      obtain ⟨hl0, hone, arr, hra, hle, hrel⟩ := ob
      have hin : VRels g w cl (arr.toList.take cl.length) := ⟨by simp; omega, fun i x c hx hc => by
        rw [List.getElem?_take] at hc
        split at hc
        · exact hrel i x c hx (by simpa using hc)
        · cases hc⟩
      obtain ⟨klen, kok⟩ := freezeN_ok (N := N) (w := w) 1000
      obtain ⟨g2, s2, v2, o2⟩ := kok g H cl _ hH hin
      have hb2 := s2.ext.mu id b hb
      simp only []
      split
      · rename_i c2 hc2
        have ob2 := s2.rel.obj id b hb2
        rw [hc2] at ob2
        obtain ⟨hl2, _, _, _, _, _⟩ := ob2
        refine ⟨g2, s2.trans (Step.write s2.rel hb2 (by unfold Alive; rw [hc2]; simp) (by simp) hl2 rfl (fun _ _ => rfl) (Nat.le_refl _) (.refl _) fun _ => ⟨hl2, ?_, arr, hra, by rw [klen]; exact hle, ?_⟩)⟩
        · intro y hy
          refine frz_ones (klen H cl) o2 hone y hy ?_
          obtain ⟨i, hi⟩ := List.mem_iff_getElem?.1 hy
          have hlt : i < cl.length := by have := (List.getElem?_eq_some_iff.1 hi).1; rw [klen] at this; exact this
          have hx : cl[i]? = some cl[i] := List.getElem?_eq_getElem hlt
          have hnx : ∀ cs, cl[i] ≠ .agg cs := fun cs e => by have := hone _ (List.getElem_mem hlt); rw [e] at this; cases this
          have := (freezeN_agg 1000 H cl i _ _ hx hi).2 hnx
          cases y <;> first | rfl | exact absurd rfl (this _)
        · intro i x c hx hc
          refine v2.2 i x c hx ?_
          have hi : i < cl.length := by
            have := (List.getElem?_eq_some_iff.1 hx).1
            rw [klen] at this; exact this
          rw [List.getElem?_take, if_pos hi]
          simpa using hc
      · exact ⟨g2, s2⟩
    · exact ⟨g, .refl hH⟩
  · exact ⟨g, .refl hH⟩

theorem freezeIns_ok : ∀ (vs : List AVal) (cs : List Value) (g : Gh) (H : Hp), HRel g H w → VRels g w vs cs → ∃ g', Step N g H w g' (freezeIns H vs) w
  | [], _, g, H, hH, _ => ⟨g, .refl hH⟩
  | v :: vs, cs, g, H, hH, hv => by
    obtain ⟨c, cs', rfl, hvc, hvs⟩ := hv.inv
    obtain ⟨g1, s1⟩ := freezeIn_ok (N := N) hH hvc
    obtain ⟨g2, s2⟩ := freezeIns_ok vs cs' g1 _ s1.rel (hvs.mono s1.ext)
    exact ⟨g2, s1.trans s2⟩

theorem freezeTop_ok : ∀ (vs : List AVal) (cs : List Value) (g : Gh) (H : Hp), HRel g H w → VRels g w vs cs → ∃ g', Step N g H w g' (freezeTop H vs) w
  | [], _, g, H, hH, _ => ⟨g, .refl hH⟩
  | v :: vs, cs, g, H, hH, hv => by
    obtain ⟨c, cs', rfl, hvc, hvs⟩ := hv.inv
    have h1 : ∃ g', Step N g H w g' (freezeT1 H v) w := by
      clear hv
      unfold freezeT1
      split
      · cases hvc with
        | agg h1 h2 => exact freezeIns_ok _ _ g H hH ⟨h1, h2⟩
      · exact freezeIn_ok hH hvc
    obtain ⟨g1, s1⟩ := h1
    obtain ⟨g2, s2⟩ := freezeTop_ok vs cs' g1 _ s1.rel (hvs.mono s1.ext)
    exact ⟨g2, s1.trans s2⟩

/-- the results, packed -/
theorem pack_rel {vs : List AVal} {cs : List Value} (h : VRels g w vs cs) : VRel g w (packA vs) (if h : cs.toArray.size = 1 then cs.toArray[0] else .tuple cs.toArray) := by
  by_cases h1 : cs.length = 1
  · rw [dif_pos (by simpa using h1)]
    obtain ⟨c, rfl⟩ := List.length_eq_one_iff.1 h1
    obtain ⟨x, rfl⟩ := List.length_eq_one_iff.1 (h.1.trans h1)
    exact h.2 0 x c rfl rfl
  · rw [dif_neg (by simpa using h1)]
    have : packA vs = .tuple vs := by
      unfold packA
      split
      · rename_i x
        have := h.1
        simp at this; omega
      · rfl
    rw [this]
    exact .tuple h.1 h.2

theorem run_results (hE : EnvOk P E) (hg : Good P E N n g p H w lv tm a) {fn : Func} {vs : List AVal} (h : results E tm lv H fn.results.toList = some vs) :
    ∃ cs, (Go.results fn a.tmps).run P w = .ok (if h : cs.toArray.size = 1 then cs.toArray[0] else .tuple cs.toArray) w ∧ VRels g w vs cs := by
  obtain ⟨cs, h1, h2⟩ := results_ok hE hg _ vs h
  refine ⟨cs, ?_, h2⟩
  have h3 : (fn.results.mapM (resultOf a)).run P w = .ok cs.toArray w := by
    rw [Array.mapM_eq_mapM_toList]
    simp [Sem.run_map, h1]
  have h4 : Go.results fn a.tmps = (do let vs ← fn.results.mapM (resultOf a); pure (if h : vs.size = 1 then vs[0] else .tuple vs)) := by
    unfold Go.results
    congr 1
  rw [h4, Sem.run_bind, h3]
  rfl

theorem params_get : ∀ (args : List AVal) (i : Nat) (t : Tr AVal) (j : Nat), i + args.length < 2 ^ 12 → (params i args t).get j = if i ≤ j ∧ j < i + args.length then args[j - i]? else t.get j
  | [], i, t, j, _ => by simp [params]; intro h1 h2; omega
  | x :: args, i, t, j, h => by
    simp only [params]
    simp only [List.length_cons] at h ⊢
    rw [params_get args (i + 1) _ j (by omega), Tr.get_set _ _ _ _ (by omega)]
    by_cases h1 : i = j
    · subst h1
      rw [if_neg (by omega), if_pos rfl, if_pos (by omega)]
      simp
    · by_cases h2 : i + 1 ≤ j ∧ j < i + 1 + args.length
      · rw [if_pos h2, if_pos (by omega)]
        have : j - i = (j - (i + 1)) + 1 := by omega
        rw [this]; simp
      · rw [if_neg h2, if_neg h1, if_neg (by omega)]

/-- what the interpreter is told of the program is so -/
structure Told (P : Program) (E : Env) : Prop where
  ok : EnvOk P E
  regs : ∀ f fn c, E.fn f = some fn → fn.body = some c → regsOk E f c = true
  name : ∀ f fn, E.fn f = some fn → (fn.name == "runtime.NumGoroutine") = false
  spec : ∀ md f s, E.spec md f = some s → CallAt P E f s

theorem leaves_mute {fn : Func} {tmps : Array Value} {R : Ending → World → Prop} {w : World} (h : ∃ v, (Go.results fn tmps).run P w = .ok v w ∧ R (.returned v) w) : ∀ ds : List Deferred, (∀ d ∈ ds, MuteD P d) → Leaves P fn tmps R ds .returning w
  | [], _ => h
  | d :: ds, hd => by
    obtain ⟨f, cap, ht, hm⟩ := hd d (by simp)
    obtain ⟨h1, h2⟩ := hm (d.args ++ cap) w
    refine ⟨by simp, .func f, cap, f, d.args ++ cap, ht, ?_, h2.mono ?_⟩
    · rw [ht]; exact h1
    · rintro e u' w' ⟨⟨v, rfl⟩, rfl, rfl⟩
      exact leaves_mute h ds fun x hx => hd x (by simp [hx])

/-- A CALL. -/
theorem call_ok (hT : Told P E) : ∀ k, CallsOk P E (evalCall E k)
  | 0 => fun md f args H r H' h => by simp [evalCall] at h
  | k + 1 => by
    intro md f args H r H' h hr g w args' hH hG hK hlen hrel hhand
    simp only [evalCall] at h
    split at h
    · rename_i s hs
      exact hT.spec md f s hs args H r H' h hr g w args' hH hG hK hlen hrel hhand
    · split at h
      · cases h
      · rename_i fn hfn
        split at h
        · cases h
        · rename_i c hb
          split at h
          · rename_i hla
            split at h
            · cases h
            · rename_i ex st hev
              split at h
              · rename_i hleave
                split at h
                · cases h
                · rename_i vs hres
                  have hP := hT.ok.fn f fn hfn
                  have hcall : (callFunc f args'.toArray).run P w = .ok (.enter f args'.toArray) w := by
                    have hp : ∀ w : World, (program).run P w = .ok P w := fun _ => rfl
                    have hbn : fn.body.isNone = false := by rw [hb]; rfl
                    have hnm := hT.name f fn hfn
                    simp only [callFunc, Sem.run_bind, hp, Result.andThen_ok, hP, hnm, hbn, Bool.false_eq_true, if_false, Sem.run_pure]
                  unfold Does
                  rw [hcall]
                  simp only []
                  have hgood : Good P E w.heap.size (max fn.ntmps args.length) g (fun _ => none) H w ⟨.nil, 0⟩ (params 0 args .nil) { tmps := args'.toArray ++ Array.replicate (fn.ntmps - args'.toArray.size) undef, defers := [] } := by
                    refine ⟨hH, ⟨fun t b h => (by cases h), fun t u b h => (by cases h), fun t b h => (by cases h), fun t b h => (by cases h), fun t b h => (by cases h)⟩, Nat.le_refl _, hK, hG, ⟨fun t v ht => ?_, ?_⟩, fun d hd => by cases hd⟩
                    · rw [params_get args 0 .nil t (by unfold maxTmp at hla; omega)] at ht
                      split at ht
                      · rename_i hlt
                        simp only [Nat.sub_zero] at ht
                        have hlt' : t < args'.length := by omega
                        have e1 : args'[t]? = some args'[t] := List.getElem?_eq_getElem hlt'
                        have hv := hrel t v _ ht e1
                        have e2 : (args'.toArray ++ Array.replicate (fn.ntmps - args'.toArray.size) undef).getD t undef = args'[t] := by
                          rw [Array.getD_eq_getD_getElem?, Array.getElem?_append_left (by simpa using hlt')]
                          simp [hlt']
                        rw [e2]
                        refine ⟨fun e => ?_, .of hv⟩
                        have := List.all_eq_true.1 hhand v (List.mem_of_getElem? ht)
                        rw [e] at this; cases this
                      · rw [Tr.get_nil] at ht; cases ht
                    · simp; omega
                  refine calls_of_wp_defers hP hb ?_
                  refine code_ok hT.ok (call_ok hT k) c (hT.regs f fn c hfn hb) _ ex st hev g _ w _ hgood _ fun g' p' w' a' hstep hg' => ?_
                  have fin : (∀ d ∈ a'.defers, MuteD P d) ∧ ∃ v, (Go.results fn a'.tmps).run P w' = .ok v w' ∧ ∃ g2, Step w.heap.size g H w g2 H' w' ∧ VRel g2 w' r v := by
                    obtain ⟨cs, r1, r2⟩ := run_results hT.ok hg' hres
                    refine ⟨hg'.hD, _, r1, ?_⟩
                    split at h
                    · simp only [Option.some.injEq, Prod.mk.injEq] at h
                      obtain ⟨rfl, rfl⟩ := h
                      obtain ⟨g2, s2, v2, _⟩ := (freezeN_ok (N := w.heap.size) (w := w') 1000).2 g' st.2 vs cs hg'.hH r2
                      exact ⟨g2, hstep.trans s2, pack_rel v2⟩
                    · split at h
                      · simp only [Option.some.injEq, Prod.mk.injEq] at h
                        obtain ⟨rfl, rfl⟩ := h
                        obtain ⟨g2, s2⟩ := freezeTop_ok (N := w.heap.size) (w := w') vs cs g' st.2 hg'.hH r2
                        exact ⟨g2, hstep.trans s2, pack_rel (r2.mono s2.ext)⟩
                      · simp only [Option.some.injEq, Prod.mk.injEq] at h
                        obtain ⟨rfl, rfl⟩ := h
                        exact ⟨g', hstep, pack_rel r2⟩
                  cases ex with
                  | normal => exact leaves_mute fin.2 _ fin.1
                  | exit id => cases hleave
                  | ret => exact leaves_mute fin.2 _ fin.1
              · cases h
          · cases h

end
end Go.Rs
end
/- A call seen from the part of the heap that it needs. -/
section
namespace Go.Rs
noncomputable section

/-! ## Other numbers for objects -/
def renT (ρ : Nat → Option Nat) : Tok → Tok
  | .own t => match ρ t with
    | some u => .own u
    | none => .none
  | t => t

def tokIn (ρ : Nat → Option Nat) : Tok → Bool
  | .own t => (ρ t).isSome
  | _ => true

mutual
def renA (ρ : Nat → Option Nat) (st : Bool) : AVal → Option AVal
  | .undef => some .undef
  | .bool b => some (.bool b)
  | .int k n => some (.int k n)
  | .str s => some (.str s)
  | .nilptr => some .nilptr
  | .ptr id off => match ρ id with
    | some j => some (.ptr j off)
    | none => none
  | .lptr _ _ => none
  | .eptr xs i off => match renAs ρ st xs with
    | some ys => some (.eptr ys i off)
    | none => none
  | .nilslice => some .nilslice
  | .list xs tok sz => if !st || tokIn ρ tok then (match renAs ρ st xs with
      | some ys => some (.list ys (renT ρ tok) sz)
      | none => none) else none
  | .sl id off len sz => match ρ id with
    | some j => some (.sl j off len sz)
    | none => none
  | .nilmap => some .nilmap
  | .map id => match ρ id with
    | some j => some (.map j)
    | none => none
  | .func fn a b => match renAs ρ st a, renAs ρ st b with
    | some a', some b' => some (.func fn a' b')
    | _, _ => none
  | .nilfunc => some .nilfunc
  | .iface t v => match renA ρ st v with
    | some v' => some (.iface t v')
    | none => none
  | .niliface => some .niliface
  | .agg cs => match renAs ρ st cs with
    | some cs' => some (.agg cs')
    | none => none
  | .tuple cs => match renAs ρ st cs with
    | some cs' => some (.tuple cs')
    | none => none
  | .iter id => match ρ id with
    | some j => some (.iter j)
    | none => none
def renAs (ρ : Nat → Option Nat) (st : Bool) : List AVal → Option (List AVal)
  | [] => some []
  | x :: xs => match renA ρ st x, renAs ρ st xs with
    | some y, some ys => some (y :: ys)
    | _, _ => none
end

section
variable {ρ : Nat → Option Nat} {st : Bool}

theorem renAs_cons {x : AVal} {xs ys : List AVal} (h : renAs ρ st (x :: xs) = some ys) : ∃ y ys', ys = y :: ys' ∧ renA ρ st x = some y ∧ renAs ρ st xs = some ys' := by
  unfold renAs at h
  split at h
  · rename_i y ys' h1 h2
    injection h with h
    exact ⟨y, ys', h.symm, h1, h2⟩
  · cases h

theorem renAs_len : ∀ {xs ys : List AVal}, renAs ρ st xs = some ys → ys.length = xs.length
  | [], ys, h => by simp [renAs] at h; subst h; rfl
  | x :: xs, ys, h => by
    obtain ⟨y, ys', rfl, _, h2⟩ := renAs_cons h
    simp [renAs_len h2]

theorem renAs_get : ∀ {xs ys : List AVal}, renAs ρ st xs = some ys → ∀ {i : Nat} {y : AVal}, ys[i]? = some y → ∃ x, xs[i]? = some x ∧ renA ρ st x = some y
  | [], ys, h, i, y, hy => by simp [renAs] at h; subst h; simp at hy
  | x :: xs, ys, h, i, y, hy => by
    obtain ⟨y', ys', rfl, h1, h2⟩ := renAs_cons h
    cases i with
    | zero => simp at hy; subst hy; exact ⟨x, rfl, h1⟩
    | succ i =>
      obtain ⟨z, hz, hr⟩ := renAs_get h2 (by simpa using hy)
      exact ⟨z, by simpa using hz, hr⟩

theorem renA_one {a b : AVal} (h : renA ρ st a = some b) : b.oneCell = a.oneCell := by
  cases a <;> simp only [renA] at h <;>
    first
    | (injection h with h; subst h; rfl)
    | cases h
    | (split at h <;> first | (injection h with h; subst h; rfl) | cases h)
    | (split at h
       · split at h
         · injection h with h; subst h; rfl
         · cases h
       · cases h)

theorem renA_cells {a b : AVal} (h : renA ρ st a = some b) : renAs ρ st a.cells = some b.cells := by
  have one : ∀ {b : AVal}, renA ρ st a = some b → (∀ cs, a ≠ .agg cs) → (∀ cs, b ≠ .agg cs) → renAs ρ st a.cells = some b.cells := by
    intro b hb ha hb'
    have h1 : a.cells = [a] := by cases a <;> first | rfl | exact absurd rfl (ha _)
    have h2 : b.cells = [b] := by cases b <;> first | rfl | exact absurd rfl (hb' _)
    rw [h1, h2]; simp [renAs, hb]
  cases a with
  | agg cs =>
    simp only [renA] at h
    split at h
    · rename_i cs' hcs
      injection h with h; subst h; exact hcs
    · cases h
  | _ =>
    refine one h (by intro cs e; cases e) ?_
    intro cs e
    subst e
    simp only [renA] at h
    first
    | (injection h with h; cases h; done)
    | cases h; done
    | (split at h <;> first | (injection h with h; cases h; done) | (cases h; done))
    | (split at h
       · split at h
         · injection h with h; cases h
         · cases h
       · cases h)

theorem renA_fit {a b : AVal} {sz : Nat} (h : renA ρ st a = some b) (hf : Fit sz a) : Fit sz b := by
  have hc := renA_cells h
  refine ⟨(renAs_len hc).trans hf.1, fun y hy => ?_⟩
  obtain ⟨i, hi⟩ := List.mem_iff_getElem?.1 hy
  obtain ⟨x, hx, hr⟩ := renAs_get hc hi
  rw [renA_one hr]
  exact hf.2 x (List.mem_of_getElem? hx)

/-- the ghosts of two numberings -/
structure Ren (ρ : Nat → Option Nat) (g1 g2 : Gh) : Prop where
  mu : ∀ i j k, ρ i = some j → g1.mu i = some k → g2.mu j = some k ∧ g2.ka j = g1.ka i
  lim : g2.lim = g1.lim
  kp : g2.kp = g1.kp

theorem ren_tok {g1 g2 : Gh} (hR : Ren ρ g1 g2) {b o n sz cap : Nat} {tok : Tok} (h : tokOk g1 b o n sz cap tok) : tokOk g2 b o n sz cap (renT ρ tok) := by
  cases tok with
  | none => trivial
  | full => exact h
  | own t =>
    cases hv : ρ t with
    | none =>
      have : renT ρ (.own t) = .none := by simp [renT, hv]
      rw [this]; trivial
    | some v =>
      have : renT ρ (.own t) = .own v := by simp [renT, hv]
      rw [this]
      obtain ⟨⟨b', hb'⟩, h2⟩ := h
      refine ⟨⟨b', (hR.mu _ _ _ hv hb').1⟩, ?_⟩
      rcases h2 with h2 | ⟨h2, h3⟩
      · exact .inl h2
      · exact .inr ⟨(hR.mu _ _ _ hv h2).1, (hR.mu _ _ _ hv h2).2.trans h3⟩

theorem ren_rel {g1 g2 : Gh} (hR : Ren ρ g1 g2) {w : World} {a : AVal} {c : Value} (h : VRel g1 w a c) : ∀ {b : AVal}, renA ρ st a = some b → VRel g2 w b c := by
  induction h with
  | undef c => intro b hb; simp only [renA, Option.some.injEq] at hb; subst hb; exact .undef c
  | bool x => intro b hb; simp only [renA, Option.some.injEq] at hb; subst hb; exact .bool x
  | int k n => intro b hb; simp only [renA, Option.some.injEq] at hb; subst hb; exact .int k n
  | str s => intro b hb; simp only [renA, Option.some.injEq] at hb; subst hb; exact .str s
  | nilptr => intro b hb; simp only [renA, Option.some.injEq] at hb; subst hb; exact .nilptr
  | ptr off h =>
    intro b hb; simp only [renA] at hb
    split at hb
    · rename_i j hj; injection hb with hb; subst hb; exact .ptr off (hR.mu _ _ _ hj h).1
    · cases hb
  | eptr i off blk o sz f hl hs hc hv ih =>
    intro b hb; simp only [renA] at hb
    split at hb
    · rename_i ys hys
      injection hb with hb; subst hb
      have hlen := renAs_len hys
      refine .eptr i off blk o sz f (by rw [hlen, hR.lim]; exact hl) ?_ (by rw [hlen]; exact hc) ?_
      · intro y hy
        obtain ⟨k, hk⟩ := List.mem_iff_getElem?.1 hy
        obtain ⟨x, hx, hr⟩ := renAs_get hys hk
        exact renA_fit hr (hs x (List.mem_of_getElem? hx))
      · intro k y j a hy ha
        obtain ⟨x, hx, hr⟩ := renAs_get hys hy
        obtain ⟨z, hz, hr2⟩ := renAs_get (renA_cells hr) ha
        exact ih k x j z hx hz hr2
    · cases hb
  | nilslice => intro b hb; simp only [renA, Option.some.injEq] at hb; subst hb; exact .nilslice
  | list tok blk o cap f hl hs hc hv hcap hrow ht ih =>
    intro b hb; simp only [renA] at hb
    split at hb
    · split at hb
      · rename_i ys hys
        injection hb with hb; subst hb
        have hlen := renAs_len hys
        rw [← hlen]
        refine .list (renT ρ tok) blk o cap f (by rw [hlen, hR.lim]; exact hl) ?_ (by rw [hlen]; exact hc) ?_ (by rw [hlen]; exact hcap) hrow (by rw [hlen]; exact ren_tok hR ht)
        · intro y hy
          obtain ⟨k, hk⟩ := List.mem_iff_getElem?.1 hy
          obtain ⟨x, hx, hr⟩ := renAs_get hys hk
          exact renA_fit hr (hs x (List.mem_of_getElem? hx))
        · intro k y j a hy ha
          obtain ⟨x, hx, hr⟩ := renAs_get hys hy
          obtain ⟨z, hz, hr2⟩ := renAs_get (renA_cells hr) ha
          exact ih k x j z hx hz hr2
      · cases hb
    · cases hb
  | sl off len sz cap h hcap hrow =>
    intro b hb; simp only [renA] at hb
    split at hb
    · rename_i j hj; injection hb with hb; subst hb; exact .sl off len sz cap (hR.mu _ _ _ hj h).1 hcap hrow
    · cases hb
  | sl0 off off' sz h =>
    intro b hb; simp only [renA] at hb
    split at hb
    · rename_i j hj; injection hb with hb; subst hb; exact .sl0 off off' sz (hR.mu _ _ _ hj h).1
    · cases hb
  | nilmap => intro b hb; simp only [renA, Option.some.injEq] at hb; subst hb; exact .nilmap
  | map h =>
    intro b hb; simp only [renA] at hb
    split at hb
    · rename_i j hj; injection hb with hb; subst hb; exact .map (hR.mu _ _ _ hj h).1
    · cases hb
  | func fn h1 h2 _ _ ih1 ih2 =>
    intro b hb; simp only [renA] at hb
    split at hb
    · rename_i a' b' ha hbb
      injection hb with hb; subst hb
      refine .func fn ((renAs_len ha).trans h1) ((renAs_len hbb).trans h2) ?_ ?_
      · intro i y c hy hc
        obtain ⟨x, hx, hr⟩ := renAs_get ha hy
        exact ih1 i x c hx hc hr
      · intro i y c hy hc
        obtain ⟨x, hx, hr⟩ := renAs_get hbb hy
        exact ih2 i x c hx hc hr
    · cases hb
  | nilfunc => intro b hb; simp only [renA, Option.some.injEq] at hb; subst hb; exact .nilfunc
  | iface t _ ih =>
    intro b hb; simp only [renA] at hb
    split at hb
    · rename_i v' hv; injection hb with hb; subst hb; exact .iface t (ih hv)
    · cases hb
  | niliface => intro b hb; simp only [renA, Option.some.injEq] at hb; subst hb; exact .niliface
  | agg h1 _ ih =>
    intro b hb; simp only [renA] at hb
    split at hb
    · rename_i a' ha
      injection hb with hb; subst hb
      refine .agg ((renAs_len ha).trans h1) ?_
      intro i y c hy hc
      obtain ⟨x, hx, hr⟩ := renAs_get ha hy
      exact ih i x c hx hc hr
    · cases hb
  | tuple h1 _ ih =>
    intro b hb; simp only [renA] at hb
    split at hb
    · rename_i a' ha
      injection hb with hb; subst hb
      refine .tuple ((renAs_len ha).trans h1) ?_
      intro i y c hy hc
      obtain ⟨x, hx, hr⟩ := renAs_get ha hy
      exact ih i x c hx hc hr
    · cases hb
  | iter h =>
    intro b hb; simp only [renA] at hb
    split at hb
    · rename_i j hj; injection hb with hb; subst hb; exact .iter (hR.mu _ _ _ hj h).1
    · cases hb

/-! ## Objects -/
def renEs (ρ : Nat → Option Nat) (st : Bool) : List (AVal × AVal) → Option (List (AVal × AVal))
  | [] => some []
  | (k, v) :: es => match renA ρ st v, renEs ρ st es with
    | some v', some es' => some ((k, v') :: es')
    | _, _ => none

def renO (ρ : Nat → Option Nat) (st : Bool) : AObj → Option AObj
  | .dead => some .dead
  | .tok => some .tok
  | .siter s p => some (.siter s p)
  | .cells cs => match renAs ρ st cs with
    | some cs' => some (.cells cs')
    | none => none
  | .map kt es => match renEs ρ st es with
    | some es' => some (.map kt es')
    | none => none

theorem renEs_len : ∀ {xs ys : List (AVal × AVal)}, renEs ρ st xs = some ys → ys.length = xs.length
  | [], ys, h => by simp [renEs] at h; subst h; rfl
  | (k, v) :: xs, ys, h => by
    simp only [renEs] at h
    split at h
    · rename_i v' es' h1 h2
      injection h with h; subst h
      simp [renEs_len h2]
    · cases h

theorem renEs_get : ∀ {xs ys : List (AVal × AVal)}, renEs ρ st xs = some ys → ∀ {i : Nat} {k v : AVal}, ys[i]? = some (k, v) → ∃ v0, xs[i]? = some (k, v0) ∧ renA ρ st v0 = some v
  | [], ys, h, i, k, v, hy => by simp [renEs] at h; subst h; simp at hy
  | (k0, v0) :: xs, ys, h, i, k, v, hy => by
    simp only [renEs] at h
    split at h
    · rename_i v' es' h1 h2
      injection h with h; subst h
      cases i with
      | zero =>
        simp at hy; obtain ⟨rfl, rfl⟩ := hy; exact ⟨v0, rfl, h1⟩
      | succ i =>
        obtain ⟨z, hz, hr⟩ := renEs_get h2 (i := i) (k := k) (v := v) (by simpa using hy)
        exact ⟨z, by simpa using hz, hr⟩
    · cases h

theorem ren_obj {g1 g2 : Gh} (hR : Ren ρ g1 g2) {w : World} {i j b : Nat} {o o' : AObj} (hij : ρ i = some j) (hb : g1.mu i = some b) (h : ORel g1 w i b o) (ho : renO ρ st o = some o') : ORel g2 w j b o' := by
  cases o with
  | dead => simp only [renO, Option.some.injEq] at ho; subst ho; trivial
  | tok =>
    simp only [renO, Option.some.injEq] at ho; subst ho
    obtain ⟨h0, arr, hr, hs⟩ := h
    have hk := (hR.mu _ _ _ hij hb).2
    exact ⟨by rw [hR.lim, hk]; exact h0, arr, hr, by rw [hk]; exact hs⟩
  | siter s p =>
    simp only [renO, Option.some.injEq] at ho; subst ho
    exact ⟨by rw [hR.lim]; exact h.1, h.2⟩
  | cells cs =>
    simp only [renO] at ho
    split at ho
    · rename_i cs' hcs
      injection ho with ho; subst ho
      obtain ⟨h0, h1, arr, hr, hs, hv⟩ := h
      refine ⟨by rw [hR.lim]; exact h0, ?_, arr, hr, by rw [renAs_len hcs]; exact hs, ?_⟩
      · intro y hy
        obtain ⟨k, hk⟩ := List.mem_iff_getElem?.1 hy
        obtain ⟨x, hx, hr⟩ := renAs_get hcs hk
        rw [renA_one hr]; exact h1 x (List.mem_of_getElem? hx)
      · intro k y c hy hc
        obtain ⟨x, hx, hr⟩ := renAs_get hcs hy
        exact ren_rel hR (hv k x c hx hc) hr
    · cases ho
  | map kt es =>
    simp only [renO] at ho
    split at ho
    · rename_i es' hes
      injection ho with ho; subst ho
      obtain ⟨h0, ents, clock, hr, hs, hkp, hd, hv⟩ := h
      refine ⟨by rw [hR.lim]; exact h0, ents, clock, hr, by rw [renEs_len hes]; exact hs, by rw [hR.kp]; exact hkp, hd, ?_⟩
      intro k key v en h1 h2
      obtain ⟨v0, hx, hr⟩ := renEs_get hes h1
      have := hv k key v0 en hx h2
      exact ⟨this.1, this.2.1, ren_rel hR this.2.2 hr⟩
    · cases ho

/-! ## There and back -/
mutual
theorem renA_back {τ σ : Nat → Option Nat} (hi : ∀ i j, τ i = some j → σ j = some i) : ∀ (a b : AVal), renA τ true a = some b → renA σ false b = some a
  | .undef, b, h => by simp only [renA, Option.some.injEq] at h; subst h; rfl
  | .bool x, b, h => by simp only [renA, Option.some.injEq] at h; subst h; rfl
  | .int k n, b, h => by simp only [renA, Option.some.injEq] at h; subst h; rfl
  | .str s, b, h => by simp only [renA, Option.some.injEq] at h; subst h; rfl
  | .nilptr, b, h => by simp only [renA, Option.some.injEq] at h; subst h; rfl
  | .ptr id off, b, h => by
    simp only [renA] at h
    split at h
    · rename_i j hj; injection h with h; subst h; simp [renA, hi _ _ hj]
    · cases h
  | .lptr _ _, b, h => by simp [renA] at h
  | .eptr xs i off, b, h => by
    simp only [renA] at h
    split at h
    · rename_i ys hys; injection h with h; subst h; simp [renA, renAs_back hi xs ys hys]
    · cases h
  | .nilslice, b, h => by simp only [renA, Option.some.injEq] at h; subst h; rfl
  | .list xs tok sz, b, h => by
    simp only [renA] at h
    split at h
    · rename_i ht
      split at h
      · rename_i ys hys
        injection h with h; subst h
        simp only [renA, Bool.not_false, Bool.true_or, if_true, renAs_back hi xs ys hys]
        congr 2
        cases tok with
        | none => rfl
        | full => rfl
        | own t =>
          simp only [Bool.not_true, Bool.false_or, tokIn] at ht
          obtain ⟨j, hj⟩ := Option.isSome_iff_exists.1 ht
          simp [renT, hj, hi _ _ hj]
      · cases h
    · cases h
  | .sl id off len sz, b, h => by
    simp only [renA] at h
    split at h
    · rename_i j hj; injection h with h; subst h; simp [renA, hi _ _ hj]
    · cases h
  | .nilmap, b, h => by simp only [renA, Option.some.injEq] at h; subst h; rfl
  | .map id, b, h => by
    simp only [renA] at h
    split at h
    · rename_i j hj; injection h with h; subst h; simp [renA, hi _ _ hj]
    · cases h
  | .func fn x y, b, h => by
    simp only [renA] at h
    split at h
    · rename_i x' y' hx hy; injection h with h; subst h; simp [renA, renAs_back hi x x' hx, renAs_back hi y y' hy]
    · cases h
  | .nilfunc, b, h => by simp only [renA, Option.some.injEq] at h; subst h; rfl
  | .iface t v, b, h => by
    simp only [renA] at h
    split at h
    · rename_i v' hv; injection h with h; subst h; simp [renA, renA_back hi v v' hv]
    · cases h
  | .niliface, b, h => by simp only [renA, Option.some.injEq] at h; subst h; rfl
  | .agg xs, b, h => by
    simp only [renA] at h
    split at h
    · rename_i ys hys; injection h with h; subst h; simp [renA, renAs_back hi xs ys hys]
    · cases h
  | .tuple xs, b, h => by
    simp only [renA] at h
    split at h
    · rename_i ys hys; injection h with h; subst h; simp [renA, renAs_back hi xs ys hys]
    · cases h
  | .iter id, b, h => by
    simp only [renA] at h
    split at h
    · rename_i j hj; injection h with h; subst h; simp [renA, hi _ _ hj]
    · cases h
theorem renAs_back {τ σ : Nat → Option Nat} (hi : ∀ i j, τ i = some j → σ j = some i) : ∀ (a b : List AVal), renAs τ true a = some b → renAs σ false b = some a
  | [], b, h => by simp only [renAs, Option.some.injEq] at h; subst h; rfl
  | x :: xs, b, h => by
    obtain ⟨y, ys, rfl, h1, h2⟩ := renAs_cons h
    simp [renAs, renA_back hi x y h1, renAs_back hi xs ys h2]
end

theorem renEs_back {τ σ : Nat → Option Nat} (hi : ∀ i j, τ i = some j → σ j = some i) : ∀ (a b : List (AVal × AVal)), renEs τ true a = some b → renEs σ false b = some a
  | [], b, h => by simp only [renEs, Option.some.injEq] at h; subst h; rfl
  | (k, v) :: xs, b, h => by
    simp only [renEs] at h
    split at h
    · rename_i v' es' h1 h2
      injection h with h; subst h
      simp [renEs, renA_back hi v v' h1, renEs_back hi xs es' h2]
    · cases h

theorem renO_back {τ σ : Nat → Option Nat} (hi : ∀ i j, τ i = some j → σ j = some i) {o o' : AObj} (h : renO τ true o = some o') : renO σ false o' = some o := by
  cases o with
  | dead => simp only [renO, Option.some.injEq] at h; subst h; rfl
  | tok => simp only [renO, Option.some.injEq] at h; subst h; rfl
  | siter s p => simp only [renO, Option.some.injEq] at h; subst h; rfl
  | cells cs =>
    simp only [renO] at h
    split at h
    · rename_i cs' hcs; injection h with h; subst h; simp [renO, renAs_back hi cs cs' hcs]
    · cases h
  | map kt es =>
    simp only [renO] at h
    split at h
    · rename_i es' hes; injection h with h; subst h; simp [renO, renEs_back hi es es' hes]
    · cases h


theorem renA_handed {a b : AVal} (h : renA ρ st a = some b) (ha : a.handed = true) : b.handed = true := by
  cases a with
  | undef => cases ha
  | lptr _ _ => cases ha
  | tuple _ => cases ha
  | iter _ => cases ha
  | agg cs =>
    simp only [renA] at h
    split at h
    · rename_i cs' hcs
      injection h with h; subst h
      simp only [AVal.handed, List.all_eq_true] at ha ⊢
      intro y hy
      obtain ⟨k, hk⟩ := List.mem_iff_getElem?.1 hy
      obtain ⟨x, hx, hr⟩ := renAs_get hcs hk
      rw [renA_one hr]; exact ha x (List.mem_of_getElem? hx)
    · cases h
  | _ =>
    simp only [renA] at h
    first
    | (injection h with h; subst h; rfl)
    | (split at h
       · injection h with h; subst h; rfl
       · cases h)
    | (split at h
       · split at h
         · injection h with h; subst h; rfl
         · cases h
       · cases h)

/-! ## The part of the heap -/
def idxGo (j : Nat) : List Nat → Nat → Option Nat
  | [], _ => none
  | x :: l, k => cond (Nat.beq x j) (some k) (idxGo j l (k + 1))

theorem idxGo_cons (j x : Nat) (l : List Nat) (k : Nat) : idxGo j (x :: l) k = if x = j then some k else idxGo j l (k + 1) := by
  show cond (Nat.beq x j) _ _ = _
  by_cases h : x = j
  · subst h; simp
  · rw [if_neg h]
    cases hb : Nat.beq x j with
    | false => rfl
    | true => exact absurd (Nat.eq_of_beq_eq_true hb) h

theorem idxGo_some {j : Nat} : ∀ {l : List Nat} {k i : Nat}, idxGo j l k = some i → ∃ m, i = k + m ∧ l[m]? = some j
  | [], k, i, h => by simp [idxGo] at h
  | x :: l, k, i, h => by
    rw [idxGo_cons] at h
    split at h
    · rename_i e; injection h with h; exact ⟨0, by omega, by simp [e]⟩
    · obtain ⟨m, h1, h2⟩ := idxGo_some h
      exact ⟨m + 1, by omega, by simpa using h2⟩

theorem idxGo_none {j : Nat} : ∀ {l : List Nat} {k : Nat}, idxGo j l k = none → j ∉ l
  | [], k, h => by simp
  | x :: l, k, h => by
    rw [idxGo_cons] at h
    split at h
    · cases h
    · rename_i e
      have := idxGo_none h
      simp; exact ⟨fun e' => e e'.symm, this⟩

def nodupB : List Nat → Bool
  | [] => true
  | x :: l => !(l.any (Nat.beq x)) && nodupB l

theorem nodupB_ok : ∀ {l : List Nat}, nodupB l = true → ∀ {i j : Nat} {x : Nat}, l[i]? = some x → l[j]? = some x → i = j
  | [], _, i, j, x, h, _ => by simp at h
  | y :: l, hn, i, j, x, hi, hj => by
    simp only [nodupB, Bool.and_eq_true, Bool.not_eq_true', List.any_eq_false] at hn
    cases i with
    | zero =>
      cases j with
      | zero => rfl
      | succ j =>
        simp at hi hj
        subst hi
        exact absurd (Nat.beq_refl y) (hn.1 y (List.mem_of_getElem? hj))
    | succ i =>
      cases j with
      | zero =>
        simp at hi hj
        subst hj
        exact absurd (Nat.beq_refl y) (hn.1 y (List.mem_of_getElem? hi))
      | succ j =>
        have : i = j := nodupB_ok (x := x) hn.2 (by simpa using hi) (by simpa using hj)
        rw [this]

theorem idxGo_get {j : Nat} {l : List Nat} (hn : nodupB l = true) {m : Nat} (h : l[m]? = some j) (k : Nat) : idxGo j l k = some (k + m) := by
  cases hx : idxGo j l k with
  | none => exact absurd (List.mem_of_getElem? h) (idxGo_none hx)
  | some i =>
    obtain ⟨m', h1, h2⟩ := idxGo_some hx
    have e : m' = m := nodupB_ok hn h2 h
    rw [h1, e]

def layIn (τ : Nat → Option Nat) (H : Hp) : List Nat → Nat → Tr AObj → Option (Tr AObj)
  | [], _, t => some t
  | id :: ids, i, t => match renO τ true (H.get id) with
    | some o => layIn τ H ids (i + 1) (t.set i o)
    | none => none

theorem layIn_get {τ : Nat → Option Nat} {H : Hp} : ∀ {ids : List Nat} {i : Nat} {t t' : Tr AObj}, layIn τ H ids i t = some t' → i + ids.length ≤ 2 ^ 12 →
    (∀ (m : Nat) id, ids[m]? = some id → ∃ o, renO τ true (H.get id) = some o ∧ t'.get (i + m) = some o) ∧ (∀ j, j < i ∨ i + ids.length ≤ j → t'.get j = t.get j)
  | [], i, t, t', h, _ => by simp [layIn] at h; subst h; simp
  | id :: ids, i, t, t', h, hl => by
    simp only [layIn] at h
    simp only [List.length_cons] at hl
    split at h
    · rename_i o ho
      obtain ⟨h1, h2⟩ := layIn_get h (by omega)
      refine ⟨fun m id' hm => ?_, fun j hj => ?_⟩
      · cases m with
        | zero =>
          simp at hm; subst hm
          refine ⟨o, ho, ?_⟩
          rw [h2 (i + 0) (by omega), Tr.get_set _ _ _ _ (by omega), if_pos (by omega)]
        | succ m =>
          obtain ⟨o', k1, k2⟩ := h1 m id' (by simpa using hm)
          exact ⟨o', k1, by rw [← k2]; congr 1; omega⟩
      · simp only [List.length_cons] at hj
        rw [h2 j (by omega), Tr.get_set _ _ _ _ (by omega), if_neg (by omega)]
    · cases h

/-- objects laid at places -/
def layOut (σ : Nat → Option Nat) (H0 : Hp) : List Nat → Nat → Tr AObj → Tr AObj
  | [], _, t => t
  | id :: ids, i, t => layOut σ H0 ids (i + 1) (t.set id ((renO σ false (H0.get i)).getD .dead))

theorem layOut_get {σ : Nat → Option Nat} {H0 : Hp} : ∀ {ids : List Nat} {i : Nat} {t : Tr AObj}, nodupB ids = true → (∀ x ∈ ids, x < 2 ^ 12) →
    (∀ (m : Nat) id, ids[m]? = some id → (layOut σ H0 ids i t).get id = some ((renO σ false (H0.get (i + m))).getD .dead)) ∧ (∀ j, j ∉ ids → (layOut σ H0 ids i t).get j = t.get j)
  | [], i, t, _, _ => by simp [layOut]
  | id :: ids, i, t, hn, hl => by
    have hn' := hn
    simp only [nodupB, Bool.and_eq_true, Bool.not_eq_true', List.any_eq_false] at hn
    obtain ⟨h1, h2⟩ := layOut_get (σ := σ) (H0 := H0) (i := i + 1) (t := t.set id ((renO σ false (H0.get i)).getD .dead)) hn.2 (fun x hx => hl x (by simp [hx]))
    refine ⟨fun m id' hm => ?_, fun j hj => ?_⟩
    · simp only [layOut]
      cases m with
      | zero =>
        simp at hm; subst hm
        have : id ∉ ids := fun hm => absurd (Nat.beq_refl id) (hn.1 id hm)
        rw [h2 id this, Tr.get_set _ _ _ _ (hl id (by simp)), if_pos rfl]
        rfl
      | succ m =>
        rw [h1 m id' (by simpa using hm)]
        congr 4; omega
    · simp only [layOut]
      simp only [List.mem_cons, not_or] at hj
      rw [h2 j hj.2, Tr.get_set _ _ _ _ (hl id (by simp)), if_neg (fun e => hj.1 e.symm)]

/-- new objects -/
def layNew (σ : Nat → Option Nat) (H0 : Hp) : List Nat → Nat → Tr AObj → Tr AObj
  | [], _, t => t
  | m :: ms, p, t => layNew σ H0 ms (p + 1) (t.set p ((renO σ false (H0.get m)).getD .dead))

theorem layNew_get {σ : Nat → Option Nat} {H0 : Hp} : ∀ {ms : List Nat} {p : Nat} {t : Tr AObj}, p + ms.length ≤ 2 ^ 12 →
    (∀ (k m : Nat), ms[k]? = some m → (layNew σ H0 ms p t).get (p + k) = some ((renO σ false (H0.get m)).getD .dead)) ∧ (∀ j, j < p ∨ p + ms.length ≤ j → (layNew σ H0 ms p t).get j = t.get j)
  | [], p, t, _ => by simp [layNew]
  | m0 :: ms, p, t, hl => by
    simp only [List.length_cons] at hl
    obtain ⟨h1, h2⟩ := layNew_get (σ := σ) (H0 := H0) (ms := ms) (p := p + 1) (t := t.set p ((renO σ false (H0.get m0)).getD .dead)) (by omega)
    refine ⟨fun k m hm => ?_, fun j hj => ?_⟩
    · simp only [layNew]
      cases k with
      | zero =>
        simp at hm; subst hm
        rw [h2 (p + 0) (by omega), Tr.get_set _ _ _ _ (by omega), if_pos (by omega)]
      | succ k =>
        rw [← h1 k m (by simpa using hm)]
        congr 1; omega
    · simp only [layNew]
      simp only [List.length_cons] at hj
      rw [h2 j (by omega), Tr.get_set _ _ _ _ (by omega), if_neg (by omega)]

/-- a call over the part of the heap that the globals and some objects are; of what it makes, some objects are kept -/
def localize (B : Nat) (inIds : List AVal → Hp → List Nat) (outIds : AVal → Hp → List Nat) (call : List AVal → Hp → Option (AVal × Hp)) (args : List AVal) (H : Hp) : Option (AVal × Hp) :=
  let ids := List.range B ++ inIds args H
  if nodupB ids && ids.all (fun i => Nat.blt i H.next) && Nat.ble ids.length maxTmp then
    match renAs (fun j => idxGo j ids 0) false args, layIn (fun j => idxGo j ids 0) H ids 0 .nil with
    | some args0, some h0 =>
      match call args0 ⟨h0, ids.length⟩ with
      | none => none
      | some (r0, H0) =>
        let news := outIds r0 H0
        if nodupB news && news.all (fun i => Nat.ble ids.length i) && Nat.ble (H.next + news.length) maxTmp then
          let σ := fun i => if i < ids.length then ids[i]? else (idxGo i news 0).map (H.next + ·)
          match renA σ false r0 with
          | some r => some (r, ⟨layNew σ H0 news H.next (layOut σ H0 ids 0 H.h), H.next + news.length⟩)
          | none => none
        else none
    | _, _ => none
  else none

end
end
end Go.Rs
end
/- A call seen from the part of the heap that it needs: it does what it does. -/
section
namespace Go.Rs
section
variable {P : Program} {E : Env} {f : FuncId}

theorem Does.mono {args : Array Value} {w : World} {Q Q' : Value → World → Prop} (h : Does P f args w Q) (hq : ∀ v w', Q v w' → Q' v w') : Does P f args w Q' := by
  unfold Does at h ⊢
  split at h
  · exact hq _ _ h
  · refine Calls.mono h ?_
    intro e w'' he
    cases e <;> first | exact hq _ _ he | exact he
  · exact h.elim

theorem localize_ok {B : Nat} {inIds : List AVal → Hp → List Nat} {outIds : AVal → Hp → List Nat} {call : List AVal → Hp → Option (AVal × Hp)}
    (hB : ∀ i, E.glob i = true → i < B) (hc : CallAt P E f call) : CallAt P E f (localize B inIds outIds call) := by
  intro args H r H' h hr g w args' hH hG hK hlen hrel hhand
  unfold localize at h
  generalize hids : List.range B ++ inIds args H = ids at h
  simp only [] at h
  split at h
  case isFalse => cases h
  rename_i hcond
  simp only [Bool.and_eq_true, List.all_eq_true, Nat.blt_eq, Nat.ble_eq] at hcond
  obtain ⟨⟨hnd, hidlt⟩, hL⟩ := hcond
  split at h
  case h_2 => cases h
  rename_i args0 h0 hargs hlay
  split at h
  · cases h
  rename_i r0 H0 hcall
  generalize hnews : outIds r0 H0 = news at h
  split at h
  case isFalse => cases h
  rename_i hcond2
  simp only [Bool.and_eq_true, List.all_eq_true, Nat.ble_eq] at hcond2
  obtain ⟨⟨hnn, hnge⟩, hmax⟩ := hcond2
  generalize hσ : (fun i => if i < ids.length then ids[i]? else (idxGo i news 0).map (H.next + ·)) = σ at h
  split at h
  case h_2 => cases h
  rename_i r' hr'
  simp only [Option.some.injEq, Prod.mk.injEq] at h
  obtain ⟨rfl, rfl⟩ := h
  -- the canonical ghost
  let g0 : Gh := { kp := g.kp, mu := fun i => (ids[i]?).bind g.mu, lim := g.lim, ka := fun i => match ids[i]? with | some j => g.ka j | none => 0 }
  have g0mu : ∀ i, g0.mu i = (ids[i]?).bind g.mu := fun _ => rfl
  have g0ka : ∀ i j, ids[i]? = some j → g0.ka i = g.ka j := fun i j h => by show (match ids[i]? with | some j => g.ka j | none => 0) = _; rw [h]
  have τspec : ∀ j i, idxGo j ids 0 = some i → ids[i]? = some j := fun j i h => by
    obtain ⟨m, h1, h2⟩ := idxGo_some h
    rw [h1, Nat.zero_add]; exact h2
  have R0 : Ren (fun j => idxGo j ids 0) g g0 := by
    refine ⟨fun j i k hj hk => ?_, rfl, rfl⟩
    have := τspec j i hj
    exact ⟨by rw [g0mu, this]; exact hk, g0ka i j this⟩
  have idx_lt : ∀ {i j}, ids[i]? = some j → i < ids.length := fun h => (List.getElem?_eq_some_iff.1 h).1
  have hL' : 0 + ids.length ≤ 2 ^ 12 := by unfold maxTmp at hL; omega
  obtain ⟨lay1, lay2⟩ := layIn_get hlay hL'
  have H0get : ∀ i j, ids[i]? = some j → renO (fun j => idxGo j ids 0) true (H.get j) = some ((⟨h0, ids.length⟩ : Hp).get i) := fun i j hij => by
    obtain ⟨o, h1, h2⟩ := lay1 i j hij
    rw [Nat.zero_add] at h2
    rw [h1]; unfold Hp.get; rw [h2]; rfl
  have H0dead : ∀ i, ids.length ≤ i → (⟨h0, ids.length⟩ : Hp).get i = .dead := fun i hi => by
    unfold Hp.get
    rw [lay2 i (by omega)]
    rfl
  have alive0 : ∀ i j, ids[i]? = some j → Alive (⟨h0, ids.length⟩ : Hp) i → Alive H j := fun i j hij ha hd => by
    have := H0get i j hij
    rw [hd] at this
    simp only [renO, Option.some.injEq] at this
    exact ha this.symm
  have HR0 : HRel g0 ⟨h0, ids.length⟩ w := by
    refine ⟨?_, ?_, ?_, ?_, hH.limlt⟩
    · intro i b hb
      rw [g0mu] at hb
      cases hij : ids[i]? with
      | none => rw [hij] at hb; cases hb
      | some j =>
        rw [hij] at hb
        exact ren_obj R0 (by show idxGo j ids 0 = some i; rw [idxGo_get hnd hij]; simp) hb (hH.obj j b hb) (H0get i j hij)
    · intro i i2 b hb hb2 ha ha2
      rw [g0mu] at hb hb2
      cases hij : ids[i]? with
      | none => rw [hij] at hb; cases hb
      | some j =>
        cases hij2 : ids[i2]? with
        | none => rw [hij2] at hb2; cases hb2
        | some j2 =>
          rw [hij] at hb; rw [hij2] at hb2
          have := hH.inj j j2 b hb hb2 (alive0 i j hij ha) (alive0 i2 j2 hij2 ha2)
          subst this
          exact nodupB_ok hnd hij hij2
    · intro i b hb
      rw [g0mu] at hb
      cases hij : ids[i]? with
      | none => rw [hij] at hb; cases hb
      | some j =>
        rw [hij] at hb
        have := idx_lt hij
        exact ⟨this, by omega, (hH.lt j b hb).2.2⟩
    · intro i hi; exact H0dead i hi
  have HG0 : GlobOk E g0 := by
    intro i hi
    have hiB := hB i hi
    have : ids[i]? = some i := by
      rw [← hids, List.getElem?_append_left (by simpa using hiB)]
      simp [List.getElem?_range hiB]
    rw [g0mu, this]
    exact hG i hi
  have HK0 : KOk P E g0 := hK
  have hl0 := renAs_len hargs
  have hD := hc args0 ⟨h0, ids.length⟩ r0 H0 hcall (by rintro rfl; simp [renA] at hr'; exact hr hr'.symm) g0 w args' HR0 HG0 HK0 (hl0.trans hlen)
    (fun i a c ha hc' => by
      obtain ⟨x, hx, hrx⟩ := renAs_get hargs ha
      exact ren_rel R0 (hrel i x c hx hc') hrx)
    (by
      rw [List.all_eq_true]
      intro y hy
      obtain ⟨k, hk⟩ := List.mem_iff_getElem?.1 hy
      obtain ⟨x, hx, hrx⟩ := renAs_get hargs hk
      exact renA_handed hrx (List.all_eq_true.1 hhand x (List.mem_of_getElem? hx)))
  refine hD.mono ?_
  rintro v w' ⟨g0', S, hv⟩
  -- the ghost behind
  let g' : Gh := { kp := g.kp, mu := fun j => if j < H.next then g.mu j else (news[j - H.next]?).bind g0'.mu, lim := g0'.lim, ka := fun j => if j < H.next then g.ka j else match news[j - H.next]? with | some m => g0'.ka m | none => 0 }
  have g'old : ∀ j, j < H.next → g'.mu j = g.mu j := fun j hj => if_pos hj
  have g'new : ∀ k, g'.mu (H.next + k) = (news[k]?).bind g0'.mu := fun k => by
    show (if H.next + k < H.next then _ else _) = _
    rw [if_neg (by omega), Nat.add_sub_cancel_left]
  have g'kaold : ∀ j, j < H.next → g'.ka j = g.ka j := fun j hj => if_pos hj
  have g'kanew : ∀ k m, news[k]? = some m → g'.ka (H.next + k) = g0'.ka m := fun k m hm => by
    show (if H.next + k < H.next then _ else _) = _
    rw [if_neg (by omega), Nat.add_sub_cancel_left, hm]
  have mu0 : ∀ i j, ids[i]? = some j → g0'.mu i = g.mu j := fun i j hij => by
    rw [S.old i (idx_lt hij), g0mu, hij]; rfl
  have newge : ∀ {k m}, news[k]? = some m → ids.length ≤ m := fun h => hnge _ (List.mem_of_getElem? h)
  have σold : ∀ i j, ids[i]? = some j → σ i = some j := fun i j hij => by
    rw [← hσ]; show (if i < ids.length then _ else _) = _
    rw [if_pos (idx_lt hij)]; exact hij
  have σnew : ∀ k m, news[k]? = some m → σ m = some (H.next + k) := fun k m hm => by
    rw [← hσ]; show (if m < ids.length then _ else _) = _
    rw [if_neg (by have := newge hm; omega), idxGo_get hnn hm]; simp
  have σinv : ∀ i j, σ i = some j → ids[i]? = some j ∨ ∃ k, j = H.next + k ∧ news[k]? = some i := fun i j h => by
    rw [← hσ] at h
    have h : (if i < ids.length then ids[i]? else (idxGo i news 0).map (H.next + ·)) = some j := h
    split at h
    · exact .inl h
    · cases hk : idxGo i news 0 with
      | none => rw [hk] at h; cases h
      | some k =>
        rw [hk] at h
        obtain ⟨m, h1, h2⟩ := idxGo_some hk
        simp at h
        exact .inr ⟨k, h.symm, by rw [h1, Nat.zero_add]; exact h2⟩
  have R1 : Ren σ g0' g' := by
    refine ⟨fun i j k hij hk => ?_, rfl, S.ext.kp.symm⟩
    rcases σinv i j hij with h | ⟨m, rfl, hm⟩
    · rw [mu0 i j h] at hk
      have hlt := (hH.lt j k hk).1
      refine ⟨(g'old j hlt).trans hk, ?_⟩
      rw [g'kaold j hlt, S.ext.ka i k (by rw [g0mu, h]; exact hk), g0ka i j h]
    · exact ⟨by rw [g'new, hm]; exact hk, g'kanew m i hm⟩
  have hmax' : H.next + news.length ≤ 2 ^ 12 := hmax
  obtain ⟨lo1, lo2⟩ := layOut_get (σ := σ) (H0 := H0) (i := 0) (t := H.h) hnd (fun x hx => by have := hidlt x hx; omega)
  obtain ⟨ln1, ln2⟩ := layNew_get (σ := σ) (H0 := H0) (ms := news) (p := H.next) (t := layOut σ H0 ids 0 H.h) hmax'
  generalize hH1 : (⟨layNew σ H0 news H.next (layOut σ H0 ids 0 H.h), H.next + news.length⟩ : Hp) = H1
  have H1next : H1.next = H.next + news.length := by rw [← hH1]
  have H1in : ∀ i j, ids[i]? = some j → H1.get j = (renO σ false (H0.get i)).getD .dead := fun i j hij => by
    have hj := hidlt j (List.mem_of_getElem? hij)
    rw [← hH1]; unfold Hp.get
    simp only []
    rw [ln2 j (by omega), lo1 i j hij]
    simp [Hp.get]
  have H1out : ∀ j, j < H.next → j ∉ ids → H1.get j = H.get j := fun j hj hn => by
    rw [← hH1]; unfold Hp.get
    simp only []
    rw [ln2 j (by omega), lo2 j hn]
  have H1new : ∀ k m, news[k]? = some m → H1.get (H.next + k) = (renO σ false (H0.get m)).getD .dead := fun k m hm => by
    rw [← hH1]; unfold Hp.get
    simp only []
    rw [ln1 k m hm]
    simp [Hp.get]
  have H1dead : ∀ j, H1.next ≤ j → H1.get j = .dead := fun j hj => by
    rw [H1next] at hj
    have hn : j ∉ ids := fun hm => by have := hidlt j hm; omega
    have : H1.get j = H.get j := by
      rw [← hH1]; unfold Hp.get
      simp only []
      rw [ln2 j (by omega), lo2 j hn]
    rw [this]; exact hH.fresh j (by omega)
  have ren_alive : ∀ o : AObj, (renO σ false o).getD .dead ≠ .dead → o ≠ .dead := by
    rintro o ho rfl; exact ho rfl
  -- what is held
  have held0 : ∀ b, Held g0 ⟨h0, ids.length⟩ b → ∃ (i j : Nat), ids[i]? = some j ∧ g.mu j = some b ∧ Alive H j := by
    rintro b ⟨i, hi, ha⟩
    rw [g0mu] at hi
    cases hij : ids[i]? with
    | none => rw [hij] at hi; cases hi
    | some j => rw [hij] at hi; exact ⟨i, j, hij, hi, alive0 i j hij ha⟩
  have held01 : ∀ b, Held g0 ⟨h0, ids.length⟩ b → Held g H b := fun b hb => by
    obtain ⟨i, j, _, h1, h2⟩ := held0 b hb
    exact ⟨j, h1, h2⟩
  -- an object outside keeps its block
  have outside : ∀ j b, j ∉ ids → g.mu j = some b → Alive H j → ¬ Held g0 ⟨h0, ids.length⟩ b := by
    intro j b hn hb ha hh
    obtain ⟨i, j2, hij, h1, h2⟩ := held0 b hh
    have := hH.inj j j2 b hb h1 ha h2
    subst this
    exact hn (List.mem_of_getElem? hij)
  have wit : ∀ j b, g'.mu j = some b → Alive H1 j → (j < H.next ∧ j ∉ ids ∧ g.mu j = some b ∧ Alive H j) ∨ (∃ m, g0'.mu m = some b ∧ Alive H0 m ∧ σ m = some j) := by
    intro j b hb ha
    by_cases hj : j < H.next
    · rw [g'old j hj] at hb
      by_cases hm : j ∈ ids
      · obtain ⟨i, hij⟩ := List.mem_iff_getElem?.1 hm
        refine .inr ⟨i, by rw [mu0 i j hij]; exact hb, ?_, σold i j hij⟩
        unfold Alive at ha
        rw [H1in i j hij] at ha
        exact ren_alive _ ha
      · refine .inl ⟨hj, hm, hb, ?_⟩
        unfold Alive at ha
        rw [H1out j hj hm] at ha
        exact ha
    · obtain ⟨k, rfl⟩ : ∃ k, j = H.next + k := ⟨j - H.next, by omega⟩
      rw [g'new] at hb
      cases hm : news[k]? with
      | none => rw [hm] at hb; cases hb
      | some m =>
        rw [hm] at hb
        refine .inr ⟨m, hb, ?_, σnew k m hm⟩
        unfold Alive at ha
        rw [H1new k m hm] at ha
        exact ren_alive _ ha
  have ext : Ext g w g' w' := by
    refine ⟨rfl, fun i b hb => ?_, fun i b hb => ?_, S.ext.lim, S.ext.imm, S.ext.size⟩
    · rw [g'old i (hH.lt i b hb).1]; exact hb
    · exact g'kaold i (hH.lt i b hb).1
  have rel : HRel g' H1 w' := by
    refine ⟨?_, ?_, ?_, H1dead, S.rel.limlt⟩
    · intro j b hb
      by_cases hj : j < H.next
      · rw [g'old j hj] at hb
        by_cases hm : j ∈ ids
        · obtain ⟨i, hij⟩ := List.mem_iff_getElem?.1 hm
          have hb0 : g0'.mu i = some b := by rw [mu0 i j hij]; exact hb
          rw [H1in i j hij]
          cases ho : renO σ false (H0.get i) with
          | none => exact trivial
          | some o => exact ren_obj R1 (σold i j hij) hb0 (S.rel.obj i b hb0) ho
        · rw [H1out j hj hm]
          by_cases ha : Alive H j
          · have hk := S.keep b (hH.lt j b hb).2.2 (hH.lt j b hb).2.2 (outside j b hm hb ha)
            exact (hH.obj j b hb).mono ext hk.1 hk.2 (g'kaold j hj)
          · have : H.get j = .dead := Classical.not_not.1 ha
            rw [this]; trivial
      · obtain ⟨k, rfl⟩ : ∃ k, j = H.next + k := ⟨j - H.next, by omega⟩
        rw [g'new] at hb
        cases hm : news[k]? with
        | none => rw [hm] at hb; cases hb
        | some m =>
          rw [hm] at hb
          rw [H1new k m hm]
          cases ho : renO σ false (H0.get m) with
          | none => exact trivial
          | some o => exact ren_obj R1 (σnew k m hm) hb (S.rel.obj m b hb) ho
    · intro i j b hi hj ai aj
      rcases wit i b hi ai with ⟨i1, i2, i3, i4⟩ | ⟨m, m1, m2, m3⟩ <;> rcases wit j b hj aj with ⟨j1, j2, j3, j4⟩ | ⟨n, n1, n2, n3⟩
      · exact hH.inj i j b i3 j3 i4 j4
      · exact absurd (S.img b (hH.lt i b i3).2.2 ⟨n, n1, n2⟩) (outside i b i2 i3 i4)
      · exact absurd (S.img b (hH.lt j b j3).2.2 ⟨m, m1, m2⟩) (outside j b j2 j3 j4)
      · have := S.rel.inj m n b m1 n1 m2 n2
        subst this
        rw [m3] at n3; exact Option.some.inj n3
    · intro j b hb
      rw [H1next]
      by_cases hj : j < H.next
      · rw [g'old j hj] at hb
        have := hH.lt j b hb
        exact ⟨by omega, this.2.1, Nat.lt_of_lt_of_le this.2.2 S.size⟩
      · obtain ⟨k, rfl⟩ : ∃ k, j = H.next + k := ⟨j - H.next, by omega⟩
        rw [g'new] at hb
        cases hm : news[k]? with
        | none => rw [hm] at hb; cases hb
        | some m =>
          rw [hm] at hb
          have hk : k < news.length := (List.getElem?_eq_some_iff.1 hm).1
          exact ⟨by omega, by unfold maxTmp; omega, (S.rel.lt m b hb).2.2⟩
  refine ⟨g', ⟨ext, rel, by omega, S.size, ?_, ?_, g'old, ?_, S.kw⟩, ren_rel R1 hv hr'⟩
  · intro b hbN hb hn
    have := S.keep b hbN hb (fun hh => hn (held01 b hh))
    exact this
  · rintro b hb ⟨j, hj, ha⟩
    rcases wit j b hj ha with ⟨_, _, h3, h4⟩ | ⟨m, m1, m2, _⟩
    · exact ⟨j, h3, h4⟩
    · exact held01 b (S.img b hb ⟨m, m1, m2⟩)
  · intro j hj hn
    by_cases hm : j ∈ ids
    · obtain ⟨i, hij⟩ := List.mem_iff_getElem?.1 hm
      rw [H1in i j hij, S.pend i (idx_lt hij) (by rw [g0mu, hij]; exact hn)]
      rw [renO_back (fun a b hab => ?_) (H0get i j hij)]
      · rfl
      · exact σold b a (τspec a b hab)
    · exact H1out j hj hm

end
end Go.Rs
end
/- A call that needs nothing of the heap and leaves nothing there. -/
section
namespace Go.Rs
noncomputable section

def nope : Nat → Option Nat := fun _ => none

/-- the call over an empty heap; B: the number of globals -/
def pureS (B : Nat) (call : List AVal → Hp → Option (AVal × Hp)) (args : List AVal) (H : Hp) : Option (AVal × Hp) :=
  match renAs nope false args with
  | some args0 => match call args0 ⟨.nil, B⟩ with
    | some (r0, _) => match renA nope false r0 with
      | some r => some (r, H)
      | none => none
    | none => none
  | none => none

end
section
variable {P : Program} {E : Env} {f : FuncId}

theorem pureS_ok {B : Nat} {call : List AVal → Hp → Option (AVal × Hp)} (hB : ∀ i, E.glob i = true → i < B) (hmax : B ≤ maxTmp) (hc : CallAt P E f call) : CallAt P E f (pureS B call) := by
  intro args H r H' h hr g w args' hH hG hK hlen hrel hhand
  unfold pureS at h
  split at h
  case h_2 => cases h
  rename_i args0 hargs
  split at h
  case h_2 => cases h
  rename_i r0 H0 hcall
  split at h
  case h_2 => cases h
  rename_i r' hr'
  simp only [Option.some.injEq, Prod.mk.injEq] at h
  obtain ⟨rfl, rfl⟩ := h
  let g0 : Gh := { kp := g.kp, mu := fun i => if E.glob i = true then g.mu i else none, lim := g.lim, ka := g.ka }
  have g0mu : ∀ i, g0.mu i = if E.glob i = true then g.mu i else none := fun _ => rfl
  have dead0 : ∀ i, (⟨.nil, B⟩ : Hp).get i = .dead := fun i => rfl
  have R0 : Ren nope g g0 := ⟨fun i j k hj hk => (by cases hj), rfl, rfl⟩
  have HR0 : HRel g0 ⟨.nil, B⟩ w := by
    refine ⟨fun i b hb => trivial, fun i j b hi hj ai aj => absurd (dead0 i) ai, fun i b hb => ?_, fun i _ => dead0 i, hH.limlt⟩
    rw [g0mu] at hb
    split at hb
    · rename_i hg
      have := hB i hg
      exact ⟨this, by omega, (hH.lt i b hb).2.2⟩
    · cases hb
  have HG0 : GlobOk E g0 := fun i hi => by rw [g0mu, if_pos hi]; exact hG i hi
  have hl0 := renAs_len hargs
  have nheld : ∀ b, ¬ Held g0 ⟨.nil, B⟩ b := fun b ⟨i, _, ha⟩ => ha (dead0 i)
  have hD := hc args0 ⟨.nil, B⟩ r0 H0 hcall (by rintro rfl; simp [renA] at hr'; exact hr hr'.symm) g0 w args' HR0 HG0 hK (hl0.trans hlen)
    (fun i a c ha hc' => by
      obtain ⟨x, hx, hrx⟩ := renAs_get hargs ha
      exact ren_rel R0 (hrel i x c hx hc') hrx)
    (by
      rw [List.all_eq_true]
      intro y hy
      obtain ⟨k, hk⟩ := List.mem_iff_getElem?.1 hy
      obtain ⟨x, hx, hrx⟩ := renAs_get hargs hk
      exact renA_handed hrx (List.all_eq_true.1 hhand x (List.mem_of_getElem? hx)))
  refine hD.mono ?_
  rintro v w' ⟨g0', S, hv⟩
  let g' : Gh := { kp := g.kp, mu := g.mu, lim := g0'.lim, ka := g.ka }
  have R1 : Ren nope g0' g' := ⟨fun i j k hj hk => (by cases hj), rfl, S.ext.kp.symm⟩
  have ext : Ext g w g' w' := ⟨rfl, fun _ _ h => h, fun _ _ _ => rfl, S.ext.lim, S.ext.imm, S.ext.size⟩
  refine ⟨g', ⟨ext, ⟨fun j b hb => ?_, hH.inj, fun j b hb => ?_, hH.fresh, S.rel.limlt⟩, Nat.le_refl _, S.size, ?_, fun _ _ h => h, fun _ _ => rfl, fun _ _ _ => rfl, S.kw⟩, ren_rel R1 hv hr'⟩
  · have hlt := (hH.lt j b hb).2.2
    have hk := S.keep b hlt hlt (nheld b)
    exact (hH.obj j b hb).mono ext hk.1 hk.2 rfl
  · have := hH.lt j b hb
    exact ⟨this.1, this.2.1, Nat.lt_of_lt_of_le this.2.2 S.size⟩
  · intro b hbN hb _
    exact S.keep b hbN hb (nheld b)

/-- a contract that says less -/
theorem CallAt.weaken {s s' : List AVal → Hp → Option (AVal × Hp)} (h : CallAt P E f s) (hs : ∀ args H r, s' args H = some r → s args H = some r) : CallAt P E f s' :=
  fun args H r H' e => h args H r H' (hs args H _ e)

/-- an entry of the model's -/
theorem extern_ok {fn : Func} {e : Array Value → Sem Value} (hf : P.funcs[f]? = some fn) (hname : (fn.name == "runtime.NumGoroutine") = false) (hb : fn.body.isNone = true) (hn : Extern.findNext fn = none)
    (he : Extern.find fn = some e) {φ : List AVal → Option AVal} (h : ∀ args r, φ args = some r → ∀ (g : Gh) (w : World) (args' : List Value), args.length = args'.length → (∀ (i : Nat) a c, args[i]? = some a → args'[i]? = some c → VRel g w a c) →
      ∃ v, (e args'.toArray).run P w = .ok v w ∧ VRel g w r v) : CallAt P E f (fun args H => (φ args).map fun r => (r, H)) := by
  intro args H r H' h1 hr g w args' hH hG hK hlen hrel hhand
  have h1 : (φ args).map (fun r => (r, H)) = some (r, H') := h1
  cases hp : φ args with
  | none => rw [hp] at h1; cases h1
  | some r1 =>
    rw [hp] at h1
    simp only [Option.map_some, Option.some.injEq, Prod.mk.injEq] at h1
    obtain ⟨rfl, rfl⟩ := h1
    obtain ⟨v, hv, hr2⟩ := h args r1 hp g w args' hlen hrel
    have hcall := run_callFunc_extern (P := P) hf hname hb hn he args'.toArray w
    unfold Does
    rw [hcall, hv]
    exact ⟨g, .refl hH, hr2⟩

/-! ## bytealg -/
def countF : List AVal → Option AVal
  | [.str s, .int .u8 c] => some (.int .i64 (Lib.countByte s.data.toList c.toNat.toUInt8))
  | _ => none

def indexF : List AVal → Option AVal
  | [.str s, .int .u8 c] => some (.int .i64 (Lib.indexByte s.data.toList c.toNat.toUInt8))
  | _ => none

theorem two_args {g : Gh} {w : World} {s : ByteArray} {k : IntKind} {c : Int} {args' : List Value} (hl : [AVal.str s, .int k c].length = args'.length)
    (h : ∀ (i : Nat) a v, [AVal.str s, .int k c][i]? = some a → args'[i]? = some v → VRel g w a v) : args' = [.string s, .int k c] := by
  match args', hl with
  | [x, y], _ =>
    have h1 := h 0 _ _ rfl rfl
    have h2 := h 1 _ _ rfl rfl
    cases h1; cases h2; rfl

theorem count_ok {fn : Func} (hf : P.funcs[f]? = some fn) (hname : (fn.name == "runtime.NumGoroutine") = false) (hb : fn.body.isNone = true) (hn : Extern.findNext fn = none)
    (he : Extern.find fn = some Extern.BytealgCount.count) : CallAt P E f (fun args H => (countF args).map fun r => (r, H)) := by
  refine extern_ok hf hname hb hn he fun args r hp g w args' hl hrel => ?_
  unfold countF at hp
  split at hp
  · rename_i s c
    injection hp with hp
    subst hp
    rw [two_args hl hrel]
    exact ⟨_, Lib.run_countString s c w, .int _ _⟩
  · cases hp

theorem index_ok {fn : Func} (hf : P.funcs[f]? = some fn) (hname : (fn.name == "runtime.NumGoroutine") = false) (hb : fn.body.isNone = true) (hn : Extern.findNext fn = none)
    (he : Extern.find fn = some Extern.BytealgIndexByte.indexByte) : CallAt P E f (fun args H => (indexF args).map fun r => (r, H)) := by
  refine extern_ok hf hname hb hn he fun args r hp g w args' hl hrel => ?_
  unfold indexF at hp
  split at hp
  · rename_i s c
    injection hp with hp
    subst hp
    rw [two_args hl hrel]
    exact ⟨_, Lib.run_indexByteString s c w, .int _ _⟩
  · cases hp

end
end Go.Rs
end
/- A call that needs of the heap the tables among the globals alone, and leaves nothing there. -/
section
namespace Go.Rs
noncomputable section

def sameInts : List AVal → List AVal → Bool
  | [], [] => true
  | .int j a :: as, .int k b :: bs => decide (j = k) && decide (a = b) && sameInts as bs
  | _, _ => false

theorem sameInts_eq : ∀ {as bs : List AVal}, sameInts as bs = true → as = bs ∧ ∀ (ρ : Nat → Option Nat), renAs ρ true as = some as
  | [], [], _ => ⟨rfl, fun _ => rfl⟩
  | [], _ :: _, h => by simp [sameInts] at h
  | x :: as, [], h => by cases x <;> simp [sameInts] at h
  | x :: as, y :: bs, h => by
    cases x <;> first | (simp [sameInts] at h; done) | skip
    cases y <;> first | (simp [sameInts] at h; done) | skip
    simp only [sameInts, Bool.and_eq_true, decide_eq_true_eq] at h
    obtain ⟨⟨rfl, rfl⟩, h⟩ := h
    obtain ⟨h1, h2⟩ := sameInts_eq h
    subst h1
    exact ⟨rfl, fun ρ => by simp [renAs, renA, h2 ρ]⟩

/-- nothing, or a table that lies there -/
def objLe : AObj → AObj → Bool
  | .dead, _ => true
  | .cells a, .cells b => sameInts a b
  | _, _ => false

theorem objLe_eq {a b : AObj} (h : objLe a b = true) : a = .dead ∨ a = b ∧ ∀ ρ, renO ρ true a = some a := by
  cases a with
  | dead => exact .inl rfl
  | cells a =>
    cases b with
    | cells b =>
      obtain ⟨h1, h2⟩ := sameInts_eq h
      subst h1
      exact .inr ⟨rfl, fun ρ => by simp [renO, h2 ρ]⟩
    | _ => cases h
  | _ => cases b <;> cases h

def tabsLe (K H : Hp) : Nat → Bool
  | 0 => true
  | n + 1 => objLe (K.get n) (H.get n) && tabsLe K H n

theorem tabsLe_at {K H : Hp} : ∀ {n : Nat}, tabsLe K H n = true → ∀ i, i < n → objLe (K.get i) (H.get i) = true
  | 0, _, i, h => by omega
  | n + 1, h, i, hi => by
    simp only [tabsLe, Bool.and_eq_true] at h
    by_cases e : i = n
    · subst e; exact h.1
    · exact tabsLe_at h.2 i (by omega)

/-- K: the heap of the tables -/
def pureG (K : Hp) (call : List AVal → Hp → Option (AVal × Hp)) (args : List AVal) (H : Hp) : Option (AVal × Hp) :=
  match renAs nope false args with
  | some args0 => if tabsLe K H K.next then (match call args0 K with
    | some (r0, K') => if tabsLe K K' K.next then (match renA nope false r0 with
      | some r => some (r, H)
      | none => none) else none
    | none => none) else none
  | none => none

end
section
variable {P : Program} {E : Env} {f : FuncId}

theorem pureG_ok {K : Hp} {call : List AVal → Hp → Option (AVal × Hp)} (hB : ∀ i, E.glob i = true → i < K.next) (hmax : K.next ≤ maxTmp) (hdead : ∀ i, K.next ≤ i → K.get i = .dead) (hc : CallAt P E f call) : CallAt P E f (pureG K call) := by
  intro args H r H' h hr g w args' hH hG hK hlen hrel hhand
  unfold pureG at h
  split at h
  case h_2 => cases h
  rename_i args0 hargs
  split at h
  case isFalse => cases h
  rename_i ht1
  split at h
  case h_2 => cases h
  rename_i r0 K' hcall
  split at h
  case isFalse => cases h
  rename_i ht2
  split at h
  case h_2 => cases h
  rename_i r' hr'
  simp only [Option.some.injEq, Prod.mk.injEq] at h
  obtain ⟨rfl, rfl⟩ := h
  let g0 : Gh := { kp := g.kp, mu := fun i => if E.glob i = true then g.mu i else none, lim := g.lim, ka := g.ka }
  have g0mu : ∀ i, g0.mu i = if E.glob i = true then g.mu i else none := fun _ => rfl
  have g0mu' : ∀ i b, g0.mu i = some b → E.glob i = true ∧ g.mu i = some b := fun i b h => by
    rw [g0mu] at h
    split at h
    · rename_i hg; exact ⟨hg, h⟩
    · cases h
  let ρ : Nat → Option Nat := fun i => if E.glob i = true then some i else none
  have Rρ : Ren ρ g g0 := by
    refine ⟨fun i j k hj hk => ?_, rfl, rfl⟩
    have hj : (if E.glob i = true then some i else none) = some j := hj
    split at hj
    · rename_i hg
      injection hj with hj; subst hj
      exact ⟨by rw [g0mu, if_pos hg]; exact hk, rfl⟩
    · cases hj
  have R0 : Ren nope g g0 := ⟨fun i j k hj hk => (by cases hj), rfl, rfl⟩
  have aliveK : ∀ i, Alive K i → i < K.next ∧ K.get i = H.get i ∧ ∀ ρ, renO ρ true (K.get i) = some (K.get i) := fun i ha => by
    have hi : i < K.next := by
      rcases Nat.lt_or_ge i K.next with h | h
      · exact h
      · exact absurd (hdead i h) ha
    rcases objLe_eq (tabsLe_at ht1 i hi) with h | ⟨h, h2⟩
    · exact absurd h ha
    · exact ⟨hi, h, h2⟩
  have HR0 : HRel g0 K w := by
    refine ⟨fun i b hb => ?_, fun i j b hi hj ai aj => ?_, fun i b hb => ?_, fun i hi => hdead i hi, hH.limlt⟩
    · obtain ⟨hg, hm⟩ := g0mu' i b hb
      by_cases ha : Alive K i
      · obtain ⟨_, h1, h2⟩ := aliveK i ha
        exact ren_obj (st := true) Rρ (i := i) (j := i) (by show (if E.glob i = true then some i else none) = _; rw [if_pos hg]) hm (by rw [h1]; exact hH.obj i b hm) (h2 ρ)
      · have : K.get i = .dead := Classical.not_not.1 ha
        rw [this]; trivial
    · have h1 := (aliveK i ai).2.1
      have h2 := (aliveK j aj).2.1
      exact hH.inj i j b (g0mu' i b hi).2 (g0mu' j b hj).2 (by unfold Alive; rw [← h1]; exact ai) (by unfold Alive; rw [← h2]; exact aj)
    · obtain ⟨hg, hm⟩ := g0mu' i b hb
      have := hB i hg
      exact ⟨this, by omega, (hH.lt i b hm).2.2⟩
  have HG0 : GlobOk E g0 := fun i hi => by rw [g0mu, if_pos hi]; exact hG i hi
  have hl0 := renAs_len hargs
  have hD := hc args0 K r0 K' hcall (by rintro rfl; simp [renA] at hr'; exact hr hr'.symm) g0 w args' HR0 HG0 hK (hl0.trans hlen)
    (fun i a c ha hc' => by
      obtain ⟨x, hx, hrx⟩ := renAs_get hargs ha
      exact ren_rel R0 (hrel i x c hx hc') hrx)
    (by
      rw [List.all_eq_true]
      intro y hy
      obtain ⟨k, hk⟩ := List.mem_iff_getElem?.1 hy
      obtain ⟨x, hx, hrx⟩ := renAs_get hargs hk
      exact renA_handed hrx (List.all_eq_true.1 hhand x (List.mem_of_getElem? hx)))
  refine hD.mono ?_
  rintro v w' ⟨g0', S, hv⟩
  let g' : Gh := { kp := g.kp, mu := g.mu, lim := g0'.lim, ka := g.ka }
  have R1 : Ren nope g0' g' := ⟨fun i j k hj hk => (by cases hj), rfl, S.ext.kp.symm⟩
  have ext : Ext g w g' w' := ⟨rfl, fun _ _ h => h, fun _ _ _ => rfl, S.ext.lim, S.ext.imm, S.ext.size⟩
  have hheld : ∀ b, Held g0 K b → Held g H b := fun b ⟨i, hi, ha⟩ => ⟨i, (g0mu' i b hi).2, by unfold Alive; rw [← (aliveK i ha).2.1]; exact ha⟩
  refine ⟨g', ⟨ext, ⟨fun j b hb => ?_, hH.inj, fun j b hb => ?_, hH.fresh, S.rel.limlt⟩, Nat.le_refl _, S.size, ?_, fun _ _ h => h, fun _ _ => rfl, fun _ _ _ => rfl, S.kw⟩, ren_rel R1 hv hr'⟩
  · have hlt := (hH.lt j b hb).2.2
    by_cases hal : Alive H j
    · by_cases hh : Held g0 K b
      · obtain ⟨i, hi, ha⟩ := hh
        obtain ⟨hik, h1, h2⟩ := aliveK i ha
        obtain ⟨hg, hm⟩ := g0mu' i b hi
        have hij : i = j := hH.inj i j b hm hb (by unfold Alive; rw [← h1]; exact ha) hal
        subst hij
        have hb0 : g0'.mu i = some b := S.ext.mu i b hi
        have ob := S.rel.obj i b hb0
        have hsame : K'.get i = K.get i := by
          rcases objLe_eq (tabsLe_at ht2 i hik) with h | ⟨h, _⟩
          · exact absurd h ha
          · exact h.symm
        rw [hsame] at ob
        have R2 : Ren ρ g0' g' := by
          refine ⟨fun i' j' k hj hk => ?_, rfl, S.ext.kp.symm⟩
          have hj : (if E.glob i' = true then some i' else none) = some j' := hj
          split at hj
          · rename_i hg'
            injection hj with hj; subst hj
            have hi' := hB i' hg'
            have e1 : g0'.mu i' = g0.mu i' := S.old i' hi'
            rw [e1, g0mu, if_pos hg'] at hk
            refine ⟨hk, ?_⟩
            exact (S.ext.ka i' k (by rw [g0mu, if_pos hg']; exact hk)).symm
          · cases hj
        rw [← h1]
        exact ren_obj (st := true) R2 (by show (if E.glob i = true then some i else none) = _; rw [if_pos hg]) hb0 ob (h2 ρ)
      · have hk := S.keep b hlt hlt hh
        exact (hH.obj j b hb).mono ext hk.1 hk.2 rfl
    · have : H.get j = .dead := Classical.not_not.1 hal
      rw [this]; trivial
  · have := hH.lt j b hb
    exact ⟨this.1, this.2.1, Nat.lt_of_lt_of_le this.2.2 S.size⟩
  · intro b hbN hb hn
    exact S.keep b hbN hb (fun hh => hn (hheld b hh))

end
end Go.Rs
end
/- One call, whatever the calls in it are answered by. -/
section
namespace Go.Rs
noncomputable section
/-- evalCall's step with any answer for the calls -/
def callStep (E : Env) (call : CallF) : CallF := fun md f args H =>
    match E.spec md f with
    | some s => s args H
    | none =>
      match E.fn f with
      | none => none
      | some fn => match fn.body with
        | none => none
        | some c =>
          if args.length < maxTmp then
            match evalCode E call md f c (⟨params 0 args .nil, ⟨.nil, 0⟩, max fn.ntmps args.length⟩, H) with
            | none => none
            | some (ex, st) => if ex.leaves then
                match results E st.1.tm st.1.lv st.2 fn.results.toList with
                | none => none
                | some vs => if E.frz md f then (let r := freezeN 1000 st.2 vs; some (packA r.1, r.2)) else if E.frzIn f then some (packA vs, freezeTop st.2 vs) else some (packA vs, st.2)
              else none
          else none

theorem callStep_eq (E : Env) (k : Nat) : evalCall E (k + 1) = callStep E (evalCall E k) := by
  funext md f args H
  simp only [evalCall, callStep]
  rfl

section
variable {P : Program} {E : Env}
theorem step_ok {call : CallF} (hT : Told P E) (hC : CallsOk P E call) : CallsOk P E (callStep E call) := by
  intro md f args H r H' h hr g w args' hH hG hK hlen hrel hhand
  simp only [callStep] at h
  split at h
  · rename_i s hs
    exact hT.spec md f s hs args H r H' h hr g w args' hH hG hK hlen hrel hhand
  · split at h
    · cases h
    · rename_i fn hfn
      split at h
      · cases h
      · rename_i c hb
        split at h
        · rename_i hla
          split at h
          · cases h
          · rename_i ex st hev
            split at h
            · rename_i hleave
              split at h
              · cases h
              · rename_i vs hres
                have hP := hT.ok.fn f fn hfn
                have hcall : (callFunc f args'.toArray).run P w = .ok (.enter f args'.toArray) w := by
                  have hp : ∀ w : World, (program).run P w = .ok P w := fun _ => rfl
                  have hbn : fn.body.isNone = false := by rw [hb]; rfl
                  have hnm := hT.name f fn hfn
                  simp only [callFunc, Sem.run_bind, hp, Result.andThen_ok, hP, hnm, hbn, Bool.false_eq_true, if_false, Sem.run_pure]
                unfold Does
                rw [hcall]
                simp only []
                have hgood : Good P E w.heap.size (max fn.ntmps args.length) g (fun _ => none) H w ⟨.nil, 0⟩ (params 0 args .nil) { tmps := args'.toArray ++ Array.replicate (fn.ntmps - args'.toArray.size) undef, defers := [] } := by
                  refine ⟨hH, ⟨fun t b h => (by cases h), fun t u b h => (by cases h), fun t b h => (by cases h), fun t b h => (by cases h), fun t b h => (by cases h)⟩, Nat.le_refl _, hK, hG, ⟨fun t v ht => ?_, ?_⟩, fun d hd => by cases hd⟩
                  · rw [params_get args 0 .nil t (by unfold maxTmp at hla; omega)] at ht
                    split at ht
                    · rename_i hlt
                      simp only [Nat.sub_zero] at ht
                      have hlt' : t < args'.length := by omega
                      have e1 : args'[t]? = some args'[t] := List.getElem?_eq_getElem hlt'
                      have hv := hrel t v _ ht e1
                      have e2 : (args'.toArray ++ Array.replicate (fn.ntmps - args'.toArray.size) undef).getD t undef = args'[t] := by
                        rw [Array.getD_eq_getD_getElem?, Array.getElem?_append_left (by simpa using hlt')]
                        simp [hlt']
                      rw [e2]
                      refine ⟨fun e => ?_, .of hv⟩
                      have := List.all_eq_true.1 hhand v (List.mem_of_getElem? ht)
                      rw [e] at this; cases this
                    · rw [Tr.get_nil] at ht; cases ht
                  · simp; omega
                refine calls_of_wp_defers hP hb ?_
                refine code_ok hT.ok hC c (hT.regs f fn c hfn hb) _ ex st hev g _ w _ hgood _ fun g' p' w' a' hstep hg' => ?_
                have fin : (∀ d ∈ a'.defers, MuteD P d) ∧ ∃ v, (Go.results fn a'.tmps).run P w' = .ok v w' ∧ ∃ g2, Step w.heap.size g H w g2 H' w' ∧ VRel g2 w' r v := by
                  obtain ⟨cs, r1, r2⟩ := run_results hT.ok hg' hres
                  refine ⟨hg'.hD, _, r1, ?_⟩
                  split at h
                  · simp only [Option.some.injEq, Prod.mk.injEq] at h
                    obtain ⟨rfl, rfl⟩ := h
                    obtain ⟨g2, s2, v2, _⟩ := (freezeN_ok (N := w.heap.size) (w := w') 1000).2 g' st.2 vs cs hg'.hH r2
                    exact ⟨g2, hstep.trans s2, pack_rel v2⟩
                  · split at h
                    · simp only [Option.some.injEq, Prod.mk.injEq] at h
                      obtain ⟨rfl, rfl⟩ := h
                      obtain ⟨g2, s2⟩ := freezeTop_ok (N := w.heap.size) (w := w') vs cs g' st.2 hg'.hH r2
                      exact ⟨g2, hstep.trans s2, pack_rel (r2.mono s2.ext)⟩
                    · simp only [Option.some.injEq, Prod.mk.injEq] at h
                      obtain ⟨rfl, rfl⟩ := h
                      exact ⟨g', hstep, pack_rel r2⟩
                cases ex with
                | normal => exact leaves_mute fin.2 _ fin.1
                | exit id => cases hleave
                | ret => exact leaves_mute fin.2 _ fin.1
            · cases h
        · cases h

end
end
end Go.Rs
end
