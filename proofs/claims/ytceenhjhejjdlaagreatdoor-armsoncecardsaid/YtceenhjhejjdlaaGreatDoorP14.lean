/- From a contract of the interpreter to the law's statement. -/
import Derived.Test.YtceenhjhejjdlaaGreatDoorRows
import Derived.Test.YtceenhjhejjdlaaGreatDoorP07
import Derived.Test.YtceenhjhejjdlaaGreatDoorP09
import Derived.ProofKit
import Derived.OpenShut
import Derived.LaidMore
import Derived.Lay
import Derived.Lib.LaidTab
import Derived.Stop.Joined
import Derived.Test.YtceenhjhejjdlaaGreatDoorP13
set_option linter.unusedSimpArgs false
set_option linter.unusedVariables false
namespace Go.Rs.Seat
open Go.Proofs Go.ChangeShapes Go.WideShapes Go.ChangeAt Go.RowKit
set_option maxRecDepth 100000

/-! ## The program's start -/
theorem own : ownKnob Tryz.prog.godebug = none := by kernel_rfl
theorem und3 : Tryz.prog.underlying 3 = some (.int .i64) := by kernel_rfl
theorem und4 : Tryz.prog.underlying 4 = some .bool := by kernel_rfl
theorem und5 : Tryz.prog.underlying 5 = some (.int .u8) := by kernel_rfl
theorem und22 : Tryz.prog.underlying 22 = some (.slice 3) := by kernel_rfl
theorem und434 : Tryz.prog.underlying 434 = some (.array 64 5) := by kernel_rfl
theorem cells3 : Tryz.prog.cellsOf 3 = 1 := by kernel_rfl
theorem cells5 : Tryz.prog.cellsOf 5 = 1 := by kernel_rfl
theorem cells434 : Tryz.prog.cellsOf 434 = 64 := by kernel_rfl
theorem gTab : Tryz.prog.globalNamed "math/bits.deBruijn64tab" = some 0 := by kernel_rfl
theorem gTabT : (Tryz.prog.globals[0]?).map (·.type) = some 434 := by kernel_rfl
theorem nglob : Tryz.prog.globals.size = 4 := by kernel_rfl
theorem row0 : (((begin Tryz.prog (fun _ _ => 0) default).world.heap[0]?).bind Obj.row?).map (·.2) = some 434 := by kernel_rfl
theorem row3 : (((begin Tryz.prog (fun _ _ => 0) default).world.heap[3]?).bind Obj.row?).isSome = true := by kernel_rfl
theorem depthP : Tryz.prog.depth = Tryz.prog.depth - 2 + 2 := by kernel_rfl
theorem noFit434 : sameLayout Tryz.prog Tryz.prog.depth 434 3 = false := by kernel_rfl
theorem noFit5 : sameLayout Tryz.prog Tryz.prog.depth 5 3 = false := by kernel_rfl

def deZ : List Int := [0, 1, 56, 2, 57, 49, 28, 3, 61, 58, 42, 50, 38, 29, 17, 4, 62, 47, 59, 36, 45, 43, 51, 22, 53, 39, 33, 30, 24, 18, 12, 5, 63, 55, 48, 27, 60, 41, 37, 16, 46, 35, 44, 21, 52, 32, 23, 11, 54, 26, 40, 15, 34, 20, 31, 10, 25, 14, 19, 9, 13, 8, 7, 6]
theorem deB_eq : deB = deZ.map (AVal.int .u8) := rfl
theorem laid_eq : (YtceenhjhejjdlaaGreatDoor.Rows.laid_math_bits_deBruijn64tab : DataW Unit) = Lib.tabData .u8 deZ := rfl

/-! ## What lies where -/
theorem rowAt_le (fits : TypeId → Bool) : ∀ (d e count off n : Nat), rowAt Tryz.prog fits d e count off n = true → off ≤ count * Tryz.prog.cellsOf e
  | 0, e, count, off, n, h => by simp [rowAt] at h
  | d + 1, e, count, off, n, h => by
    unfold rowAt at h
    simp only [] at h
    split at h
    · cases h
    · rename_i hs
      generalize hS : Tryz.prog.cellsOf e = s at h hs ⊢
      have hpos : 0 < s := Nat.pos_of_ne_zero hs
      have hdm := Nat.div_add_mod off s
      rw [Bool.or_eq_true] at h
      rcases h with h | h
      · simp only [Bool.and_eq_true, beq_iff_eq, decide_eq_true_eq] at h
        have h1 : off / s ≤ count := by omega
        have h2 : s * (off / s) ≤ s * count := Nat.mul_le_mul_left _ h1
        rw [Nat.mul_comm count s]
        omega
      · simp only [Bool.and_eq_true, decide_eq_true_eq] at h
        have h1 : off / s + 1 ≤ count := h.1
        have h2 : s * (off / s + 1) ≤ s * count := Nat.mul_le_mul_left _ h1
        have h3 := Nat.mod_lt off hpos
        rw [Nat.mul_comm count s]
        rw [Nat.mul_add, Nat.mul_one] at h2
        omega

/-- ints do not lie in the table of bytes -/
theorem noLie (off n : Nat) : liesAt Tryz.prog Tryz.prog.depth 434 1 off 3 n = false := by
  have hd := depthP
  generalize hk : Tryz.prog.depth - 2 = k at hd
  rw [show liesAt Tryz.prog Tryz.prog.depth 434 1 off 3 n = liesAt Tryz.prog (k + 1 + 1) 434 1 off 3 n by rw [← hd]]
  unfold liesAt
  rw [und3]
  simp only [Bool.or_false]
  rw [show rowAt Tryz.prog (fun x => sameLayout Tryz.prog Tryz.prog.depth x 3) Tryz.prog.depth 434 1 off n = rowAt Tryz.prog (fun x => sameLayout Tryz.prog Tryz.prog.depth x 3) (k + 1 + 1) 434 1 off n by rw [← hd]]
  unfold rowAt
  simp only [cells434, noFit434, und434, Bool.and_false, Bool.false_or]
  unfold rowAt
  simp [cells5, noFit5, und5]

theorem lies_le {e count off n : Nat} (h : liesAt Tryz.prog Tryz.prog.depth e count off 3 n = true) : off ≤ count * Tryz.prog.cellsOf e := by
  have hd := depthP
  generalize hk : Tryz.prog.depth - 2 = k at hd
  rw [show liesAt Tryz.prog Tryz.prog.depth e count off 3 n = liesAt Tryz.prog (k + 1 + 1) e count off 3 n by rw [← hd]] at h
  unfold liesAt at h
  rw [und3] at h
  simp only [Bool.or_false] at h
  exact rowAt_le _ _ _ _ _ _ h

/-- the table lies where it should -/
structure TabW (W : World) : Prop where
  row : W.heap[0]? = some (.cells (deZ.map (Value.int .u8)).toArray 434 (0, 0))
  four : 4 ≤ W.heap.size

theorem tabW_of {W : World} (hs : W.ShapedOpen Tryz.prog) (hL : laidMetH Tryz.prog YtceenhjhejjdlaaGreatDoor.Rows.armsPickRow.laid W) : TabW W := by
  rw [MakeChecks.laidMetH_plain _ _ _ (by kernel_rfl)] at hL
  have ht : Lib.TabIs Tryz.prog W "math/bits.deBruijn64tab" .u8 deZ := Lib.tabIs_of_head gTab gTabT und434 und5 cells5 cells434 hL
  obtain ⟨h1, -⟩ := hs
  have hz0 : ∃ zero, ((begin Tryz.prog (fun _ _ => 0) default).world.heap[0]?).bind Obj.row? = some (zero, 434) := by
    have := row0
    rw [Option.map_eq_some_iff] at this
    obtain ⟨⟨z, t⟩, h, rfl⟩ := this
    exact ⟨z, h⟩
  obtain ⟨zero, hz⟩ := hz0
  obtain ⟨cs, hcs, -, -⟩ := h1 0 zero 434 (by rw [nglob]; decide) hz
  obtain ⟨⟨z3, t3⟩, hz3⟩ := Option.isSome_iff_exists.1 row3
  obtain ⟨cs3, hcs3, -, -⟩ := h1 3 z3 t3 (by rw [nglob]; decide) hz3
  refine ⟨?_, by have := (Array.getElem?_eq_some_iff.1 hcs3).1; omega⟩
  unfold Lib.TabIs World.var? at ht
  rw [gTab] at ht
  simp only [Option.bind_some, hcs, Option.some.injEq] at ht
  rw [hcs, ht]

/-! ## The ghost at the start -/
def gW (W : World) : Gh := { kp := kpP, mu := fun i => if i < 4 then some i else none, lim := fun b => if b = 0 then 0 else sizeAt W b, ka := fun _ => 0 }

theorem hpT_0 : hpT.get 0 = .cells deB := rfl
theorem hpT_dead1 : ∀ i, i ≠ 0 → hpT.get i = .dead := by
  intro i hi
  unfold hpT Hp.get
  simp only []
  rw [Tr.get_set _ _ _ _ (by decide), if_neg (Ne.symm hi)]
  rfl

theorem deB_one : deB.all (·.oneCell) = true := by kernel_rfl

theorem orel_tab {g : Gh} {W : World} (hT : TabW W) (hl : g.lim 0 = 0) : ORel g W 0 0 (.cells deB) := by
  refine ⟨hl, fun a ha => List.all_eq_true.1 deB_one a ha, _, ⟨434, hT.row⟩, by rw [deB_eq]; simp, fun i a c ha hc => ?_⟩
  rw [deB_eq, List.getElem?_map] at ha
  simp only [List.getElem?_toArray, List.getElem?_map] at hc
  cases hz : deZ[i]? with
  | none => rw [hz] at ha; cases ha
  | some z =>
    rw [hz] at ha hc
    injection ha with ha; injection hc with hc
    subst ha hc
    exact .int _ _

theorem hrel_start {W : World} (hT : TabW W) : HRel (gW W) hpT W where
  obj id b hb := by
    have hb : (if id < 4 then some id else none) = some b := hb
    split at hb
    · injection hb with hb
      subst hb
      by_cases h0 : id = 0
      · subst h0
        rw [hpT_0]
        exact orel_tab hT rfl
      · rw [hpT_dead1 id h0]; trivial
    · cases hb
  inj i j b hi hj _ _ := by
    have hi : (if i < 4 then some i else none) = some b := hi
    have hj : (if j < 4 then some j else none) = some b := hj
    split at hi <;> split at hj <;> simp_all
  lt id b hb := by
    have hb : (if id < 4 then some id else none) = some b := hb
    have := hT.four
    split at hb
    · injection hb with hb
      subst hb
      rename_i h
      refine ⟨h, Nat.lt_trans h (by decide), by omega⟩
    · cases hb
  fresh id hid := hpT_dead id hid
  limlt b hb := by
    have hb : (if b = 0 then 0 else sizeAt W b) ≠ 0 := hb
    split at hb
    · exact absurd rfl hb
    · rcases Nat.lt_or_ge b W.heap.size with h | h
      · exact h
      · have : sizeAt W b = 0 := by simp [sizeAt, Array.getElem?_eq_none h]
        exact absurd this hb

theorem glob_start (sp) (W : World) : GlobOk (env sp) (gW W) := fun i hi => by
  have := globs sp i hi
  show (if i < 4 then some i else none) = some i
  rw [if_pos this]

/-! ## A slice of ints that comes in -/
theorem arg_slice {H : Type} {enc : TypeId × Value → H} {W : World} {base : Nat} {v : Value} {d : DataW H} {p : List MemPlace} (hT : TabW W) (hval : Value.okWide Tryz.prog W .any base 22 v) (h : DataW.Trod enc Tryz.prog W 0 (fun _ => true) true 22 v d p) :
    ∃ a l, IsI a l ∧ VRel (gW W) W a v ∧ ∀ W' : World, (∀ b < W.heap.size, W'.heap[b]? = W.heap[b]?) → ∃ pa, DataW.Trod enc Tryz.prog W' 0 (fun b => decide (b < W.heap.size)) true 22 v d pa := by
  obtain ⟨oa, len, cap, rfl⟩ := okWide_slice und22 hval
  obtain ⟨fuel, hf⟩ := h
  rcases open_ints und22 und3 cells3 hf with ⟨h1, h2⟩ | ⟨a, len', cap', zs, h1, -, hl, hm, hz, hx, hcell, hwf⟩
  · simp [Value.cells] at h1
    obtain ⟨rfl, rfl, rfl⟩ := h1
    simp only [Prod.mk.injEq] at h2
    obtain ⟨rfl, rfl⟩ := h2
    refine ⟨.nilslice, [], .inl ⟨rfl, rfl⟩, .nilslice, fun W' _ => ⟨[], 1, ?_⟩⟩
    simp [DataW.trod, Value.cells, und22]
  · simp [Value.cells] at h1
    obtain ⟨rfl, rfl, rfl⟩ := h1
    simp only [Prod.mk.injEq] at hx
    obtain ⟨rfl, rfl⟩ := hx
    simp only [if_true] at hz
    have hok : W.has Tryz.prog .any base a 3 cap := by
      simp only [Value.okWide, und22, Cell.okWide, Cell.ok] at hval
      exact hval.2.2
    obtain ⟨-, hsp, row, cells, hshape, hlies⟩ := hok
    obtain ⟨b, o, sp⟩ := a
    simp only [] at hsp hshape hlies
    subst hsp
    have hob : ∃ c t fr, W.heap[b]? = some (.cells c t fr) ∧ row = t ∧ cells = c.size := by
      unfold World.shape? at hshape
      split at hshape
      · rename_i c t fr hh
        injection hshape with e
        injection e with e1 e2
        exact ⟨c, t, fr, hh, e1.symm, e2.symm⟩
      · cases hshape
    obtain ⟨c, t, fr, hheap, rfl, rfl⟩ := hob
    have hbs : b < W.heap.size := (Array.getElem?_eq_some_iff.1 hheap).1
    have hsz : sizeAt W b = c.size := by simp [sizeAt, hheap]
    have hb0 : b ≠ 0 := by
      rintro rfl
      rw [hT.row] at hheap
      injection hheap with hheap
      injection hheap with e1 e2 e3
      subst e1 e2
      have e4 : (deZ.map (Value.int .u8)).toArray.size / Tryz.prog.cellsOf 434 = 1 := by rw [cells434]; rfl
      rw [e4, noLie] at hlies
      cases hlies
    have hoff : o ≤ c.size := by
      have h1 := lies_le hlies
      exact Nat.le_trans h1 (Nat.div_mul_le_self _ _)
    have hcell' : ∀ i, i < cap → W.cell? ⟨b, o + i, none⟩ = some (.int .i64 (zs.getD i 0)) := fun i hi => by
      have := hcell i (by omega)
      rwa [add_plain] at this
    have hend : o + cap ≤ c.size := by
      rcases Nat.eq_zero_or_pos cap with h0 | h0
      · omega
      · have h1 := hcell' (cap - 1) (by omega)
        simp only [World.cell?, hheap] at h1
        have := (Array.getElem?_eq_some_iff.1 h1).1
        omega
    have hlim : (gW W).lim b = c.size := by show (if b = 0 then 0 else sizeAt W b) = _; rw [if_neg hb0, hsz]
    have hlen : (ints (zs.take len)).length = len := by simp [ints]; omega
    refine ⟨.list (ints (zs.take len)) .none 1, zs.take len, .inr ⟨.none, rfl⟩, ?_, fun W' hW' => ⟨MemPlace.row ⟨b, o, none⟩ zs.length, fuel + 2, ?_⟩⟩
    · have hrel : VRel (gW W) W (.list (ints (zs.take len)) .none 1) (.slice (some ⟨b, o, none⟩) (ints (zs.take len)).length cap) := by
        refine .list .none b o cap (fun k => .int .i64 (zs.getD k 0)) ?_ ?_ ?_ ?_ ?_ ?_ trivial
        · rw [hlen, hlim]; omega
        · intro x hx
          simp only [ints, List.mem_map] at hx
          obtain ⟨z, -, rfl⟩ := hx
          exact ⟨rfl, fun a ha => by simp [AVal.cells] at ha; subst ha; rfl⟩
        · intro k hk
          rw [hlen] at hk
          exact hcell' k (by omega)
        · intro i x j a hx ha
          simp only [ints, List.getElem?_map] at hx
          cases hzi : (zs.take len)[i]? with
          | none => rw [hzi] at hx; cases hx
          | some z =>
            rw [hzi] at hx
            injection hx with hx
            subst hx
            have hj : j = 0 := by
              rcases j with _ | j
              · rfl
              · simp [AVal.cells] at ha
            subst hj
            simp [AVal.cells] at ha
            subst ha
            rw [List.getElem?_take] at hzi
            split at hzi
            · simp only [Nat.mul_one, Nat.add_zero, List.getD, hzi, Option.getD_some]
              exact .int _ _
            · cases hzi
        · rw [hlen]; exact hl
        · rw [hsz]; omega
      rw [hlen] at hrel
      exact hrel
    · have hcs : (Value.slice (some ⟨b, o, none⟩) len cap).cells.toList = [Value.slice (some ⟨b, o, none⟩) len cap] := rfl
      rw [hcs]
      refine shut_ints' fuel und22 und3 cells3 (Nat.zero_le _) hl hm ?_ ?_ hwf
      · rw [if_pos (by simpa using hbs)]; exact hz
      · intro i hi
        rw [cell_of_heap (hW' b hbs)]
        exact hcell' i (by omega)

/-! ## The call -/
theorem law_calls {f : Nat} {fn : Func} {c : Code} {W : World} {args : List AVal} {args' : List Value} {s : List AVal → Hp → Option (AVal × Hp)} (hf : Tryz.prog.funcs[f]? = some fn) (hname : (fn.name == "runtime.NumGoroutine") = false) (hb : fn.body = some c)
    (hC : CallAt Tryz.prog (env noSpec) f s) (hs : s args hpT = some (.bool true, hpT)) (hT : TabW W) (hlen : args.length = args'.length) (hrel : ∀ (i : Nat) a v, args[i]? = some a → args'[i]? = some v → VRel (gW W) W a v) (hhand : args.all (·.handed) = true) :
    Calls Tryz.prog f args'.toArray W fun e W' => e = .returned (.bool true) ∧ KeepW W W' ∧ W.heap.size ≤ W'.heap.size ∧ ∀ b < W.heap.size, W'.heap[b]? = W.heap[b]? := by
  have hD := hC args hpT (.bool true) hpT hs (by simp) (gW W) W args' (hrel_start hT) (glob_start _ W) (kok _ rfl) hlen hrel hhand
  unfold Does at hD
  rw [enters hf hname hb] at hD
  refine Calls.mono hD fun e W' he => ?_
  cases e with
  | panicked x => exact he.elim
  | outgrown => exact he.elim
  | returned v =>
    obtain ⟨g', S, hv⟩ := he
    cases hv
    refine ⟨rfl, S.kw, S.size, fun b hbs => ?_⟩
    by_cases h0 : b = 0
    · subst h0
      have hmu : g'.mu 0 = some 0 := S.ext.mu 0 0 rfl
      have ho := S.rel.obj 0 0 hmu
      rw [hpT_0] at ho
      obtain ⟨-, -, arr, ⟨el, hr⟩, hle, hvs⟩ := ho
      obtain ⟨c', hc', hsz⟩ := S.kw.shp 0 _ _ _ hT.row
      rw [hr] at hc'
      injection hc' with hc'
      injection hc' with e1 e2 e3
      subst e1 e2
      rw [hr, hT.row]
      congr 2
      apply Array.ext
      · exact hsz
      · intro i hi1 hi2
        have hi3 : i < deZ.length := by simpa using hi2
        have ha : deB[i]? = some (.int .u8 deZ[i]) := by rw [deB_eq, List.getElem?_map, List.getElem?_eq_getElem hi3]; rfl
        have := hvs i _ _ ha (Array.getElem?_eq_getElem hi1)
        simp only [List.getElem_toArray, List.getElem_map]
        generalize arr[i] = x at this
        cases this
        rfl
    · refine (S.keep b hbs hbs ?_).1
      rintro ⟨id, hid, hal⟩
      have hid : (if id < 4 then some id else none) = some b := hid
      split at hid
      · injection hid with hid
        subst hid
        exact hal (hpT_dead1 id h0)
      · cases hid

/-- by the table's contract -/
theorem pureG_at {call : List AVal → Hp → Option (AVal × Hp)} {args args' : List AVal} {H' : Hp} (h1 : renAs nope false args = some args') (h2 : call args' hpT = some (.bool true, H')) (h3 : ∀ j < 4, H'.get j = hpT.get j) :
    pureG hpT call args hpT = some (.bool true, hpT) := by
  have e1 : ∀ n, n ≤ 4 → tabsLe hpT H' n = tabsLe hpT hpT n := by
    intro n
    induction n with
    | zero => intro _; rfl
    | succ n ih =>
      intro hn
      simp only [tabsLe, ih (by omega), h3 n (by omega)]
  have e2 : tabsLe hpT hpT hpT.next = true := by kernel_rfl
  have e3 : tabsLe hpT H' hpT.next = true := by rw [← e2]; exact e1 4 (Nat.le_refl _)
  unfold pureG
  rw [h1]
  simp only [h2, e2, e3, if_true]
  rfl

/-! ## The builder, with the world's shape -/
section
variable {H : Type} {enc : TypeId × Value → H}
theorem returns_shaped {a : Assume} {C : Checked} {os : Os} {f : FuncId} {fn : Func} {s : ChangeSpec} {conds : List PathCond} {apart fresh handsOn again : Bool} {X : World → Array Value → Prop}
    (hX : ∀ (w w' : World) (args : Array Value), w.heap = w'.heap → X w args → X w' args)
    (own : ownKnob C.prog.godebug = none) (started : os.Started) (noInit : C.prog.inits.idxOf? f = none) (hfn : C.prog.funcs[f]? = some fn)
    (witness : ∃ (w : World) (tape : Tape) (i : Input), w.os = os ∧ (w.forCall tape i).Shaped C.prog ∧ i.vars = [] ∧ Input.okWide C.prog (w.forCall tape i) .any w.heap.size f i ∧
      ((s.pre enc C.prog fn conds apart (w.forCall tape i).memory i.args ∧ X (w.forCall tape i).memory i.args) ∧ sizedMet enc C.prog fn (OpenSpec.ofChange s) apart (w.forCall tape i).memory i.args) ∧ a.holds C.prog (lone (Frame.enter C.prog f i.args .normal) [] (w.forCall tape i)))
    (contract : ∀ (W : World) (base : Nat) (args : Array Value) (ds gs : List (DataW H)) (before : List MemPlace),
      W.ShapedOpen C.prog →
      (∀ (j : Nat) t v, fn.params[j]? = some t → args[j]? = some v → Value.okWide C.prog W .any base t v) →
      DataW.Whole enc C.prog fn.params.toList s.vars apart W args.toList ds gs before → X W args →
      Calls C.prog f args W fun e W' => ∃ v, e = .returned v ∧ s.post enc C.prog fn apart fresh handsOn again W args v W') :
    ReturnsInHanded a C os f .any (fun w args => (s.pre enc C.prog fn conds apart w args ∧ X w args) ∧ sizedMet enc C.prog fn (OpenSpec.ofChange s) apart w args) (s.post enc C.prog fn apart fresh handsOn again) := by
  refine returnsInHanded_of_calls own started noInit witness ?_
  intro w tape i _ hsh _ hok hpre _
  obtain ⟨_, _, _, fn', hfn', _, _, _, _, hval⟩ := hok
  have e : fn' = fn := Option.some.inj (hfn'.symm.trans hfn)
  subst e
  obtain ⟨⟨⟨ds, gs, before, hw, _⟩, hx⟩, _⟩ := hpre
  have hw' := DataW.Whole.of_heap (w' := w.forCall tape i) (by rfl) hw
  refine (contract (w.forCall tape i) w.heap.size i.args ds gs before hsh hval hw' (hX _ _ _ (by rfl) hx)).mono fun e W' ⟨v, he, hp⟩ => ?_
  subst he
  exact ChangeSpec.post_blind hp

/-- the world is as it was, but for what is new -/
theorem kept_of {W W' : World} {may : MemPlace → Prop} (hk : KeepW W W') (h : ∀ b < W.heap.size, W'.heap[b]? = W.heap[b]?) : W.keptBut W' may := by
  refine ⟨hk.os, hk.out, fun i hi => ?_⟩
  rw [h i hi]
  cases W.heap[i]? with
  | none => rfl
  | some o => cases o <;> simp

/-- from the call to what the statement says of it -/
theorem post_of {fn : Func} {s : ChangeSpec} {W W' : World} {args : Array Value} {ds : List (DataW H)} {before pa : List MemPlace} (hv : s.vars = []) (hrt : fn.resultTypes.toList = [4]) (hrs : fn.resultTypes.size = 1)
    (hW : DataW.Whole enc Tryz.prog fn.params.toList s.vars false W args.toList ds [] before) (hres : (s.fn H (ds ++ [])).results = [.lit (.bool true)]) (hvars : (s.fn H (ds ++ [])).vars = [])
    (hargs : DataW.TrodAll enc Tryz.prog W' 0 (fun b => decide (b < W.heap.size)) true fn.params.toList args.toList (s.fn H (ds ++ [])).args pa)
    (hk : KeepW W W') (h : ∀ b < W.heap.size, W'.heap[b]? = W.heap[b]?) : s.post enc Tryz.prog fn false true false false W args (.bool true) W' := by
  refine ⟨ds, [], before, [], pa, [], hW, ?_, hargs, ?_, kept_of hk h, fun e => by cases e⟩
  · rw [hres, hrt, hrs]
    exact trodAll_mk1 (shut_bool und4 true)
  · rw [hvars, hv]
    rfl
end
end Go.Rs.Seat
