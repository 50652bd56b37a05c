/- The law ArmsPick: the walk. -/
import Derived.Test.YtceenhjhejjdlaaGreatDoorP15
import Derived.Test.YtceenhjhejjdlaaGreatDoorP09
import Derived.Test.YtceenhjhejjdlaaGreatDoorP13
set_option linter.unusedSimpArgs false
set_option linter.unusedVariables false
section
namespace Go.Rs.Seat
open Go.Proofs Rg
set_option maxRecDepth 100000
set_option maxHeartbeats 16000000

/-- the laws' tables -/
noncomputable def spM : Sp := [(29, recS 200)]
theorem spM_ok : SpOk spM := .cons (recS_ok 200) .nil
noncomputable def spL : Sp := [(6, memo [] (.bool true)), (11, pureS 4 (evalCall (env (ofSp spM)) 300 false 11)), (18, pureS 4 (evalCall (env (ofSp [])) 300 false 18))]
theorem spL_ok : SpOk spL := .cons awake_ok (.cons (pureS_ok (globs _) (by decide) (call_ok (toldSp spM_ok) 300 false 11)) (.cons (pureS_ok (globs _) (by decide) (call_ok (toldSp .nil) 300 false 18)) .nil))

theorem plainD : PlainD (ofSp spL) := ⟨rfl, rfl, rfl, rfl, rfl, rfl⟩

theorem tabs_hpT : tabsLe hpT hpT 4 = true := by kernel_rfl

theorem call6 {k : Nat} : evalCall (env (ofSp spL)) (k + 1) false 6 [] hpT = some (.bool true, hpT) := by
  rw [call_tab (s := memo [] (.bool true)) rfl]
  unfold memo
  have h1 : renAs nope false [] = some [] := rfl
  have h2 : sameAs [] [] = true := rfl
  rw [h1]
  simp only [h2, tabs_hpT, Bool.and_self, if_true]

theorem hpT_next : hpT.next = 4 := rfl

theorem weight_rows : ∀ (l : List Nd) (i : Nat), weight (rowsOf l i) ≤ Nd.sizes l + l.length
  | [], _ => by simp [rowsOf, weight]
  | x :: l, i => by
    have h1 := testsT_len x []
    have h2 := weight_rows l (i + 1)
    simp only [rowsOf, weight, Nd.sizes, List.length_cons]
    omega

mutual
theorem buildT_ok : ∀ (n : Nat) (rows : List Row), (∀ r ∈ rows, ∀ x ∈ r.ts, x.path.length < 9000) → (buildT n rows).okT
  | _, [], _ => by cases ‹Nat› <;> simp [buildT, Tree.okT]
  | 0, _ :: _, _ => by simp [buildT, Tree.okT]
  | n + 1, r :: l, h => by
    cases hts : r.ts with
    | nil => simp [buildT, hts, Tree.okT]
    | cons t ts =>
      simp only [buildT, hts, Tree.okT]
      refine ⟨h r (by simp) t (by rw [hts]; simp), buildT_ok n _ ?_, buildT_ok n _ ?_⟩
      · intro r' hr' x hx
        obtain ⟨r0, hr0, hy⟩ := List.mem_filterMap.1 hr'
        exact h r0 hr0 x ((yesRow_sub hy).2 x hx)
      · intro r' hr' x hx
        obtain ⟨r0, hr0, hy⟩ := List.mem_filterMap.1 hr'
        rw [noRow_sub hy] at hx
        exact h r0 hr0 x hx
end
theorem buildT_depth : ∀ (n : Nat) (rows : List Row), (buildT n rows).depth ≤ n
  | 0, [] => by simp [buildT, Tree.depth]
  | n + 1, [] => by simp [buildT, Tree.depth]
  | 0, _ :: _ => by simp [buildT, Tree.depth]
  | n + 1, r :: l => by
    cases hts : r.ts with
    | nil => simp [buildT, hts, Tree.depth]
    | cons t ts =>
      have h1 := buildT_depth n (yesRows t (r :: l))
      have h2 := buildT_depth n (noRows t (r :: l))
      simp only [buildT, hts, Tree.depth]
      omega
theorem rows_path {ps : List Nd} (h : Nd.sizes ps < 8000) : ∀ r ∈ rowsOf ps 0, ∀ x ∈ r.ts, x.path.length < 9000 := by
  intro r hr u hu
  obtain ⟨x, hx, e⟩ := rowsOf_mem hr
  obtain ⟨i, hi⟩ := List.mem_iff_getElem?.1 hx
  have hxm := size_mem hi
  rw [e] at hu
  have := testsT_path x [] u hu
  simp at this
  omega

theorem of11L {k : Nat} {a : AVal} {ps : List Nd} {H : Hp} (ha : IsL a ps) (hxs : Nd.sizes ps ≤ 90) :
    ∃ v, evalCall (env (ofSp spL)) (k + 1) false 11 [a] H = some (v, H) ∧ IsTree (buildT 199 (rowsOf ps 0)) v := by
  have h1 := weight_rows ps 0
  have h2 := sizes_len ps
  obtain ⟨a', ha1, ha2⟩ := IsL.ren _ _ ha
  obtain ⟨v, H', h3, h4, -, -⟩ := of11 (sp := ofSp spM) (k := 299) (N := 199) (H := ⟨.nil, 4⟩) rfl rfl rfl rfl ha2 (by omega) (by omega) (by show 4 + _ ≤ _; omega) (by omega)
  obtain ⟨v', h5, h6⟩ := IsTree.ren _ _ h4
  refine ⟨v', ?_, h6⟩
  rw [call_tab (s := pureS 4 (evalCall (env (ofSp spM)) 300 false 11)) rfl]
  exact pureS_eq (by simp only [renAs, ha1]) h3 h5 H

theorem first18L {k : Nat} {a v : AVal} {ps : List Nd} {x : Nd} {H : Hp} (ha : IsL a ps) (hx : IsN x v) (hxs : Nd.sizes ps ≤ 90) (hpl : ps.length ≤ 6) (hxz : x.size ≤ 31) :
    ∃ r, evalCall (env (ofSp spL)) (k + 1) false 18 [a, v] H = some (.tuple [.int .i64 (idxI (bindB · x) ps), r], H) ∧ r.oneCell = true := by
  obtain ⟨a', ha1, ha2⟩ := IsL.ren _ _ ha
  obtain ⟨w, hw1, hw2⟩ := IsN.ren hx
  have hmul : ps.length * x.size ≤ 6 * 31 := Nat.mul_le_mul hpl hxz
  have hp9 : Plain9 (ofSp []) := ⟨rfl, rfl, rfl, rfl, rfl, rfl⟩
  obtain ⟨r, H', h3, ⟨lo, h4⟩, -⟩ := first18 hp9 rfl (K := 299) (H := ⟨.nil, 4⟩) ha2 hw2 (by omega) (by omega) (by show 4 + _ + _ ≤ _; omega)
  obtain ⟨r', h5, h6⟩ := IsL.ren _ _ h4
  refine ⟨r', ?_, h6.one⟩
  rw [call_tab (s := pureS 4 (evalCall (env (ofSp [])) 300 false 18)) rfl]
  exact pureS_eq (by simp only [renAs, ha1, hw1]) h3 (by simp only [renA, renAs, h5]) H

theorem pick17L {k : Nat} {a b : AVal} {ps : List Nd} {v : Nd} {H : Hp} (ht : IsTree (buildT 199 (rowsOf ps 0)) a) (hv : IsN v b) (hxs : Nd.sizes ps ≤ 90) :
    evalCall (env (ofSp spL)) (k + 3) false 17 [a, b] H = some (.tuple [.int .i64 (pickT (buildT 199 (rowsOf ps 0)) v).1, .int .i64 (pickT (buildT 199 (rowsOf ps 0)) v).2], H) :=
  pick17 rfl rfl rfl ht hv (buildT_ok _ _ (rows_path (by omega))) (by have := buildT_depth 199 (rowsOf ps 0); omega)

/-- the one pattern 3 -/
theorem one_pick : pickT (buildT 199 (rowsOf [.mk 3 3 ⟨#[]⟩ []] 0)) (.mk 2 3 ⟨#[]⟩ []) = (0, 1) := by
  have h1 : rowsOf [.mk 3 3 ⟨#[]⟩ []] 0 = [⟨0, [⟨[], 3, 3, ⟨#[]⟩⟩]⟩] := rfl
  have h2 : yesRows ⟨[], 3, 3, ⟨#[]⟩⟩ [⟨0, [⟨[], 3, 3, ⟨#[]⟩⟩]⟩] = [⟨0, []⟩] := by
    have e : yesRow ⟨[], 3, 3, ⟨#[]⟩⟩ ⟨0, [⟨[], 3, 3, ⟨#[]⟩⟩]⟩ = some ⟨0, []⟩ := by unfold yesRow; rw [first_has]; rfl
    unfold yesRows
    rw [List.filterMap_cons, e]
    rfl
  have h3 : holdsB ⟨[], 3, 3, ⟨#[]⟩⟩ (.mk 2 3 ⟨#[]⟩ []) = true := rfl
  rw [h1]
  simp only [buildT, h2, pickT, h3, if_true]

theorem law5_walk {K : Nat} (hK : 400 ≤ K) {a b : AVal} {la lb : List Int} (ha : IsI a la) (hb : IsI b lb) :
    ∃ r, evalCall (env (ofSp spL)) (K + 1) false 5 [a, b] hpT = some r ∧ (r.1 = .bool true ∧ ∀ j < 4, r.2.get j = hpT.get j) := by
  obtain ⟨k, rfl⟩ : ∃ k, K = k + 3 := ⟨K - 3, by omega⟩
  have hoa := ha.one
  have hob := hb.one
  have e6 := call6 (k := k + 2)
  have e7a : evalCall (env (ofSp spL)) (k + 2 + 1) false 7 [a] hpT = _ := short7 rfl ha
  have e7b : evalCall (env (ofSp spL)) (k + 2 + 1) false 7 [b] hpT = _ := short7 rfl hb
  refine enter5 (Post := fun v H' => v = .bool true ∧ ∀ j < 4, H'.get j = hpT.get j) rfl rfl ?_
  unfold c5
  refine Ev.seqN (Q := fun s => s.1.n = 68 ∧ s.2 = hpT ∧ s.1.tm.get 0 = some a ∧ s.1.tm.get 1 = some b ∧ s.1.lv.next = 0) ?_ ?_
  · simp only [Ev, o5_0, hoa, hob, evalCode, runOps, runD, runDraw, askOf, askRecs, askAll, isEff, muteOp, stepA, wantedA, isCall, target, evalOp, opMove, opPick, opAlloc, opBox, opBuild, opBuildSlice, opLoad, opStore, opNilCheck, opBinOp, opUnOp, opConvert, opMakeFunc, opMakeMap, opSlice, opFieldAddr, opField, opIndexAddr, opLookup, opExtract, opAppendB, opLenB, wrOf, newA, eqlA, keepA, newV, evT, toA, putA, loadA, storeA, takeCells, setCells, isAgg, binA, unA, convA, arith, addOff, dstLen, nilNil, isConst, sameTy, strOp, params, results, packA, AExit.leaves, maxTmp, memN, askIn, fillA, repl, groups, Option.getD, Option.map, List.length, List.all, Int.reduceBEq, Int.reduceBNe, Int.reduceEq, Int.reduceGT, Int.reduceGE, Int.reduceNeg, Int.reduceAdd, Int.reduceSub, Int.reduceLT, Int.reduceLE, Int.reduceToNat, Nat.reduceLT, Nat.reducePow, Nat.reduceAdd, Nat.reduceMul, Nat.reduceLeDiff, Nat.reduceEqDiff, Nat.reduceBEq, reduceIte, ↓reduceIte, reduceCtorEq, syT, tyT, Rg.regF, Rg.findR, pickOps, fT5, Tryz.f5]
  rintro s ⟨a1, a2, a3, a4, a5⟩
  refine Ev.seqN (Q := fun s => s.1.n = 68 ∧ s.2 = hpT ∧ s.1.tm.get 0 = some a ∧ s.1.tm.get 1 = some b ∧ s.1.lv.next = 0) ?_ ?_
  · simp only [Ev, o5_1, a1, a2, a3, a4, a5, e6, hoa, hob, evalCode, runOps, runD, runDraw, askOf, askRecs, askAll, isEff, muteOp, stepA, wantedA, isCall, target, evalOp, opMove, opPick, opAlloc, opBox, opBuild, opBuildSlice, opLoad, opStore, opNilCheck, opBinOp, opUnOp, opConvert, opMakeFunc, opMakeMap, opSlice, opFieldAddr, opField, opIndexAddr, opLookup, opExtract, opAppendB, opLenB, wrOf, newA, eqlA, keepA, newV, evT, toA, putA, loadA, storeA, takeCells, setCells, isAgg, binA, unA, convA, arith, addOff, dstLen, nilNil, isConst, sameTy, strOp, params, results, packA, AExit.leaves, maxTmp, memN, askIn, fillA, repl, groups, Option.getD, Option.map, List.length, List.all, Int.reduceBEq, Int.reduceBNe, Int.reduceEq, Int.reduceGT, Int.reduceGE, Int.reduceNeg, Int.reduceAdd, Int.reduceSub, Int.reduceLT, Int.reduceLE, Int.reduceToNat, Nat.reduceLT, Nat.reducePow, Nat.reduceAdd, Nat.reduceMul, Nat.reduceLeDiff, Nat.reduceEqDiff, Nat.reduceBEq, reduceIte, ↓reduceIte, reduceCtorEq, syT, tyT, Rg.regF, Rg.findR, pickOps, fT5, Tryz.f5]
  clear a1 a2 a3 a4 a5
  rintro s ⟨a1, a2, a3, a4, a5⟩
  by_cases hla0 : 300 < la.length
  · have c : decide ((la.length : Int) ≤ 300) = false := by simp; omega
    rw [c] at e7a
    refine Ev.seq (Q := fun ex s => ex = .ret ∧ s.1.tm.get 4 = some (.bool true) ∧ s.2 = hpT) ?_ (fun s h => by cases h.1) ?_
    · simp only [Ev, o5_3, o5_4, a1, a2, a3, a4, a5, e7a, hoa, hob, evalCode, runOps, runD, runDraw, askOf, askRecs, askAll, isEff, muteOp, stepA, wantedA, isCall, target, evalOp, opMove, opPick, opAlloc, opBox, opBuild, opBuildSlice, opLoad, opStore, opNilCheck, opBinOp, opUnOp, opConvert, opMakeFunc, opMakeMap, opSlice, opFieldAddr, opField, opIndexAddr, opLookup, opExtract, opAppendB, opLenB, wrOf, newA, eqlA, keepA, newV, evT, toA, putA, loadA, storeA, takeCells, setCells, isAgg, binA, unA, convA, arith, addOff, dstLen, nilNil, isConst, sameTy, strOp, params, results, packA, AExit.leaves, maxTmp, memN, askIn, fillA, repl, groups, Option.getD, Option.map, List.length, List.all, Int.reduceBEq, Int.reduceBNe, Int.reduceEq, Int.reduceGT, Int.reduceGE, Int.reduceNeg, Int.reduceAdd, Int.reduceSub, Int.reduceLT, Int.reduceLE, Int.reduceToNat, Nat.reduceLT, Nat.reducePow, Nat.reduceAdd, Nat.reduceMul, Nat.reduceLeDiff, Nat.reduceEqDiff, Nat.reduceBEq, reduceIte, ↓reduceIte, reduceCtorEq, syT, tyT, Rg.regF, Rg.findR, pickOps, fT5, Tryz.f5]
    · rintro ex s hne ⟨rfl, h4, h5⟩
      simp only [h4, evalCode, runOps, runD, runDraw, askOf, askRecs, askAll, isEff, muteOp, stepA, wantedA, isCall, target, evalOp, opMove, opPick, opAlloc, opBox, opBuild, opBuildSlice, opLoad, opStore, opNilCheck, opBinOp, opUnOp, opConvert, opMakeFunc, opMakeMap, opSlice, opFieldAddr, opField, opIndexAddr, opLookup, opExtract, opAppendB, opLenB, wrOf, newA, eqlA, keepA, newV, evT, toA, putA, loadA, storeA, takeCells, setCells, isAgg, binA, unA, convA, arith, addOff, dstLen, nilNil, isConst, sameTy, strOp, params, results, packA, AExit.leaves, maxTmp, memN, askIn, fillA, repl, groups, Option.getD, Option.map, List.length, List.all, Int.reduceBEq, Int.reduceBNe, Int.reduceEq, Int.reduceGT, Int.reduceGE, Int.reduceNeg, Int.reduceAdd, Int.reduceSub, Int.reduceLT, Int.reduceLE, Int.reduceToNat, Nat.reduceLT, Nat.reducePow, Nat.reduceAdd, Nat.reduceMul, Nat.reduceLeDiff, Nat.reduceEqDiff, Nat.reduceBEq, reduceIte, ↓reduceIte, reduceCtorEq, syT, tyT, Rg.regF, Rg.findR, pickOps, fT5, Tryz.f5]
      exact fun j _ => by rw [h5]
  have hla : la.length ≤ 300 := by omega
  have ca : decide ((la.length : Int) ≤ 300) = true := by simp; omega
  rw [ca] at e7a
  by_cases hlb0 : 300 < lb.length
  · have c : decide ((lb.length : Int) ≤ 300) = false := by simp; omega
    rw [c] at e7b
    refine Ev.seq (Q := fun ex s => ex = .ret ∧ s.1.tm.get 4 = some (.bool true) ∧ s.2 = hpT) ?_ (fun s h => by cases h.1) ?_
    · simp only [Ev, o5_3, o5_4, a1, a2, a3, a4, a5, e7a, e7b, hoa, hob, evalCode, runOps, runD, runDraw, askOf, askRecs, askAll, isEff, muteOp, stepA, wantedA, isCall, target, evalOp, opMove, opPick, opAlloc, opBox, opBuild, opBuildSlice, opLoad, opStore, opNilCheck, opBinOp, opUnOp, opConvert, opMakeFunc, opMakeMap, opSlice, opFieldAddr, opField, opIndexAddr, opLookup, opExtract, opAppendB, opLenB, wrOf, newA, eqlA, keepA, newV, evT, toA, putA, loadA, storeA, takeCells, setCells, isAgg, binA, unA, convA, arith, addOff, dstLen, nilNil, isConst, sameTy, strOp, params, results, packA, AExit.leaves, maxTmp, memN, askIn, fillA, repl, groups, Option.getD, Option.map, List.length, List.all, Int.reduceBEq, Int.reduceBNe, Int.reduceEq, Int.reduceGT, Int.reduceGE, Int.reduceNeg, Int.reduceAdd, Int.reduceSub, Int.reduceLT, Int.reduceLE, Int.reduceToNat, Nat.reduceLT, Nat.reducePow, Nat.reduceAdd, Nat.reduceMul, Nat.reduceLeDiff, Nat.reduceEqDiff, Nat.reduceBEq, reduceIte, ↓reduceIte, reduceCtorEq, syT, tyT, Rg.regF, Rg.findR, pickOps, fT5, Tryz.f5]
    · rintro ex s hne ⟨rfl, h4, h5⟩
      simp only [h4, evalCode, runOps, runD, runDraw, askOf, askRecs, askAll, isEff, muteOp, stepA, wantedA, isCall, target, evalOp, opMove, opPick, opAlloc, opBox, opBuild, opBuildSlice, opLoad, opStore, opNilCheck, opBinOp, opUnOp, opConvert, opMakeFunc, opMakeMap, opSlice, opFieldAddr, opField, opIndexAddr, opLookup, opExtract, opAppendB, opLenB, wrOf, newA, eqlA, keepA, newV, evT, toA, putA, loadA, storeA, takeCells, setCells, isAgg, binA, unA, convA, arith, addOff, dstLen, nilNil, isConst, sameTy, strOp, params, results, packA, AExit.leaves, maxTmp, memN, askIn, fillA, repl, groups, Option.getD, Option.map, List.length, List.all, Int.reduceBEq, Int.reduceBNe, Int.reduceEq, Int.reduceGT, Int.reduceGE, Int.reduceNeg, Int.reduceAdd, Int.reduceSub, Int.reduceLT, Int.reduceLE, Int.reduceToNat, Nat.reduceLT, Nat.reducePow, Nat.reduceAdd, Nat.reduceMul, Nat.reduceLeDiff, Nat.reduceEqDiff, Nat.reduceBEq, reduceIte, ↓reduceIte, reduceCtorEq, syT, tyT, Rg.regF, Rg.findR, pickOps, fT5, Tryz.f5]
      exact fun j _ => by rw [h5]
  have hlb : lb.length ≤ 300 := by omega
  have cb : decide ((lb.length : Int) ≤ 300) = true := by simp; omega
  rw [cb] at e7b
  refine Ev.seqN (Q := fun s => s.1.n = 68 ∧ s.2 = hpT ∧ s.1.tm.get 0 = some a ∧ s.1.tm.get 1 = some b ∧ s.1.lv.next = 0) ?_ ?_
  · simp only [Ev, o5_3, a1, a2, a3, a4, a5, e7a, e7b, hoa, hob, evalCode, runOps, runD, runDraw, askOf, askRecs, askAll, isEff, muteOp, stepA, wantedA, isCall, target, evalOp, opMove, opPick, opAlloc, opBox, opBuild, opBuildSlice, opLoad, opStore, opNilCheck, opBinOp, opUnOp, opConvert, opMakeFunc, opMakeMap, opSlice, opFieldAddr, opField, opIndexAddr, opLookup, opExtract, opAppendB, opLenB, wrOf, newA, eqlA, keepA, newV, evT, toA, putA, loadA, storeA, takeCells, setCells, isAgg, binA, unA, convA, arith, addOff, dstLen, nilNil, isConst, sameTy, strOp, params, results, packA, AExit.leaves, maxTmp, memN, askIn, fillA, repl, groups, Option.getD, Option.map, List.length, List.all, Int.reduceBEq, Int.reduceBNe, Int.reduceEq, Int.reduceGT, Int.reduceGE, Int.reduceNeg, Int.reduceAdd, Int.reduceSub, Int.reduceLT, Int.reduceLE, Int.reduceToNat, Nat.reduceLT, Nat.reducePow, Nat.reduceAdd, Nat.reduceMul, Nat.reduceLeDiff, Nat.reduceEqDiff, Nat.reduceBEq, reduceIte, ↓reduceIte, reduceCtorEq, syT, tyT, Rg.regF, Rg.findR, pickOps, fT5, Tryz.f5]
  clear a1 a2 a3 a4 a5
  rintro s ⟨a1, a2, a3, a4, a5⟩
  -- the patterns and the value
  obtain ⟨pv, ps, H1, e8, hps, hwf, hsz, hpl, hn1, hn2, hf1⟩ := pats8 plainD (k := k + 2) (H := hpT) ha hla (by omega) (by decide)
  have hopv := hps.one
  rw [hpT_next] at hn1 hn2 hf1
  have hst : ∃ b', b.strip = b' ∧ IsI b' lb ∧ b'.oneCell = true := by
    rcases hb with ⟨rfl, h⟩ | ⟨t, rfl⟩
    · exact ⟨_, rfl, .inl ⟨rfl, h⟩, rfl⟩
    · exact ⟨_, rfl, .inr ⟨.none, rfl⟩, rfl⟩
  obtain ⟨b', hst, hb', hob'⟩ := hst
  have hH1 : H1.next < 4096 := by omega
  have hH1' : (H1.next < 4096) = True := by simp [hH1]
  obtain ⟨K1, hKe, hKn, hKd, hKf⟩ : ∃ K, K = (H1.alloc (.cells [b', .int .i64 0, .bool false])).2 ∧ K.next = H1.next + 1 ∧ Dice K H1.next 0 ∧ ∀ j < 4, K.get j = H1.get j :=
    ⟨_, rfl, rfl, ⟨b', lb, false, by rw [hnew hH1, if_pos rfl]; rfl, hb', hlb⟩, fun j hj => by rw [hnew hH1, if_neg (by omega)]⟩
  have hsz4 : szD 4 = 31 := rfl
  obtain ⟨xv, x, H2, e9, hx, hxs, hm1, hm2, -, hfr2⟩ := leaf9 plainD 4 (k + 3) (by omega) H1.next 0 K1 hKd (by omega) (by omega) (by omega)
  have hf2 : ∀ j < 4, H2.get j = hpT.get j := fun j hj => by rw [hfr2 j (by omega) (by omega), hKf j hj, hf1 j hj]
  have nc4' : ((4 : Nat) : Int) = 4 := rfl
  rw [nc4'] at e9
  rw [hsz4] at hxs hm2
  have hxsame := hx.same
  have hN := hx
  obtain ⟨xa, rfl, hxa⟩ := hx.cells
  have hoxa := hxa.one
  refine Ev.seqN (Q := fun s => s.1.n = 68 ∧ s.2 = H2 ∧ s.1.tm.get 5 = some pv ∧ s.1.tm.get 6 = some (.lptr 0 0) ∧ s.1.lv.get 0 = some [.int .i64 x.k, .int .i64 x.n, .str x.s, xa]) ?_ ?_
  · simp only [Ev, o5_5, a1, a2, a3, a4, a5, e8, hopv, hoa, hob, hst, hob', hH1', ← hKe, e9, hoxa, evalCode, runOps, runD, runDraw, askOf, askRecs, askAll, isEff, muteOp, stepA, wantedA, isCall, target, evalOp, opMove, opPick, opAlloc, opBox, opBuild, opBuildSlice, opLoad, opStore, opNilCheck, opBinOp, opUnOp, opConvert, opMakeFunc, opMakeMap, opSlice, opFieldAddr, opField, opIndexAddr, opLookup, opExtract, opAppendB, opLenB, wrOf, newA, eqlA, keepA, newV, evT, toA, putA, loadA, storeA, takeCells, setCells, isAgg, binA, unA, convA, arith, addOff, dstLen, nilNil, isConst, sameTy, strOp, params, results, packA, AExit.leaves, maxTmp, memN, askIn, fillA, repl, groups, Option.getD, Option.map, List.length, List.all, Int.reduceBEq, Int.reduceBNe, Int.reduceEq, Int.reduceGT, Int.reduceGE, Int.reduceNeg, Int.reduceAdd, Int.reduceSub, Int.reduceLT, Int.reduceLE, Int.reduceToNat, Nat.reduceLT, Nat.reducePow, Nat.reduceAdd, Nat.reduceMul, Nat.reduceLeDiff, Nat.reduceEqDiff, Nat.reduceBEq, reduceIte, ↓reduceIte, reduceCtorEq, syT, tyT, Rg.regF, Rg.findR, pickOps, fT5, Tryz.f5]
  clear a1 a2 a3 a4 a5 e6 e7a e7b e8 e9
  rintro s ⟨a1, a2, a3, a4, a5⟩
  have hps5 := sizes_len ps
  have e10 : evalCall (env (ofSp spL)) (k + 3) false 10 [pv] H2 = _ := ask10 rfl _ ps (Nat.le_refl _) (k + 3) (by omega) pv H2 hps (by omega)
  rcases bool_split (decide ((Nd.askL ps : Int) > 16)) with c | c
  · refine Ev.seq (Q := fun ex s => ex = .ret ∧ s.1.tm.get 4 = some (.bool true) ∧ s.2 = H2) ?_ (fun s h => by cases h.1) ?_
    · simp only [Ev, o5_6, o5_7, a1, a2, a3, a4, a5, e10, hopv, c, evalCode, runOps, runD, runDraw, askOf, askRecs, askAll, isEff, muteOp, stepA, wantedA, isCall, target, evalOp, opMove, opPick, opAlloc, opBox, opBuild, opBuildSlice, opLoad, opStore, opNilCheck, opBinOp, opUnOp, opConvert, opMakeFunc, opMakeMap, opSlice, opFieldAddr, opField, opIndexAddr, opLookup, opExtract, opAppendB, opLenB, wrOf, newA, eqlA, keepA, newV, evT, toA, putA, loadA, storeA, takeCells, setCells, isAgg, binA, unA, convA, arith, addOff, dstLen, nilNil, isConst, sameTy, strOp, params, results, packA, AExit.leaves, maxTmp, memN, askIn, fillA, repl, groups, Option.getD, Option.map, List.length, List.all, Int.reduceBEq, Int.reduceBNe, Int.reduceEq, Int.reduceGT, Int.reduceGE, Int.reduceNeg, Int.reduceAdd, Int.reduceSub, Int.reduceLT, Int.reduceLE, Int.reduceToNat, Nat.reduceLT, Nat.reducePow, Nat.reduceAdd, Nat.reduceMul, Nat.reduceLeDiff, Nat.reduceEqDiff, Nat.reduceBEq, reduceIte, ↓reduceIte, reduceCtorEq, syT, tyT, Rg.regF, Rg.findR, pickOps, fT5, Tryz.f5]
    · rintro ex s hne ⟨rfl, h4, h5⟩
      simp only [h4, evalCode, runOps, runD, runDraw, askOf, askRecs, askAll, isEff, muteOp, stepA, wantedA, isCall, target, evalOp, opMove, opPick, opAlloc, opBox, opBuild, opBuildSlice, opLoad, opStore, opNilCheck, opBinOp, opUnOp, opConvert, opMakeFunc, opMakeMap, opSlice, opFieldAddr, opField, opIndexAddr, opLookup, opExtract, opAppendB, opLenB, wrOf, newA, eqlA, keepA, newV, evT, toA, putA, loadA, storeA, takeCells, setCells, isAgg, binA, unA, convA, arith, addOff, dstLen, nilNil, isConst, sameTy, strOp, params, results, packA, AExit.leaves, maxTmp, memN, askIn, fillA, repl, groups, Option.getD, Option.map, List.length, List.all, Int.reduceBEq, Int.reduceBNe, Int.reduceEq, Int.reduceGT, Int.reduceGE, Int.reduceNeg, Int.reduceAdd, Int.reduceSub, Int.reduceLT, Int.reduceLE, Int.reduceToNat, Nat.reduceLT, Nat.reducePow, Nat.reduceAdd, Nat.reduceMul, Nat.reduceLeDiff, Nat.reduceEqDiff, Nat.reduceBEq, reduceIte, ↓reduceIte, reduceCtorEq, syT, tyT, Rg.regF, Rg.findR, pickOps, fT5, Tryz.f5]
      exact fun j hj => by rw [h5]; exact hf2 j hj
  refine Ev.seqN (Q := fun s => s.1.n = 68 ∧ s.2 = H2 ∧ s.1.tm.get 5 = some pv ∧ s.1.tm.get 6 = some (.lptr 0 0) ∧ s.1.lv.get 0 = some [.int .i64 x.k, .int .i64 x.n, .str x.s, xa]) ?_ ?_
  · simp only [Ev, o5_6, a1, a2, a3, a4, a5, e10, hopv, c, evalCode, runOps, runD, runDraw, askOf, askRecs, askAll, isEff, muteOp, stepA, wantedA, isCall, target, evalOp, opMove, opPick, opAlloc, opBox, opBuild, opBuildSlice, opLoad, opStore, opNilCheck, opBinOp, opUnOp, opConvert, opMakeFunc, opMakeMap, opSlice, opFieldAddr, opField, opIndexAddr, opLookup, opExtract, opAppendB, opLenB, wrOf, newA, eqlA, keepA, newV, evT, toA, putA, loadA, storeA, takeCells, setCells, isAgg, binA, unA, convA, arith, addOff, dstLen, nilNil, isConst, sameTy, strOp, params, results, packA, AExit.leaves, maxTmp, memN, askIn, fillA, repl, groups, Option.getD, Option.map, List.length, List.all, Int.reduceBEq, Int.reduceBNe, Int.reduceEq, Int.reduceGT, Int.reduceGE, Int.reduceNeg, Int.reduceAdd, Int.reduceSub, Int.reduceLT, Int.reduceLE, Int.reduceToNat, Nat.reduceLT, Nat.reducePow, Nat.reduceAdd, Nat.reduceMul, Nat.reduceLeDiff, Nat.reduceEqDiff, Nat.reduceBEq, reduceIte, ↓reduceIte, reduceCtorEq, syT, tyT, Rg.regF, Rg.findR, pickOps, fT5, Tryz.f5]
  clear a1 a2 a3 a4 a5 e10 c
  rintro s ⟨a1, a2, a3, a4, a5⟩
  -- the tree
  obtain ⟨tv, e11, htv⟩ := of11L (k := k + 2) (H := H2) hps hsz
  have e17 := pick17L (k := k) (H := H2) htv hN hsz
  rw [pick_plain hwf (by have := weight_rows ps 0; omega)] at e17
  generalize hn : (pickT (buildT 199 (rowsOf ps 0)) x).2 = n at e17
  have htc := htv.cells
  obtain ⟨y0, y1, y2, y3, y4, y5, y6, y7, y8, rfl, p0, p1, p2, p3, p4, p5, p6, p7, p8⟩ := htc
  refine Ev.seqN (Q := fun s => s.1.n = 68 ∧ s.2 = H2 ∧ s.1.tm.get 5 = some pv ∧ s.1.tm.get 6 = some (.lptr 0 0) ∧ s.1.tm.get 7 = some (.int .i64 (idxI (bindB · x) ps)) ∧ s.1.tm.get 8 = some (.int .i64 n) ∧ s.1.lv.get 0 = some [.int .i64 x.k, .int .i64 x.n, .str x.s, xa]) ?_ ?_
  · simp only [Ev, ↓drw5_8, d5_8, a1, a2, a3, a4, a5, e11, e17, hopv, hoxa, hxsame, p0, p1, p2, p3, p4, p5, p6, p7, p8, List.take, List.drop, evalCode, runOps, runD, runDraw, askOf, askRecs, askAll, isEff, muteOp, stepA, wantedA, isCall, target, evalOp, opMove, opPick, opAlloc, opBox, opBuild, opBuildSlice, opLoad, opStore, opNilCheck, opBinOp, opUnOp, opConvert, opMakeFunc, opMakeMap, opSlice, opFieldAddr, opField, opIndexAddr, opLookup, opExtract, opAppendB, opLenB, wrOf, newA, eqlA, keepA, newV, evT, toA, putA, loadA, storeA, takeCells, setCells, isAgg, binA, unA, convA, arith, addOff, dstLen, nilNil, isConst, sameTy, strOp, params, results, packA, AExit.leaves, maxTmp, memN, askIn, fillA, repl, groups, Option.getD, Option.map, List.length, List.all, Int.reduceBEq, Int.reduceBNe, Int.reduceEq, Int.reduceGT, Int.reduceGE, Int.reduceNeg, Int.reduceAdd, Int.reduceSub, Int.reduceLT, Int.reduceLE, Int.reduceToNat, Nat.reduceLT, Nat.reducePow, Nat.reduceAdd, Nat.reduceMul, Nat.reduceLeDiff, Nat.reduceEqDiff, Nat.reduceBEq, reduceIte, ↓reduceIte, reduceCtorEq, syT, tyT, Rg.regF, Rg.findR, pickOps, fT5, Tryz.f5]
  clear a1 a2 a3 a4 a5 e11 e17 htv p0 p1 p2 p3 p4 p5 p6 p7 p8
  rintro s ⟨a1, a2, a3, a4, a6, a7, a5⟩
  obtain ⟨fr, e18, hofr⟩ := first18L (k := k + 2) (H := H2) hps hN hsz hpl hxs
  refine Ev.seqN (Q := fun s => s.1.n = 68 ∧ s.2 = H2 ∧ s.1.tm.get 7 = some (.int .i64 (idxI (bindB · x) ps)) ∧ s.1.tm.get 8 = some (.int .i64 n) ∧ s.1.tm.get 9 = some (.int .i64 (idxI (bindB · x) ps))) ?_ ?_
  · simp only [Ev, o5_9, a1, a2, a3, a4, a5, a6, a7, e18, hopv, hoxa, hofr, evalCode, runOps, runD, runDraw, askOf, askRecs, askAll, isEff, muteOp, stepA, wantedA, isCall, target, evalOp, opMove, opPick, opAlloc, opBox, opBuild, opBuildSlice, opLoad, opStore, opNilCheck, opBinOp, opUnOp, opConvert, opMakeFunc, opMakeMap, opSlice, opFieldAddr, opField, opIndexAddr, opLookup, opExtract, opAppendB, opLenB, wrOf, newA, eqlA, keepA, newV, evT, toA, putA, loadA, storeA, takeCells, setCells, isAgg, binA, unA, convA, arith, addOff, dstLen, nilNil, isConst, sameTy, strOp, params, results, packA, AExit.leaves, maxTmp, memN, askIn, fillA, repl, groups, Option.getD, Option.map, List.length, List.all, Int.reduceBEq, Int.reduceBNe, Int.reduceEq, Int.reduceGT, Int.reduceGE, Int.reduceNeg, Int.reduceAdd, Int.reduceSub, Int.reduceLT, Int.reduceLE, Int.reduceToNat, Nat.reduceLT, Nat.reducePow, Nat.reduceAdd, Nat.reduceMul, Nat.reduceLeDiff, Nat.reduceEqDiff, Nat.reduceBEq, reduceIte, ↓reduceIte, reduceCtorEq, syT, tyT, Rg.regF, Rg.findR, pickOps, fT5, Tryz.f5]
  clear a1 a2 a3 a4 a5 a6 a7 e18
  rintro s ⟨a1, a2, a6, a7, a8⟩
  -- the one
  have hone : IsL (.list [.agg [.int .i64 3, .int .i64 3, .str ⟨#[]⟩, .nilslice]] .full 4) [.mk 3 3 ⟨#[]⟩ []] := .inr ⟨_, _, rfl, .cons (IsN_mk.2 ⟨.nilslice, rfl, .inl ⟨rfl, rfl⟩⟩) .nil⟩
  obtain ⟨tv, e11, htv⟩ := of11L (k := k + 2) (H := H2) hone (by simp [Nd.sizes, Nd.size])
  have e17 := pick17L (k := k) (H := H2) (v := .mk 2 3 ⟨#[]⟩ []) (b := .agg [.int .i64 2, .int .i64 3, .str ⟨#[]⟩, .nilslice]) htv (IsN_mk.2 ⟨.nilslice, rfl, .inl ⟨rfl, rfl⟩⟩) (by simp [Nd.sizes, Nd.size])
  rw [one_pick] at e17
  simp only [nc1] at e17
  obtain ⟨y0, y1, y2, y3, y4, y5, y6, y7, y8, rfl, p0, p1, p2, p3, p4, p5, p6, p7, p8⟩ := htv.cells
  refine Ev.seqN (Q := fun s => s.1.n = 68 ∧ s.2 = H2 ∧ s.1.tm.get 7 = some (.int .i64 (idxI (bindB · x) ps)) ∧ s.1.tm.get 8 = some (.int .i64 n) ∧ s.1.tm.get 9 = some (.int .i64 (idxI (bindB · x) ps)) ∧ s.1.tm.get 11 = some (.int .i64 0) ∧ s.1.tm.get 12 = some (.int .i64 1)) ?_ ?_
  · simp only [Ev, o5_10, a1, a2, a6, a7, a8, e11, e17, p0, p1, p2, p3, p4, p5, p6, p7, p8, evalCode, runOps, runD, runDraw, askOf, askRecs, askAll, isEff, muteOp, stepA, wantedA, isCall, target, evalOp, opMove, opPick, opAlloc, opBox, opBuild, opBuildSlice, opLoad, opStore, opNilCheck, opBinOp, opUnOp, opConvert, opMakeFunc, opMakeMap, opSlice, opFieldAddr, opField, opIndexAddr, opLookup, opExtract, opAppendB, opLenB, wrOf, newA, eqlA, keepA, newV, evT, toA, putA, loadA, storeA, takeCells, setCells, isAgg, binA, unA, convA, arith, addOff, dstLen, nilNil, isConst, sameTy, strOp, params, results, packA, AExit.leaves, maxTmp, memN, askIn, fillA, repl, groups, Option.getD, Option.map, List.length, List.all, Int.reduceBEq, Int.reduceBNe, Int.reduceEq, Int.reduceGT, Int.reduceGE, Int.reduceNeg, Int.reduceAdd, Int.reduceSub, Int.reduceLT, Int.reduceLE, Int.reduceToNat, Nat.reduceLT, Nat.reducePow, Nat.reduceAdd, Nat.reduceMul, Nat.reduceLeDiff, Nat.reduceEqDiff, Nat.reduceBEq, reduceIte, ↓reduceIte, reduceCtorEq, syT, tyT, Rg.regF, Rg.findR, pickOps, fT5, Tryz.f5]
  clear a1 a2 a6 a7 a8
  rintro s ⟨a1, a2, a6, a7, a8, a9, a10⟩
  have c1 : decide ((n : Int) ≥ 0) = true := by simp
  simp only [Ev, o5_11, a1, a2, a6, a7, a8, a9, a10, c1, evalCode, runOps, runD, runDraw, askOf, askRecs, askAll, isEff, muteOp, stepA, wantedA, isCall, target, evalOp, opMove, opPick, opAlloc, opBox, opBuild, opBuildSlice, opLoad, opStore, opNilCheck, opBinOp, opUnOp, opConvert, opMakeFunc, opMakeMap, opSlice, opFieldAddr, opField, opIndexAddr, opLookup, opExtract, opAppendB, opLenB, wrOf, newA, eqlA, keepA, newV, evT, toA, putA, loadA, storeA, takeCells, setCells, isAgg, binA, unA, convA, arith, addOff, dstLen, nilNil, isConst, sameTy, strOp, params, results, packA, AExit.leaves, maxTmp, memN, askIn, fillA, repl, groups, Option.getD, Option.map, List.length, List.all, Int.reduceBEq, Int.reduceBNe, Int.reduceEq, Int.reduceGT, Int.reduceGE, Int.reduceNeg, Int.reduceAdd, Int.reduceSub, Int.reduceLT, Int.reduceLE, Int.reduceToNat, Nat.reduceLT, Nat.reducePow, Nat.reduceAdd, Nat.reduceMul, Nat.reduceLeDiff, Nat.reduceEqDiff, Nat.reduceBEq, reduceIte, ↓reduceIte, reduceCtorEq, syT, tyT, Rg.regF, Rg.findR, pickOps, fT5, Tryz.f5]
  exact hf2
end Go.Rs.Seat
end
/- Package arms in plain words: no test is asked twice. -/
section
namespace Go.Rs.Seat
open Go.Proofs Rg
set_option maxRecDepth 100000
set_option maxHeartbeats 4000000

/-- on the way to the leaf no test comes twice -/
def OnceOk (np : Int) (x : Nd) : Tree → List Tst → Prop
  | .leaf arm, _ => -1 ≤ arm ∧ arm < np
  | .node t y n, seen => (∀ s ∈ seen, sameT s t = false) ∧ (if holdsB t x then OnceOk np x y (seen ++ [t]) else OnceOk np x n (seen ++ [t]))

/-- the tests of a row lie at different paths -/
def DistR (rows : List Row) : Prop := ∀ r ∈ rows, r.ts.Pairwise (fun a b => a.path ≠ b.path)

theorem ne_same {s t : Tst} (h : s ≠ t) : sameT s t = false := by
  cases e : sameT s t with
  | false => rfl
  | true => exact absurd (sameT_eq e) h

theorem pair_split {a b : List Tst} {t : Tst} (h : (a ++ t :: b).Pairwise (fun a b => a.path ≠ b.path)) : (a ++ b).Pairwise (fun a b => a.path ≠ b.path) ∧ ∀ u ∈ a ++ b, u.path ≠ t.path := by
  rw [List.pairwise_append] at h
  obtain ⟨h1, h2, h3⟩ := h
  rw [List.pairwise_cons] at h2
  refine ⟨List.pairwise_append.2 ⟨h1, h2.2, fun x hx y hy => h3 x hx y (by simp [hy])⟩, fun u hu => ?_⟩
  rcases List.mem_append.1 hu with hu | hu
  · exact h3 u hu t (by simp)
  · exact fun e => h2.1 u hu e.symm

theorem yes_dist {t : Tst} {r r' : Row} (h : yesRow t r = some r') (hd : r.ts.Pairwise (fun a b => a.path ≠ b.path)) : r'.ts.Pairwise (fun a b => a.path ≠ b.path) ∧ ∀ u ∈ r'.ts, u.path ≠ t.path := by
  unfold yesRow at h
  split at h
  · rename_i i hi
    injection h with h
    subst h
    obtain ⟨a, b, e1, e2, e3⟩ := idx_split hi
    simp only [e2, e3]
    rw [e1] at hd
    exact pair_split hd
  · split at h
    · cases h
    · rename_i hn
      injection h with h
      subst h
      refine ⟨hd, fun u hu e => hn ?_⟩
      exact List.any_eq_true.2 ⟨u, hu, by simp [e]⟩
theorem no_dist {t : Tst} {r r' : Row} (h : noRow t r = some r') : ∀ u ∈ r'.ts, u ≠ t := by
  unfold noRow at h
  split at h
  · cases h
  · rename_i hn
    injection h with h
    subst h
    intro u hu e
    rw [List.findIdx?_eq_none_iff] at hn
    have := hn u hu
    rw [e, sameT_refl] at this
    cases this

theorem yes_arm {t : Tst} {r r' : Row} (h : yesRow t r = some r') : r'.arm = r.arm := by
  unfold yesRow at h
  split at h
  · injection h with h; subst h; rfl
  · split at h
    · cases h
    · injection h with h; subst h; rfl

theorem once_build (np : Int) (x : Nd) (hnp : 0 ≤ np) : ∀ (n : Nat) (rows : List Row) (seen : List Tst), weight rows ≤ n → DistR rows → (∀ r ∈ rows, ∀ t ∈ r.ts, ∀ s ∈ seen, s ≠ t) → (∀ r ∈ rows, -1 ≤ r.arm ∧ r.arm < np) → OnceOk np x (buildT n rows) seen
  | n, [], seen, _, _, _, _ => by
    have : buildT n [] = .leaf (-1) := by cases n <;> rfl
    rw [this]
    simp only [OnceOk]
    omega
  | 0, r :: l, _, h, _, _, _ => by simp only [weight] at h; omega
  | n + 1, r :: l, seen, hw, hd, hs, ha => by
    cases hts : r.ts with
    | nil =>
      simp only [buildT, hts, OnceOk]
      exact ha r (by simp)
    | cons t ts =>
      simp only [buildT, hts, OnceOk]
      have ht : t ∈ r.ts := by rw [hts]; simp
      refine ⟨fun s hss => ne_same (hs r (by simp) t ht s hss), ?_⟩
      have hy := yes_less (l := l) hts
      have hn := no_less (l := l) hts
      split
      · refine once_build np x hnp n _ _ (by omega) ?_ ?_ ?_
        · intro r' hr'
          obtain ⟨r0, hr0, e⟩ := List.mem_filterMap.1 hr'
          exact (yes_dist e (hd r0 hr0)).1
        · intro r' hr' u hu s hss
          obtain ⟨r0, hr0, e⟩ := List.mem_filterMap.1 hr'
          rcases List.mem_append.1 hss with hss | hss
          · exact hs r0 hr0 u ((yesRow_sub e).2 u hu) s hss
          · simp at hss
            subst hss
            intro e2
            exact (yes_dist e (hd r0 hr0)).2 u hu (by rw [e2])
        · intro r' hr'
          obtain ⟨r0, hr0, e⟩ := List.mem_filterMap.1 hr'
          rw [yes_arm e]
          exact ha r0 hr0
      · refine once_build np x hnp n _ _ (by omega) ?_ ?_ ?_
        · intro r' hr'
          obtain ⟨r0, hr0, e⟩ := List.mem_filterMap.1 hr'
          rw [noRow_sub e]
          exact hd r0 hr0
        · intro r' hr' u hu s hss
          obtain ⟨r0, hr0, e⟩ := List.mem_filterMap.1 hr'
          rcases List.mem_append.1 hss with hss | hss
          · rw [noRow_sub e] at hu
            exact hs r0 hr0 u hu s hss
          · simp at hss
            subst hss
            exact fun e2 => no_dist e u hu e2.symm
        · intro r' hr'
          obtain ⟨r0, hr0, e⟩ := List.mem_filterMap.1 hr'
          rw [noRow_sub e]
          exact ha r0 hr0

/-! ## How many tests -/
def tot : List Row → Nat
  | [] => 0
  | r :: l => r.ts.length + tot l

theorem tot_yes (t : Tst) : ∀ (l : List Row), tot (yesRows t l) ≤ tot l
  | [] => Nat.le_refl _
  | r :: l => by
    have ih := tot_yes t l
    unfold yesRows at ih ⊢
    simp only [List.filterMap_cons]
    cases hy : yesRow t r with
    | none => simp only [tot]; omega
    | some r' => have := (yesRow_sub hy).1; simp only [tot]; omega
theorem tot_no (t : Tst) : ∀ (l : List Row), tot (noRows t l) ≤ tot l
  | [] => Nat.le_refl _
  | r :: l => by
    have ih := tot_no t l
    unfold noRows at ih ⊢
    simp only [List.filterMap_cons]
    cases hy : noRow t r with
    | none => simp only [tot]; omega
    | some r' => have := noRow_sub hy; subst this; simp only [tot]; omega

theorem depth_tot : ∀ (n : Nat) (rows : List Row), (buildT n rows).depth ≤ tot rows
  | 0, [] => by simp [buildT, Tree.depth]
  | n + 1, [] => by simp [buildT, Tree.depth]
  | 0, _ :: _ => by simp [buildT, Tree.depth]
  | n + 1, r :: l => by
    cases hts : r.ts with
    | nil => simp [buildT, hts, Tree.depth]
    | cons t ts =>
      have h1 := depth_tot n (yesRows t (r :: l))
      have h2 := depth_tot n (noRows t (r :: l))
      have e1 : yesRow t r = some ⟨r.arm, ts⟩ := by unfold yesRow; rw [hts, first_has]; simp
      have e2 : noRow t r = none := by unfold noRow; rw [hts, first_has]
      have h3 := tot_yes t l
      have h4 := tot_no t l
      have h5 : tot (yesRows t (r :: l)) = ts.length + tot (yesRows t l) := by
        unfold yesRows
        rw [List.filterMap_cons, e1]
        rfl
      have h6 : tot (noRows t (r :: l)) = tot (noRows t l) := by
        unfold noRows
        rw [List.filterMap_cons, e2]
      simp only [buildT, hts, Tree.depth]
      have h7 : tot (r :: l) = ts.length + 1 + tot l := by simp only [tot, hts, List.length_cons]
      omega

mutual
theorem tests_asks : ∀ (x : Nd) (path : List Int), (testsT x path).length ≤ x.asks
  | .mk k n s l, path => by
    have := testsL_asks l path 0
    rw [testsT, Nd.asks]
    split
    · rename_i h; have : k = 3 := by simpa using h
      subst this; simp
    · split
      · rename_i h; have : k = 4 := by simpa using h
        subst this; simp
      · split
        · rename_i h; have : k = 5 := by simpa using h
          subst this; simp
        · split
          · rename_i h; have : k = 6 := by simpa using h
            subst this; simp; omega
          · simp
theorem testsL_asks : ∀ (l : List Nd) (path : List Int) (i : Nat), (testsL l path i).length ≤ Nd.askL l
  | [], _, _ => by simp [testsL]
  | x :: l, path, i => by
    have h1 := tests_asks x (path ++ [(i : Int)])
    have h2 := testsL_asks l path (i + 1)
    simp only [testsL, Nd.askL, List.length_append]
    omega
end
theorem tot_asks : ∀ (l : List Nd) (i : Nat), tot (rowsOf l i) ≤ Nd.askL l
  | [], _ => by simp [rowsOf, tot]
  | x :: l, i => by
    have h1 := tests_asks x []
    have h2 := tot_asks l (i + 1)
    simp only [rowsOf, tot, Nd.askL]
    omega

/-! ## Paths of a pattern's tests -/
mutual
theorem tests_ext : ∀ (x : Nd) (path : List Int) (u : Tst), u ∈ testsT x path → ∃ q, u.path = path ++ q
  | .mk k n s l, path, u, h => by
    rw [testsT] at h
    split at h
    · simp at h; subst h; exact ⟨[], by simp⟩
    · split at h
      · simp at h; subst h; exact ⟨[], by simp⟩
      · split at h
        · simp at h; subst h; exact ⟨[], by simp⟩
        · split at h
          · simp only [List.mem_cons] at h
            rcases h with rfl | h
            · exact ⟨[], by simp⟩
            · obtain ⟨j, q, -, e⟩ := testsL_ext l path 0 u h
              exact ⟨_, e⟩
          · cases h
theorem testsL_ext : ∀ (l : List Nd) (path : List Int) (i : Nat) (u : Tst), u ∈ testsL l path i → ∃ (j : Nat) (q : List Int), i ≤ j ∧ u.path = path ++ (j : Int) :: q
  | [], _, _, u, h => by simp [testsL] at h
  | x :: l, path, i, u, h => by
    simp only [testsL, List.mem_append] at h
    rcases h with h | h
    · obtain ⟨q, e⟩ := tests_ext x _ u h
      exact ⟨i, q, Nat.le_refl _, by rw [e]; simp⟩
    · obtain ⟨j, q, hj, e⟩ := testsL_ext l path (i + 1) u h
      exact ⟨j, q, by omega, e⟩
end

mutual
theorem tests_dist : ∀ (x : Nd) (path : List Int), (testsT x path).Pairwise (fun a b => a.path ≠ b.path)
  | .mk k n s l, path => by
    rw [testsT]
    split
    · simp
    · split
      · simp
      · split
        · simp
        · split
          · rw [List.pairwise_cons]
            refine ⟨fun u hu e => ?_, testsL_dist l path 0⟩
            obtain ⟨j, q, -, e2⟩ := testsL_ext l path 0 u hu
            simp only [] at e
            rw [e2] at e
            have := congrArg List.length e
            simp at this
          · exact List.Pairwise.nil
theorem testsL_dist : ∀ (l : List Nd) (path : List Int) (i : Nat), (testsL l path i).Pairwise (fun a b => a.path ≠ b.path)
  | [], _, _ => by simp [testsL]
  | x :: l, path, i => by
    simp only [testsL]
    rw [List.pairwise_append]
    refine ⟨tests_dist x _, testsL_dist l path (i + 1), fun a ha b hb e => ?_⟩
    obtain ⟨q, e1⟩ := tests_ext x _ a ha
    obtain ⟨j, q2, hj, e2⟩ := testsL_ext l path (i + 1) b hb
    rw [e1, e2] at e
    simp at e
    omega
end

theorem rows_dist {l : List Nd} {i : Nat} : DistR (rowsOf l i) := by
  intro r hr
  obtain ⟨x, -, e⟩ := rowsOf_mem hr
  rw [e]
  exact tests_dist x []

theorem rows_arm : ∀ {l : List Nd} {i : Nat} {r : Row}, r ∈ rowsOf l i → -1 ≤ r.arm ∧ r.arm < (i + l.length : Nat)
  | [], i, r, h => by simp [rowsOf] at h
  | x :: l, i, r, h => by
    simp only [rowsOf, List.mem_cons] at h
    rcases h with rfl | h
    · simp only [List.length_cons]; omega
    · have := rows_arm h
      simp only [List.length_cons]; omega

/-- ArmsOnce, in plain words -/
theorem once_plain {l : List Nd} {x : Nd} {n : Nat} (hn : weight (rowsOf l 0) ≤ n) : OnceOk l.length x (buildT n (rowsOf l 0)) [] := by
  refine once_build _ x (by omega) n _ [] hn rows_dist (fun r _ t _ s hs => by cases hs) fun r hr => ?_
  have := rows_arm hr
  rw [Nat.zero_add] at this
  exact this
end Go.Rs.Seat
end
/- The law ArmsOnce: the walk. -/
section
namespace Go.Rs.Seat
open Go.Proofs Rg
set_option maxRecDepth 100000
set_option maxHeartbeats 16000000

def Inv3 (np : Nat) (id : Nat) (pv xa : AVal) (x : Nd) (H0 : Hp) (i : Nat) (T : Tree) (seen : List Tst) (st : St) : Prop :=
  st.1.n = 77 ∧ st.1.tm.get 5 = some pv ∧ st.1.tm.get 6 = some (.lptr 0 0) ∧ st.1.tm.get 7 = some (.ptr id 0) ∧ st.1.tm.get 9 = some (.int .i64 i) ∧ st.1.lv.get 0 = some [.int .i64 x.k, .int .i64 x.n, .str x.s, xa] ∧
    H0.next ≤ st.2.next ∧ st.2.next ≤ H0.next + i ∧ T.okT ∧ T.depth + i ≤ 100 ∧ OnceOk np x T seen ∧ seen.length = i ∧ (∀ s ∈ seen, s.path.length < 9000) ∧
    (∃ c0 c1 c2 c3 c4 c5 c6 c7 c8, st.2.get id = .cells [c0, c1, c2, c3, c4, c5, c6, c7, c8] ∧ IsTree T (.agg [c0, c1, c2, c3, c4, c5, c6, c7, c8])) ∧ (∀ j < 4, st.2.get j = hpT.get j) ∧
    ∃ sv, st.1.tm.get 8 = some sv ∧ IsTs sv seen ∧ Gr H0.next 5 sv st.2

theorem once3_step {k : Nat} {st : St} {np id : Nat} {pv xa : AVal} {x : Nd} {H0 : Hp} {i : Nat} {t : Tst} {y n : Tree} {seen : List Tst} (hpv : pv.oneCell = true) (hxa : IsL xa x.l) (hid : id < H0.next) (hid4 : 4 ≤ id) (hH : H0.next ≤ 3000)
    (h : Inv3 np id pv xa x H0 i (.node t y n) seen st) :
    Ev (env (ofSp spL)) (evalCall (env (ofSp spL)) (k + 4)) false 3 b3_0 st fun ex s => ex = .normal ∧ Inv3 np id pv xa x H0 (i + 1) (if holdsB t x then y else n) (seen ++ [t]) s := by
  obtain ⟨hn', h5, h6, h7, h9, hl0, hHn, hHs, hok, hdep, hon, hsl, hsp, ⟨c0, c1, c2, c3, c4, c5, c6, c7, c8, hid', a, ty, tn, vy, vn, he, ha, hy, hno⟩, hf4, sv, h8, hsv, hgs⟩ := h
  simp only [AVal.agg.injEq, List.cons.injEq, and_true] at he
  obtain ⟨rfl, rfl, rfl, rfl, rfl, rfl, rfl, rfl, rfl⟩ := he
  obtain ⟨hop, hoky, hokn⟩ := hok
  simp only [Tree.depth] at hdep
  simp only [OnceOk] at hon
  obtain ⟨hfresh, hrest⟩ := hon
  have hoa := ha.one
  have hosv := hgs.one
  have hoxa := hxa.one
  have hidm : id < 4096 := by omega
  -- is it seen?
  have hany : seen.any (fun u => sameT u t) = false := by
    rw [List.any_eq_false]
    intro u hu
    rw [hfresh u hu]; simp
  have e12 : evalCall (env (ofSp spL)) (k + 2 + 2) false 12 [sv, .func (.func 13) [] [.ptr id 0]] st.2 = _ := has12 (p := fun u => sameT u t) rfl rfl hsv (by omega) rfl (fun v u hv hu => clo13 (k := k) rfl rfl hv ha (hsp u hu) hid')
  rw [hany] at e12
  -- it is kept
  obtain ⟨sv', H1, eap, hsv', hgs', hx1, htok, hf1⟩ := app_gr' (P := IsT) (E := env (ofSp spL)) (T := 43) (e := 38) (sz := 5) (tk := .full) (m := [t]) (ys := [.agg [c2, .int .i64 t.k, .int .i64 t.n, .str t.s, .nilslice]]) (by rw [ty43]) (by rw [ty38]; decide) (by rw [ty38]) hgs hsv (AllP.cons ⟨c2, rfl, ha⟩ AllP.nil) (by simp) (by omega) hHn (by simp; omega)
  have hosv' := hgs'.one
  have hid1 : H1.get id = .cells [.bool false, .int .i64 0, c2, .int .i64 t.k, .int .i64 t.n, .str t.s, .nilslice, .list [vy] ty 9, .list [vn] tn 9] := by
    rw [hf1 id (by omega) (fun hh => ?_)]
    · exact hid'
    · rcases hgs with rfl | ⟨ws, u, rfl, k1, k2, k3⟩
      · cases hh
      · injection hh with hh; omega
  have e15 : evalCall (env (ofSp spL)) (k + 2 + 2) false 15 [.agg [c2, .int .i64 t.k, .int .i64 t.n, .str t.s, .nilslice], .agg [.int .i64 x.k, .int .i64 x.n, .str x.s, xa]] H1 = _ := holds15 rfl rfl ⟨c2, rfl, ha⟩ (isN_of hxa) hop
  obtain ⟨y0, y1, y2, y3, y4, y5, y6, y7, y8, rfl, p0, p1, p2, p3, p4, p5, p6, p7, p8⟩ := hy.cells
  obtain ⟨n0, n1, n2, n3, n4, n5, n6, n7, n8, rfl, q0, q1, q2, q3, q4, q5, q6, q7, q8⟩ := hno.cells
  have hlt : decide ((i : Int) < 200) = true := by simp; omega
  have hw : IntKind.i64.wrap ((i : Int) + 1) = ((i + 1 : Nat) : Int) := wrap_nat (by omega)
  have gG : ∀ o, (H1.set id o).get id = o := fun o => by rw [hget hidm, if_pos rfl]
  have hgk : ∀ o, Gr H0.next 5 sv' (H1.set id o) := fun o => hgs'.keep' (by rw [stN]; omega) fun j hj1 hj2 => by rw [hget hidm, if_neg (by omega)]
  have hkf : ∀ o, ∀ j < 4, (H1.set id o).get j = hpT.get j := fun o j hj => by
    rw [hget hidm, if_neg (by omega), hf1 j (by omega) (fun hh => ?_)]
    · exact hf4 j hj
    · rcases hgs with rfl | ⟨ws, u, rfl, k1, k2, k3⟩
      · cases hh
      · injection hh with hh; omega
  have hsp' : ∀ s ∈ seen ++ [t], s.path.length < 9000 := by
    intro u hu
    rcases List.mem_append.1 hu with hu | hu
    · exact hsp u hu
    · simp at hu; subst hu; exact hop
  rcases bool_split (holdsB t x) with c | c
  · rw [c] at e15
    rw [if_pos c] at hrest
    simp only [Ev, Inv3, b3_0, o3_11, o3_12, o3_13, o3_15, o3_16, o3_17, o3_18, o3_19, o3_21, hn', h5, h6, h7, h8, h9, hl0, hid', hid1, hlt, hw, e12, eap, e15, c, hpv, hoa, hosv, hoxa, hosv', p0, p1, p2, p3, p4, p5, p6, p7, p8, gG, evalCode, runOps, runD, runDraw, askOf, askRecs, askAll, isEff, muteOp, stepA, wantedA, isCall, target, evalOp, opMove, opPick, opAlloc, opBox, opBuild, opBuildSlice, opLoad, opStore, opNilCheck, opBinOp, opUnOp, opConvert, opMakeFunc, opMakeMap, opSlice, opFieldAddr, opField, opIndexAddr, opLookup, opExtract, opAppendB, opLenB, wrOf, newA, eqlA, keepA, newV, evT, toA, putA, loadA, storeA, takeCells, setCells, isAgg, binA, unA, convA, arith, addOff, dstLen, nilNil, isConst, sameTy, strOp, params, results, packA, AExit.leaves, maxTmp, memN, askIn, fillA, repl, groups, Option.getD, Option.map, List.length, List.all, Int.reduceBEq, Int.reduceBNe, Int.reduceEq, Int.reduceGT, Int.reduceGE, Int.reduceNeg, Int.reduceAdd, Int.reduceSub, Int.reduceLT, Int.reduceLE, Int.reduceToNat, Nat.reduceLT, Nat.reducePow, Nat.reduceAdd, Nat.reduceMul, Nat.reduceLeDiff, Nat.reduceEqDiff, Nat.reduceBEq, reduceIte, ↓reduceIte, reduceCtorEq, syT, tyT, Rg.regF, Rg.findR, pickOps, fT3, Tryz.f3]
    exact ⟨by omega, by omega, hoky, by omega, hrest, by simp [hsl], hsp', ⟨_, _, _, _, _, _, _, _, _, rfl, hy⟩, hkf _, hsv', hgk _⟩
  · rw [c] at e15
    rw [if_neg (by simp [c])] at hrest
    simp only [Ev, Inv3, b3_0, o3_11, o3_12, o3_13, o3_15, o3_16, o3_17, o3_19, o3_21, hn', h5, h6, h7, h8, h9, hl0, hid', hid1, hlt, hw, e12, eap, e15, c, hpv, hoa, hosv, hoxa, hosv', q0, q1, q2, q3, q4, q5, q6, q7, q8, gG, evalCode, runOps, runD, runDraw, askOf, askRecs, askAll, isEff, muteOp, stepA, wantedA, isCall, target, evalOp, opMove, opPick, opAlloc, opBox, opBuild, opBuildSlice, opLoad, opStore, opNilCheck, opBinOp, opUnOp, opConvert, opMakeFunc, opMakeMap, opSlice, opFieldAddr, opField, opIndexAddr, opLookup, opExtract, opAppendB, opLenB, wrOf, newA, eqlA, keepA, newV, evT, toA, putA, loadA, storeA, takeCells, setCells, isAgg, binA, unA, convA, arith, addOff, dstLen, nilNil, isConst, sameTy, strOp, params, results, packA, AExit.leaves, maxTmp, memN, askIn, fillA, repl, groups, Option.getD, Option.map, List.length, List.all, Int.reduceBEq, Int.reduceBNe, Int.reduceEq, Int.reduceGT, Int.reduceGE, Int.reduceNeg, Int.reduceAdd, Int.reduceSub, Int.reduceLT, Int.reduceLE, Int.reduceToNat, Nat.reduceLT, Nat.reducePow, Nat.reduceAdd, Nat.reduceMul, Nat.reduceLeDiff, Nat.reduceEqDiff, Nat.reduceBEq, reduceIte, ↓reduceIte, reduceCtorEq, syT, tyT, Rg.regF, Rg.findR, pickOps, fT3, Tryz.f3]
    exact ⟨by omega, by omega, hokn, by omega, hrest, by simp [hsl], hsp', ⟨_, _, _, _, _, _, _, _, _, rfl, hno⟩, hkf _, hsv', hgk _⟩

theorem once3_end {call : CallF} {st : St} {np id : Nat} {pv xa : AVal} {x : Nd} {H0 : Hp} {i : Nat} {arm : Int} {seen : List Tst} (hpv : pv.oneCell = true)
    (h : Inv3 np id pv xa x H0 i (.leaf arm) seen st) :
    Ev (env (ofSp spL)) call false 3 b3_0 st fun ex s => ex = .exit 0 ∧ s.1.n = 77 ∧ s.1.tm.get 5 = some pv ∧ s.1.tm.get 7 = some (.ptr id 0) ∧ s.2.get id = .cells [.bool true, .int .i64 arm, .nilslice, .int .i64 0, .int .i64 0, .str ⟨#[]⟩, .nilslice, .nilslice, .nilslice] ∧ -1 ≤ arm ∧ arm < np ∧ ∀ j < 4, s.2.get j = hpT.get j := by
  obtain ⟨hn', h5, h6, h7, h9, hl0, hHn, hHs, hok, hdep, hon, hsl, hsp, ⟨c0, c1, c2, c3, c4, c5, c6, c7, c8, hid', he⟩, hf4, sv, h8, hsv, hgs⟩ := h
  simp only [IsTree, AVal.agg.injEq, List.cons.injEq, and_true] at he
  obtain ⟨rfl, rfl, rfl, rfl, rfl, rfl, rfl, rfl, rfl⟩ := he
  simp only [OnceOk] at hon
  simp only [Ev, b3_0, o3_11, hn', h5, h6, h7, h8, h9, hl0, hid', evalCode, runOps, runD, runDraw, askOf, askRecs, askAll, isEff, muteOp, stepA, wantedA, isCall, target, evalOp, opMove, opPick, opAlloc, opBox, opBuild, opBuildSlice, opLoad, opStore, opNilCheck, opBinOp, opUnOp, opConvert, opMakeFunc, opMakeMap, opSlice, opFieldAddr, opField, opIndexAddr, opLookup, opExtract, opAppendB, opLenB, wrOf, newA, eqlA, keepA, newV, evT, toA, putA, loadA, storeA, takeCells, setCells, isAgg, binA, unA, convA, arith, addOff, dstLen, nilNil, isConst, sameTy, strOp, params, results, packA, AExit.leaves, maxTmp, memN, askIn, fillA, repl, groups, Option.getD, Option.map, List.length, List.all, Int.reduceBEq, Int.reduceBNe, Int.reduceEq, Int.reduceGT, Int.reduceGE, Int.reduceNeg, Int.reduceAdd, Int.reduceSub, Int.reduceLT, Int.reduceLE, Int.reduceToNat, Nat.reduceLT, Nat.reducePow, Nat.reduceAdd, Nat.reduceMul, Nat.reduceLeDiff, Nat.reduceEqDiff, Nat.reduceBEq, reduceIte, ↓reduceIte, reduceCtorEq, syT, tyT, Rg.regF, Rg.findR, pickOps, fT3, Tryz.f3]
  exact ⟨hon.1, hon.2, hf4⟩

theorem law3_walk {K : Nat} (hK : 400 ≤ K) {a b : AVal} {la lb : List Int} (ha : IsI a la) (hb : IsI b lb) :
    ∃ r, evalCall (env (ofSp spL)) (K + 1) false 3 [a, b] hpT = some r ∧ (r.1 = .bool true ∧ ∀ j < 4, r.2.get j = hpT.get j) := by
  obtain ⟨k, rfl⟩ : ∃ k, K = k + 3 := ⟨K - 3, by omega⟩
  have hoa := ha.one
  have hob := hb.one
  have e6 := call6 (k := k + 2)
  have e7a : evalCall (env (ofSp spL)) (k + 2 + 1) false 7 [a] hpT = _ := short7 rfl ha
  have e7b : evalCall (env (ofSp spL)) (k + 2 + 1) false 7 [b] hpT = _ := short7 rfl hb
  refine enter3 (Post := fun v H' => v = .bool true ∧ ∀ j < 4, H'.get j = hpT.get j) rfl rfl ?_
  unfold c3
  refine Ev.seqN (Q := fun s => s.1.n = 77 ∧ s.2 = hpT ∧ s.1.tm.get 0 = some a ∧ s.1.tm.get 1 = some b ∧ s.1.lv.next = 0) ?_ ?_
  · simp only [Ev, o3_0, hoa, hob, evalCode, runOps, runD, runDraw, askOf, askRecs, askAll, isEff, muteOp, stepA, wantedA, isCall, target, evalOp, opMove, opPick, opAlloc, opBox, opBuild, opBuildSlice, opLoad, opStore, opNilCheck, opBinOp, opUnOp, opConvert, opMakeFunc, opMakeMap, opSlice, opFieldAddr, opField, opIndexAddr, opLookup, opExtract, opAppendB, opLenB, wrOf, newA, eqlA, keepA, newV, evT, toA, putA, loadA, storeA, takeCells, setCells, isAgg, binA, unA, convA, arith, addOff, dstLen, nilNil, isConst, sameTy, strOp, params, results, packA, AExit.leaves, maxTmp, memN, askIn, fillA, repl, groups, Option.getD, Option.map, List.length, List.all, Int.reduceBEq, Int.reduceBNe, Int.reduceEq, Int.reduceGT, Int.reduceGE, Int.reduceNeg, Int.reduceAdd, Int.reduceSub, Int.reduceLT, Int.reduceLE, Int.reduceToNat, Nat.reduceLT, Nat.reducePow, Nat.reduceAdd, Nat.reduceMul, Nat.reduceLeDiff, Nat.reduceEqDiff, Nat.reduceBEq, reduceIte, ↓reduceIte, reduceCtorEq, syT, tyT, Rg.regF, Rg.findR, pickOps, fT3, Tryz.f3]
  rintro s ⟨a1, a2, a3, a4, a5⟩
  refine Ev.seqN (Q := fun s => s.1.n = 77 ∧ s.2 = hpT ∧ s.1.tm.get 0 = some a ∧ s.1.tm.get 1 = some b ∧ s.1.lv.next = 0) ?_ ?_
  · simp only [Ev, o3_1, a1, a2, a3, a4, a5, e6, hoa, hob, evalCode, runOps, runD, runDraw, askOf, askRecs, askAll, isEff, muteOp, stepA, wantedA, isCall, target, evalOp, opMove, opPick, opAlloc, opBox, opBuild, opBuildSlice, opLoad, opStore, opNilCheck, opBinOp, opUnOp, opConvert, opMakeFunc, opMakeMap, opSlice, opFieldAddr, opField, opIndexAddr, opLookup, opExtract, opAppendB, opLenB, wrOf, newA, eqlA, keepA, newV, evT, toA, putA, loadA, storeA, takeCells, setCells, isAgg, binA, unA, convA, arith, addOff, dstLen, nilNil, isConst, sameTy, strOp, params, results, packA, AExit.leaves, maxTmp, memN, askIn, fillA, repl, groups, Option.getD, Option.map, List.length, List.all, Int.reduceBEq, Int.reduceBNe, Int.reduceEq, Int.reduceGT, Int.reduceGE, Int.reduceNeg, Int.reduceAdd, Int.reduceSub, Int.reduceLT, Int.reduceLE, Int.reduceToNat, Nat.reduceLT, Nat.reducePow, Nat.reduceAdd, Nat.reduceMul, Nat.reduceLeDiff, Nat.reduceEqDiff, Nat.reduceBEq, reduceIte, ↓reduceIte, reduceCtorEq, syT, tyT, Rg.regF, Rg.findR, pickOps, fT3, Tryz.f3]
  clear a1 a2 a3 a4 a5
  rintro s ⟨a1, a2, a3, a4, a5⟩
  by_cases hla0 : 300 < la.length
  · have c : decide ((la.length : Int) ≤ 300) = false := by simp; omega
    rw [c] at e7a
    refine Ev.seq (Q := fun ex s => ex = .ret ∧ s.1.tm.get 4 = some (.bool true) ∧ s.2 = hpT) ?_ (fun s h => by cases h.1) ?_
    · simp only [Ev, o3_3, o3_4, a1, a2, a3, a4, a5, e7a, hoa, hob, evalCode, runOps, runD, runDraw, askOf, askRecs, askAll, isEff, muteOp, stepA, wantedA, isCall, target, evalOp, opMove, opPick, opAlloc, opBox, opBuild, opBuildSlice, opLoad, opStore, opNilCheck, opBinOp, opUnOp, opConvert, opMakeFunc, opMakeMap, opSlice, opFieldAddr, opField, opIndexAddr, opLookup, opExtract, opAppendB, opLenB, wrOf, newA, eqlA, keepA, newV, evT, toA, putA, loadA, storeA, takeCells, setCells, isAgg, binA, unA, convA, arith, addOff, dstLen, nilNil, isConst, sameTy, strOp, params, results, packA, AExit.leaves, maxTmp, memN, askIn, fillA, repl, groups, Option.getD, Option.map, List.length, List.all, Int.reduceBEq, Int.reduceBNe, Int.reduceEq, Int.reduceGT, Int.reduceGE, Int.reduceNeg, Int.reduceAdd, Int.reduceSub, Int.reduceLT, Int.reduceLE, Int.reduceToNat, Nat.reduceLT, Nat.reducePow, Nat.reduceAdd, Nat.reduceMul, Nat.reduceLeDiff, Nat.reduceEqDiff, Nat.reduceBEq, reduceIte, ↓reduceIte, reduceCtorEq, syT, tyT, Rg.regF, Rg.findR, pickOps, fT3, Tryz.f3]
    · rintro ex s hne ⟨rfl, h4, h5⟩
      simp only [h4, evalCode, runOps, runD, runDraw, askOf, askRecs, askAll, isEff, muteOp, stepA, wantedA, isCall, target, evalOp, opMove, opPick, opAlloc, opBox, opBuild, opBuildSlice, opLoad, opStore, opNilCheck, opBinOp, opUnOp, opConvert, opMakeFunc, opMakeMap, opSlice, opFieldAddr, opField, opIndexAddr, opLookup, opExtract, opAppendB, opLenB, wrOf, newA, eqlA, keepA, newV, evT, toA, putA, loadA, storeA, takeCells, setCells, isAgg, binA, unA, convA, arith, addOff, dstLen, nilNil, isConst, sameTy, strOp, params, results, packA, AExit.leaves, maxTmp, memN, askIn, fillA, repl, groups, Option.getD, Option.map, List.length, List.all, Int.reduceBEq, Int.reduceBNe, Int.reduceEq, Int.reduceGT, Int.reduceGE, Int.reduceNeg, Int.reduceAdd, Int.reduceSub, Int.reduceLT, Int.reduceLE, Int.reduceToNat, Nat.reduceLT, Nat.reducePow, Nat.reduceAdd, Nat.reduceMul, Nat.reduceLeDiff, Nat.reduceEqDiff, Nat.reduceBEq, reduceIte, ↓reduceIte, reduceCtorEq, syT, tyT, Rg.regF, Rg.findR, pickOps, fT3, Tryz.f3]
      exact fun j _ => by rw [h5]
  have hla : la.length ≤ 300 := by omega
  have ca : decide ((la.length : Int) ≤ 300) = true := by simp; omega
  rw [ca] at e7a
  by_cases hlb0 : 300 < lb.length
  · have c : decide ((lb.length : Int) ≤ 300) = false := by simp; omega
    rw [c] at e7b
    refine Ev.seq (Q := fun ex s => ex = .ret ∧ s.1.tm.get 4 = some (.bool true) ∧ s.2 = hpT) ?_ (fun s h => by cases h.1) ?_
    · simp only [Ev, o3_3, o3_4, a1, a2, a3, a4, a5, e7a, e7b, hoa, hob, evalCode, runOps, runD, runDraw, askOf, askRecs, askAll, isEff, muteOp, stepA, wantedA, isCall, target, evalOp, opMove, opPick, opAlloc, opBox, opBuild, opBuildSlice, opLoad, opStore, opNilCheck, opBinOp, opUnOp, opConvert, opMakeFunc, opMakeMap, opSlice, opFieldAddr, opField, opIndexAddr, opLookup, opExtract, opAppendB, opLenB, wrOf, newA, eqlA, keepA, newV, evT, toA, putA, loadA, storeA, takeCells, setCells, isAgg, binA, unA, convA, arith, addOff, dstLen, nilNil, isConst, sameTy, strOp, params, results, packA, AExit.leaves, maxTmp, memN, askIn, fillA, repl, groups, Option.getD, Option.map, List.length, List.all, Int.reduceBEq, Int.reduceBNe, Int.reduceEq, Int.reduceGT, Int.reduceGE, Int.reduceNeg, Int.reduceAdd, Int.reduceSub, Int.reduceLT, Int.reduceLE, Int.reduceToNat, Nat.reduceLT, Nat.reducePow, Nat.reduceAdd, Nat.reduceMul, Nat.reduceLeDiff, Nat.reduceEqDiff, Nat.reduceBEq, reduceIte, ↓reduceIte, reduceCtorEq, syT, tyT, Rg.regF, Rg.findR, pickOps, fT3, Tryz.f3]
    · rintro ex s hne ⟨rfl, h4, h5⟩
      simp only [h4, evalCode, runOps, runD, runDraw, askOf, askRecs, askAll, isEff, muteOp, stepA, wantedA, isCall, target, evalOp, opMove, opPick, opAlloc, opBox, opBuild, opBuildSlice, opLoad, opStore, opNilCheck, opBinOp, opUnOp, opConvert, opMakeFunc, opMakeMap, opSlice, opFieldAddr, opField, opIndexAddr, opLookup, opExtract, opAppendB, opLenB, wrOf, newA, eqlA, keepA, newV, evT, toA, putA, loadA, storeA, takeCells, setCells, isAgg, binA, unA, convA, arith, addOff, dstLen, nilNil, isConst, sameTy, strOp, params, results, packA, AExit.leaves, maxTmp, memN, askIn, fillA, repl, groups, Option.getD, Option.map, List.length, List.all, Int.reduceBEq, Int.reduceBNe, Int.reduceEq, Int.reduceGT, Int.reduceGE, Int.reduceNeg, Int.reduceAdd, Int.reduceSub, Int.reduceLT, Int.reduceLE, Int.reduceToNat, Nat.reduceLT, Nat.reducePow, Nat.reduceAdd, Nat.reduceMul, Nat.reduceLeDiff, Nat.reduceEqDiff, Nat.reduceBEq, reduceIte, ↓reduceIte, reduceCtorEq, syT, tyT, Rg.regF, Rg.findR, pickOps, fT3, Tryz.f3]
      exact fun j _ => by rw [h5]
  have hlb : lb.length ≤ 300 := by omega
  have cb : decide ((lb.length : Int) ≤ 300) = true := by simp; omega
  rw [cb] at e7b
  refine Ev.seqN (Q := fun s => s.1.n = 77 ∧ s.2 = hpT ∧ s.1.tm.get 0 = some a ∧ s.1.tm.get 1 = some b ∧ s.1.lv.next = 0) ?_ ?_
  · simp only [Ev, o3_3, a1, a2, a3, a4, a5, e7a, e7b, hoa, hob, evalCode, runOps, runD, runDraw, askOf, askRecs, askAll, isEff, muteOp, stepA, wantedA, isCall, target, evalOp, opMove, opPick, opAlloc, opBox, opBuild, opBuildSlice, opLoad, opStore, opNilCheck, opBinOp, opUnOp, opConvert, opMakeFunc, opMakeMap, opSlice, opFieldAddr, opField, opIndexAddr, opLookup, opExtract, opAppendB, opLenB, wrOf, newA, eqlA, keepA, newV, evT, toA, putA, loadA, storeA, takeCells, setCells, isAgg, binA, unA, convA, arith, addOff, dstLen, nilNil, isConst, sameTy, strOp, params, results, packA, AExit.leaves, maxTmp, memN, askIn, fillA, repl, groups, Option.getD, Option.map, List.length, List.all, Int.reduceBEq, Int.reduceBNe, Int.reduceEq, Int.reduceGT, Int.reduceGE, Int.reduceNeg, Int.reduceAdd, Int.reduceSub, Int.reduceLT, Int.reduceLE, Int.reduceToNat, Nat.reduceLT, Nat.reducePow, Nat.reduceAdd, Nat.reduceMul, Nat.reduceLeDiff, Nat.reduceEqDiff, Nat.reduceBEq, reduceIte, ↓reduceIte, reduceCtorEq, syT, tyT, Rg.regF, Rg.findR, pickOps, fT3, Tryz.f3]
  clear a1 a2 a3 a4 a5
  rintro s ⟨a1, a2, a3, a4, a5⟩
  -- the patterns and the value
  obtain ⟨pv, ps, H1, e8, hps, hwf, hsz, hpl, hn1, hn2, hf1⟩ := pats8 plainD (k := k + 2) (H := hpT) ha hla (by omega) (by decide)
  have hopv := hps.one
  rw [hpT_next] at hn1 hn2 hf1
  have hst : ∃ b', b.strip = b' ∧ IsI b' lb ∧ b'.oneCell = true := by
    rcases hb with ⟨rfl, h⟩ | ⟨t, rfl⟩
    · exact ⟨_, rfl, .inl ⟨rfl, h⟩, rfl⟩
    · exact ⟨_, rfl, .inr ⟨.none, rfl⟩, rfl⟩
  obtain ⟨b', hst, hb', hob'⟩ := hst
  have hH1 : H1.next < 4096 := by omega
  have hH1' : (H1.next < 4096) = True := by simp [hH1]
  obtain ⟨K1, hKe, hKn, hKd, hKf⟩ : ∃ K, K = (H1.alloc (.cells [b', .int .i64 0, .bool false])).2 ∧ K.next = H1.next + 1 ∧ Dice K H1.next 0 ∧ ∀ j < 4, K.get j = H1.get j :=
    ⟨_, rfl, rfl, ⟨b', lb, false, by rw [hnew hH1, if_pos rfl]; rfl, hb', hlb⟩, fun j hj => by rw [hnew hH1, if_neg (by omega)]⟩
  have hsz4 : szD 4 = 31 := rfl
  obtain ⟨xv, x, H2, e9, hx, hxs, hm1, hm2, -, hfr2⟩ := leaf9 plainD 4 (k + 3) (by omega) H1.next 0 K1 hKd (by omega) (by omega) (by omega)
  have hf2 : ∀ j < 4, H2.get j = hpT.get j := fun j hj => by rw [hfr2 j (by omega) (by omega), hKf j hj, hf1 j hj]
  have nc4' : ((4 : Nat) : Int) = 4 := rfl
  rw [nc4'] at e9
  rw [hsz4] at hxs hm2
  have hxsame := hx.same
  have hN := hx
  obtain ⟨xa, rfl, hxa⟩ := hx.cells
  have hoxa := hxa.one
  refine Ev.seqN (Q := fun s => s.1.n = 77 ∧ s.2 = H2 ∧ s.1.tm.get 5 = some pv ∧ s.1.tm.get 6 = some (.lptr 0 0) ∧ s.1.lv.get 0 = some [.int .i64 x.k, .int .i64 x.n, .str x.s, xa]) ?_ ?_
  · simp only [Ev, o3_5, a1, a2, a3, a4, a5, e8, hopv, hoa, hob, hst, hob', hH1', ← hKe, e9, hoxa, evalCode, runOps, runD, runDraw, askOf, askRecs, askAll, isEff, muteOp, stepA, wantedA, isCall, target, evalOp, opMove, opPick, opAlloc, opBox, opBuild, opBuildSlice, opLoad, opStore, opNilCheck, opBinOp, opUnOp, opConvert, opMakeFunc, opMakeMap, opSlice, opFieldAddr, opField, opIndexAddr, opLookup, opExtract, opAppendB, opLenB, wrOf, newA, eqlA, keepA, newV, evT, toA, putA, loadA, storeA, takeCells, setCells, isAgg, binA, unA, convA, arith, addOff, dstLen, nilNil, isConst, sameTy, strOp, params, results, packA, AExit.leaves, maxTmp, memN, askIn, fillA, repl, groups, Option.getD, Option.map, List.length, List.all, Int.reduceBEq, Int.reduceBNe, Int.reduceEq, Int.reduceGT, Int.reduceGE, Int.reduceNeg, Int.reduceAdd, Int.reduceSub, Int.reduceLT, Int.reduceLE, Int.reduceToNat, Nat.reduceLT, Nat.reducePow, Nat.reduceAdd, Nat.reduceMul, Nat.reduceLeDiff, Nat.reduceEqDiff, Nat.reduceBEq, reduceIte, ↓reduceIte, reduceCtorEq, syT, tyT, Rg.regF, Rg.findR, pickOps, fT3, Tryz.f3]
  clear a1 a2 a3 a4 a5 e6 e7a e7b e8 e9
  rintro s ⟨a1, a2, a3, a4, a5⟩
  have hps5 := sizes_len ps
  have e10 : evalCall (env (ofSp spL)) (k + 3) false 10 [pv] H2 = _ := ask10 rfl _ ps (Nat.le_refl _) (k + 3) (by omega) pv H2 hps (by omega)
  rcases bool_split (decide ((Nd.askL ps : Int) > 16)) with c | c
  · refine Ev.seq (Q := fun ex s => ex = .ret ∧ s.1.tm.get 4 = some (.bool true) ∧ s.2 = H2) ?_ (fun s h => by cases h.1) ?_
    · simp only [Ev, o3_6, o3_7, a1, a2, a3, a4, a5, e10, hopv, c, evalCode, runOps, runD, runDraw, askOf, askRecs, askAll, isEff, muteOp, stepA, wantedA, isCall, target, evalOp, opMove, opPick, opAlloc, opBox, opBuild, opBuildSlice, opLoad, opStore, opNilCheck, opBinOp, opUnOp, opConvert, opMakeFunc, opMakeMap, opSlice, opFieldAddr, opField, opIndexAddr, opLookup, opExtract, opAppendB, opLenB, wrOf, newA, eqlA, keepA, newV, evT, toA, putA, loadA, storeA, takeCells, setCells, isAgg, binA, unA, convA, arith, addOff, dstLen, nilNil, isConst, sameTy, strOp, params, results, packA, AExit.leaves, maxTmp, memN, askIn, fillA, repl, groups, Option.getD, Option.map, List.length, List.all, Int.reduceBEq, Int.reduceBNe, Int.reduceEq, Int.reduceGT, Int.reduceGE, Int.reduceNeg, Int.reduceAdd, Int.reduceSub, Int.reduceLT, Int.reduceLE, Int.reduceToNat, Nat.reduceLT, Nat.reducePow, Nat.reduceAdd, Nat.reduceMul, Nat.reduceLeDiff, Nat.reduceEqDiff, Nat.reduceBEq, reduceIte, ↓reduceIte, reduceCtorEq, syT, tyT, Rg.regF, Rg.findR, pickOps, fT3, Tryz.f3]
    · rintro ex s hne ⟨rfl, h4, h5⟩
      simp only [h4, evalCode, runOps, runD, runDraw, askOf, askRecs, askAll, isEff, muteOp, stepA, wantedA, isCall, target, evalOp, opMove, opPick, opAlloc, opBox, opBuild, opBuildSlice, opLoad, opStore, opNilCheck, opBinOp, opUnOp, opConvert, opMakeFunc, opMakeMap, opSlice, opFieldAddr, opField, opIndexAddr, opLookup, opExtract, opAppendB, opLenB, wrOf, newA, eqlA, keepA, newV, evT, toA, putA, loadA, storeA, takeCells, setCells, isAgg, binA, unA, convA, arith, addOff, dstLen, nilNil, isConst, sameTy, strOp, params, results, packA, AExit.leaves, maxTmp, memN, askIn, fillA, repl, groups, Option.getD, Option.map, List.length, List.all, Int.reduceBEq, Int.reduceBNe, Int.reduceEq, Int.reduceGT, Int.reduceGE, Int.reduceNeg, Int.reduceAdd, Int.reduceSub, Int.reduceLT, Int.reduceLE, Int.reduceToNat, Nat.reduceLT, Nat.reducePow, Nat.reduceAdd, Nat.reduceMul, Nat.reduceLeDiff, Nat.reduceEqDiff, Nat.reduceBEq, reduceIte, ↓reduceIte, reduceCtorEq, syT, tyT, Rg.regF, Rg.findR, pickOps, fT3, Tryz.f3]
      exact fun j hj => by rw [h5]; exact hf2 j hj
  refine Ev.seqN (Q := fun s => s.1.n = 77 ∧ s.2 = H2 ∧ s.1.tm.get 5 = some pv ∧ s.1.tm.get 6 = some (.lptr 0 0) ∧ s.1.lv.get 0 = some [.int .i64 x.k, .int .i64 x.n, .str x.s, xa]) ?_ ?_
  · simp only [Ev, o3_6, a1, a2, a3, a4, a5, e10, hopv, c, evalCode, runOps, runD, runDraw, askOf, askRecs, askAll, isEff, muteOp, stepA, wantedA, isCall, target, evalOp, opMove, opPick, opAlloc, opBox, opBuild, opBuildSlice, opLoad, opStore, opNilCheck, opBinOp, opUnOp, opConvert, opMakeFunc, opMakeMap, opSlice, opFieldAddr, opField, opIndexAddr, opLookup, opExtract, opAppendB, opLenB, wrOf, newA, eqlA, keepA, newV, evT, toA, putA, loadA, storeA, takeCells, setCells, isAgg, binA, unA, convA, arith, addOff, dstLen, nilNil, isConst, sameTy, strOp, params, results, packA, AExit.leaves, maxTmp, memN, askIn, fillA, repl, groups, Option.getD, Option.map, List.length, List.all, Int.reduceBEq, Int.reduceBNe, Int.reduceEq, Int.reduceGT, Int.reduceGE, Int.reduceNeg, Int.reduceAdd, Int.reduceSub, Int.reduceLT, Int.reduceLE, Int.reduceToNat, Nat.reduceLT, Nat.reducePow, Nat.reduceAdd, Nat.reduceMul, Nat.reduceLeDiff, Nat.reduceEqDiff, Nat.reduceBEq, reduceIte, ↓reduceIte, reduceCtorEq, syT, tyT, Rg.regF, Rg.findR, pickOps, fT3, Tryz.f3]
  clear a1 a2 a3 a4 a5 e10
  rintro s ⟨a1, a2, a3, a4, a5⟩
  -- the tree
  obtain ⟨tv, e11, htv⟩ := of11L (k := k + 2) (H := H2) hps hsz
  have hwr := weight_rows ps 0
  have honce : OnceOk ps.length x (buildT 199 (rowsOf ps 0)) [] := once_plain (by omega)
  have hokT : (buildT 199 (rowsOf ps 0)).okT := buildT_ok _ _ (rows_path (by omega))
  have hdT : (buildT 199 (rowsOf ps 0)).depth ≤ 16 := by
    have h1 := depth_tot 199 (rowsOf ps 0)
    have h2 := tot_asks ps 0
    have h3 : ¬ (Nd.askL ps : Int) > 16 := by simpa using c
    omega
  generalize hT : buildT 199 (rowsOf ps 0) = T at htv honce hokT hdT
  have htc := htv.cells
  obtain ⟨y0, y1, y2, y3, y4, y5, y6, y7, y8, rfl, p0, p1, p2, p3, p4, p5, p6, p7, p8⟩ := htc
  have hH2 : H2.next < 4096 := by omega
  have hH2' : (H2.next < 4096) = True := by simp [hH2]
  have gA : ∀ o, (H2.alloc o).2.get H2.next = o := fun o => by rw [hnew hH2, if_pos rfl]
  obtain ⟨K3, hK3, hK3n, hK3g, hK3f⟩ : ∃ K, K = ((H2.alloc (.cells [.bool false, .int .i64 0, .nilslice, .int .i64 0, .int .i64 0, .str ⟨#[]⟩, .nilslice, .nilslice, .nilslice])).2.set H2.next (.cells [y0, y1, y2, y3, y4, y5, y6, y7, y8])) ∧ K.next = H2.next + 1 ∧ K.get H2.next = .cells [y0, y1, y2, y3, y4, y5, y6, y7, y8] ∧ ∀ j < 4, K.get j = hpT.get j :=
    ⟨_, rfl, rfl, by rw [hget hH2, if_pos rfl], fun j hj => by rw [hget hH2, if_neg (by omega), hnew hH2, if_neg (by omega)]; exact hf2 j hj⟩
  refine Ev.seqN (Q := fun s => s.1.n = 77 ∧ s.2 = K3 ∧ s.1.tm.get 5 = some pv ∧ s.1.tm.get 6 = some (.lptr 0 0) ∧ s.1.tm.get 7 = some (.ptr H2.next 0) ∧ s.1.lv.get 0 = some [.int .i64 x.k, .int .i64 x.n, .str x.s, xa]) ?_ ?_
  · simp only [Ev, o3_8, a1, a2, a3, a4, a5, e11, hopv, hH2', gA, ← hK3, p0, p1, p2, p3, p4, p5, p6, p7, p8, evalCode, runOps, runD, runDraw, askOf, askRecs, askAll, isEff, muteOp, stepA, wantedA, isCall, target, evalOp, opMove, opPick, opAlloc, opBox, opBuild, opBuildSlice, opLoad, opStore, opNilCheck, opBinOp, opUnOp, opConvert, opMakeFunc, opMakeMap, opSlice, opFieldAddr, opField, opIndexAddr, opLookup, opExtract, opAppendB, opLenB, wrOf, newA, eqlA, keepA, newV, evT, toA, putA, loadA, storeA, takeCells, setCells, isAgg, binA, unA, convA, arith, addOff, dstLen, nilNil, isConst, sameTy, strOp, params, results, packA, AExit.leaves, maxTmp, memN, askIn, fillA, repl, groups, Option.getD, Option.map, List.length, List.all, Int.reduceBEq, Int.reduceBNe, Int.reduceEq, Int.reduceGT, Int.reduceGE, Int.reduceNeg, Int.reduceAdd, Int.reduceSub, Int.reduceLT, Int.reduceLE, Int.reduceToNat, Nat.reduceLT, Nat.reducePow, Nat.reduceAdd, Nat.reduceMul, Nat.reduceLeDiff, Nat.reduceEqDiff, Nat.reduceBEq, reduceIte, ↓reduceIte, reduceCtorEq, syT, tyT, Rg.regF, Rg.findR, pickOps, fT3, Tryz.f3]
  clear a1 a2 a3 a4 a5 e11
  rintro s ⟨a1, a2, a3, a4, a6, a5⟩
  refine Ev.seqN (Q := fun s => s.1.n = 77 ∧ s.2 = K3 ∧ s.1.tm.get 5 = some pv ∧ s.1.tm.get 6 = some (.lptr 0 0) ∧ s.1.tm.get 7 = some (.ptr H2.next 0) ∧ s.1.tm.get 8 = some .nilslice ∧ s.1.lv.get 0 = some [.int .i64 x.k, .int .i64 x.n, .str x.s, xa]) ?_ ?_
  · simp only [Ev, o3_9, a1, a2, a3, a4, a5, a6, evalCode, runOps, runD, runDraw, askOf, askRecs, askAll, isEff, muteOp, stepA, wantedA, isCall, target, evalOp, opMove, opPick, opAlloc, opBox, opBuild, opBuildSlice, opLoad, opStore, opNilCheck, opBinOp, opUnOp, opConvert, opMakeFunc, opMakeMap, opSlice, opFieldAddr, opField, opIndexAddr, opLookup, opExtract, opAppendB, opLenB, wrOf, newA, eqlA, keepA, newV, evT, toA, putA, loadA, storeA, takeCells, setCells, isAgg, binA, unA, convA, arith, addOff, dstLen, nilNil, isConst, sameTy, strOp, params, results, packA, AExit.leaves, maxTmp, memN, askIn, fillA, repl, groups, Option.getD, Option.map, List.length, List.all, Int.reduceBEq, Int.reduceBNe, Int.reduceEq, Int.reduceGT, Int.reduceGE, Int.reduceNeg, Int.reduceAdd, Int.reduceSub, Int.reduceLT, Int.reduceLE, Int.reduceToNat, Nat.reduceLT, Nat.reducePow, Nat.reduceAdd, Nat.reduceMul, Nat.reduceLeDiff, Nat.reduceEqDiff, Nat.reduceBEq, reduceIte, ↓reduceIte, reduceCtorEq, syT, tyT, Rg.regF, Rg.findR, pickOps, fT3, Tryz.f3]
  clear a1 a2 a3 a4 a5 a6
  rintro s ⟨a1, a2, a3, a4, a6, a7, a5⟩
  refine Ev.seqN (Q := fun s => ∃ arm, s.1.n = 77 ∧ s.1.tm.get 5 = some pv ∧ s.1.tm.get 7 = some (.ptr H2.next 0) ∧ s.2.get H2.next = .cells [.bool true, .int .i64 arm, .nilslice, .int .i64 0, .int .i64 0, .str ⟨#[]⟩, .nilslice, .nilslice, .nilslice] ∧ -1 ≤ arm ∧ arm < ps.length ∧ ∀ j < 4, s.2.get j = hpT.get j) ?_ ?_
  · refine Ev.seqN (Q := fun s => Inv3 ps.length H2.next pv xa x K3 0 T [] s) ?_ ?_
    · simp only [Ev, Inv3, o3_10, a1, a2, a3, a4, a5, a6, a7, evalCode, runOps, runD, runDraw, askOf, askRecs, askAll, isEff, muteOp, stepA, wantedA, isCall, target, evalOp, opMove, opPick, opAlloc, opBox, opBuild, opBuildSlice, opLoad, opStore, opNilCheck, opBinOp, opUnOp, opConvert, opMakeFunc, opMakeMap, opSlice, opFieldAddr, opField, opIndexAddr, opLookup, opExtract, opAppendB, opLenB, wrOf, newA, eqlA, keepA, newV, evT, toA, putA, loadA, storeA, takeCells, setCells, isAgg, binA, unA, convA, arith, addOff, dstLen, nilNil, isConst, sameTy, strOp, params, results, packA, AExit.leaves, maxTmp, memN, askIn, fillA, repl, groups, Option.getD, Option.map, List.length, List.all, Int.reduceBEq, Int.reduceBNe, Int.reduceEq, Int.reduceGT, Int.reduceGE, Int.reduceNeg, Int.reduceAdd, Int.reduceSub, Int.reduceLT, Int.reduceLE, Int.reduceToNat, Nat.reduceLT, Nat.reducePow, Nat.reduceAdd, Nat.reduceMul, Nat.reduceLeDiff, Nat.reduceEqDiff, Nat.reduceBEq, reduceIte, ↓reduceIte, reduceCtorEq, syT, tyT, Rg.regF, Rg.findR, pickOps, fT3, Tryz.f3]
      exact ⟨Nat.le_refl _, hokT, by omega, honce, by simp, ⟨_, _, _, _, _, _, _, _, _, hK3g, htv⟩, hK3f, .inl ⟨rfl, rfl⟩, .nil⟩
    intro s hs'
    refine Ev.block (Ev.loop (Inv := fun i s => ∃ T seen, Inv3 ps.length H2.next pv xa x K3 i T seen s) 100 (by omega) ⟨T, [], hs'⟩ fun i st hi hle => ?_)
    obtain ⟨T', seen, hi⟩ := hi
    cases T' with
    | leaf arm =>
      refine (once3_end hopv hi).mono fun ex s h => .inr ⟨by rw [h.1]; simp, by rw [h.1]; rfl, arm, h.2⟩
    | node t y n =>
      have hdep : (Tree.node t y n).depth + i ≤ 100 := hi.2.2.2.2.2.2.2.2.2.1
      simp only [Tree.depth] at hdep
      obtain ⟨k', rfl⟩ : ∃ k', k = k' + 1 := ⟨k - 1, by omega⟩
      refine (once3_step (k := k') hopv hxa (by omega) (by omega) (by omega) hi).mono fun ex s h => .inl ⟨h.1, by omega, _, _, h.2⟩
  clear a1 a2 a3 a4 a5 a6 a7
  rintro s ⟨arm, a1, a3, a4, a5, a6, a7, a8⟩
  have c1 : decide (arm ≥ -1) = true := by simp; omega
  have c2 : decide (arm < (ps.length : Int)) = true := by simp; omega
  have hlp := hps.len
  simp only [Ev, o3_22, a1, a3, a4, a5, c1, c2, ↓hlp, hopv, evalCode, runOps, runD, runDraw, askOf, askRecs, askAll, isEff, muteOp, stepA, wantedA, isCall, target, evalOp, opMove, opPick, opAlloc, opBox, opBuild, opBuildSlice, opLoad, opStore, opNilCheck, opBinOp, opUnOp, opConvert, opMakeFunc, opMakeMap, opSlice, opFieldAddr, opField, opIndexAddr, opLookup, opExtract, opAppendB, opLenB, wrOf, newA, eqlA, keepA, newV, evT, toA, putA, loadA, storeA, takeCells, setCells, isAgg, binA, unA, convA, arith, addOff, dstLen, nilNil, isConst, sameTy, strOp, params, results, packA, AExit.leaves, maxTmp, memN, askIn, fillA, repl, groups, Option.getD, Option.map, List.length, List.all, Int.reduceBEq, Int.reduceBNe, Int.reduceEq, Int.reduceGT, Int.reduceGE, Int.reduceNeg, Int.reduceAdd, Int.reduceSub, Int.reduceLT, Int.reduceLE, Int.reduceToNat, Nat.reduceLT, Nat.reducePow, Nat.reduceAdd, Nat.reduceMul, Nat.reduceLeDiff, Nat.reduceEqDiff, Nat.reduceBEq, reduceIte, ↓reduceIte, reduceCtorEq, syT, tyT, Rg.regF, Rg.findR, pickOps, fT3, Tryz.f3]
  exact a8
end Go.Rs.Seat
end
