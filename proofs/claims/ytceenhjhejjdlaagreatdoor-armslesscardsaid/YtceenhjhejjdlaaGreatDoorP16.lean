/- The law ArmsPick: the walk. -/
import Derived.Test.YtceenhjhejjdlaaGreatDoorP15
import Derived.Test.YtceenhjhejjdlaaGreatDoorP09
set_option linter.unusedSimpArgs false
set_option linter.unusedVariables false
section
namespace Go.Rs.Seat
open Go.Proofs Rg
set_option maxRecDepth 100000
set_option maxHeartbeats 16000000

/-- the laws' tables -/
noncomputable def spM : Sp := [(29, recS 200)]
theorem spM_ok : SpOk spM := .cons (recS_ok 200) .nil
noncomputable def spL : Sp := [(6, memo [] (.bool true)), (11, pureS 4 (evalCall (env (ofSp spM)) 300 false 11)), (18, pureS 4 (evalCall (env (ofSp [])) 300 false 18))]
theorem spL_ok : SpOk spL := .cons awake_ok (.cons (pureS_ok (globs _) (by decide) (call_ok (toldSp spM_ok) 300 false 11)) (.cons (pureS_ok (globs _) (by decide) (call_ok (toldSp .nil) 300 false 18)) .nil))

theorem plainD : PlainD (ofSp spL) := ⟨rfl, rfl, rfl, rfl, rfl, rfl⟩

theorem tabs_hpT : tabsLe hpT hpT 4 = true := by kernel_rfl

theorem call6 {k : Nat} : evalCall (env (ofSp spL)) (k + 1) false 6 [] hpT = some (.bool true, hpT) := by
  rw [call_tab (s := memo [] (.bool true)) rfl]
  unfold memo
  have h1 : renAs nope false [] = some [] := rfl
  have h2 : sameAs [] [] = true := rfl
  rw [h1]
  simp only [h2, tabs_hpT, Bool.and_self, if_true]

theorem hpT_next : hpT.next = 4 := rfl

theorem weight_rows : ∀ (l : List Nd) (i : Nat), weight (rowsOf l i) ≤ Nd.sizes l + l.length
  | [], _ => by simp [rowsOf, weight]
  | x :: l, i => by
    have h1 := testsT_len x []
    have h2 := weight_rows l (i + 1)
    simp only [rowsOf, weight, Nd.sizes, List.length_cons]
    omega

mutual
theorem buildT_ok : ∀ (n : Nat) (rows : List Row), (∀ r ∈ rows, ∀ x ∈ r.ts, x.path.length < 9000) → (buildT n rows).okT
  | _, [], _ => by cases ‹Nat› <;> simp [buildT, Tree.okT]
  | 0, _ :: _, _ => by simp [buildT, Tree.okT]
  | n + 1, r :: l, h => by
    cases hts : r.ts with
    | nil => simp [buildT, hts, Tree.okT]
    | cons t ts =>
      simp only [buildT, hts, Tree.okT]
      refine ⟨h r (by simp) t (by rw [hts]; simp), buildT_ok n _ ?_, buildT_ok n _ ?_⟩
      · intro r' hr' x hx
        obtain ⟨r0, hr0, hy⟩ := List.mem_filterMap.1 hr'
        exact h r0 hr0 x ((yesRow_sub hy).2 x hx)
      · intro r' hr' x hx
        obtain ⟨r0, hr0, hy⟩ := List.mem_filterMap.1 hr'
        rw [noRow_sub hy] at hx
        exact h r0 hr0 x hx
end
theorem buildT_depth : ∀ (n : Nat) (rows : List Row), (buildT n rows).depth ≤ n
  | 0, [] => by simp [buildT, Tree.depth]
  | n + 1, [] => by simp [buildT, Tree.depth]
  | 0, _ :: _ => by simp [buildT, Tree.depth]
  | n + 1, r :: l => by
    cases hts : r.ts with
    | nil => simp [buildT, hts, Tree.depth]
    | cons t ts =>
      have h1 := buildT_depth n (yesRows t (r :: l))
      have h2 := buildT_depth n (noRows t (r :: l))
      simp only [buildT, hts, Tree.depth]
      omega
theorem rows_path {ps : List Nd} (h : Nd.sizes ps < 8000) : ∀ r ∈ rowsOf ps 0, ∀ x ∈ r.ts, x.path.length < 9000 := by
  intro r hr u hu
  obtain ⟨x, hx, e⟩ := rowsOf_mem hr
  obtain ⟨i, hi⟩ := List.mem_iff_getElem?.1 hx
  have hxm := size_mem hi
  rw [e] at hu
  have := testsT_path x [] u hu
  simp at this
  omega

theorem of11L {k : Nat} {a : AVal} {ps : List Nd} {H : Hp} (ha : IsL a ps) (hxs : Nd.sizes ps ≤ 90) :
    ∃ v, evalCall (env (ofSp spL)) (k + 1) false 11 [a] H = some (v, H) ∧ IsTree (buildT 199 (rowsOf ps 0)) v := by
  have h1 := weight_rows ps 0
  have h2 := sizes_len ps
  obtain ⟨a', ha1, ha2⟩ := IsL.ren _ _ ha
  obtain ⟨v, H', h3, h4, -, -⟩ := of11 (sp := ofSp spM) (k := 299) (N := 199) (H := ⟨.nil, 4⟩) rfl rfl rfl rfl ha2 (by omega) (by omega) (by show 4 + _ ≤ _; omega) (by omega)
  obtain ⟨v', h5, h6⟩ := IsTree.ren _ _ h4
  refine ⟨v', ?_, h6⟩
  rw [call_tab (s := pureS 4 (evalCall (env (ofSp spM)) 300 false 11)) rfl]
  exact pureS_eq (by simp only [renAs, ha1]) h3 h5 H

theorem first18L {k : Nat} {a v : AVal} {ps : List Nd} {x : Nd} {H : Hp} (ha : IsL a ps) (hx : IsN x v) (hxs : Nd.sizes ps ≤ 90) (hpl : ps.length ≤ 6) (hxz : x.size ≤ 31) :
    ∃ r, evalCall (env (ofSp spL)) (k + 1) false 18 [a, v] H = some (.tuple [.int .i64 (idxI (bindB · x) ps), r], H) ∧ r.oneCell = true := by
  obtain ⟨a', ha1, ha2⟩ := IsL.ren _ _ ha
  obtain ⟨w, hw1, hw2⟩ := IsN.ren hx
  have hmul : ps.length * x.size ≤ 6 * 31 := Nat.mul_le_mul hpl hxz
  have hp9 : Plain9 (ofSp []) := ⟨rfl, rfl, rfl, rfl, rfl, rfl⟩
  obtain ⟨r, H', h3, ⟨lo, h4⟩, -⟩ := first18 hp9 rfl (K := 299) (H := ⟨.nil, 4⟩) ha2 hw2 (by omega) (by omega) (by show 4 + _ + _ ≤ _; omega)
  obtain ⟨r', h5, h6⟩ := IsL.ren _ _ h4
  refine ⟨r', ?_, h6.one⟩
  rw [call_tab (s := pureS 4 (evalCall (env (ofSp [])) 300 false 18)) rfl]
  exact pureS_eq (by simp only [renAs, ha1, hw1]) h3 (by simp only [renA, renAs, h5]) H

theorem pick17L {k : Nat} {a b : AVal} {ps : List Nd} {v : Nd} {H : Hp} (ht : IsTree (buildT 199 (rowsOf ps 0)) a) (hv : IsN v b) (hxs : Nd.sizes ps ≤ 90) :
    evalCall (env (ofSp spL)) (k + 3) false 17 [a, b] H = some (.tuple [.int .i64 (pickT (buildT 199 (rowsOf ps 0)) v).1, .int .i64 (pickT (buildT 199 (rowsOf ps 0)) v).2], H) :=
  pick17 rfl rfl rfl ht hv (buildT_ok _ _ (rows_path (by omega))) (by have := buildT_depth 199 (rowsOf ps 0); omega)

/-- the one pattern 3 -/
theorem one_pick : pickT (buildT 199 (rowsOf [.mk 3 3 ⟨#[]⟩ []] 0)) (.mk 2 3 ⟨#[]⟩ []) = (0, 1) := by
  have h1 : rowsOf [.mk 3 3 ⟨#[]⟩ []] 0 = [⟨0, [⟨[], 3, 3, ⟨#[]⟩⟩]⟩] := rfl
  have h2 : yesRows ⟨[], 3, 3, ⟨#[]⟩⟩ [⟨0, [⟨[], 3, 3, ⟨#[]⟩⟩]⟩] = [⟨0, []⟩] := by
    have e : yesRow ⟨[], 3, 3, ⟨#[]⟩⟩ ⟨0, [⟨[], 3, 3, ⟨#[]⟩⟩]⟩ = some ⟨0, []⟩ := by unfold yesRow; rw [first_has]; rfl
    unfold yesRows
    rw [List.filterMap_cons, e]
    rfl
  have h3 : holdsB ⟨[], 3, 3, ⟨#[]⟩⟩ (.mk 2 3 ⟨#[]⟩ []) = true := rfl
  rw [h1]
  simp only [buildT, h2, pickT, h3, if_true]

theorem law5_walk {K : Nat} (hK : 400 ≤ K) {a b : AVal} {la lb : List Int} (ha : IsI a la) (hb : IsI b lb) :
    ∃ r, evalCall (env (ofSp spL)) (K + 1) false 5 [a, b] hpT = some r ∧ (r.1 = .bool true ∧ ∀ j < 4, r.2.get j = hpT.get j) := by
  obtain ⟨k, rfl⟩ : ∃ k, K = k + 3 := ⟨K - 3, by omega⟩
  have hoa := ha.one
  have hob := hb.one
  have e6 := call6 (k := k + 2)
  have e7a : evalCall (env (ofSp spL)) (k + 2 + 1) false 7 [a] hpT = _ := short7 rfl ha
  have e7b : evalCall (env (ofSp spL)) (k + 2 + 1) false 7 [b] hpT = _ := short7 rfl hb
  refine enter5 (Post := fun v H' => v = .bool true ∧ ∀ j < 4, H'.get j = hpT.get j) rfl rfl ?_
  unfold c5
  refine Ev.seqN (Q := fun s => s.1.n = 68 ∧ s.2 = hpT ∧ s.1.tm.get 0 = some a ∧ s.1.tm.get 1 = some b ∧ s.1.lv.next = 0) ?_ ?_
  · simp only [Ev, o5_0, hoa, hob, evalCode, runOps, runD, runDraw, askOf, askRecs, askAll, isEff, muteOp, stepA, wantedA, isCall, target, evalOp, opMove, opPick, opAlloc, opBox, opBuild, opBuildSlice, opLoad, opStore, opNilCheck, opBinOp, opUnOp, opConvert, opMakeFunc, opMakeMap, opSlice, opFieldAddr, opField, opIndexAddr, opLookup, opExtract, opAppendB, opLenB, wrOf, newA, eqlA, keepA, newV, evT, toA, putA, loadA, storeA, takeCells, setCells, isAgg, binA, unA, convA, arith, addOff, dstLen, nilNil, isConst, sameTy, strOp, params, results, packA, AExit.leaves, maxTmp, memN, askIn, fillA, repl, groups, Option.getD, Option.map, List.length, List.all, Int.reduceBEq, Int.reduceBNe, Int.reduceEq, Int.reduceGT, Int.reduceGE, Int.reduceNeg, Int.reduceAdd, Int.reduceSub, Int.reduceLT, Int.reduceLE, Int.reduceToNat, Nat.reduceLT, Nat.reducePow, Nat.reduceAdd, Nat.reduceMul, Nat.reduceLeDiff, Nat.reduceEqDiff, Nat.reduceBEq, reduceIte, ↓reduceIte, reduceCtorEq, syT, tyT, Rg.regF, Rg.findR, pickOps, fT5, Tryz.f5]
  rintro s ⟨a1, a2, a3, a4, a5⟩
  refine Ev.seqN (Q := fun s => s.1.n = 68 ∧ s.2 = hpT ∧ s.1.tm.get 0 = some a ∧ s.1.tm.get 1 = some b ∧ s.1.lv.next = 0) ?_ ?_
  · simp only [Ev, o5_1, a1, a2, a3, a4, a5, e6, hoa, hob, evalCode, runOps, runD, runDraw, askOf, askRecs, askAll, isEff, muteOp, stepA, wantedA, isCall, target, evalOp, opMove, opPick, opAlloc, opBox, opBuild, opBuildSlice, opLoad, opStore, opNilCheck, opBinOp, opUnOp, opConvert, opMakeFunc, opMakeMap, opSlice, opFieldAddr, opField, opIndexAddr, opLookup, opExtract, opAppendB, opLenB, wrOf, newA, eqlA, keepA, newV, evT, toA, putA, loadA, storeA, takeCells, setCells, isAgg, binA, unA, convA, arith, addOff, dstLen, nilNil, isConst, sameTy, strOp, params, results, packA, AExit.leaves, maxTmp, memN, askIn, fillA, repl, groups, Option.getD, Option.map, List.length, List.all, Int.reduceBEq, Int.reduceBNe, Int.reduceEq, Int.reduceGT, Int.reduceGE, Int.reduceNeg, Int.reduceAdd, Int.reduceSub, Int.reduceLT, Int.reduceLE, Int.reduceToNat, Nat.reduceLT, Nat.reducePow, Nat.reduceAdd, Nat.reduceMul, Nat.reduceLeDiff, Nat.reduceEqDiff, Nat.reduceBEq, reduceIte, ↓reduceIte, reduceCtorEq, syT, tyT, Rg.regF, Rg.findR, pickOps, fT5, Tryz.f5]
  clear a1 a2 a3 a4 a5
  rintro s ⟨a1, a2, a3, a4, a5⟩
  by_cases hla0 : 300 < la.length
  · have c : decide ((la.length : Int) ≤ 300) = false := by simp; omega
    rw [c] at e7a
    refine Ev.seq (Q := fun ex s => ex = .ret ∧ s.1.tm.get 4 = some (.bool true) ∧ s.2 = hpT) ?_ (fun s h => by cases h.1) ?_
    · simp only [Ev, o5_3, o5_4, a1, a2, a3, a4, a5, e7a, hoa, hob, evalCode, runOps, runD, runDraw, askOf, askRecs, askAll, isEff, muteOp, stepA, wantedA, isCall, target, evalOp, opMove, opPick, opAlloc, opBox, opBuild, opBuildSlice, opLoad, opStore, opNilCheck, opBinOp, opUnOp, opConvert, opMakeFunc, opMakeMap, opSlice, opFieldAddr, opField, opIndexAddr, opLookup, opExtract, opAppendB, opLenB, wrOf, newA, eqlA, keepA, newV, evT, toA, putA, loadA, storeA, takeCells, setCells, isAgg, binA, unA, convA, arith, addOff, dstLen, nilNil, isConst, sameTy, strOp, params, results, packA, AExit.leaves, maxTmp, memN, askIn, fillA, repl, groups, Option.getD, Option.map, List.length, List.all, Int.reduceBEq, Int.reduceBNe, Int.reduceEq, Int.reduceGT, Int.reduceGE, Int.reduceNeg, Int.reduceAdd, Int.reduceSub, Int.reduceLT, Int.reduceLE, Int.reduceToNat, Nat.reduceLT, Nat.reducePow, Nat.reduceAdd, Nat.reduceMul, Nat.reduceLeDiff, Nat.reduceEqDiff, Nat.reduceBEq, reduceIte, ↓reduceIte, reduceCtorEq, syT, tyT, Rg.regF, Rg.findR, pickOps, fT5, Tryz.f5]
    · rintro ex s hne ⟨rfl, h4, h5⟩
      simp only [h4, evalCode, runOps, runD, runDraw, askOf, askRecs, askAll, isEff, muteOp, stepA, wantedA, isCall, target, evalOp, opMove, opPick, opAlloc, opBox, opBuild, opBuildSlice, opLoad, opStore, opNilCheck, opBinOp, opUnOp, opConvert, opMakeFunc, opMakeMap, opSlice, opFieldAddr, opField, opIndexAddr, opLookup, opExtract, opAppendB, opLenB, wrOf, newA, eqlA, keepA, newV, evT, toA, putA, loadA, storeA, takeCells, setCells, isAgg, binA, unA, convA, arith, addOff, dstLen, nilNil, isConst, sameTy, strOp, params, results, packA, AExit.leaves, maxTmp, memN, askIn, fillA, repl, groups, Option.getD, Option.map, List.length, List.all, Int.reduceBEq, Int.reduceBNe, Int.reduceEq, Int.reduceGT, Int.reduceGE, Int.reduceNeg, Int.reduceAdd, Int.reduceSub, Int.reduceLT, Int.reduceLE, Int.reduceToNat, Nat.reduceLT, Nat.reducePow, Nat.reduceAdd, Nat.reduceMul, Nat.reduceLeDiff, Nat.reduceEqDiff, Nat.reduceBEq, reduceIte, ↓reduceIte, reduceCtorEq, syT, tyT, Rg.regF, Rg.findR, pickOps, fT5, Tryz.f5]
      exact fun j _ => by rw [h5]
  have hla : la.length ≤ 300 := by omega
  have ca : decide ((la.length : Int) ≤ 300) = true := by simp; omega
  rw [ca] at e7a
  by_cases hlb0 : 300 < lb.length
  · have c : decide ((lb.length : Int) ≤ 300) = false := by simp; omega
    rw [c] at e7b
    refine Ev.seq (Q := fun ex s => ex = .ret ∧ s.1.tm.get 4 = some (.bool true) ∧ s.2 = hpT) ?_ (fun s h => by cases h.1) ?_
    · simp only [Ev, o5_3, o5_4, a1, a2, a3, a4, a5, e7a, e7b, hoa, hob, evalCode, runOps, runD, runDraw, askOf, askRecs, askAll, isEff, muteOp, stepA, wantedA, isCall, target, evalOp, opMove, opPick, opAlloc, opBox, opBuild, opBuildSlice, opLoad, opStore, opNilCheck, opBinOp, opUnOp, opConvert, opMakeFunc, opMakeMap, opSlice, opFieldAddr, opField, opIndexAddr, opLookup, opExtract, opAppendB, opLenB, wrOf, newA, eqlA, keepA, newV, evT, toA, putA, loadA, storeA, takeCells, setCells, isAgg, binA, unA, convA, arith, addOff, dstLen, nilNil, isConst, sameTy, strOp, params, results, packA, AExit.leaves, maxTmp, memN, askIn, fillA, repl, groups, Option.getD, Option.map, List.length, List.all, Int.reduceBEq, Int.reduceBNe, Int.reduceEq, Int.reduceGT, Int.reduceGE, Int.reduceNeg, Int.reduceAdd, Int.reduceSub, Int.reduceLT, Int.reduceLE, Int.reduceToNat, Nat.reduceLT, Nat.reducePow, Nat.reduceAdd, Nat.reduceMul, Nat.reduceLeDiff, Nat.reduceEqDiff, Nat.reduceBEq, reduceIte, ↓reduceIte, reduceCtorEq, syT, tyT, Rg.regF, Rg.findR, pickOps, fT5, Tryz.f5]
    · rintro ex s hne ⟨rfl, h4, h5⟩
      simp only [h4, evalCode, runOps, runD, runDraw, askOf, askRecs, askAll, isEff, muteOp, stepA, wantedA, isCall, target, evalOp, opMove, opPick, opAlloc, opBox, opBuild, opBuildSlice, opLoad, opStore, opNilCheck, opBinOp, opUnOp, opConvert, opMakeFunc, opMakeMap, opSlice, opFieldAddr, opField, opIndexAddr, opLookup, opExtract, opAppendB, opLenB, wrOf, newA, eqlA, keepA, newV, evT, toA, putA, loadA, storeA, takeCells, setCells, isAgg, binA, unA, convA, arith, addOff, dstLen, nilNil, isConst, sameTy, strOp, params, results, packA, AExit.leaves, maxTmp, memN, askIn, fillA, repl, groups, Option.getD, Option.map, List.length, List.all, Int.reduceBEq, Int.reduceBNe, Int.reduceEq, Int.reduceGT, Int.reduceGE, Int.reduceNeg, Int.reduceAdd, Int.reduceSub, Int.reduceLT, Int.reduceLE, Int.reduceToNat, Nat.reduceLT, Nat.reducePow, Nat.reduceAdd, Nat.reduceMul, Nat.reduceLeDiff, Nat.reduceEqDiff, Nat.reduceBEq, reduceIte, ↓reduceIte, reduceCtorEq, syT, tyT, Rg.regF, Rg.findR, pickOps, fT5, Tryz.f5]
      exact fun j _ => by rw [h5]
  have hlb : lb.length ≤ 300 := by omega
  have cb : decide ((lb.length : Int) ≤ 300) = true := by simp; omega
  rw [cb] at e7b
  refine Ev.seqN (Q := fun s => s.1.n = 68 ∧ s.2 = hpT ∧ s.1.tm.get 0 = some a ∧ s.1.tm.get 1 = some b ∧ s.1.lv.next = 0) ?_ ?_
  · simp only [Ev, o5_3, a1, a2, a3, a4, a5, e7a, e7b, hoa, hob, evalCode, runOps, runD, runDraw, askOf, askRecs, askAll, isEff, muteOp, stepA, wantedA, isCall, target, evalOp, opMove, opPick, opAlloc, opBox, opBuild, opBuildSlice, opLoad, opStore, opNilCheck, opBinOp, opUnOp, opConvert, opMakeFunc, opMakeMap, opSlice, opFieldAddr, opField, opIndexAddr, opLookup, opExtract, opAppendB, opLenB, wrOf, newA, eqlA, keepA, newV, evT, toA, putA, loadA, storeA, takeCells, setCells, isAgg, binA, unA, convA, arith, addOff, dstLen, nilNil, isConst, sameTy, strOp, params, results, packA, AExit.leaves, maxTmp, memN, askIn, fillA, repl, groups, Option.getD, Option.map, List.length, List.all, Int.reduceBEq, Int.reduceBNe, Int.reduceEq, Int.reduceGT, Int.reduceGE, Int.reduceNeg, Int.reduceAdd, Int.reduceSub, Int.reduceLT, Int.reduceLE, Int.reduceToNat, Nat.reduceLT, Nat.reducePow, Nat.reduceAdd, Nat.reduceMul, Nat.reduceLeDiff, Nat.reduceEqDiff, Nat.reduceBEq, reduceIte, ↓reduceIte, reduceCtorEq, syT, tyT, Rg.regF, Rg.findR, pickOps, fT5, Tryz.f5]
  clear a1 a2 a3 a4 a5
  rintro s ⟨a1, a2, a3, a4, a5⟩
  -- the patterns and the value
  obtain ⟨pv, ps, H1, e8, hps, hwf, hsz, hpl, hn1, hn2, hf1⟩ := pats8 plainD (k := k + 2) (H := hpT) ha hla (by omega) (by decide)
  have hopv := hps.one
  rw [hpT_next] at hn1 hn2 hf1
  have hst : ∃ b', b.strip = b' ∧ IsI b' lb ∧ b'.oneCell = true := by
    rcases hb with ⟨rfl, h⟩ | ⟨t, rfl⟩
    · exact ⟨_, rfl, .inl ⟨rfl, h⟩, rfl⟩
    · exact ⟨_, rfl, .inr ⟨.none, rfl⟩, rfl⟩
  obtain ⟨b', hst, hb', hob'⟩ := hst
  have hH1 : H1.next < 4096 := by omega
  have hH1' : (H1.next < 4096) = True := by simp [hH1]
  obtain ⟨K1, hKe, hKn, hKd, hKf⟩ : ∃ K, K = (H1.alloc (.cells [b', .int .i64 0, .bool false])).2 ∧ K.next = H1.next + 1 ∧ Dice K H1.next 0 ∧ ∀ j < 4, K.get j = H1.get j :=
    ⟨_, rfl, rfl, ⟨b', lb, false, by rw [hnew hH1, if_pos rfl]; rfl, hb', hlb⟩, fun j hj => by rw [hnew hH1, if_neg (by omega)]⟩
  have hsz4 : szD 4 = 31 := rfl
  obtain ⟨xv, x, H2, e9, hx, hxs, hm1, hm2, -, hfr2⟩ := leaf9 plainD 4 (k + 3) (by omega) H1.next 0 K1 hKd (by omega) (by omega) (by omega)
  have hf2 : ∀ j < 4, H2.get j = hpT.get j := fun j hj => by rw [hfr2 j (by omega) (by omega), hKf j hj, hf1 j hj]
  have nc4' : ((4 : Nat) : Int) = 4 := rfl
  rw [nc4'] at e9
  rw [hsz4] at hxs hm2
  have hxsame := hx.same
  have hN := hx
  obtain ⟨xa, rfl, hxa⟩ := hx.cells
  have hoxa := hxa.one
  refine Ev.seqN (Q := fun s => s.1.n = 68 ∧ s.2 = H2 ∧ s.1.tm.get 5 = some pv ∧ s.1.tm.get 6 = some (.lptr 0 0) ∧ s.1.lv.get 0 = some [.int .i64 x.k, .int .i64 x.n, .str x.s, xa]) ?_ ?_
  · simp only [Ev, o5_5, a1, a2, a3, a4, a5, e8, hopv, hoa, hob, hst, hob', hH1', ← hKe, e9, hoxa, evalCode, runOps, runD, runDraw, askOf, askRecs, askAll, isEff, muteOp, stepA, wantedA, isCall, target, evalOp, opMove, opPick, opAlloc, opBox, opBuild, opBuildSlice, opLoad, opStore, opNilCheck, opBinOp, opUnOp, opConvert, opMakeFunc, opMakeMap, opSlice, opFieldAddr, opField, opIndexAddr, opLookup, opExtract, opAppendB, opLenB, wrOf, newA, eqlA, keepA, newV, evT, toA, putA, loadA, storeA, takeCells, setCells, isAgg, binA, unA, convA, arith, addOff, dstLen, nilNil, isConst, sameTy, strOp, params, results, packA, AExit.leaves, maxTmp, memN, askIn, fillA, repl, groups, Option.getD, Option.map, List.length, List.all, Int.reduceBEq, Int.reduceBNe, Int.reduceEq, Int.reduceGT, Int.reduceGE, Int.reduceNeg, Int.reduceAdd, Int.reduceSub, Int.reduceLT, Int.reduceLE, Int.reduceToNat, Nat.reduceLT, Nat.reducePow, Nat.reduceAdd, Nat.reduceMul, Nat.reduceLeDiff, Nat.reduceEqDiff, Nat.reduceBEq, reduceIte, ↓reduceIte, reduceCtorEq, syT, tyT, Rg.regF, Rg.findR, pickOps, fT5, Tryz.f5]
  clear a1 a2 a3 a4 a5 e6 e7a e7b e8 e9
  rintro s ⟨a1, a2, a3, a4, a5⟩
  have hps5 := sizes_len ps
  have e10 : evalCall (env (ofSp spL)) (k + 3) false 10 [pv] H2 = _ := ask10 rfl _ ps (Nat.le_refl _) (k + 3) (by omega) pv H2 hps (by omega)
  rcases bool_split (decide ((Nd.askL ps : Int) > 16)) with c | c
  · refine Ev.seq (Q := fun ex s => ex = .ret ∧ s.1.tm.get 4 = some (.bool true) ∧ s.2 = H2) ?_ (fun s h => by cases h.1) ?_
    · simp only [Ev, o5_6, o5_7, a1, a2, a3, a4, a5, e10, hopv, c, evalCode, runOps, runD, runDraw, askOf, askRecs, askAll, isEff, muteOp, stepA, wantedA, isCall, target, evalOp, opMove, opPick, opAlloc, opBox, opBuild, opBuildSlice, opLoad, opStore, opNilCheck, opBinOp, opUnOp, opConvert, opMakeFunc, opMakeMap, opSlice, opFieldAddr, opField, opIndexAddr, opLookup, opExtract, opAppendB, opLenB, wrOf, newA, eqlA, keepA, newV, evT, toA, putA, loadA, storeA, takeCells, setCells, isAgg, binA, unA, convA, arith, addOff, dstLen, nilNil, isConst, sameTy, strOp, params, results, packA, AExit.leaves, maxTmp, memN, askIn, fillA, repl, groups, Option.getD, Option.map, List.length, List.all, Int.reduceBEq, Int.reduceBNe, Int.reduceEq, Int.reduceGT, Int.reduceGE, Int.reduceNeg, Int.reduceAdd, Int.reduceSub, Int.reduceLT, Int.reduceLE, Int.reduceToNat, Nat.reduceLT, Nat.reducePow, Nat.reduceAdd, Nat.reduceMul, Nat.reduceLeDiff, Nat.reduceEqDiff, Nat.reduceBEq, reduceIte, ↓reduceIte, reduceCtorEq, syT, tyT, Rg.regF, Rg.findR, pickOps, fT5, Tryz.f5]
    · rintro ex s hne ⟨rfl, h4, h5⟩
      simp only [h4, evalCode, runOps, runD, runDraw, askOf, askRecs, askAll, isEff, muteOp, stepA, wantedA, isCall, target, evalOp, opMove, opPick, opAlloc, opBox, opBuild, opBuildSlice, opLoad, opStore, opNilCheck, opBinOp, opUnOp, opConvert, opMakeFunc, opMakeMap, opSlice, opFieldAddr, opField, opIndexAddr, opLookup, opExtract, opAppendB, opLenB, wrOf, newA, eqlA, keepA, newV, evT, toA, putA, loadA, storeA, takeCells, setCells, isAgg, binA, unA, convA, arith, addOff, dstLen, nilNil, isConst, sameTy, strOp, params, results, packA, AExit.leaves, maxTmp, memN, askIn, fillA, repl, groups, Option.getD, Option.map, List.length, List.all, Int.reduceBEq, Int.reduceBNe, Int.reduceEq, Int.reduceGT, Int.reduceGE, Int.reduceNeg, Int.reduceAdd, Int.reduceSub, Int.reduceLT, Int.reduceLE, Int.reduceToNat, Nat.reduceLT, Nat.reducePow, Nat.reduceAdd, Nat.reduceMul, Nat.reduceLeDiff, Nat.reduceEqDiff, Nat.reduceBEq, reduceIte, ↓reduceIte, reduceCtorEq, syT, tyT, Rg.regF, Rg.findR, pickOps, fT5, Tryz.f5]
      exact fun j hj => by rw [h5]; exact hf2 j hj
  refine Ev.seqN (Q := fun s => s.1.n = 68 ∧ s.2 = H2 ∧ s.1.tm.get 5 = some pv ∧ s.1.tm.get 6 = some (.lptr 0 0) ∧ s.1.lv.get 0 = some [.int .i64 x.k, .int .i64 x.n, .str x.s, xa]) ?_ ?_
  · simp only [Ev, o5_6, a1, a2, a3, a4, a5, e10, hopv, c, evalCode, runOps, runD, runDraw, askOf, askRecs, askAll, isEff, muteOp, stepA, wantedA, isCall, target, evalOp, opMove, opPick, opAlloc, opBox, opBuild, opBuildSlice, opLoad, opStore, opNilCheck, opBinOp, opUnOp, opConvert, opMakeFunc, opMakeMap, opSlice, opFieldAddr, opField, opIndexAddr, opLookup, opExtract, opAppendB, opLenB, wrOf, newA, eqlA, keepA, newV, evT, toA, putA, loadA, storeA, takeCells, setCells, isAgg, binA, unA, convA, arith, addOff, dstLen, nilNil, isConst, sameTy, strOp, params, results, packA, AExit.leaves, maxTmp, memN, askIn, fillA, repl, groups, Option.getD, Option.map, List.length, List.all, Int.reduceBEq, Int.reduceBNe, Int.reduceEq, Int.reduceGT, Int.reduceGE, Int.reduceNeg, Int.reduceAdd, Int.reduceSub, Int.reduceLT, Int.reduceLE, Int.reduceToNat, Nat.reduceLT, Nat.reducePow, Nat.reduceAdd, Nat.reduceMul, Nat.reduceLeDiff, Nat.reduceEqDiff, Nat.reduceBEq, reduceIte, ↓reduceIte, reduceCtorEq, syT, tyT, Rg.regF, Rg.findR, pickOps, fT5, Tryz.f5]
  clear a1 a2 a3 a4 a5 e10 c
  rintro s ⟨a1, a2, a3, a4, a5⟩
  -- the tree
  obtain ⟨tv, e11, htv⟩ := of11L (k := k + 2) (H := H2) hps hsz
  have e17 := pick17L (k := k) (H := H2) htv hN hsz
  rw [pick_plain hwf (by have := weight_rows ps 0; omega)] at e17
  generalize hn : (pickT (buildT 199 (rowsOf ps 0)) x).2 = n at e17
  have htc := htv.cells
  obtain ⟨y0, y1, y2, y3, y4, y5, y6, y7, y8, rfl, p0, p1, p2, p3, p4, p5, p6, p7, p8⟩ := htc
  refine Ev.seqN (Q := fun s => s.1.n = 68 ∧ s.2 = H2 ∧ s.1.tm.get 5 = some pv ∧ s.1.tm.get 6 = some (.lptr 0 0) ∧ s.1.tm.get 7 = some (.int .i64 (idxI (bindB · x) ps)) ∧ s.1.tm.get 8 = some (.int .i64 n) ∧ s.1.lv.get 0 = some [.int .i64 x.k, .int .i64 x.n, .str x.s, xa]) ?_ ?_
  · simp only [Ev, ↓drw5_8, d5_8, a1, a2, a3, a4, a5, e11, e17, hopv, hoxa, hxsame, p0, p1, p2, p3, p4, p5, p6, p7, p8, List.take, List.drop, evalCode, runOps, runD, runDraw, askOf, askRecs, askAll, isEff, muteOp, stepA, wantedA, isCall, target, evalOp, opMove, opPick, opAlloc, opBox, opBuild, opBuildSlice, opLoad, opStore, opNilCheck, opBinOp, opUnOp, opConvert, opMakeFunc, opMakeMap, opSlice, opFieldAddr, opField, opIndexAddr, opLookup, opExtract, opAppendB, opLenB, wrOf, newA, eqlA, keepA, newV, evT, toA, putA, loadA, storeA, takeCells, setCells, isAgg, binA, unA, convA, arith, addOff, dstLen, nilNil, isConst, sameTy, strOp, params, results, packA, AExit.leaves, maxTmp, memN, askIn, fillA, repl, groups, Option.getD, Option.map, List.length, List.all, Int.reduceBEq, Int.reduceBNe, Int.reduceEq, Int.reduceGT, Int.reduceGE, Int.reduceNeg, Int.reduceAdd, Int.reduceSub, Int.reduceLT, Int.reduceLE, Int.reduceToNat, Nat.reduceLT, Nat.reducePow, Nat.reduceAdd, Nat.reduceMul, Nat.reduceLeDiff, Nat.reduceEqDiff, Nat.reduceBEq, reduceIte, ↓reduceIte, reduceCtorEq, syT, tyT, Rg.regF, Rg.findR, pickOps, fT5, Tryz.f5]
  clear a1 a2 a3 a4 a5 e11 e17 htv p0 p1 p2 p3 p4 p5 p6 p7 p8
  rintro s ⟨a1, a2, a3, a4, a6, a7, a5⟩
  obtain ⟨fr, e18, hofr⟩ := first18L (k := k + 2) (H := H2) hps hN hsz hpl hxs
  refine Ev.seqN (Q := fun s => s.1.n = 68 ∧ s.2 = H2 ∧ s.1.tm.get 7 = some (.int .i64 (idxI (bindB · x) ps)) ∧ s.1.tm.get 8 = some (.int .i64 n) ∧ s.1.tm.get 9 = some (.int .i64 (idxI (bindB · x) ps))) ?_ ?_
  · simp only [Ev, o5_9, a1, a2, a3, a4, a5, a6, a7, e18, hopv, hoxa, hofr, evalCode, runOps, runD, runDraw, askOf, askRecs, askAll, isEff, muteOp, stepA, wantedA, isCall, target, evalOp, opMove, opPick, opAlloc, opBox, opBuild, opBuildSlice, opLoad, opStore, opNilCheck, opBinOp, opUnOp, opConvert, opMakeFunc, opMakeMap, opSlice, opFieldAddr, opField, opIndexAddr, opLookup, opExtract, opAppendB, opLenB, wrOf, newA, eqlA, keepA, newV, evT, toA, putA, loadA, storeA, takeCells, setCells, isAgg, binA, unA, convA, arith, addOff, dstLen, nilNil, isConst, sameTy, strOp, params, results, packA, AExit.leaves, maxTmp, memN, askIn, fillA, repl, groups, Option.getD, Option.map, List.length, List.all, Int.reduceBEq, Int.reduceBNe, Int.reduceEq, Int.reduceGT, Int.reduceGE, Int.reduceNeg, Int.reduceAdd, Int.reduceSub, Int.reduceLT, Int.reduceLE, Int.reduceToNat, Nat.reduceLT, Nat.reducePow, Nat.reduceAdd, Nat.reduceMul, Nat.reduceLeDiff, Nat.reduceEqDiff, Nat.reduceBEq, reduceIte, ↓reduceIte, reduceCtorEq, syT, tyT, Rg.regF, Rg.findR, pickOps, fT5, Tryz.f5]
  clear a1 a2 a3 a4 a5 a6 a7 e18
  rintro s ⟨a1, a2, a6, a7, a8⟩
  -- the one
  have hone : IsL (.list [.agg [.int .i64 3, .int .i64 3, .str ⟨#[]⟩, .nilslice]] .full 4) [.mk 3 3 ⟨#[]⟩ []] := .inr ⟨_, _, rfl, .cons (IsN_mk.2 ⟨.nilslice, rfl, .inl ⟨rfl, rfl⟩⟩) .nil⟩
  obtain ⟨tv, e11, htv⟩ := of11L (k := k + 2) (H := H2) hone (by simp [Nd.sizes, Nd.size])
  have e17 := pick17L (k := k) (H := H2) (v := .mk 2 3 ⟨#[]⟩ []) (b := .agg [.int .i64 2, .int .i64 3, .str ⟨#[]⟩, .nilslice]) htv (IsN_mk.2 ⟨.nilslice, rfl, .inl ⟨rfl, rfl⟩⟩) (by simp [Nd.sizes, Nd.size])
  rw [one_pick] at e17
  simp only [nc1] at e17
  obtain ⟨y0, y1, y2, y3, y4, y5, y6, y7, y8, rfl, p0, p1, p2, p3, p4, p5, p6, p7, p8⟩ := htv.cells
  refine Ev.seqN (Q := fun s => s.1.n = 68 ∧ s.2 = H2 ∧ s.1.tm.get 7 = some (.int .i64 (idxI (bindB · x) ps)) ∧ s.1.tm.get 8 = some (.int .i64 n) ∧ s.1.tm.get 9 = some (.int .i64 (idxI (bindB · x) ps)) ∧ s.1.tm.get 11 = some (.int .i64 0) ∧ s.1.tm.get 12 = some (.int .i64 1)) ?_ ?_
  · simp only [Ev, o5_10, a1, a2, a6, a7, a8, e11, e17, p0, p1, p2, p3, p4, p5, p6, p7, p8, evalCode, runOps, runD, runDraw, askOf, askRecs, askAll, isEff, muteOp, stepA, wantedA, isCall, target, evalOp, opMove, opPick, opAlloc, opBox, opBuild, opBuildSlice, opLoad, opStore, opNilCheck, opBinOp, opUnOp, opConvert, opMakeFunc, opMakeMap, opSlice, opFieldAddr, opField, opIndexAddr, opLookup, opExtract, opAppendB, opLenB, wrOf, newA, eqlA, keepA, newV, evT, toA, putA, loadA, storeA, takeCells, setCells, isAgg, binA, unA, convA, arith, addOff, dstLen, nilNil, isConst, sameTy, strOp, params, results, packA, AExit.leaves, maxTmp, memN, askIn, fillA, repl, groups, Option.getD, Option.map, List.length, List.all, Int.reduceBEq, Int.reduceBNe, Int.reduceEq, Int.reduceGT, Int.reduceGE, Int.reduceNeg, Int.reduceAdd, Int.reduceSub, Int.reduceLT, Int.reduceLE, Int.reduceToNat, Nat.reduceLT, Nat.reducePow, Nat.reduceAdd, Nat.reduceMul, Nat.reduceLeDiff, Nat.reduceEqDiff, Nat.reduceBEq, reduceIte, ↓reduceIte, reduceCtorEq, syT, tyT, Rg.regF, Rg.findR, pickOps, fT5, Tryz.f5]
  clear a1 a2 a6 a7 a8
  rintro s ⟨a1, a2, a6, a7, a8, a9, a10⟩
  have c1 : decide ((n : Int) ≥ 0) = true := by simp
  simp only [Ev, o5_11, a1, a2, a6, a7, a8, a9, a10, c1, evalCode, runOps, runD, runDraw, askOf, askRecs, askAll, isEff, muteOp, stepA, wantedA, isCall, target, evalOp, opMove, opPick, opAlloc, opBox, opBuild, opBuildSlice, opLoad, opStore, opNilCheck, opBinOp, opUnOp, opConvert, opMakeFunc, opMakeMap, opSlice, opFieldAddr, opField, opIndexAddr, opLookup, opExtract, opAppendB, opLenB, wrOf, newA, eqlA, keepA, newV, evT, toA, putA, loadA, storeA, takeCells, setCells, isAgg, binA, unA, convA, arith, addOff, dstLen, nilNil, isConst, sameTy, strOp, params, results, packA, AExit.leaves, maxTmp, memN, askIn, fillA, repl, groups, Option.getD, Option.map, List.length, List.all, Int.reduceBEq, Int.reduceBNe, Int.reduceEq, Int.reduceGT, Int.reduceGE, Int.reduceNeg, Int.reduceAdd, Int.reduceSub, Int.reduceLT, Int.reduceLE, Int.reduceToNat, Nat.reduceLT, Nat.reducePow, Nat.reduceAdd, Nat.reduceMul, Nat.reduceLeDiff, Nat.reduceEqDiff, Nat.reduceBEq, reduceIte, ↓reduceIte, reduceCtorEq, syT, tyT, Rg.regF, Rg.findR, pickOps, fT5, Tryz.f5]
  exact hf2
end Go.Rs.Seat
end
/- The law ArmsLess: the walk. -/
section
namespace Go.Rs.Seat
open Go.Proofs Rg
set_option maxRecDepth 100000
set_option maxHeartbeats 16000000

theorem slice_pats {sp} {H : Hp} {pv : AVal} {ps : List Nd} {m : Nat} (h : IsL pv ps) (hm : m ≤ ps.length) :
    ∃ r, sliceA (env sp) 25 H pv none (some (.int .i64 m)) none = some r ∧ IsL r (ps.take m) := by
  rcases h with ⟨rfl, rfl⟩ | ⟨vs, t, rfl, hvs⟩
  · have : m = 0 := by simpa using hm
    subst this
    refine ⟨.nilslice, ?_, .inl ⟨rfl, rfl⟩⟩
    unfold sliceA
    simp [ty25, ty36, lenOf, bound]
  · have hl := hvs.1
    refine ⟨.list (vs.take m) (if m = vs.length then t else .none) 4, ?_, .inr ⟨_, _, rfl, hvs.take m⟩⟩
    unfold sliceA
    have h1 : bound (some (.int .i64 m)) vs.length vs.length = some m := by
      show (if 0 ≤ (m : Int) ∧ (m : Int) ≤ (vs.length : Nat) then some (m : Int).toNat else none) = some m
      rw [if_pos ⟨by omega, by omega⟩, Int.toNat_natCast]
    have h2 : bound none 0 m = some 0 := rfl
    simp only [ty25, ty36, lenOf, h1, h2, List.drop_zero]
    simp

theorem idxI_take {α : Type} (p : α → Bool) (l : List α) (m : Nat) : (idxI p (l.take m) = -1 ∧ idxI p l = -1) ∨ (idxI p (l.take m) = -1 ∧ (m : Int) ≤ idxI p l) ∨ (0 ≤ idxI p (l.take m) ∧ idxI p l = idxI p (l.take m)) := by
  unfold idxI
  cases h : (l.take m).findIdx? p with
  | some i =>
    right; right
    obtain ⟨hi, h1, h2⟩ := List.findIdx?_eq_some_iff_getElem.1 h
    have hi' : i < l.length := by simp at hi; omega
    have : l.findIdx? p = some i := by
      rw [List.findIdx?_eq_some_iff_getElem]
      refine ⟨hi', by simpa using h1, fun j hj => ?_⟩
      have := h2 j hj
      simpa using this
    rw [this]
    exact ⟨by simp, rfl⟩
  | none =>
    cases h2 : l.findIdx? p with
    | none => exact .inl ⟨rfl, rfl⟩
    | some i =>
      right; left
      refine ⟨rfl, ?_⟩
      obtain ⟨hi, h3, -⟩ := List.findIdx?_eq_some_iff_getElem.1 h2
      rw [List.findIdx?_eq_none_iff] at h
      by_cases hlt : i < m
      · have hm : l[i] ∈ l.take m := by
          rw [List.mem_take_iff_getElem]
          exact ⟨i, by omega, rfl⟩
        have := h _ hm
        rw [h3] at this
        cases this
      · simp only []; omega

theorem law4_walk {K : Nat} (hK : 400 ≤ K) {a b : AVal} {la lb : List Int} (ha : IsI a la) (hb : IsI b lb) (z : Int) :
    ∃ r, evalCall (env (ofSp spL)) (K + 1) false 4 [a, b, .int .i64 z] hpT = some r ∧ (r.1 = .bool true ∧ ∀ j < 4, r.2.get j = hpT.get j) := by
  obtain ⟨k, rfl⟩ : ∃ k, K = k + 3 := ⟨K - 3, by omega⟩
  have hoa := ha.one
  have hob := hb.one
  have e6 := call6 (k := k + 2)
  have e7a : evalCall (env (ofSp spL)) (k + 2 + 1) false 7 [a] hpT = _ := short7 rfl ha
  have e7b : evalCall (env (ofSp spL)) (k + 2 + 1) false 7 [b] hpT = _ := short7 rfl hb
  refine enter4 (Post := fun v H' => v = .bool true ∧ ∀ j < 4, H'.get j = hpT.get j) rfl rfl ?_
  unfold c4
  refine Ev.seqN (Q := fun s => s.1.n = 73 ∧ s.2 = hpT ∧ s.1.tm.get 0 = some a ∧ s.1.tm.get 1 = some b ∧ s.1.tm.get 2 = some (.int .i64 z) ∧ s.1.lv.next = 0) ?_ ?_
  · simp only [Ev, o4_0, hoa, hob, evalCode, runOps, runD, runDraw, askOf, askRecs, askAll, isEff, muteOp, stepA, wantedA, isCall, target, evalOp, opMove, opPick, opAlloc, opBox, opBuild, opBuildSlice, opLoad, opStore, opNilCheck, opBinOp, opUnOp, opConvert, opMakeFunc, opMakeMap, opSlice, opFieldAddr, opField, opIndexAddr, opLookup, opExtract, opAppendB, opLenB, wrOf, newA, eqlA, keepA, newV, evT, toA, putA, loadA, storeA, takeCells, setCells, isAgg, binA, unA, convA, arith, addOff, dstLen, nilNil, isConst, sameTy, strOp, params, results, packA, AExit.leaves, maxTmp, memN, askIn, fillA, repl, groups, Option.getD, Option.map, List.length, List.all, Int.reduceBEq, Int.reduceBNe, Int.reduceEq, Int.reduceGT, Int.reduceGE, Int.reduceNeg, Int.reduceAdd, Int.reduceSub, Int.reduceLT, Int.reduceLE, Int.reduceToNat, Nat.reduceLT, Nat.reducePow, Nat.reduceAdd, Nat.reduceMul, Nat.reduceLeDiff, Nat.reduceEqDiff, Nat.reduceBEq, reduceIte, ↓reduceIte, reduceCtorEq, syT, tyT, Rg.regF, Rg.findR, pickOps, fT4, Tryz.f4]
  rintro s ⟨a1, a2, a3, a4, az, a5⟩
  refine Ev.seqN (Q := fun s => s.1.n = 73 ∧ s.2 = hpT ∧ s.1.tm.get 0 = some a ∧ s.1.tm.get 1 = some b ∧ s.1.tm.get 2 = some (.int .i64 z) ∧ s.1.lv.next = 0) ?_ ?_
  · simp only [Ev, o4_1, a1, a2, a3, a4, az, a5, e6, hoa, hob, evalCode, runOps, runD, runDraw, askOf, askRecs, askAll, isEff, muteOp, stepA, wantedA, isCall, target, evalOp, opMove, opPick, opAlloc, opBox, opBuild, opBuildSlice, opLoad, opStore, opNilCheck, opBinOp, opUnOp, opConvert, opMakeFunc, opMakeMap, opSlice, opFieldAddr, opField, opIndexAddr, opLookup, opExtract, opAppendB, opLenB, wrOf, newA, eqlA, keepA, newV, evT, toA, putA, loadA, storeA, takeCells, setCells, isAgg, binA, unA, convA, arith, addOff, dstLen, nilNil, isConst, sameTy, strOp, params, results, packA, AExit.leaves, maxTmp, memN, askIn, fillA, repl, groups, Option.getD, Option.map, List.length, List.all, Int.reduceBEq, Int.reduceBNe, Int.reduceEq, Int.reduceGT, Int.reduceGE, Int.reduceNeg, Int.reduceAdd, Int.reduceSub, Int.reduceLT, Int.reduceLE, Int.reduceToNat, Nat.reduceLT, Nat.reducePow, Nat.reduceAdd, Nat.reduceMul, Nat.reduceLeDiff, Nat.reduceEqDiff, Nat.reduceBEq, reduceIte, ↓reduceIte, reduceCtorEq, syT, tyT, Rg.regF, Rg.findR, pickOps, fT4, Tryz.f4]
  clear a1 a2 a3 a4 az a5
  rintro s ⟨a1, a2, a3, a4, az, a5⟩
  by_cases hla0 : 300 < la.length
  · have c : decide ((la.length : Int) ≤ 300) = false := by simp; omega
    rw [c] at e7a
    refine Ev.seq (Q := fun ex s => ex = .ret ∧ s.1.tm.get 6 = some (.bool true) ∧ s.2 = hpT) ?_ (fun s h => by cases h.1) ?_
    · simp only [Ev, o4_3, o4_4, a1, a2, a3, a4, az, a5, e7a, hoa, hob, evalCode, runOps, runD, runDraw, askOf, askRecs, askAll, isEff, muteOp, stepA, wantedA, isCall, target, evalOp, opMove, opPick, opAlloc, opBox, opBuild, opBuildSlice, opLoad, opStore, opNilCheck, opBinOp, opUnOp, opConvert, opMakeFunc, opMakeMap, opSlice, opFieldAddr, opField, opIndexAddr, opLookup, opExtract, opAppendB, opLenB, wrOf, newA, eqlA, keepA, newV, evT, toA, putA, loadA, storeA, takeCells, setCells, isAgg, binA, unA, convA, arith, addOff, dstLen, nilNil, isConst, sameTy, strOp, params, results, packA, AExit.leaves, maxTmp, memN, askIn, fillA, repl, groups, Option.getD, Option.map, List.length, List.all, Int.reduceBEq, Int.reduceBNe, Int.reduceEq, Int.reduceGT, Int.reduceGE, Int.reduceNeg, Int.reduceAdd, Int.reduceSub, Int.reduceLT, Int.reduceLE, Int.reduceToNat, Nat.reduceLT, Nat.reducePow, Nat.reduceAdd, Nat.reduceMul, Nat.reduceLeDiff, Nat.reduceEqDiff, Nat.reduceBEq, reduceIte, ↓reduceIte, reduceCtorEq, syT, tyT, Rg.regF, Rg.findR, pickOps, fT4, Tryz.f4]
    · rintro ex s hne ⟨rfl, h4, h5⟩
      simp only [h4, evalCode, runOps, runD, runDraw, askOf, askRecs, askAll, isEff, muteOp, stepA, wantedA, isCall, target, evalOp, opMove, opPick, opAlloc, opBox, opBuild, opBuildSlice, opLoad, opStore, opNilCheck, opBinOp, opUnOp, opConvert, opMakeFunc, opMakeMap, opSlice, opFieldAddr, opField, opIndexAddr, opLookup, opExtract, opAppendB, opLenB, wrOf, newA, eqlA, keepA, newV, evT, toA, putA, loadA, storeA, takeCells, setCells, isAgg, binA, unA, convA, arith, addOff, dstLen, nilNil, isConst, sameTy, strOp, params, results, packA, AExit.leaves, maxTmp, memN, askIn, fillA, repl, groups, Option.getD, Option.map, List.length, List.all, Int.reduceBEq, Int.reduceBNe, Int.reduceEq, Int.reduceGT, Int.reduceGE, Int.reduceNeg, Int.reduceAdd, Int.reduceSub, Int.reduceLT, Int.reduceLE, Int.reduceToNat, Nat.reduceLT, Nat.reducePow, Nat.reduceAdd, Nat.reduceMul, Nat.reduceLeDiff, Nat.reduceEqDiff, Nat.reduceBEq, reduceIte, ↓reduceIte, reduceCtorEq, syT, tyT, Rg.regF, Rg.findR, pickOps, fT4, Tryz.f4]
      exact fun j _ => by rw [h5]
  have hla : la.length ≤ 300 := by omega
  have ca : decide ((la.length : Int) ≤ 300) = true := by simp; omega
  rw [ca] at e7a
  by_cases hlb0 : 300 < lb.length
  · have c : decide ((lb.length : Int) ≤ 300) = false := by simp; omega
    rw [c] at e7b
    refine Ev.seq (Q := fun ex s => ex = .ret ∧ s.1.tm.get 6 = some (.bool true) ∧ s.2 = hpT) ?_ (fun s h => by cases h.1) ?_
    · simp only [Ev, o4_3, o4_4, a1, a2, a3, a4, az, a5, e7a, e7b, hoa, hob, evalCode, runOps, runD, runDraw, askOf, askRecs, askAll, isEff, muteOp, stepA, wantedA, isCall, target, evalOp, opMove, opPick, opAlloc, opBox, opBuild, opBuildSlice, opLoad, opStore, opNilCheck, opBinOp, opUnOp, opConvert, opMakeFunc, opMakeMap, opSlice, opFieldAddr, opField, opIndexAddr, opLookup, opExtract, opAppendB, opLenB, wrOf, newA, eqlA, keepA, newV, evT, toA, putA, loadA, storeA, takeCells, setCells, isAgg, binA, unA, convA, arith, addOff, dstLen, nilNil, isConst, sameTy, strOp, params, results, packA, AExit.leaves, maxTmp, memN, askIn, fillA, repl, groups, Option.getD, Option.map, List.length, List.all, Int.reduceBEq, Int.reduceBNe, Int.reduceEq, Int.reduceGT, Int.reduceGE, Int.reduceNeg, Int.reduceAdd, Int.reduceSub, Int.reduceLT, Int.reduceLE, Int.reduceToNat, Nat.reduceLT, Nat.reducePow, Nat.reduceAdd, Nat.reduceMul, Nat.reduceLeDiff, Nat.reduceEqDiff, Nat.reduceBEq, reduceIte, ↓reduceIte, reduceCtorEq, syT, tyT, Rg.regF, Rg.findR, pickOps, fT4, Tryz.f4]
    · rintro ex s hne ⟨rfl, h4, h5⟩
      simp only [h4, evalCode, runOps, runD, runDraw, askOf, askRecs, askAll, isEff, muteOp, stepA, wantedA, isCall, target, evalOp, opMove, opPick, opAlloc, opBox, opBuild, opBuildSlice, opLoad, opStore, opNilCheck, opBinOp, opUnOp, opConvert, opMakeFunc, opMakeMap, opSlice, opFieldAddr, opField, opIndexAddr, opLookup, opExtract, opAppendB, opLenB, wrOf, newA, eqlA, keepA, newV, evT, toA, putA, loadA, storeA, takeCells, setCells, isAgg, binA, unA, convA, arith, addOff, dstLen, nilNil, isConst, sameTy, strOp, params, results, packA, AExit.leaves, maxTmp, memN, askIn, fillA, repl, groups, Option.getD, Option.map, List.length, List.all, Int.reduceBEq, Int.reduceBNe, Int.reduceEq, Int.reduceGT, Int.reduceGE, Int.reduceNeg, Int.reduceAdd, Int.reduceSub, Int.reduceLT, Int.reduceLE, Int.reduceToNat, Nat.reduceLT, Nat.reducePow, Nat.reduceAdd, Nat.reduceMul, Nat.reduceLeDiff, Nat.reduceEqDiff, Nat.reduceBEq, reduceIte, ↓reduceIte, reduceCtorEq, syT, tyT, Rg.regF, Rg.findR, pickOps, fT4, Tryz.f4]
      exact fun j _ => by rw [h5]
  have hlb : lb.length ≤ 300 := by omega
  have cb : decide ((lb.length : Int) ≤ 300) = true := by simp; omega
  rw [cb] at e7b
  refine Ev.seqN (Q := fun s => s.1.n = 73 ∧ s.2 = hpT ∧ s.1.tm.get 0 = some a ∧ s.1.tm.get 1 = some b ∧ s.1.tm.get 2 = some (.int .i64 z) ∧ s.1.lv.next = 0) ?_ ?_
  · simp only [Ev, o4_3, a1, a2, a3, a4, az, a5, e7a, e7b, hoa, hob, evalCode, runOps, runD, runDraw, askOf, askRecs, askAll, isEff, muteOp, stepA, wantedA, isCall, target, evalOp, opMove, opPick, opAlloc, opBox, opBuild, opBuildSlice, opLoad, opStore, opNilCheck, opBinOp, opUnOp, opConvert, opMakeFunc, opMakeMap, opSlice, opFieldAddr, opField, opIndexAddr, opLookup, opExtract, opAppendB, opLenB, wrOf, newA, eqlA, keepA, newV, evT, toA, putA, loadA, storeA, takeCells, setCells, isAgg, binA, unA, convA, arith, addOff, dstLen, nilNil, isConst, sameTy, strOp, params, results, packA, AExit.leaves, maxTmp, memN, askIn, fillA, repl, groups, Option.getD, Option.map, List.length, List.all, Int.reduceBEq, Int.reduceBNe, Int.reduceEq, Int.reduceGT, Int.reduceGE, Int.reduceNeg, Int.reduceAdd, Int.reduceSub, Int.reduceLT, Int.reduceLE, Int.reduceToNat, Nat.reduceLT, Nat.reducePow, Nat.reduceAdd, Nat.reduceMul, Nat.reduceLeDiff, Nat.reduceEqDiff, Nat.reduceBEq, reduceIte, ↓reduceIte, reduceCtorEq, syT, tyT, Rg.regF, Rg.findR, pickOps, fT4, Tryz.f4]
  clear a1 a2 a3 a4 az a5
  rintro s ⟨a1, a2, a3, a4, az, a5⟩
  -- the patterns and the value
  obtain ⟨pv, ps, H1, e8, hps, hwf, hsz, hpl, hn1, hn2, hf1⟩ := pats8 plainD (k := k + 2) (H := hpT) ha hla (by omega) (by decide)
  have hopv := hps.one
  rw [hpT_next] at hn1 hn2 hf1
  have hst : ∃ b', b.strip = b' ∧ IsI b' lb ∧ b'.oneCell = true := by
    rcases hb with ⟨rfl, h⟩ | ⟨t, rfl⟩
    · exact ⟨_, rfl, .inl ⟨rfl, h⟩, rfl⟩
    · exact ⟨_, rfl, .inr ⟨.none, rfl⟩, rfl⟩
  obtain ⟨b', hst, hb', hob'⟩ := hst
  have hH1 : H1.next < 4096 := by omega
  have hH1' : (H1.next < 4096) = True := by simp [hH1]
  obtain ⟨K1, hKe, hKn, hKd, hKf⟩ : ∃ K, K = (H1.alloc (.cells [b', .int .i64 0, .bool false])).2 ∧ K.next = H1.next + 1 ∧ Dice K H1.next 0 ∧ ∀ j < 4, K.get j = H1.get j :=
    ⟨_, rfl, rfl, ⟨b', lb, false, by rw [hnew hH1, if_pos rfl]; rfl, hb', hlb⟩, fun j hj => by rw [hnew hH1, if_neg (by omega)]⟩
  have hsz4 : szD 4 = 31 := rfl
  obtain ⟨xv, x, H2, e9, hx, hxs, hm1, hm2, -, hfr2⟩ := leaf9 plainD 4 (k + 3) (by omega) H1.next 0 K1 hKd (by omega) (by omega) (by omega)
  have hf2 : ∀ j < 4, H2.get j = hpT.get j := fun j hj => by rw [hfr2 j (by omega) (by omega), hKf j hj, hf1 j hj]
  have nc4' : ((4 : Nat) : Int) = 4 := rfl
  rw [nc4'] at e9
  rw [hsz4] at hxs hm2
  have hxsame := hx.same
  have hN := hx
  obtain ⟨xa, rfl, hxa⟩ := hx.cells
  have hoxa := hxa.one
  refine Ev.seqN (Q := fun s => s.1.n = 73 ∧ s.2 = H2 ∧ s.1.tm.get 7 = some pv ∧ s.1.tm.get 8 = some (.lptr 0 0) ∧ s.1.tm.get 2 = some (.int .i64 z) ∧ s.1.lv.get 0 = some [.int .i64 x.k, .int .i64 x.n, .str x.s, xa]) ?_ ?_
  · simp only [Ev, o4_5, a1, a2, a3, a4, az, a5, e8, hopv, hoa, hob, hst, hob', hH1', ← hKe, e9, hoxa, evalCode, runOps, runD, runDraw, askOf, askRecs, askAll, isEff, muteOp, stepA, wantedA, isCall, target, evalOp, opMove, opPick, opAlloc, opBox, opBuild, opBuildSlice, opLoad, opStore, opNilCheck, opBinOp, opUnOp, opConvert, opMakeFunc, opMakeMap, opSlice, opFieldAddr, opField, opIndexAddr, opLookup, opExtract, opAppendB, opLenB, wrOf, newA, eqlA, keepA, newV, evT, toA, putA, loadA, storeA, takeCells, setCells, isAgg, binA, unA, convA, arith, addOff, dstLen, nilNil, isConst, sameTy, strOp, params, results, packA, AExit.leaves, maxTmp, memN, askIn, fillA, repl, groups, Option.getD, Option.map, List.length, List.all, Int.reduceBEq, Int.reduceBNe, Int.reduceEq, Int.reduceGT, Int.reduceGE, Int.reduceNeg, Int.reduceAdd, Int.reduceSub, Int.reduceLT, Int.reduceLE, Int.reduceToNat, Nat.reduceLT, Nat.reducePow, Nat.reduceAdd, Nat.reduceMul, Nat.reduceLeDiff, Nat.reduceEqDiff, Nat.reduceBEq, reduceIte, ↓reduceIte, reduceCtorEq, syT, tyT, Rg.regF, Rg.findR, pickOps, fT4, Tryz.f4]
  clear a1 a2 a3 a4 az a5 e6 e7a e7b e8 e9
  rintro s ⟨a1, a2, a3, a4, az, a5⟩
  have hps5 := sizes_len ps
  have e10 : evalCall (env (ofSp spL)) (k + 3) false 10 [pv] H2 = _ := ask10 rfl _ ps (Nat.le_refl _) (k + 3) (by omega) pv H2 hps (by omega)
  rcases bool_split (decide ((Nd.askL ps : Int) > 16)) with c | c
  · refine Ev.seq (Q := fun ex s => ex = .ret ∧ s.1.tm.get 6 = some (.bool true) ∧ s.2 = H2) ?_ (fun s h => by cases h.1) ?_
    · simp only [Ev, o4_6, o4_7, a1, a2, a3, a4, az, a5, e10, hopv, c, evalCode, runOps, runD, runDraw, askOf, askRecs, askAll, isEff, muteOp, stepA, wantedA, isCall, target, evalOp, opMove, opPick, opAlloc, opBox, opBuild, opBuildSlice, opLoad, opStore, opNilCheck, opBinOp, opUnOp, opConvert, opMakeFunc, opMakeMap, opSlice, opFieldAddr, opField, opIndexAddr, opLookup, opExtract, opAppendB, opLenB, wrOf, newA, eqlA, keepA, newV, evT, toA, putA, loadA, storeA, takeCells, setCells, isAgg, binA, unA, convA, arith, addOff, dstLen, nilNil, isConst, sameTy, strOp, params, results, packA, AExit.leaves, maxTmp, memN, askIn, fillA, repl, groups, Option.getD, Option.map, List.length, List.all, Int.reduceBEq, Int.reduceBNe, Int.reduceEq, Int.reduceGT, Int.reduceGE, Int.reduceNeg, Int.reduceAdd, Int.reduceSub, Int.reduceLT, Int.reduceLE, Int.reduceToNat, Nat.reduceLT, Nat.reducePow, Nat.reduceAdd, Nat.reduceMul, Nat.reduceLeDiff, Nat.reduceEqDiff, Nat.reduceBEq, reduceIte, ↓reduceIte, reduceCtorEq, syT, tyT, Rg.regF, Rg.findR, pickOps, fT4, Tryz.f4]
    · rintro ex s hne ⟨rfl, h4, h5⟩
      simp only [h4, evalCode, runOps, runD, runDraw, askOf, askRecs, askAll, isEff, muteOp, stepA, wantedA, isCall, target, evalOp, opMove, opPick, opAlloc, opBox, opBuild, opBuildSlice, opLoad, opStore, opNilCheck, opBinOp, opUnOp, opConvert, opMakeFunc, opMakeMap, opSlice, opFieldAddr, opField, opIndexAddr, opLookup, opExtract, opAppendB, opLenB, wrOf, newA, eqlA, keepA, newV, evT, toA, putA, loadA, storeA, takeCells, setCells, isAgg, binA, unA, convA, arith, addOff, dstLen, nilNil, isConst, sameTy, strOp, params, results, packA, AExit.leaves, maxTmp, memN, askIn, fillA, repl, groups, Option.getD, Option.map, List.length, List.all, Int.reduceBEq, Int.reduceBNe, Int.reduceEq, Int.reduceGT, Int.reduceGE, Int.reduceNeg, Int.reduceAdd, Int.reduceSub, Int.reduceLT, Int.reduceLE, Int.reduceToNat, Nat.reduceLT, Nat.reducePow, Nat.reduceAdd, Nat.reduceMul, Nat.reduceLeDiff, Nat.reduceEqDiff, Nat.reduceBEq, reduceIte, ↓reduceIte, reduceCtorEq, syT, tyT, Rg.regF, Rg.findR, pickOps, fT4, Tryz.f4]
      exact fun j hj => by rw [h5]; exact hf2 j hj
  refine Ev.seqN (Q := fun s => s.1.n = 73 ∧ s.2 = H2 ∧ s.1.tm.get 7 = some pv ∧ s.1.tm.get 8 = some (.lptr 0 0) ∧ s.1.tm.get 2 = some (.int .i64 z) ∧ s.1.lv.get 0 = some [.int .i64 x.k, .int .i64 x.n, .str x.s, xa]) ?_ ?_
  · simp only [Ev, o4_6, a1, a2, a3, a4, az, a5, e10, hopv, c, evalCode, runOps, runD, runDraw, askOf, askRecs, askAll, isEff, muteOp, stepA, wantedA, isCall, target, evalOp, opMove, opPick, opAlloc, opBox, opBuild, opBuildSlice, opLoad, opStore, opNilCheck, opBinOp, opUnOp, opConvert, opMakeFunc, opMakeMap, opSlice, opFieldAddr, opField, opIndexAddr, opLookup, opExtract, opAppendB, opLenB, wrOf, newA, eqlA, keepA, newV, evT, toA, putA, loadA, storeA, takeCells, setCells, isAgg, binA, unA, convA, arith, addOff, dstLen, nilNil, isConst, sameTy, strOp, params, results, packA, AExit.leaves, maxTmp, memN, askIn, fillA, repl, groups, Option.getD, Option.map, List.length, List.all, Int.reduceBEq, Int.reduceBNe, Int.reduceEq, Int.reduceGT, Int.reduceGE, Int.reduceNeg, Int.reduceAdd, Int.reduceSub, Int.reduceLT, Int.reduceLE, Int.reduceToNat, Nat.reduceLT, Nat.reducePow, Nat.reduceAdd, Nat.reduceMul, Nat.reduceLeDiff, Nat.reduceEqDiff, Nat.reduceBEq, reduceIte, ↓reduceIte, reduceCtorEq, syT, tyT, Rg.regF, Rg.findR, pickOps, fT4, Tryz.f4]
  clear a1 a2 a3 a4 az a5 e10 c
  rintro s ⟨a1, a2, a3, a4, az, a5⟩
  -- how many
  obtain ⟨m, hm, hml⟩ : ∃ m : Nat, pickI z ((ps.length + 1 : Nat) : Int) = m ∧ m ≤ ps.length := by
    have := pickI_lt (a := z) (n := ps.length + 1) (by omega) (by omega)
    exact ⟨(pickI z ((ps.length + 1 : Nat) : Int)).toNat, by omega, by omega⟩
  have e16 : evalCall (env (ofSp spL)) (k + 2 + 1) false 16 [.int .i64 z, .int .i64 ((ps.length + 1 : Nat) : Int)] H2 = _ := pick16 rfl (by omega) (by omega)
  rw [hm] at e16
  have hlp := hps.len
  have hwl : IntKind.i64.wrap ((ps.length : Int) + 1) = ((ps.length + 1 : Nat) : Int) := wrap_nat (by omega)
  refine Ev.seqN (Q := fun s => s.1.n = 73 ∧ s.2 = H2 ∧ s.1.tm.get 7 = some pv ∧ s.1.tm.get 8 = some (.lptr 0 0) ∧ s.1.tm.get 2 = some (.int .i64 m) ∧ s.1.lv.get 0 = some [.int .i64 x.k, .int .i64 x.n, .str x.s, xa]) ?_ ?_
  · simp only [Ev, o4_8, a1, a2, a3, a4, az, a5, ↓hlp, hwl, e16, hopv, evalCode, runOps, runD, runDraw, askOf, askRecs, askAll, isEff, muteOp, stepA, wantedA, isCall, target, evalOp, opMove, opPick, opAlloc, opBox, opBuild, opBuildSlice, opLoad, opStore, opNilCheck, opBinOp, opUnOp, opConvert, opMakeFunc, opMakeMap, opSlice, opFieldAddr, opField, opIndexAddr, opLookup, opExtract, opAppendB, opLenB, wrOf, newA, eqlA, keepA, newV, evT, toA, putA, loadA, storeA, takeCells, setCells, isAgg, binA, unA, convA, arith, addOff, dstLen, nilNil, isConst, sameTy, strOp, params, results, packA, AExit.leaves, maxTmp, memN, askIn, fillA, repl, groups, Option.getD, Option.map, List.length, List.all, Int.reduceBEq, Int.reduceBNe, Int.reduceEq, Int.reduceGT, Int.reduceGE, Int.reduceNeg, Int.reduceAdd, Int.reduceSub, Int.reduceLT, Int.reduceLE, Int.reduceToNat, Nat.reduceLT, Nat.reducePow, Nat.reduceAdd, Nat.reduceMul, Nat.reduceLeDiff, Nat.reduceEqDiff, Nat.reduceBEq, reduceIte, ↓reduceIte, reduceCtorEq, syT, tyT, Rg.regF, Rg.findR, pickOps, fT4, Tryz.f4]
  clear a1 a2 a3 a4 az a5 e16
  rintro s ⟨a1, a2, a3, a4, az, a5⟩
  obtain ⟨qv, hsl, hq⟩ := slice_pats (sp := ofSp spL) (H := H2) hps hml
  have hoq := hq.one
  have hwfq : WfPs (ps.take m) := by
    have : WfPs (ps.take m ++ ps.drop m) := by rw [List.take_append_drop]; exact hwf
    exact (WfPs_append.1 this).1
  have hszq : Nd.sizes (ps.take m) ≤ 90 := by have := sizes_take ps m; omega
  -- the first tree
  obtain ⟨tv, e11, htv⟩ := of11L (k := k + 2) (H := H2) hq hszq
  have e17 := pick17L (k := k) (H := H2) htv hN hszq
  rw [pick_plain hwfq (by have := weight_rows (ps.take m) 0; have := List.length_take_le m ps; omega)] at e17
  generalize hn : (pickT (buildT 199 (rowsOf (ps.take m) 0)) x).2 = n at e17
  have htc := htv.cells
  obtain ⟨y0, y1, y2, y3, y4, y5, y6, y7, y8, rfl, p0, p1, p2, p3, p4, p5, p6, p7, p8⟩ := htc
  refine Ev.seqN (Q := fun s => s.1.n = 73 ∧ s.2 = H2 ∧ s.1.tm.get 7 = some pv ∧ s.1.tm.get 8 = some (.lptr 0 0) ∧ s.1.tm.get 2 = some (.int .i64 m) ∧ s.1.tm.get 9 = some (.int .i64 (idxI (bindB · x) (ps.take m))) ∧ s.1.lv.get 0 = some [.int .i64 x.k, .int .i64 x.n, .str x.s, xa]) ?_ ?_
  · simp only [Ev, ↓drw4_9, d4_9, a1, a2, a3, a4, az, a5, hsl, e11, e17, hopv, hoq, hoxa, hxsame, p0, p1, p2, p3, p4, p5, p6, p7, p8, List.take, List.drop, evalCode, runOps, runD, runDraw, askOf, askRecs, askAll, isEff, muteOp, stepA, wantedA, isCall, target, evalOp, opMove, opPick, opAlloc, opBox, opBuild, opBuildSlice, opLoad, opStore, opNilCheck, opBinOp, opUnOp, opConvert, opMakeFunc, opMakeMap, opSlice, opFieldAddr, opField, opIndexAddr, opLookup, opExtract, opAppendB, opLenB, wrOf, newA, eqlA, keepA, newV, evT, toA, putA, loadA, storeA, takeCells, setCells, isAgg, binA, unA, convA, arith, addOff, dstLen, nilNil, isConst, sameTy, strOp, params, results, packA, AExit.leaves, maxTmp, memN, askIn, fillA, repl, groups, Option.getD, Option.map, List.length, List.all, Int.reduceBEq, Int.reduceBNe, Int.reduceEq, Int.reduceGT, Int.reduceGE, Int.reduceNeg, Int.reduceAdd, Int.reduceSub, Int.reduceLT, Int.reduceLE, Int.reduceToNat, Nat.reduceLT, Nat.reducePow, Nat.reduceAdd, Nat.reduceMul, Nat.reduceLeDiff, Nat.reduceEqDiff, Nat.reduceBEq, reduceIte, ↓reduceIte, reduceCtorEq, syT, tyT, Rg.regF, Rg.findR, pickOps, fT4, Tryz.f4]
  clear a1 a2 a3 a4 az a5 e11 e17 htv p0 p1 p2 p3 p4 p5 p6 p7 p8
  rintro s ⟨a1, a2, a3, a4, az, a6, a5⟩
  -- the second
  obtain ⟨tv, e11, htv⟩ := of11L (k := k + 2) (H := H2) hps hsz
  have e17 := pick17L (k := k) (H := H2) htv hN hsz
  rw [pick_plain hwf (by have := weight_rows ps 0; omega)] at e17
  generalize hn2' : (pickT (buildT 199 (rowsOf ps 0)) x).2 = n2 at e17
  have htc := htv.cells
  obtain ⟨y0, y1, y2, y3, y4, y5, y6, y7, y8, rfl, p0, p1, p2, p3, p4, p5, p6, p7, p8⟩ := htc
  refine Ev.seqN (Q := fun s => s.1.n = 73 ∧ s.2 = H2 ∧ s.1.tm.get 2 = some (.int .i64 m) ∧ s.1.tm.get 9 = some (.int .i64 (idxI (bindB · x) (ps.take m))) ∧ s.1.tm.get 11 = some (.int .i64 (idxI (bindB · x) ps))) ?_ ?_
  · simp only [Ev, ↓drw4_10, d4_10, a1, a2, a3, a4, az, a5, a6, e11, e17, hopv, hoxa, hxsame, p0, p1, p2, p3, p4, p5, p6, p7, p8, List.take, List.drop, evalCode, runOps, runD, runDraw, askOf, askRecs, askAll, isEff, muteOp, stepA, wantedA, isCall, target, evalOp, opMove, opPick, opAlloc, opBox, opBuild, opBuildSlice, opLoad, opStore, opNilCheck, opBinOp, opUnOp, opConvert, opMakeFunc, opMakeMap, opSlice, opFieldAddr, opField, opIndexAddr, opLookup, opExtract, opAppendB, opLenB, wrOf, newA, eqlA, keepA, newV, evT, toA, putA, loadA, storeA, takeCells, setCells, isAgg, binA, unA, convA, arith, addOff, dstLen, nilNil, isConst, sameTy, strOp, params, results, packA, AExit.leaves, maxTmp, memN, askIn, fillA, repl, groups, Option.getD, Option.map, List.length, List.all, Int.reduceBEq, Int.reduceBNe, Int.reduceEq, Int.reduceGT, Int.reduceGE, Int.reduceNeg, Int.reduceAdd, Int.reduceSub, Int.reduceLT, Int.reduceLE, Int.reduceToNat, Nat.reduceLT, Nat.reducePow, Nat.reduceAdd, Nat.reduceMul, Nat.reduceLeDiff, Nat.reduceEqDiff, Nat.reduceBEq, reduceIte, ↓reduceIte, reduceCtorEq, syT, tyT, Rg.regF, Rg.findR, pickOps, fT4, Tryz.f4]
  clear a1 a2 a3 a4 az a5 a6 e11 e17 htv p0 p1 p2 p3 p4 p5 p6 p7 p8
  rintro s ⟨a1, a2, az, a6, a7⟩
  have hcase := idxI_take (bindB · x) ps m
  generalize idxI (bindB · x) (ps.take m) = i at a6 hcase
  generalize idxI (bindB · x) ps = j at a7 hcase
  rcases hcase with ⟨rfl, rfl⟩ | ⟨rfl, hj⟩ | ⟨hi, rfl⟩
  · simp only [Ev, o4_11, a1, a2, az, a6, a7, evalCode, runOps, runD, runDraw, askOf, askRecs, askAll, isEff, muteOp, stepA, wantedA, isCall, target, evalOp, opMove, opPick, opAlloc, opBox, opBuild, opBuildSlice, opLoad, opStore, opNilCheck, opBinOp, opUnOp, opConvert, opMakeFunc, opMakeMap, opSlice, opFieldAddr, opField, opIndexAddr, opLookup, opExtract, opAppendB, opLenB, wrOf, newA, eqlA, keepA, newV, evT, toA, putA, loadA, storeA, takeCells, setCells, isAgg, binA, unA, convA, arith, addOff, dstLen, nilNil, isConst, sameTy, strOp, params, results, packA, AExit.leaves, maxTmp, memN, askIn, fillA, repl, groups, Option.getD, Option.map, List.length, List.all, Int.reduceBEq, Int.reduceBNe, Int.reduceEq, Int.reduceGT, Int.reduceGE, Int.reduceNeg, Int.reduceAdd, Int.reduceSub, Int.reduceLT, Int.reduceLE, Int.reduceToNat, Nat.reduceLT, Nat.reducePow, Nat.reduceAdd, Nat.reduceMul, Nat.reduceLeDiff, Nat.reduceEqDiff, Nat.reduceBEq, reduceIte, ↓reduceIte, reduceCtorEq, syT, tyT, Rg.regF, Rg.findR, pickOps, fT4, Tryz.f4]
    exact hf2
  · have c1 : decide (j < 0) = false := by simp; omega
    have c2 : decide (j ≥ (m : Int)) = true := by simp; omega
    simp only [Ev, o4_11, a1, a2, az, a6, a7, c1, c2, evalCode, runOps, runD, runDraw, askOf, askRecs, askAll, isEff, muteOp, stepA, wantedA, isCall, target, evalOp, opMove, opPick, opAlloc, opBox, opBuild, opBuildSlice, opLoad, opStore, opNilCheck, opBinOp, opUnOp, opConvert, opMakeFunc, opMakeMap, opSlice, opFieldAddr, opField, opIndexAddr, opLookup, opExtract, opAppendB, opLenB, wrOf, newA, eqlA, keepA, newV, evT, toA, putA, loadA, storeA, takeCells, setCells, isAgg, binA, unA, convA, arith, addOff, dstLen, nilNil, isConst, sameTy, strOp, params, results, packA, AExit.leaves, maxTmp, memN, askIn, fillA, repl, groups, Option.getD, Option.map, List.length, List.all, Int.reduceBEq, Int.reduceBNe, Int.reduceEq, Int.reduceGT, Int.reduceGE, Int.reduceNeg, Int.reduceAdd, Int.reduceSub, Int.reduceLT, Int.reduceLE, Int.reduceToNat, Nat.reduceLT, Nat.reducePow, Nat.reduceAdd, Nat.reduceMul, Nat.reduceLeDiff, Nat.reduceEqDiff, Nat.reduceBEq, reduceIte, ↓reduceIte, reduceCtorEq, syT, tyT, Rg.regF, Rg.findR, pickOps, fT4, Tryz.f4]
    exact hf2
  · have c1 : decide (j < 0) = false := by simp; omega
    have c2 : decide (j ≥ 0) = true := by simp; omega
    simp only [Ev, o4_11, a1, a2, az, a6, a7, c1, c2, evalCode, runOps, runD, runDraw, askOf, askRecs, askAll, isEff, muteOp, stepA, wantedA, isCall, target, evalOp, opMove, opPick, opAlloc, opBox, opBuild, opBuildSlice, opLoad, opStore, opNilCheck, opBinOp, opUnOp, opConvert, opMakeFunc, opMakeMap, opSlice, opFieldAddr, opField, opIndexAddr, opLookup, opExtract, opAppendB, opLenB, wrOf, newA, eqlA, keepA, newV, evT, toA, putA, loadA, storeA, takeCells, setCells, isAgg, binA, unA, convA, arith, addOff, dstLen, nilNil, isConst, sameTy, strOp, params, results, packA, AExit.leaves, maxTmp, memN, askIn, fillA, repl, groups, Option.getD, Option.map, List.length, List.all, Int.reduceBEq, Int.reduceBNe, Int.reduceEq, Int.reduceGT, Int.reduceGE, Int.reduceNeg, Int.reduceAdd, Int.reduceSub, Int.reduceLT, Int.reduceLE, Int.reduceToNat, Nat.reduceLT, Nat.reducePow, Nat.reduceAdd, Nat.reduceMul, Nat.reduceLeDiff, Nat.reduceEqDiff, Nat.reduceBEq, reduceIte, ↓reduceIte, reduceCtorEq, syT, tyT, Rg.regF, Rg.findR, pickOps, fT4, Tryz.f4]
    exact hf2
end Go.Rs.Seat
end
