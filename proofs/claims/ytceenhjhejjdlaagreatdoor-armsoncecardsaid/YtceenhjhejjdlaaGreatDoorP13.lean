/- Package arms: bind, Bind, First. -/
import Derived.Test.YtceenhjhejjdlaaGreatDoorP12
set_option linter.unusedSimpArgs false
set_option linter.unusedVariables false
section
namespace Go.Rs.Seat
open Go.Proofs Rg
set_option maxRecDepth 100000
set_option maxHeartbeats 8000000

mutual
/-- does the pattern fit? -/
def bindB : Nd → Nd → Bool
  | .mk k n s l, v => if k == 1 then true else if k == 2 then true else if k == 6 then (if v.k != 5 then false else if !(v.s.data.toList == s.data.toList) then false else if (v.l.length : Int) != (l.length : Int) then false else bindL l v.l) else litB (.mk k n s []) v
def bindL : List Nd → List Nd → Bool
  | p :: ps, v :: vs => bindB p v && bindL ps vs
  | [], _ => true
  | _ :: _, [] => true
end

theorem bindB_eq (p v : Nd) : bindB p v = if p.k == 1 then true else if p.k == 2 then true else if p.k == 6 then (if v.k != 5 then false else if !(v.s.data.toList == p.s.data.toList) then false else if (v.l.length : Int) != (p.l.length : Int) then false else bindL p.l v.l) else litB (.mk p.k p.n p.s []) v := by
  cases p with
  | mk k n s l => rw [bindB]; rfl

theorem bindL_false : ∀ {ps vs : List Nd} {i : Nat} {p v : Nd}, ps[i]? = some p → vs[i]? = some v → bindB p v = false → bindL ps vs = false
  | [], _, i, p, v, h, _, _ => by simp at h
  | _ :: _, [], i, p, v, _, h, _ => by simp at h
  | q :: ps, w :: vs, 0, p, v, h1, h2, h => by simp at h1 h2; subst h1 h2; simp [bindL, h]
  | q :: ps, w :: vs, i + 1, p, v, h1, h2, h => by
    simp only [bindL]
    rw [bindL_false (ps := ps) (vs := vs) (i := i) (by simpa using h1) (by simpa using h2) h]
    simp
theorem bindL_true : ∀ {ps vs : List Nd}, (∀ (i : Nat) (p v : Nd), ps[i]? = some p → vs[i]? = some v → bindB p v = true) → bindL ps vs = true
  | [], _, _ => by simp [bindL]
  | _ :: _, [], _ => by simp [bindL]
  | q :: ps, w :: vs, h => by
    simp only [bindL, Bool.and_eq_true]
    exact ⟨h 0 q w rfl rfl, bindL_true fun i p v h1 h2 => h (i + 1) p v (by simpa using h1) (by simpa using h2)⟩

section
variable {sp : Bool → FuncId → Option (List AVal → Hp → Option (AVal × Hp))}

/-- what is known of the values that are bound -/
def OutOk (B : Nat) (o : AVal) (lo : List Nd) (H : Hp) : Prop := IsL o lo ∧ Gr B 4 o H ∧ B ≤ H.next

/-- bind does what it should at the pattern -/
def BindOk (sp : Bool → FuncId → Option (List AVal → Hp → Option (AVal × Hp))) (p : Nd) : Prop :=
  ∀ k, 2 * p.size ≤ k → ∀ (B : Nat) (a v o : AVal) (x : Nd) (lo : List Nd) (H : Hp), IsN p a → IsN x v → OutOk B o lo H → H.next + p.size ≤ 4000 → lo.length + p.size ≤ 4000 →
    ∃ r lo' H', evalCall (env sp) k false 52 [a, v, o] H = some (.tuple [r, .bool (bindB p x)], H') ∧ OutOk B r lo' H' ∧ H.next ≤ H'.next ∧ H'.next ≤ H.next + p.size ∧ lo'.length ≤ lo.length + p.size ∧ Nd.sizes lo' ≤ Nd.sizes lo + x.size

theorem sizes_append : ∀ (l m : List Nd), Nd.sizes (l ++ m) = Nd.sizes l + Nd.sizes m
  | [], m => by simp [Nd.sizes]
  | x :: l, m => by simp only [List.cons_append, Nd.sizes]; rw [sizes_append l m]; omega

def Inv52 (B : Nat) (p x : Nd) (pa va : AVal) (lo : List Nd) (H0 : Hp) (i : Nat) (st : St) : Prop :=
  st.1.n = 70 ∧ st.1.tm.get 3 = some (.lptr 0 0) ∧ st.1.tm.get 4 = some (.lptr 1 0) ∧ st.1.tm.get 44 = some pa ∧ st.1.tm.get 45 = some (.int .i64 p.l.length) ∧ st.1.tm.get 46 = some (.int .i64 i) ∧ st.1.lv.next = i + 2 ∧
    st.1.lv.get 0 = some [.int .i64 p.k, .int .i64 p.n, .str p.s, pa] ∧ st.1.lv.get 1 = some [.int .i64 x.k, .int .i64 x.n, .str x.s, va] ∧
    H0.next ≤ st.2.next ∧ st.2.next ≤ H0.next + Nd.sizes (p.l.take i) ∧
    ∃ o, st.1.tm.get 2 = some o ∧ ∃ lo', OutOk B o lo' st.2 ∧ lo'.length ≤ lo.length + Nd.sizes (p.l.take i) ∧ Nd.sizes lo' ≤ Nd.sizes lo + Nd.sizes (x.l.take i)

theorem bind52_step {k : Nat} {st : St} {H0 : Hp} {B : Nat} {p x : Nd} {pa va : AVal} {lo : List Nd} {i : Nat} {q y : Nd} (hq : p.l[i]? = some q) (hy : x.l[i]? = some y) (hpa : IsL pa p.l) (hva : IsL va x.l) (hok : BindOk sp q) (hk : 2 * q.size ≤ k)
    (h : Inv52 B p x pa va lo H0 i st) (hs : H0.next + p.size ≤ 4000) (hlo : lo.length + p.size ≤ 4000) :
    Ev (env sp) (evalCall (env sp) k) false 52 b52_1 st fun ex s => if bindB q y = true then ex = .normal ∧ Inv52 B p x pa va lo H0 (i + 1) s else
      ex = .ret ∧ s.1.tm.get 6 = some .nilslice ∧ s.1.tm.get 7 = some (.bool false) ∧ B ≤ s.2.next ∧ H0.next ≤ s.2.next ∧ s.2.next ≤ H0.next + p.size := by
  obtain ⟨hn', h3, h4, h44, h45, h46, hln, hl0, hl1, hHn, hHs, o, h2, lo', ⟨ho, hgo, hB⟩, hlo1, hlo2⟩ := h
  have hi : i < p.l.length := (List.getElem?_eq_some_iff.1 hq).1
  have hj : i < x.l.length := (List.getElem?_eq_some_iff.1 hy).1
  have hsz := sizes_get hq
  have hst := sizes_take p.l (i + 1)
  have hpl := sizes_len p.l
  have hps := size_eq p
  have hszx := sizes_get hy
  obtain ⟨vs, tok, rfl, hvs⟩ := hpa.list hq
  obtain ⟨a, hqa, hNq⟩ := hvs.get hq
  obtain ⟨ws, tok', rfl, hws⟩ := hva.list hy
  obtain ⟨b, hyb, hNy⟩ := hws.get hy
  have hvl := hvs.1
  have hwl := hws.1
  obtain ⟨a', rfl, ha'⟩ := hNq.cells
  obtain ⟨b', rfl, hb'⟩ := hNy.cells
  obtain ⟨r, lo2, H1, e52, ⟨hr, hgr, hB1⟩, hr1, hr2, hr3, hr4⟩ := hok k hk B _ _ o y lo' st.2 hNq hNy ⟨ho, hgo, hB⟩ (by omega) (by omega)
  have hoo := hgo.one
  have hor := hgr.one
  have hoa := ha'.one
  have hob := hb'.one
  have hi' : ((i : Int) < (p.l.length : Int)) = True := by simp [hi]
  have hj' : ((i : Int) < (x.l.length : Int)) = True := by simp [hj]
  have h0' : (0 ≤ (i : Int)) = True := by simp
  have hw : IntKind.i64.wrap ((i : Int) + 1) = ((i + 1 : Nat) : Int) := wrap_nat (by omega)
  have hlv : (i + 2 < 4096) = True := by simp; omega
  have hlv0 : ¬ i + 2 = 0 := by omega
  have hlv1 : ¬ i + 2 = 1 := by omega
  rcases bool_split (bindB q y) with c | c
  · rw [c] at e52
    simp only [Ev, Inv52, b52_1, o52_10, o52_11, o52_12, ↓drw52_13, d52_13, o52_14, o52_16, hn', h2, h3, h4, h44, h45, h46, hln, hl0, hl1, hi', hj', h0', hqa, hyb, hvl, hwl, hlv, hlv0, hlv1, e52, hw, c, hoo, hor, hoa, hob, evalCode, runOps, runD, runDraw, askOf, askRecs, askAll, isEff, muteOp, stepA, wantedA, isCall, target, evalOp, opMove, opPick, opAlloc, opBox, opBuild, opBuildSlice, opLoad, opStore, opNilCheck, opBinOp, opUnOp, opConvert, opMakeFunc, opMakeMap, opSlice, opFieldAddr, opField, opIndexAddr, opLookup, opExtract, opAppendB, opLenB, wrOf, newA, eqlA, keepA, newV, evT, toA, putA, loadA, storeA, takeCells, setCells, isAgg, binA, unA, convA, arith, addOff, dstLen, nilNil, isConst, sameTy, strOp, params, results, packA, AExit.leaves, maxTmp, memN, askIn, fillA, repl, groups, Option.getD, Option.map, List.length, List.all, Int.reduceBEq, Int.reduceBNe, Int.reduceEq, Int.reduceGT, Int.reduceGE, Int.reduceNeg, Int.reduceAdd, Int.reduceSub, Int.reduceLT, Int.reduceLE, Int.reduceToNat, Nat.reduceLT, Nat.reducePow, Nat.reduceAdd, Nat.reduceMul, Nat.reduceLeDiff, Nat.reduceEqDiff, Nat.reduceBEq, reduceIte, ↓reduceIte, reduceCtorEq, syT, tyT, Rg.regF, Rg.findR, pickOps, fT52, Tryz.f52]
    refine ⟨by omega, by omega, lo2, ⟨hr, hgr, hB1⟩, by omega, by omega⟩
  · rw [c] at e52
    simp only [Ev, b52_1, o52_10, o52_11, o52_12, ↓drw52_13, d52_13, o52_14, o52_15, hn', h2, h3, h4, h44, h45, h46, hln, hl0, hl1, hi', hj', h0', hqa, hyb, hvl, hwl, hlv, hlv0, hlv1, e52, hw, c, hoo, hor, hoa, hob, evalCode, runOps, runD, runDraw, askOf, askRecs, askAll, isEff, muteOp, stepA, wantedA, isCall, target, evalOp, opMove, opPick, opAlloc, opBox, opBuild, opBuildSlice, opLoad, opStore, opNilCheck, opBinOp, opUnOp, opConvert, opMakeFunc, opMakeMap, opSlice, opFieldAddr, opField, opIndexAddr, opLookup, opExtract, opAppendB, opLenB, wrOf, newA, eqlA, keepA, newV, evT, toA, putA, loadA, storeA, takeCells, setCells, isAgg, binA, unA, convA, arith, addOff, dstLen, nilNil, isConst, sameTy, strOp, params, results, packA, AExit.leaves, maxTmp, memN, askIn, fillA, repl, groups, Option.getD, Option.map, List.length, List.all, Int.reduceBEq, Int.reduceBNe, Int.reduceEq, Int.reduceGT, Int.reduceGE, Int.reduceNeg, Int.reduceAdd, Int.reduceSub, Int.reduceLT, Int.reduceLE, Int.reduceToNat, Nat.reduceLT, Nat.reducePow, Nat.reduceAdd, Nat.reduceMul, Nat.reduceLeDiff, Nat.reduceEqDiff, Nat.reduceBEq, reduceIte, ↓reduceIte, reduceCtorEq, syT, tyT, Rg.regF, Rg.findR, pickOps, fT52, Tryz.f52]
    refine ⟨by omega, by omega, by omega⟩

theorem bind52_end {call : CallF} {st : St} {H0 : Hp} {B : Nat} {p x : Nd} {pa va : AVal} {lo : List Nd} (h : Inv52 B p x pa va lo H0 p.l.length st) :
    Ev (env sp) call false 52 b52_1 st fun ex s => ex = .exit 1 ∧ Inv52 B p x pa va lo H0 p.l.length s := by
  obtain ⟨hn', h3, h4, h44, h45, h46, hln, hl0, hl1, hHn, hHs, o, h2, lo', ho, hlo1, hlo2⟩ := h
  have hi' : ((p.l.length : Int) < (p.l.length : Int)) = False := by simp
  simp only [Ev, Inv52, b52_1, o52_10, hn', h2, h3, h4, h44, h45, h46, hln, hl0, hl1, hi', evalCode, runOps, runD, runDraw, askOf, askRecs, askAll, isEff, muteOp, stepA, wantedA, isCall, target, evalOp, opMove, opPick, opAlloc, opBox, opBuild, opBuildSlice, opLoad, opStore, opNilCheck, opBinOp, opUnOp, opConvert, opMakeFunc, opMakeMap, opSlice, opFieldAddr, opField, opIndexAddr, opLookup, opExtract, opAppendB, opLenB, wrOf, newA, eqlA, keepA, newV, evT, toA, putA, loadA, storeA, takeCells, setCells, isAgg, binA, unA, convA, arith, addOff, dstLen, nilNil, isConst, sameTy, strOp, params, results, packA, AExit.leaves, maxTmp, memN, askIn, fillA, repl, groups, Option.getD, Option.map, List.length, List.all, Int.reduceBEq, Int.reduceBNe, Int.reduceEq, Int.reduceGT, Int.reduceGE, Int.reduceNeg, Int.reduceAdd, Int.reduceSub, Int.reduceLT, Int.reduceLE, Int.reduceToNat, Nat.reduceLT, Nat.reducePow, Nat.reduceAdd, Nat.reduceMul, Nat.reduceLeDiff, Nat.reduceEqDiff, Nat.reduceBEq, reduceIte, ↓reduceIte, reduceCtorEq, syT, tyT, Rg.regF, Rg.findR, pickOps, fT52, Tryz.f52]
  exact ⟨hHn, hHs, lo', ho, hlo1, hlo2⟩

theorem bind52 (h52 : sp false 52 = none) (h31 : sp false 31 = none) : ∀ (N : Nat) (p : Nd), p.size ≤ N → BindOk sp p
  | 0, p, h => absurd h (by have := size_pos p; omega)
  | N + 1, p, h => by
    intro k hk B a v o x lo H hp hx hO hH hlo
    obtain ⟨ho, hgo, hB⟩ := hO
    have hsz := size_eq p
    obtain ⟨pa, rfl, hpa⟩ := hp.cells
    obtain ⟨va, rfl, hva⟩ := hx.cells
    have hop := hpa.one
    have hov := hva.one
    have hoo := hgo.one
    have hlp := hpa.len
    have hlx := hva.len
    obtain ⟨k', rfl⟩ : ∃ k', k = k' + 1 + 1 := ⟨k - 2, by omega⟩
    have same : OutOk B o lo H := ⟨ho, hgo, hB⟩
    rw [bindB_eq]
    rcases bool_split (p.k == 1) with c1 | c1
    · have key : evalCall (env sp) (k' + 1 + 1) false 52 [.agg [.int .i64 p.k, .int .i64 p.n, .str p.s, pa], .agg [.int .i64 x.k, .int .i64 x.n, .str x.s, va], o] H = some (.tuple [o, .bool true], H) := by
        rw [evalCall]
        simp only [h52, Tryz.func52, Tryz.f52, hop, hov, hoo, c1, evalCode, runOps, runD, runDraw, askOf, askRecs, askAll, isEff, muteOp, stepA, wantedA, isCall, target, evalOp, opMove, opPick, opAlloc, opBox, opBuild, opBuildSlice, opLoad, opStore, opNilCheck, opBinOp, opUnOp, opConvert, opMakeFunc, opMakeMap, opSlice, opFieldAddr, opField, opIndexAddr, opLookup, opExtract, opAppendB, opLenB, wrOf, newA, eqlA, keepA, newV, evT, toA, putA, loadA, storeA, takeCells, setCells, isAgg, binA, unA, convA, arith, addOff, dstLen, nilNil, isConst, sameTy, strOp, params, results, packA, AExit.leaves, maxTmp, memN, askIn, fillA, repl, groups, Option.getD, Option.map, List.length, List.all, Int.reduceBEq, Int.reduceBNe, Int.reduceEq, Int.reduceGT, Int.reduceGE, Int.reduceNeg, Int.reduceAdd, Int.reduceSub, Int.reduceLT, Int.reduceLE, Int.reduceToNat, Nat.reduceLT, Nat.reducePow, Nat.reduceAdd, Nat.reduceMul, Nat.reduceLeDiff, Nat.reduceEqDiff, Nat.reduceBEq, reduceIte, ↓reduceIte, reduceCtorEq, syT, tyT, Rg.regF, Rg.findR, pickOps, fT52, Tryz.f52]
      rw [if_pos c1]
      exact ⟨o, lo, H, key, same, Nat.le_refl _, by omega, by omega, by omega⟩
    rcases bool_split (p.k == 2) with c2 | c2
    · obtain ⟨o', H2, eap, ho', hgo', hn2, hf2⟩ := app_gr (P := fun v x => IsN x v) (E := env sp) (T := 27) (e := 29) (sz := 4) (tk := .full) (by rw [ty27]) (by rw [ty29]; decide) (by rw [ty29]) hgo ho (AllP.cons hx AllP.nil) (by simp) (by omega) hB (by simp; omega)
      have hoo' := hgo'.one
      have key : evalCall (env sp) (k' + 1 + 1) false 52 [.agg [.int .i64 p.k, .int .i64 p.n, .str p.s, pa], .agg [.int .i64 x.k, .int .i64 x.n, .str x.s, va], o] H = some (.tuple [o', .bool true], H2) := by
        rw [evalCall]
        simp only [h52, Tryz.func52, Tryz.f52, hop, hov, hoo, hoo', c1, c2, eap, evalCode, runOps, runD, runDraw, askOf, askRecs, askAll, isEff, muteOp, stepA, wantedA, isCall, target, evalOp, opMove, opPick, opAlloc, opBox, opBuild, opBuildSlice, opLoad, opStore, opNilCheck, opBinOp, opUnOp, opConvert, opMakeFunc, opMakeMap, opSlice, opFieldAddr, opField, opIndexAddr, opLookup, opExtract, opAppendB, opLenB, wrOf, newA, eqlA, keepA, newV, evT, toA, putA, loadA, storeA, takeCells, setCells, isAgg, binA, unA, convA, arith, addOff, dstLen, nilNil, isConst, sameTy, strOp, params, results, packA, AExit.leaves, maxTmp, memN, askIn, fillA, repl, groups, Option.getD, Option.map, List.length, List.all, Int.reduceBEq, Int.reduceBNe, Int.reduceEq, Int.reduceGT, Int.reduceGE, Int.reduceNeg, Int.reduceAdd, Int.reduceSub, Int.reduceLT, Int.reduceLE, Int.reduceToNat, Nat.reduceLT, Nat.reducePow, Nat.reduceAdd, Nat.reduceMul, Nat.reduceLeDiff, Nat.reduceEqDiff, Nat.reduceBEq, reduceIte, ↓reduceIte, reduceCtorEq, syT, tyT, Rg.regF, Rg.findR, pickOps, fT52, Tryz.f52]
      rw [if_neg (by simp [c1]), if_pos c2]
      refine ⟨o', _, H2, key, ⟨ho', hgo', by omega⟩, by omega, by omega, by simp; omega, ?_⟩
      rw [sizes_append]; simp [Nd.sizes]
    rw [if_neg (by simp [c1]), if_neg (by simp [c2])]
    rcases bool_split (p.k == 6) with c6 | c6
    · rw [if_pos c6]
      rcases bool_split (x.k != 5) with d1 | d1
      · have key : evalCall (env sp) (k' + 1 + 1) false 52 [.agg [.int .i64 p.k, .int .i64 p.n, .str p.s, pa], .agg [.int .i64 x.k, .int .i64 x.n, .str x.s, va], o] H = some (.tuple [.nilslice, .bool false], H) := by
          rw [evalCall]
          simp only [h52, Tryz.func52, Tryz.f52, hop, hov, hoo, c1, c2, c6, d1, evalCode, runOps, runD, runDraw, askOf, askRecs, askAll, isEff, muteOp, stepA, wantedA, isCall, target, evalOp, opMove, opPick, opAlloc, opBox, opBuild, opBuildSlice, opLoad, opStore, opNilCheck, opBinOp, opUnOp, opConvert, opMakeFunc, opMakeMap, opSlice, opFieldAddr, opField, opIndexAddr, opLookup, opExtract, opAppendB, opLenB, wrOf, newA, eqlA, keepA, newV, evT, toA, putA, loadA, storeA, takeCells, setCells, isAgg, binA, unA, convA, arith, addOff, dstLen, nilNil, isConst, sameTy, strOp, params, results, packA, AExit.leaves, maxTmp, memN, askIn, fillA, repl, groups, Option.getD, Option.map, List.length, List.all, Int.reduceBEq, Int.reduceBNe, Int.reduceEq, Int.reduceGT, Int.reduceGE, Int.reduceNeg, Int.reduceAdd, Int.reduceSub, Int.reduceLT, Int.reduceLE, Int.reduceToNat, Nat.reduceLT, Nat.reducePow, Nat.reduceAdd, Nat.reduceMul, Nat.reduceLeDiff, Nat.reduceEqDiff, Nat.reduceBEq, reduceIte, ↓reduceIte, reduceCtorEq, syT, tyT, Rg.regF, Rg.findR, pickOps, fT52, Tryz.f52]
        rw [if_pos d1]
        exact ⟨_, [], H, key, ⟨.inl ⟨rfl, rfl⟩, .nil, hB⟩, Nat.le_refl _, by omega, by simp, by simp [Nd.sizes]⟩
      rw [if_neg (by simp [d1])]
      rcases bool_split (!(x.s.data.toList == p.s.data.toList)) with d2 | d2
      · have key : evalCall (env sp) (k' + 1 + 1) false 52 [.agg [.int .i64 p.k, .int .i64 p.n, .str p.s, pa], .agg [.int .i64 x.k, .int .i64 x.n, .str x.s, va], o] H = some (.tuple [.nilslice, .bool false], H) := by
          rw [evalCall]
          simp only [h52, Tryz.func52, Tryz.f52, hop, hov, hoo, c1, c2, c6, d1, d2, evalCode, runOps, runD, runDraw, askOf, askRecs, askAll, isEff, muteOp, stepA, wantedA, isCall, target, evalOp, opMove, opPick, opAlloc, opBox, opBuild, opBuildSlice, opLoad, opStore, opNilCheck, opBinOp, opUnOp, opConvert, opMakeFunc, opMakeMap, opSlice, opFieldAddr, opField, opIndexAddr, opLookup, opExtract, opAppendB, opLenB, wrOf, newA, eqlA, keepA, newV, evT, toA, putA, loadA, storeA, takeCells, setCells, isAgg, binA, unA, convA, arith, addOff, dstLen, nilNil, isConst, sameTy, strOp, params, results, packA, AExit.leaves, maxTmp, memN, askIn, fillA, repl, groups, Option.getD, Option.map, List.length, List.all, Int.reduceBEq, Int.reduceBNe, Int.reduceEq, Int.reduceGT, Int.reduceGE, Int.reduceNeg, Int.reduceAdd, Int.reduceSub, Int.reduceLT, Int.reduceLE, Int.reduceToNat, Nat.reduceLT, Nat.reducePow, Nat.reduceAdd, Nat.reduceMul, Nat.reduceLeDiff, Nat.reduceEqDiff, Nat.reduceBEq, reduceIte, ↓reduceIte, reduceCtorEq, syT, tyT, Rg.regF, Rg.findR, pickOps, fT52, Tryz.f52]
        rw [if_pos d2]
        exact ⟨_, [], H, key, ⟨.inl ⟨rfl, rfl⟩, .nil, hB⟩, Nat.le_refl _, by omega, by simp, by simp [Nd.sizes]⟩
      rw [if_neg (by rw [d2]; simp)]
      rcases bool_split ((x.l.length : Int) != (p.l.length : Int)) with d3 | d3
      · have key : evalCall (env sp) (k' + 1 + 1) false 52 [.agg [.int .i64 p.k, .int .i64 p.n, .str p.s, pa], .agg [.int .i64 x.k, .int .i64 x.n, .str x.s, va], o] H = some (.tuple [.nilslice, .bool false], H) := by
          rw [evalCall]
          simp only [h52, Tryz.func52, Tryz.f52, hop, hov, hoo, ↓hlp, ↓hlx, c1, c2, c6, d1, d2, d3, evalCode, runOps, runD, runDraw, askOf, askRecs, askAll, isEff, muteOp, stepA, wantedA, isCall, target, evalOp, opMove, opPick, opAlloc, opBox, opBuild, opBuildSlice, opLoad, opStore, opNilCheck, opBinOp, opUnOp, opConvert, opMakeFunc, opMakeMap, opSlice, opFieldAddr, opField, opIndexAddr, opLookup, opExtract, opAppendB, opLenB, wrOf, newA, eqlA, keepA, newV, evT, toA, putA, loadA, storeA, takeCells, setCells, isAgg, binA, unA, convA, arith, addOff, dstLen, nilNil, isConst, sameTy, strOp, params, results, packA, AExit.leaves, maxTmp, memN, askIn, fillA, repl, groups, Option.getD, Option.map, List.length, List.all, Int.reduceBEq, Int.reduceBNe, Int.reduceEq, Int.reduceGT, Int.reduceGE, Int.reduceNeg, Int.reduceAdd, Int.reduceSub, Int.reduceLT, Int.reduceLE, Int.reduceToNat, Nat.reduceLT, Nat.reducePow, Nat.reduceAdd, Nat.reduceMul, Nat.reduceLeDiff, Nat.reduceEqDiff, Nat.reduceBEq, reduceIte, ↓reduceIte, reduceCtorEq, syT, tyT, Rg.regF, Rg.findR, pickOps, fT52, Tryz.f52]
        rw [if_pos d3]
        exact ⟨_, [], H, key, ⟨.inl ⟨rfl, rfl⟩, .nil, hB⟩, Nat.le_refl _, by omega, by simp, by simp [Nd.sizes]⟩
      rw [if_neg (by simp [d3])]
      have hll : x.l.length = p.l.length := by simp at d3; omega
      have hpl := sizes_len p.l
      have key : ∃ r, evalCall (env sp) (k' + 1 + 1) false 52 [.agg [.int .i64 p.k, .int .i64 p.n, .str p.s, pa], .agg [.int .i64 x.k, .int .i64 x.n, .str x.s, va], o] H = some r ∧
          (∃ r' lo', r.1 = .tuple [r', .bool (bindL p.l x.l)] ∧ OutOk B r' lo' r.2 ∧ H.next ≤ r.2.next ∧ r.2.next ≤ H.next + p.size ∧ lo'.length ≤ lo.length + p.size ∧ Nd.sizes lo' ≤ Nd.sizes lo + x.size) := by
        refine enter52 (Post := fun v H' => ∃ r' lo', v = .tuple [r', .bool (bindL p.l x.l)] ∧ OutOk B r' lo' H' ∧ H.next ≤ H'.next ∧ H'.next ≤ H.next + p.size ∧ lo'.length ≤ lo.length + p.size ∧ Nd.sizes lo' ≤ Nd.sizes lo + x.size) h52 rfl ?_
        unfold c52
        refine Ev.seqN (Q := fun s => s.1.n = 70 ∧ s.2 = H ∧ s.1.tm.get 2 = some o ∧ s.1.tm.get 3 = some (.lptr 0 0) ∧ s.1.tm.get 4 = some (.lptr 1 0) ∧ s.1.lv.next = 2 ∧
          s.1.lv.get 0 = some [.int .i64 p.k, .int .i64 p.n, .str p.s, pa] ∧ s.1.lv.get 1 = some [.int .i64 x.k, .int .i64 x.n, .str x.s, va]) ?_ ?_
        · simp only [Ev, o52_0, hop, hov, hoo, evalCode, runOps, runD, runDraw, askOf, askRecs, askAll, isEff, muteOp, stepA, wantedA, isCall, target, evalOp, opMove, opPick, opAlloc, opBox, opBuild, opBuildSlice, opLoad, opStore, opNilCheck, opBinOp, opUnOp, opConvert, opMakeFunc, opMakeMap, opSlice, opFieldAddr, opField, opIndexAddr, opLookup, opExtract, opAppendB, opLenB, wrOf, newA, eqlA, keepA, newV, evT, toA, putA, loadA, storeA, takeCells, setCells, isAgg, binA, unA, convA, arith, addOff, dstLen, nilNil, isConst, sameTy, strOp, params, results, packA, AExit.leaves, maxTmp, memN, askIn, fillA, repl, groups, Option.getD, Option.map, List.length, List.all, Int.reduceBEq, Int.reduceBNe, Int.reduceEq, Int.reduceGT, Int.reduceGE, Int.reduceNeg, Int.reduceAdd, Int.reduceSub, Int.reduceLT, Int.reduceLE, Int.reduceToNat, Nat.reduceLT, Nat.reducePow, Nat.reduceAdd, Nat.reduceMul, Nat.reduceLeDiff, Nat.reduceEqDiff, Nat.reduceBEq, reduceIte, ↓reduceIte, reduceCtorEq, syT, tyT, Rg.regF, Rg.findR, pickOps, fT52, Tryz.f52]
        rintro s ⟨hn', hH', h2, h3, h4, hln, hl0, hl1⟩
        refine Ev.seq (Q := fun ex s => ex = .ret ∧ ∃ r', s.1.tm.get 6 = some r' ∧ s.1.tm.get 7 = some (.bool (bindL p.l x.l)) ∧ ∃ lo', OutOk B r' lo' s.2 ∧ H.next ≤ s.2.next ∧ s.2.next ≤ H.next + p.size ∧ lo'.length ≤ lo.length + p.size ∧ Nd.sizes lo' ≤ Nd.sizes lo + x.size) ?_ ?_ ?_
        · refine Ev.seqN (Q := fun s => s.1.n = 70 ∧ s.2 = H ∧ s.1.tm.get 2 = some o ∧ s.1.tm.get 3 = some (.lptr 0 0) ∧ s.1.tm.get 4 = some (.lptr 1 0) ∧ s.1.lv.next = 2 ∧
            s.1.lv.get 0 = some [.int .i64 p.k, .int .i64 p.n, .str p.s, pa] ∧ s.1.lv.get 1 = some [.int .i64 x.k, .int .i64 x.n, .str x.s, va] ∧ s.1.tm.get 12 = some (.int .i64 p.k)) ?_ ?_
          · simp only [Ev, o52_1, hn', hH', h2, h3, h4, hln, hl0, hl1, evalCode, runOps, runD, runDraw, askOf, askRecs, askAll, isEff, muteOp, stepA, wantedA, isCall, target, evalOp, opMove, opPick, opAlloc, opBox, opBuild, opBuildSlice, opLoad, opStore, opNilCheck, opBinOp, opUnOp, opConvert, opMakeFunc, opMakeMap, opSlice, opFieldAddr, opField, opIndexAddr, opLookup, opExtract, opAppendB, opLenB, wrOf, newA, eqlA, keepA, newV, evT, toA, putA, loadA, storeA, takeCells, setCells, isAgg, binA, unA, convA, arith, addOff, dstLen, nilNil, isConst, sameTy, strOp, params, results, packA, AExit.leaves, maxTmp, memN, askIn, fillA, repl, groups, Option.getD, Option.map, List.length, List.all, Int.reduceBEq, Int.reduceBNe, Int.reduceEq, Int.reduceGT, Int.reduceGE, Int.reduceNeg, Int.reduceAdd, Int.reduceSub, Int.reduceLT, Int.reduceLE, Int.reduceToNat, Nat.reduceLT, Nat.reducePow, Nat.reduceAdd, Nat.reduceMul, Nat.reduceLeDiff, Nat.reduceEqDiff, Nat.reduceBEq, reduceIte, ↓reduceIte, reduceCtorEq, syT, tyT, Rg.regF, Rg.findR, pickOps, fT52, Tryz.f52]
          rintro s ⟨hn', hH', h2, h3, h4, hln, hl0, hl1, h12⟩
          refine Ev.block ?_
          refine Ev.seqN (Q := fun s => s.1.n = 70 ∧ s.2 = H ∧ s.1.tm.get 2 = some o ∧ s.1.tm.get 3 = some (.lptr 0 0) ∧ s.1.tm.get 4 = some (.lptr 1 0) ∧ s.1.lv.next = 2 ∧
            s.1.lv.get 0 = some [.int .i64 p.k, .int .i64 p.n, .str p.s, pa] ∧ s.1.lv.get 1 = some [.int .i64 x.k, .int .i64 x.n, .str x.s, va] ∧ s.1.tm.get 12 = some (.int .i64 p.k) ∧ s.1.tm.get 13 = some (.bool false)) ?_ ?_
          · simp only [Ev, o52_2, hn', hH', h2, h3, h4, hln, hl0, hl1, h12, c1, evalCode, runOps, runD, runDraw, askOf, askRecs, askAll, isEff, muteOp, stepA, wantedA, isCall, target, evalOp, opMove, opPick, opAlloc, opBox, opBuild, opBuildSlice, opLoad, opStore, opNilCheck, opBinOp, opUnOp, opConvert, opMakeFunc, opMakeMap, opSlice, opFieldAddr, opField, opIndexAddr, opLookup, opExtract, opAppendB, opLenB, wrOf, newA, eqlA, keepA, newV, evT, toA, putA, loadA, storeA, takeCells, setCells, isAgg, binA, unA, convA, arith, addOff, dstLen, nilNil, isConst, sameTy, strOp, params, results, packA, AExit.leaves, maxTmp, memN, askIn, fillA, repl, groups, Option.getD, Option.map, List.length, List.all, Int.reduceBEq, Int.reduceBNe, Int.reduceEq, Int.reduceGT, Int.reduceGE, Int.reduceNeg, Int.reduceAdd, Int.reduceSub, Int.reduceLT, Int.reduceLE, Int.reduceToNat, Nat.reduceLT, Nat.reducePow, Nat.reduceAdd, Nat.reduceMul, Nat.reduceLeDiff, Nat.reduceEqDiff, Nat.reduceBEq, reduceIte, ↓reduceIte, reduceCtorEq, syT, tyT, Rg.regF, Rg.findR, pickOps, fT52, Tryz.f52]
          rintro s ⟨hn', hH', h2, h3, h4, hln, hl0, hl1, h12, h13⟩
          refine Ev.condF (by simp only [evT, h13, Option.getD]) ?_
          refine Ev.seqN (Q := fun s => s.1.n = 70 ∧ s.2 = H ∧ s.1.tm.get 2 = some o ∧ s.1.tm.get 3 = some (.lptr 0 0) ∧ s.1.tm.get 4 = some (.lptr 1 0) ∧ s.1.lv.next = 2 ∧
            s.1.lv.get 0 = some [.int .i64 p.k, .int .i64 p.n, .str p.s, pa] ∧ s.1.lv.get 1 = some [.int .i64 x.k, .int .i64 x.n, .str x.s, va] ∧ s.1.tm.get 12 = some (.int .i64 p.k) ∧ s.1.tm.get 16 = some (.bool false)) ?_ ?_
          · simp only [Ev, o52_4, hn', hH', h2, h3, h4, hln, hl0, hl1, h12, c2, evalCode, runOps, runD, runDraw, askOf, askRecs, askAll, isEff, muteOp, stepA, wantedA, isCall, target, evalOp, opMove, opPick, opAlloc, opBox, opBuild, opBuildSlice, opLoad, opStore, opNilCheck, opBinOp, opUnOp, opConvert, opMakeFunc, opMakeMap, opSlice, opFieldAddr, opField, opIndexAddr, opLookup, opExtract, opAppendB, opLenB, wrOf, newA, eqlA, keepA, newV, evT, toA, putA, loadA, storeA, takeCells, setCells, isAgg, binA, unA, convA, arith, addOff, dstLen, nilNil, isConst, sameTy, strOp, params, results, packA, AExit.leaves, maxTmp, memN, askIn, fillA, repl, groups, Option.getD, Option.map, List.length, List.all, Int.reduceBEq, Int.reduceBNe, Int.reduceEq, Int.reduceGT, Int.reduceGE, Int.reduceNeg, Int.reduceAdd, Int.reduceSub, Int.reduceLT, Int.reduceLE, Int.reduceToNat, Nat.reduceLT, Nat.reducePow, Nat.reduceAdd, Nat.reduceMul, Nat.reduceLeDiff, Nat.reduceEqDiff, Nat.reduceBEq, reduceIte, ↓reduceIte, reduceCtorEq, syT, tyT, Rg.regF, Rg.findR, pickOps, fT52, Tryz.f52]
          rintro s ⟨hn', hH', h2, h3, h4, hln, hl0, hl1, h12, h16⟩
          refine Ev.condF (by simp only [evT, h16, Option.getD]) ?_
          refine Ev.seqN (Q := fun s => s.1.n = 70 ∧ s.2 = H ∧ s.1.tm.get 2 = some o ∧ s.1.tm.get 3 = some (.lptr 0 0) ∧ s.1.tm.get 4 = some (.lptr 1 0) ∧ s.1.lv.next = 2 ∧
            s.1.lv.get 0 = some [.int .i64 p.k, .int .i64 p.n, .str p.s, pa] ∧ s.1.lv.get 1 = some [.int .i64 x.k, .int .i64 x.n, .str x.s, va] ∧ s.1.tm.get 22 = some (.bool true)) ?_ ?_
          · simp only [Ev, o52_6, hn', hH', h2, h3, h4, hln, hl0, hl1, h12, c6, evalCode, runOps, runD, runDraw, askOf, askRecs, askAll, isEff, muteOp, stepA, wantedA, isCall, target, evalOp, opMove, opPick, opAlloc, opBox, opBuild, opBuildSlice, opLoad, opStore, opNilCheck, opBinOp, opUnOp, opConvert, opMakeFunc, opMakeMap, opSlice, opFieldAddr, opField, opIndexAddr, opLookup, opExtract, opAppendB, opLenB, wrOf, newA, eqlA, keepA, newV, evT, toA, putA, loadA, storeA, takeCells, setCells, isAgg, binA, unA, convA, arith, addOff, dstLen, nilNil, isConst, sameTy, strOp, params, results, packA, AExit.leaves, maxTmp, memN, askIn, fillA, repl, groups, Option.getD, Option.map, List.length, List.all, Int.reduceBEq, Int.reduceBNe, Int.reduceEq, Int.reduceGT, Int.reduceGE, Int.reduceNeg, Int.reduceAdd, Int.reduceSub, Int.reduceLT, Int.reduceLE, Int.reduceToNat, Nat.reduceLT, Nat.reducePow, Nat.reduceAdd, Nat.reduceMul, Nat.reduceLeDiff, Nat.reduceEqDiff, Nat.reduceBEq, reduceIte, ↓reduceIte, reduceCtorEq, syT, tyT, Rg.regF, Rg.findR, pickOps, fT52, Tryz.f52]
          rintro s ⟨hn', hH', h2, h3, h4, hln, hl0, hl1, h22⟩
          refine Ev.condT (by simp only [evT, h22, Option.getD]) ?_
          refine Ev.seqN (Q := fun s => s.1.n = 70 ∧ s.2 = H ∧ s.1.tm.get 2 = some o ∧ s.1.tm.get 3 = some (.lptr 0 0) ∧ s.1.tm.get 4 = some (.lptr 1 0) ∧ s.1.lv.next = 2 ∧
            s.1.lv.get 0 = some [.int .i64 p.k, .int .i64 p.n, .str p.s, pa] ∧ s.1.lv.get 1 = some [.int .i64 x.k, .int .i64 x.n, .str x.s, va]) ?_ ?_
          · simp only [Ev, o52_7, hn', hH', h2, h3, h4, hln, hl0, hl1, d1, d2, d3, ↓hlp, ↓hlx, hop, hov, evalCode, runOps, runD, runDraw, askOf, askRecs, askAll, isEff, muteOp, stepA, wantedA, isCall, target, evalOp, opMove, opPick, opAlloc, opBox, opBuild, opBuildSlice, opLoad, opStore, opNilCheck, opBinOp, opUnOp, opConvert, opMakeFunc, opMakeMap, opSlice, opFieldAddr, opField, opIndexAddr, opLookup, opExtract, opAppendB, opLenB, wrOf, newA, eqlA, keepA, newV, evT, toA, putA, loadA, storeA, takeCells, setCells, isAgg, binA, unA, convA, arith, addOff, dstLen, nilNil, isConst, sameTy, strOp, params, results, packA, AExit.leaves, maxTmp, memN, askIn, fillA, repl, groups, Option.getD, Option.map, List.length, List.all, Int.reduceBEq, Int.reduceBNe, Int.reduceEq, Int.reduceGT, Int.reduceGE, Int.reduceNeg, Int.reduceAdd, Int.reduceSub, Int.reduceLT, Int.reduceLE, Int.reduceToNat, Nat.reduceLT, Nat.reducePow, Nat.reduceAdd, Nat.reduceMul, Nat.reduceLeDiff, Nat.reduceEqDiff, Nat.reduceBEq, reduceIte, ↓reduceIte, reduceCtorEq, syT, tyT, Rg.regF, Rg.findR, pickOps, fT52, Tryz.f52]
          rintro s ⟨hn', hH', h2, h3, h4, hln, hl0, hl1⟩
          refine Ev.seq (Q := fun ex s => (ex = .normal ∧ bindL p.l x.l = true ∧ Inv52 B p x pa va lo H p.l.length s) ∨
            (ex = .ret ∧ bindL p.l x.l = false ∧ s.1.tm.get 6 = some .nilslice ∧ s.1.tm.get 7 = some (.bool false) ∧ B ≤ s.2.next ∧ H.next ≤ s.2.next ∧ s.2.next ≤ H.next + p.size)) ?_ ?_ ?_
          · refine Ev.seqN (Q := fun s => Inv52 B p x pa va lo H 0 s) ?_ ?_
            · simp only [Ev, Inv52, o52_9, hn', hH', h2, h3, h4, hln, hl0, hl1, ↓hlp, hop, evalCode, runOps, runD, runDraw, askOf, askRecs, askAll, isEff, muteOp, stepA, wantedA, isCall, target, evalOp, opMove, opPick, opAlloc, opBox, opBuild, opBuildSlice, opLoad, opStore, opNilCheck, opBinOp, opUnOp, opConvert, opMakeFunc, opMakeMap, opSlice, opFieldAddr, opField, opIndexAddr, opLookup, opExtract, opAppendB, opLenB, wrOf, newA, eqlA, keepA, newV, evT, toA, putA, loadA, storeA, takeCells, setCells, isAgg, binA, unA, convA, arith, addOff, dstLen, nilNil, isConst, sameTy, strOp, params, results, packA, AExit.leaves, maxTmp, memN, askIn, fillA, repl, groups, Option.getD, Option.map, List.length, List.all, Int.reduceBEq, Int.reduceBNe, Int.reduceEq, Int.reduceGT, Int.reduceGE, Int.reduceNeg, Int.reduceAdd, Int.reduceSub, Int.reduceLT, Int.reduceLE, Int.reduceToNat, Nat.reduceLT, Nat.reducePow, Nat.reduceAdd, Nat.reduceMul, Nat.reduceLeDiff, Nat.reduceEqDiff, Nat.reduceBEq, reduceIte, ↓reduceIte, reduceCtorEq, syT, tyT, Rg.regF, Rg.findR, pickOps, fT52, Tryz.f52]
              refine ⟨by simp [Nd.sizes], lo, same, by simp [Nd.sizes], by simp [Nd.sizes]⟩
            intro s hs'
            refine Ev.block (Ev.loop (Inv := fun i s => Inv52 B p x pa va lo H i s ∧ ∀ j < i, ∀ q y, p.l[j]? = some q → x.l[j]? = some y → bindB q y = true) p.l.length (by omega) ⟨hs', by simp⟩ fun i st hi hle => ?_)
            obtain ⟨hi, hpre⟩ := hi
            by_cases hlt : i < p.l.length
            · obtain ⟨q, hq⟩ : ∃ q, p.l[i]? = some q := ⟨_, List.getElem?_eq_getElem hlt⟩
              obtain ⟨y, hy⟩ : ∃ y, x.l[i]? = some y := ⟨_, List.getElem?_eq_getElem (by omega)⟩
              have hqs := size_mem hq
              refine (bind52_step hq hy hpa hva (bind52 h52 h31 N q (by omega)) (by omega) hi hH hlo).mono fun ex s hs => ?_
              rcases bool_split (bindB q y) with e | e
              · rw [if_pos e] at hs
                refine .inl ⟨hs.1, hlt, hs.2, fun j hj q' y' hq' hy' => ?_⟩
                rcases Nat.lt_succ_iff_lt_or_eq.1 hj with h | h
                · exact hpre j h q' y' hq' hy'
                · subst h; rw [hq] at hq'; rw [hy] at hy'; cases hq'; cases hy'; exact e
              · rw [if_neg (by simp [e])] at hs
                exact .inr ⟨by rw [hs.1]; simp, .inr ⟨by rw [hs.1]; rfl, bindL_false hq hy e, hs.2⟩⟩
            · have : i = p.l.length := by omega
              subst this
              refine (bind52_end hi).mono fun ex s hs => .inr ⟨by rw [hs.1]; simp, .inl ⟨by rw [hs.1]; rfl, ?_, hs.2⟩⟩
              exact bindL_true fun j q y hq hy => hpre j (List.getElem?_eq_some_iff.1 hq).1 q y hq hy
          · rintro s (⟨-, hb, hn', h3, h4, h44, h45, h46, hln, hl0, hl1, hHn, hHs, o', h2, lo', ho', hlo1, hlo2⟩ | ⟨h, -⟩)
            · have hoo' := ho'.2.1.one
              rw [List.take_length] at hHs hlo1
              have htx := sizes_take x.l p.l.length
              have hxs := size_eq x
              simp only [Ev, o52_17, hn', h2, hoo', hb, leaveB, evalCode, runOps, runD, runDraw, askOf, askRecs, askAll, isEff, muteOp, stepA, wantedA, isCall, target, evalOp, opMove, opPick, opAlloc, opBox, opBuild, opBuildSlice, opLoad, opStore, opNilCheck, opBinOp, opUnOp, opConvert, opMakeFunc, opMakeMap, opSlice, opFieldAddr, opField, opIndexAddr, opLookup, opExtract, opAppendB, opLenB, wrOf, newA, eqlA, keepA, newV, evT, toA, putA, loadA, storeA, takeCells, setCells, isAgg, binA, unA, convA, arith, addOff, dstLen, nilNil, isConst, sameTy, strOp, params, results, packA, AExit.leaves, maxTmp, memN, askIn, fillA, repl, groups, Option.getD, Option.map, List.length, List.all, Int.reduceBEq, Int.reduceBNe, Int.reduceEq, Int.reduceGT, Int.reduceGE, Int.reduceNeg, Int.reduceAdd, Int.reduceSub, Int.reduceLT, Int.reduceLE, Int.reduceToNat, Nat.reduceLT, Nat.reducePow, Nat.reduceAdd, Nat.reduceMul, Nat.reduceLeDiff, Nat.reduceEqDiff, Nat.reduceBEq, reduceIte, ↓reduceIte, reduceCtorEq, syT, tyT, Rg.regF, Rg.findR, pickOps, fT52, Tryz.f52]
              exact ⟨lo', ho', hHn, by omega, by omega, by omega⟩
            · cases h
          · rintro ex s hne (⟨h, -⟩ | ⟨rfl, hb, h6, h7, hB', hn1, hn2⟩)
            · exact absurd h hne
            · simp only [leaveB, h6, h7, hb, evalCode, runOps, runD, runDraw, askOf, askRecs, askAll, isEff, muteOp, stepA, wantedA, isCall, target, evalOp, opMove, opPick, opAlloc, opBox, opBuild, opBuildSlice, opLoad, opStore, opNilCheck, opBinOp, opUnOp, opConvert, opMakeFunc, opMakeMap, opSlice, opFieldAddr, opField, opIndexAddr, opLookup, opExtract, opAppendB, opLenB, wrOf, newA, eqlA, keepA, newV, evT, toA, putA, loadA, storeA, takeCells, setCells, isAgg, binA, unA, convA, arith, addOff, dstLen, nilNil, isConst, sameTy, strOp, params, results, packA, AExit.leaves, maxTmp, memN, askIn, fillA, repl, groups, Option.getD, Option.map, List.length, List.all, Int.reduceBEq, Int.reduceBNe, Int.reduceEq, Int.reduceGT, Int.reduceGE, Int.reduceNeg, Int.reduceAdd, Int.reduceSub, Int.reduceLT, Int.reduceLE, Int.reduceToNat, Nat.reduceLT, Nat.reducePow, Nat.reduceAdd, Nat.reduceMul, Nat.reduceLeDiff, Nat.reduceEqDiff, Nat.reduceBEq, reduceIte, ↓reduceIte, reduceCtorEq, syT, tyT, Rg.regF, Rg.findR, pickOps, fT52, Tryz.f52]
              exact ⟨[], ⟨.inl ⟨rfl, rfl⟩, .nil, hB'⟩, hn1, hn2, by simp, by simp [Nd.sizes]⟩
        · rintro s ⟨h, -⟩; cases h
        · rintro ex s hne ⟨rfl, r', h6, h7, lo', hO', hn1, hn2, hl1', hl2'⟩
          have hor := hO'.2.1.one
          simp only [h6, h7, hor, evalCode, runOps, runD, runDraw, askOf, askRecs, askAll, isEff, muteOp, stepA, wantedA, isCall, target, evalOp, opMove, opPick, opAlloc, opBox, opBuild, opBuildSlice, opLoad, opStore, opNilCheck, opBinOp, opUnOp, opConvert, opMakeFunc, opMakeMap, opSlice, opFieldAddr, opField, opIndexAddr, opLookup, opExtract, opAppendB, opLenB, wrOf, newA, eqlA, keepA, newV, evT, toA, putA, loadA, storeA, takeCells, setCells, isAgg, binA, unA, convA, arith, addOff, dstLen, nilNil, isConst, sameTy, strOp, params, results, packA, AExit.leaves, maxTmp, memN, askIn, fillA, repl, groups, Option.getD, Option.map, List.length, List.all, Int.reduceBEq, Int.reduceBNe, Int.reduceEq, Int.reduceGT, Int.reduceGE, Int.reduceNeg, Int.reduceAdd, Int.reduceSub, Int.reduceLT, Int.reduceLE, Int.reduceToNat, Nat.reduceLT, Nat.reducePow, Nat.reduceAdd, Nat.reduceMul, Nat.reduceLeDiff, Nat.reduceEqDiff, Nat.reduceBEq, reduceIte, ↓reduceIte, reduceCtorEq, syT, tyT, Rg.regF, Rg.findR, pickOps, fT52, Tryz.f52]
          exact ⟨r', lo', rfl, hO', hn1, hn2, hl1', hl2'⟩
      obtain ⟨⟨v', H'⟩, h1, r', lo', h2, h3⟩ := key
      simp only [] at h2 h3
      subst h2
      exact ⟨r', lo', H', h1, h3⟩
    · rw [if_neg (by simp [c6])]
      have e31 := lit31 (sp := sp) false k' h31 p.k p.n x.k x.n p.s x.s pa va hop hov H [] x.l
      have hxm : Nd.mk x.k x.n x.s x.l = x := by cases x; rfl
      rw [hxm] at e31
      have key : evalCall (env sp) (k' + 1 + 1) false 52 [.agg [.int .i64 p.k, .int .i64 p.n, .str p.s, pa], .agg [.int .i64 x.k, .int .i64 x.n, .str x.s, va], o] H = some (.tuple [o, .bool (litB (.mk p.k p.n p.s []) x)], H) := by
        rw [evalCall]
        simp only [h52, Tryz.func52, Tryz.f52, hop, hov, hoo, c1, c2, c6, e31, evalCode, runOps, runD, runDraw, askOf, askRecs, askAll, isEff, muteOp, stepA, wantedA, isCall, target, evalOp, opMove, opPick, opAlloc, opBox, opBuild, opBuildSlice, opLoad, opStore, opNilCheck, opBinOp, opUnOp, opConvert, opMakeFunc, opMakeMap, opSlice, opFieldAddr, opField, opIndexAddr, opLookup, opExtract, opAppendB, opLenB, wrOf, newA, eqlA, keepA, newV, evT, toA, putA, loadA, storeA, takeCells, setCells, isAgg, binA, unA, convA, arith, addOff, dstLen, nilNil, isConst, sameTy, strOp, params, results, packA, AExit.leaves, maxTmp, memN, askIn, fillA, repl, groups, Option.getD, Option.map, List.length, List.all, Int.reduceBEq, Int.reduceBNe, Int.reduceEq, Int.reduceGT, Int.reduceGE, Int.reduceNeg, Int.reduceAdd, Int.reduceSub, Int.reduceLT, Int.reduceLE, Int.reduceToNat, Nat.reduceLT, Nat.reducePow, Nat.reduceAdd, Nat.reduceMul, Nat.reduceLeDiff, Nat.reduceEqDiff, Nat.reduceBEq, reduceIte, ↓reduceIte, reduceCtorEq, syT, tyT, Rg.regF, Rg.findR, pickOps, fT52, Tryz.f52]
      exact ⟨o, lo, H, key, same, Nat.le_refl _, by omega, by omega, by omega⟩
end
end Go.Rs.Seat
end
/- Package arms: Bind, First. -/
section
namespace Go.Rs.Seat
open Go.Proofs Rg
set_option maxRecDepth 100000
set_option maxHeartbeats 8000000

section
variable {sp : Bool → FuncId → Option (List AVal → Hp → Option (AVal × Hp))}

/-- the functions that stand for themselves -/
structure Plain9 (sp : Bool → FuncId → Option (List AVal → Hp → Option (AVal × Hp))) : Prop where
  h31 : sp false 31 = none
  h32 : sp false 32 = none
  h52 : sp false 52 = none
  h53 : sp false 53 = none
  h75 : sp false 75 = none
  h76 : sp false 76 = none

/-- some list of values -/
def IsAL (r : AVal) : Prop := ∃ lo, IsL r lo
theorem IsAL.one {r : AVal} (h : IsAL r) : r.oneCell = true := by
  obtain ⟨lo, h⟩ := h
  exact h.one

theorem bind32 (hs : Plain9 sp) {K : Nat} {a v : AVal} {p x : Nd} {H : Hp} (hp : IsN p a) (hx : IsN x v) (hK : 2 * p.size ≤ K) (hK2 : 2 * x.size + 2 ≤ K) (hH : H.next + p.size + x.size ≤ 4000) :
    ∃ r H', evalCall (env sp) (K + 1) false 32 [a, v] H = some (.tuple [r, .bool (bindB p x)], H') ∧ IsAL r ∧ H.next ≤ H'.next ∧ H'.next ≤ H.next + p.size + x.size := by
  obtain ⟨r, lo, H1, e52, ⟨hr, hgr, -⟩, hn1, hn2, hl1, hl2⟩ := bind52 hs.h52 hs.h31 _ p (Nat.le_refl _) K hK H.next a v .nilslice x [] H hp hx ⟨.inl ⟨rfl, rfl⟩, .nil, Nat.le_refl _⟩ (by omega) (by simp; omega)
  have hor := hgr.one
  have hlo : Nd.sizes lo ≤ x.size := by simpa [Nd.sizes] using hl2
  obtain ⟨K', rfl⟩ : ∃ K', K = K' + 2 := ⟨K - 2, by omega⟩
  obtain ⟨pa, rfl, hpa⟩ := hp.cells
  obtain ⟨va, rfl, hva⟩ := hx.cells
  have hop := hpa.one
  have hov := hva.one
  have h32 := hs.h32
  rcases bool_split (bindB p x) with c | c
  · obtain ⟨r', H2, e53, hr', hm1, hm2⟩ := values53 (k := K') (H := H1) hs.h53 hs.h75 hs.h76 hr (by omega) (by omega)
    rw [c] at e52
    have key : evalCall (env sp) (K' + 2 + 1) false 32 [.agg [.int .i64 p.k, .int .i64 p.n, .str p.s, pa], .agg [.int .i64 x.k, .int .i64 x.n, .str x.s, va]] H = some (.tuple [r', .bool true], H2) := by
      rw [evalCall]
      have hr2 := hr'
      rcases hr2 with ⟨rfl, -⟩ | ⟨vs', t', rfl, -⟩ <;>
      simp only [h32, Tryz.func32, Tryz.f32, e52, e53, hop, hov, hor, evalCode, runOps, runD, runDraw, askOf, askRecs, askAll, isEff, muteOp, stepA, wantedA, isCall, target, evalOp, opMove, opPick, opAlloc, opBox, opBuild, opBuildSlice, opLoad, opStore, opNilCheck, opBinOp, opUnOp, opConvert, opMakeFunc, opMakeMap, opSlice, opFieldAddr, opField, opIndexAddr, opLookup, opExtract, opAppendB, opLenB, wrOf, newA, eqlA, keepA, newV, evT, toA, putA, loadA, storeA, takeCells, setCells, isAgg, binA, unA, convA, arith, addOff, dstLen, nilNil, isConst, sameTy, strOp, params, results, packA, AExit.leaves, maxTmp, memN, askIn, fillA, repl, groups, Option.getD, Option.map, List.length, List.all, Int.reduceBEq, Int.reduceBNe, Int.reduceEq, Int.reduceGT, Int.reduceGE, Int.reduceNeg, Int.reduceAdd, Int.reduceSub, Int.reduceLT, Int.reduceLE, Int.reduceToNat, Nat.reduceLT, Nat.reducePow, Nat.reduceAdd, Nat.reduceMul, Nat.reduceLeDiff, Nat.reduceEqDiff, Nat.reduceBEq, reduceIte, ↓reduceIte, reduceCtorEq, syT, tyT, Rg.regF, Rg.findR, pickOps, fT32, Tryz.f32]
    rw [c]
    exact ⟨r', H2, key, ⟨_, hr'⟩, by omega, by omega⟩
  · rw [c] at e52
    have key : evalCall (env sp) (K' + 2 + 1) false 32 [.agg [.int .i64 p.k, .int .i64 p.n, .str p.s, pa], .agg [.int .i64 x.k, .int .i64 x.n, .str x.s, va]] H = some (.tuple [.nilslice, .bool false], H1) := by
      rw [evalCall]
      simp only [h32, Tryz.func32, Tryz.f32, e52, hop, hov, hor, evalCode, runOps, runD, runDraw, askOf, askRecs, askAll, isEff, muteOp, stepA, wantedA, isCall, target, evalOp, opMove, opPick, opAlloc, opBox, opBuild, opBuildSlice, opLoad, opStore, opNilCheck, opBinOp, opUnOp, opConvert, opMakeFunc, opMakeMap, opSlice, opFieldAddr, opField, opIndexAddr, opLookup, opExtract, opAppendB, opLenB, wrOf, newA, eqlA, keepA, newV, evT, toA, putA, loadA, storeA, takeCells, setCells, isAgg, binA, unA, convA, arith, addOff, dstLen, nilNil, isConst, sameTy, strOp, params, results, packA, AExit.leaves, maxTmp, memN, askIn, fillA, repl, groups, Option.getD, Option.map, List.length, List.all, Int.reduceBEq, Int.reduceBNe, Int.reduceEq, Int.reduceGT, Int.reduceGE, Int.reduceNeg, Int.reduceAdd, Int.reduceSub, Int.reduceLT, Int.reduceLE, Int.reduceToNat, Nat.reduceLT, Nat.reducePow, Nat.reduceAdd, Nat.reduceMul, Nat.reduceLeDiff, Nat.reduceEqDiff, Nat.reduceBEq, reduceIte, ↓reduceIte, reduceCtorEq, syT, tyT, Rg.regF, Rg.findR, pickOps, fT32, Tryz.f32]
    rw [c]
    exact ⟨_, H1, key, ⟨[], .inl ⟨rfl, rfl⟩⟩, by omega, by omega⟩

def Inv18 (x : Nd) (pa va : AVal) (ps : List Nd) (H0 : Hp) (i : Nat) (st : St) : Prop :=
  st.1.n = 27 ∧ st.1.tm.get 3 = some (.lptr 0 0) ∧ st.1.tm.get 10 = some pa ∧ st.1.tm.get 11 = some (.int .i64 ps.length) ∧ st.1.tm.get 12 = some (.int .i64 i) ∧ st.1.lv.next = i + 1 ∧
    st.1.lv.get 0 = some [.int .i64 x.k, .int .i64 x.n, .str x.s, va] ∧ st.2.next ≤ H0.next + Nd.sizes (ps.take i) + i * x.size

theorem first18_step (hs : Plain9 sp) {K : Nat} {st : St} {H0 : Hp} {x p : Nd} {pa va : AVal} {ps : List Nd} {i : Nat} (hp : ps[i]? = some p) (hpa : IsL pa ps) (hva : IsL va x.l) (hK : 2 * p.size + 1 ≤ K) (hK2 : 2 * x.size + 3 ≤ K)
    (h : Inv18 x pa va ps H0 i st) (hH : H0.next + Nd.sizes ps + ps.length * x.size ≤ 4000) :
    Ev (env sp) (evalCall (env sp) K) false 18 b18_0 st fun ex s => if bindB p x = true then ex = .ret ∧ s.1.tm.get 4 = some (.int .i64 i) ∧ ∃ r, s.1.tm.get 5 = some r ∧ IsAL r ∧ s.2.next ≤ H0.next + Nd.sizes ps + ps.length * x.size else
      ex = .normal ∧ Inv18 x pa va ps H0 (i + 1) s := by
  obtain ⟨hn', h3, h10, h11, h12, hln, hl0, hHs⟩ := h
  have hi : i < ps.length := (List.getElem?_eq_some_iff.1 hp).1
  have hsz := sizes_get hp
  have hst := sizes_take ps (i + 1)
  have hpl := sizes_len ps
  have hmul : (i + 1) * x.size ≤ ps.length * x.size := Nat.mul_le_mul_right _ hi
  have hmul' : (i + 1) * x.size = i * x.size + x.size := Nat.succ_mul _ _
  obtain ⟨vs, tok, rfl, hvs⟩ := hpa.list hp
  obtain ⟨a, hpv, hNp⟩ := hvs.get hp
  have hvl := hvs.1
  obtain ⟨K', rfl⟩ : ∃ K', K = K' + 1 := ⟨K - 1, by omega⟩
  obtain ⟨r, H1, e32, har, hr1, hr2⟩ := bind32 hs (K := K') (H := st.2) hNp (isN_of hva) (by omega) (by omega) (by omega)
  obtain ⟨a', rfl, ha'⟩ := hNp.cells
  have hor := har.one
  have hoa := ha'.one
  have hov := hva.one
  have hi' : ((i : Int) < (ps.length : Int)) = True := by simp [hi]
  have h0' : (0 ≤ (i : Int)) = True := by simp
  have hw : IntKind.i64.wrap ((i : Int) + 1) = ((i + 1 : Nat) : Int) := wrap_nat (by omega)
  have hlv : (i + 1 < 4096) = True := by simp; omega
  have hlv0 : ¬ i + 1 = 0 := by omega
  rcases bool_split (bindB p x) with c | c
  · rw [c] at e32
    simp only [Ev, b18_0, o18_2, o18_3, o18_4, o18_5, o18_6, hn', h3, h10, h11, h12, hln, hl0, hi', h0', hpv, hvl, hlv, hlv0, e32, hw, c, hoa, hov, hor, evalCode, runOps, runD, runDraw, askOf, askRecs, askAll, isEff, muteOp, stepA, wantedA, isCall, target, evalOp, opMove, opPick, opAlloc, opBox, opBuild, opBuildSlice, opLoad, opStore, opNilCheck, opBinOp, opUnOp, opConvert, opMakeFunc, opMakeMap, opSlice, opFieldAddr, opField, opIndexAddr, opLookup, opExtract, opAppendB, opLenB, wrOf, newA, eqlA, keepA, newV, evT, toA, putA, loadA, storeA, takeCells, setCells, isAgg, binA, unA, convA, arith, addOff, dstLen, nilNil, isConst, sameTy, strOp, params, results, packA, AExit.leaves, maxTmp, memN, askIn, fillA, repl, groups, Option.getD, Option.map, List.length, List.all, Int.reduceBEq, Int.reduceBNe, Int.reduceEq, Int.reduceGT, Int.reduceGE, Int.reduceNeg, Int.reduceAdd, Int.reduceSub, Int.reduceLT, Int.reduceLE, Int.reduceToNat, Nat.reduceLT, Nat.reducePow, Nat.reduceAdd, Nat.reduceMul, Nat.reduceLeDiff, Nat.reduceEqDiff, Nat.reduceBEq, reduceIte, ↓reduceIte, reduceCtorEq, syT, tyT, Rg.regF, Rg.findR, pickOps, fT18, Tryz.f18]
    exact ⟨har, by omega⟩
  · rw [c] at e32
    simp only [Ev, Inv18, b18_0, o18_2, o18_3, o18_4, o18_5, o18_7, hn', h3, h10, h11, h12, hln, hl0, hi', h0', hpv, hvl, hlv, hlv0, e32, hw, c, hoa, hov, hor, evalCode, runOps, runD, runDraw, askOf, askRecs, askAll, isEff, muteOp, stepA, wantedA, isCall, target, evalOp, opMove, opPick, opAlloc, opBox, opBuild, opBuildSlice, opLoad, opStore, opNilCheck, opBinOp, opUnOp, opConvert, opMakeFunc, opMakeMap, opSlice, opFieldAddr, opField, opIndexAddr, opLookup, opExtract, opAppendB, opLenB, wrOf, newA, eqlA, keepA, newV, evT, toA, putA, loadA, storeA, takeCells, setCells, isAgg, binA, unA, convA, arith, addOff, dstLen, nilNil, isConst, sameTy, strOp, params, results, packA, AExit.leaves, maxTmp, memN, askIn, fillA, repl, groups, Option.getD, Option.map, List.length, List.all, Int.reduceBEq, Int.reduceBNe, Int.reduceEq, Int.reduceGT, Int.reduceGE, Int.reduceNeg, Int.reduceAdd, Int.reduceSub, Int.reduceLT, Int.reduceLE, Int.reduceToNat, Nat.reduceLT, Nat.reducePow, Nat.reduceAdd, Nat.reduceMul, Nat.reduceLeDiff, Nat.reduceEqDiff, Nat.reduceBEq, reduceIte, ↓reduceIte, reduceCtorEq, syT, tyT, Rg.regF, Rg.findR, pickOps, fT18, Tryz.f18]
    omega

theorem first18_end {call : CallF} {st : St} {H0 : Hp} {x : Nd} {pa va : AVal} {ps : List Nd} (h : Inv18 x pa va ps H0 ps.length st) :
    Ev (env sp) call false 18 b18_0 st fun ex s => ex = .exit 0 ∧ s.1.n = 27 ∧ s.2.next ≤ H0.next + Nd.sizes ps + ps.length * x.size := by
  obtain ⟨hn', h3, h10, h11, h12, hln, hl0, hHs⟩ := h
  have hi' : ((ps.length : Int) < (ps.length : Int)) = False := by simp
  rw [List.take_length] at hHs
  simp only [Ev, b18_0, o18_2, hn', h3, h10, h11, h12, hln, hl0, hi', evalCode, runOps, runD, runDraw, askOf, askRecs, askAll, isEff, muteOp, stepA, wantedA, isCall, target, evalOp, opMove, opPick, opAlloc, opBox, opBuild, opBuildSlice, opLoad, opStore, opNilCheck, opBinOp, opUnOp, opConvert, opMakeFunc, opMakeMap, opSlice, opFieldAddr, opField, opIndexAddr, opLookup, opExtract, opAppendB, opLenB, wrOf, newA, eqlA, keepA, newV, evT, toA, putA, loadA, storeA, takeCells, setCells, isAgg, binA, unA, convA, arith, addOff, dstLen, nilNil, isConst, sameTy, strOp, params, results, packA, AExit.leaves, maxTmp, memN, askIn, fillA, repl, groups, Option.getD, Option.map, List.length, List.all, Int.reduceBEq, Int.reduceBNe, Int.reduceEq, Int.reduceGT, Int.reduceGE, Int.reduceNeg, Int.reduceAdd, Int.reduceSub, Int.reduceLT, Int.reduceLE, Int.reduceToNat, Nat.reduceLT, Nat.reducePow, Nat.reduceAdd, Nat.reduceMul, Nat.reduceLeDiff, Nat.reduceEqDiff, Nat.reduceBEq, reduceIte, ↓reduceIte, reduceCtorEq, syT, tyT, Rg.regF, Rg.findR, pickOps, fT18, Tryz.f18]
  exact hHs

theorem first18 (hs : Plain9 sp) (h18 : sp false 18 = none) {K : Nat} {a v : AVal} {ps : List Nd} {x : Nd} {H : Hp} (hp : IsL a ps) (hx : IsN x v) (hK : 2 * Nd.sizes ps + 1 ≤ K) (hK2 : 2 * x.size + 3 ≤ K) (hH : H.next + Nd.sizes ps + ps.length * x.size ≤ 4000) :
    ∃ r H', evalCall (env sp) (K + 1) false 18 [a, v] H = some (.tuple [.int .i64 (idxI (bindB · x) ps), r], H') ∧ IsAL r ∧ H'.next ≤ H.next + Nd.sizes ps + ps.length * x.size := by
  obtain ⟨va, rfl, hva⟩ := hx.cells
  have hop := hp.one
  have hov := hva.one
  have hlp := hp.len
  have hpl := sizes_len ps
  have key : ∃ r, evalCall (env sp) (K + 1) false 18 [a, .agg [.int .i64 x.k, .int .i64 x.n, .str x.s, va]] H = some r ∧ ∃ r', r.1 = .tuple [.int .i64 (idxI (bindB · x) ps), r'] ∧ IsAL r' ∧ r.2.next ≤ H.next + Nd.sizes ps + ps.length * x.size := by
    refine enter18 (Post := fun v H' => ∃ r', v = .tuple [.int .i64 (idxI (bindB · x) ps), r'] ∧ IsAL r' ∧ H'.next ≤ H.next + Nd.sizes ps + ps.length * x.size) h18 rfl ?_
    unfold c18
    refine Ev.seqN (Q := fun s => s.1.n = 27 ∧ s.2 = H ∧ s.1.tm.get 0 = some a ∧ s.1.tm.get 3 = some (.lptr 0 0) ∧ s.1.lv.next = 1 ∧ s.1.lv.get 0 = some [.int .i64 x.k, .int .i64 x.n, .str x.s, va]) ?_ ?_
    · simp only [Ev, o18_0, hop, hov, evalCode, runOps, runD, runDraw, askOf, askRecs, askAll, isEff, muteOp, stepA, wantedA, isCall, target, evalOp, opMove, opPick, opAlloc, opBox, opBuild, opBuildSlice, opLoad, opStore, opNilCheck, opBinOp, opUnOp, opConvert, opMakeFunc, opMakeMap, opSlice, opFieldAddr, opField, opIndexAddr, opLookup, opExtract, opAppendB, opLenB, wrOf, newA, eqlA, keepA, newV, evT, toA, putA, loadA, storeA, takeCells, setCells, isAgg, binA, unA, convA, arith, addOff, dstLen, nilNil, isConst, sameTy, strOp, params, results, packA, AExit.leaves, maxTmp, memN, askIn, fillA, repl, groups, Option.getD, Option.map, List.length, List.all, Int.reduceBEq, Int.reduceBNe, Int.reduceEq, Int.reduceGT, Int.reduceGE, Int.reduceNeg, Int.reduceAdd, Int.reduceSub, Int.reduceLT, Int.reduceLE, Int.reduceToNat, Nat.reduceLT, Nat.reducePow, Nat.reduceAdd, Nat.reduceMul, Nat.reduceLeDiff, Nat.reduceEqDiff, Nat.reduceBEq, reduceIte, ↓reduceIte, reduceCtorEq, syT, tyT, Rg.regF, Rg.findR, pickOps, fT18, Tryz.f18]
    rintro s ⟨hn', hH', h0, h3, hln, hl0⟩
    refine Ev.seq (Q := fun ex s => (ex = .normal ∧ idxI (bindB · x) ps = -1 ∧ s.1.n = 27 ∧ s.2.next ≤ H.next + Nd.sizes ps + ps.length * x.size) ∨ (ex = .ret ∧ s.1.tm.get 4 = some (.int .i64 (idxI (bindB · x) ps)) ∧ ∃ r, s.1.tm.get 5 = some r ∧ IsAL r ∧ s.2.next ≤ H.next + Nd.sizes ps + ps.length * x.size)) ?_ ?_ ?_
    · refine Ev.seqN (Q := fun s => Inv18 x a va ps H 0 s) ?_ ?_
      · simp only [Ev, Inv18, o18_1, hn', hH', h0, h3, hln, hl0, ↓hlp, hop, hov, evalCode, runOps, runD, runDraw, askOf, askRecs, askAll, isEff, muteOp, stepA, wantedA, isCall, target, evalOp, opMove, opPick, opAlloc, opBox, opBuild, opBuildSlice, opLoad, opStore, opNilCheck, opBinOp, opUnOp, opConvert, opMakeFunc, opMakeMap, opSlice, opFieldAddr, opField, opIndexAddr, opLookup, opExtract, opAppendB, opLenB, wrOf, newA, eqlA, keepA, newV, evT, toA, putA, loadA, storeA, takeCells, setCells, isAgg, binA, unA, convA, arith, addOff, dstLen, nilNil, isConst, sameTy, strOp, params, results, packA, AExit.leaves, maxTmp, memN, askIn, fillA, repl, groups, Option.getD, Option.map, List.length, List.all, Int.reduceBEq, Int.reduceBNe, Int.reduceEq, Int.reduceGT, Int.reduceGE, Int.reduceNeg, Int.reduceAdd, Int.reduceSub, Int.reduceLT, Int.reduceLE, Int.reduceToNat, Nat.reduceLT, Nat.reducePow, Nat.reduceAdd, Nat.reduceMul, Nat.reduceLeDiff, Nat.reduceEqDiff, Nat.reduceBEq, reduceIte, ↓reduceIte, reduceCtorEq, syT, tyT, Rg.regF, Rg.findR, pickOps, fT18, Tryz.f18]
        simp [Nd.sizes]
      intro s hs'
      refine Ev.block (Ev.loop (Inv := fun i s => Inv18 x a va ps H i s ∧ ∀ j < i, ∀ y, ps[j]? = some y → bindB y x = false) ps.length (by omega) ⟨hs', by simp⟩ fun i st hi hle => ?_)
      obtain ⟨hi, hpre⟩ := hi
      by_cases hlt : i < ps.length
      · obtain ⟨p, hpi⟩ : ∃ p, ps[i]? = some p := ⟨_, List.getElem?_eq_getElem hlt⟩
        have := size_mem hpi
        refine (first18_step hs hpi hp hva (by omega) (by omega) hi hH).mono fun ex s hs => ?_
        rcases bool_split (bindB p x) with c | c
        · rw [if_pos c] at hs
          refine .inr ⟨by rw [hs.1]; simp, .inr ⟨by rw [hs.1]; rfl, ?_, hs.2.2⟩⟩
          rw [hs.2.1, idxI_some (p := (bindB · x)) hpi c hpre]
        · rw [if_neg (by simp [c])] at hs
          refine .inl ⟨hs.1, hlt, hs.2, fun j hj y hy => ?_⟩
          rcases Nat.lt_succ_iff_lt_or_eq.1 hj with h | h
          · exact hpre j h y hy
          · subst h; rw [hpi] at hy; cases hy; exact c
      · have : i = ps.length := by omega
        subst this
        refine (first18_end hi).mono fun ex s hs => .inr ⟨by rw [hs.1]; simp, .inl ⟨by rw [hs.1]; rfl, ?_, hs.2⟩⟩
        exact idxI_none fun j y hy => hpre j (List.getElem?_eq_some_iff.1 hy).1 y hy
    · rintro s (⟨-, hidx, hn', hHH⟩ | ⟨h, -⟩)
      · simp only [Ev, o18_8, hn', hidx, evalCode, runOps, runD, runDraw, askOf, askRecs, askAll, isEff, muteOp, stepA, wantedA, isCall, target, evalOp, opMove, opPick, opAlloc, opBox, opBuild, opBuildSlice, opLoad, opStore, opNilCheck, opBinOp, opUnOp, opConvert, opMakeFunc, opMakeMap, opSlice, opFieldAddr, opField, opIndexAddr, opLookup, opExtract, opAppendB, opLenB, wrOf, newA, eqlA, keepA, newV, evT, toA, putA, loadA, storeA, takeCells, setCells, isAgg, binA, unA, convA, arith, addOff, dstLen, nilNil, isConst, sameTy, strOp, params, results, packA, AExit.leaves, maxTmp, memN, askIn, fillA, repl, groups, Option.getD, Option.map, List.length, List.all, Int.reduceBEq, Int.reduceBNe, Int.reduceEq, Int.reduceGT, Int.reduceGE, Int.reduceNeg, Int.reduceAdd, Int.reduceSub, Int.reduceLT, Int.reduceLE, Int.reduceToNat, Nat.reduceLT, Nat.reducePow, Nat.reduceAdd, Nat.reduceMul, Nat.reduceLeDiff, Nat.reduceEqDiff, Nat.reduceBEq, reduceIte, ↓reduceIte, reduceCtorEq, syT, tyT, Rg.regF, Rg.findR, pickOps, fT18, Tryz.f18]
        exact ⟨.nilslice, rfl, ⟨[], .inl ⟨rfl, rfl⟩⟩, hHH⟩
      · cases h
    · rintro ex s hne (⟨h, -⟩ | ⟨rfl, h4, r, h5, har, hHH⟩)
      · exact absurd h hne
      · have hor := har.one
        simp only [h4, h5, hor, evalCode, runOps, runD, runDraw, askOf, askRecs, askAll, isEff, muteOp, stepA, wantedA, isCall, target, evalOp, opMove, opPick, opAlloc, opBox, opBuild, opBuildSlice, opLoad, opStore, opNilCheck, opBinOp, opUnOp, opConvert, opMakeFunc, opMakeMap, opSlice, opFieldAddr, opField, opIndexAddr, opLookup, opExtract, opAppendB, opLenB, wrOf, newA, eqlA, keepA, newV, evT, toA, putA, loadA, storeA, takeCells, setCells, isAgg, binA, unA, convA, arith, addOff, dstLen, nilNil, isConst, sameTy, strOp, params, results, packA, AExit.leaves, maxTmp, memN, askIn, fillA, repl, groups, Option.getD, Option.map, List.length, List.all, Int.reduceBEq, Int.reduceBNe, Int.reduceEq, Int.reduceGT, Int.reduceGE, Int.reduceNeg, Int.reduceAdd, Int.reduceSub, Int.reduceLT, Int.reduceLE, Int.reduceToNat, Nat.reduceLT, Nat.reducePow, Nat.reduceAdd, Nat.reduceMul, Nat.reduceLeDiff, Nat.reduceEqDiff, Nat.reduceBEq, reduceIte, ↓reduceIte, reduceCtorEq, syT, tyT, Rg.regF, Rg.findR, pickOps, fT18, Tryz.f18]
        exact ⟨r, rfl, har, hHH⟩
  obtain ⟨⟨v', H'⟩, h1, r', h2, h3⟩ := key
  simp only [] at h2
  subst h2
  exact ⟨r', H', h1, h3⟩
end
end Go.Rs.Seat
end
/- asks: how many tests patterns have. -/
section
namespace Go.Rs.Seat
open Go.Proofs Rg
set_option maxRecDepth 100000
set_option maxHeartbeats 8000000

mutual
def Nd.asks : Nd → Nat
  | .mk k _ _ l => if k != 1 && k != 2 then 1 + Nd.askL l else 0
def Nd.askL : List Nd → Nat
  | [] => 0
  | x :: l => x.asks + Nd.askL l
end

theorem asks_eq (x : Nd) : x.asks = if x.k != 1 && x.k != 2 then 1 + Nd.askL x.l else 0 := by
  cases x; rw [Nd.asks]; rfl
mutual
theorem asks_le : ∀ (x : Nd), x.asks ≤ x.size
  | .mk k n s l => by
    have := askL_le l
    simp only [Nd.asks, Nd.size]
    split <;> omega
theorem askL_le : ∀ (l : List Nd), Nd.askL l ≤ Nd.sizes l
  | [] => by simp [Nd.askL]
  | x :: l => by
    have := asks_le x
    have := askL_le l
    simp only [Nd.askL, Nd.sizes]
    omega
end
theorem askL_get : ∀ {l : List Nd} {i : Nat} {x : Nd}, l[i]? = some x → Nd.askL (l.take (i + 1)) = Nd.askL (l.take i) + x.asks
  | [], i, x, h => by simp at h
  | y :: l, 0, x, h => by simp at h; subst h; simp [Nd.askL]
  | y :: l, i + 1, x, h => by
    have := askL_get (l := l) (i := i) (x := x) (by simpa using h)
    simp only [List.take_succ_cons, Nd.askL]
    omega
theorem askL_take : ∀ (l : List Nd) (i : Nat), Nd.askL (l.take i) ≤ Nd.askL l
  | [], i => by simp
  | y :: l, 0 => by simp [Nd.askL]
  | y :: l, i + 1 => by simp only [List.take_succ_cons, Nd.askL]; have := askL_take l i; omega

theorem wrap_nat' {n : Nat} (h : n < 9223372036854775808) : IntKind.i64.wrap ((n : Int)) = (n : Int) := by
  rw [IntKind.wrap_i64]; omega

section
variable {sp : Bool → FuncId → Option (List AVal → Hp → Option (AVal × Hp))}

def AskOk (sp : Bool → FuncId → Option (List AVal → Hp → Option (AVal × Hp))) (l : List Nd) : Prop :=
  ∀ k, 2 * Nd.sizes l + 1 ≤ k → ∀ (a : AVal) (H : Hp), IsL a l → Nd.sizes l ≤ 4000 → evalCall (env sp) k false 10 [a] H = some (.int .i64 (Nd.askL l), H)

def Inv10 (a : AVal) (l : List Nd) (H : Hp) (i : Nat) (st : St) : Prop :=
  st.1.n = 28 ∧ st.2 = H ∧ st.1.tm.get 6 = some a ∧ st.1.tm.get 7 = some (.int .i64 l.length) ∧ st.1.tm.get 8 = some (.int .i64 i) ∧ st.1.tm.get 3 = some (.int .i64 (Nd.askL (l.take i))) ∧ st.1.lv.next = i

theorem ask10_step {k : Nat} {st : St} {H : Hp} {a : AVal} {l : List Nd} {i : Nat} {x : Nd} (hx : l[i]? = some x) (ha : IsL a l) (hok : AskOk sp x.l) (hk : 2 * Nd.sizes x.l + 1 ≤ k) (h : Inv10 a l H i st) (hs : Nd.sizes l ≤ 4000) :
    Ev (env sp) (evalCall (env sp) k) false 10 b10_0 st fun ex s => ex = .normal ∧ Inv10 a l H (i + 1) s := by
  obtain ⟨hn', hH, h6, h7, h8, h3, hln⟩ := h
  have hi : i < l.length := (List.getElem?_eq_some_iff.1 hx).1
  have hpl := sizes_len l
  have hget := askL_get hx
  have htk := askL_take l (i + 1)
  have hle := askL_le l
  have hxs := size_mem hx
  have hsx := size_eq x
  have hxl := askL_le x.l
  obtain ⟨vs, tok, rfl, hvs⟩ := ha.list hx
  obtain ⟨v, hv, hN⟩ := hvs.get hx
  have hvl := hvs.1
  obtain ⟨b, rfl, hb⟩ := hN.cells
  have hob := hb.one
  have e10 := hok k hk b H hb (by omega)
  have hi' : ((i : Int) < (l.length : Int)) = True := by simp [hi]
  have h0' : (0 ≤ (i : Int)) = True := by simp
  have hw : IntKind.i64.wrap ((i : Int) + 1) = ((i + 1 : Nat) : Int) := wrap_nat (by omega)
  have hlv : (i < 4096) = True := by simp; omega
  have hax := asks_eq x
  rcases bool_split (x.k != 1) with c1 | c1
  · rcases bool_split (x.k != 2) with c2 | c2
    · rw [c1, c2] at hax
      simp only [Bool.and_self, if_true] at hax
      have hw1 : IntKind.i64.wrap (1 + (Nd.askL x.l : Int)) = ((x.asks : Nat) : Int) := by rw [hax, IntKind.wrap_i64]; omega
      have hw2 : IntKind.i64.wrap ((Nd.askL (l.take i) : Int) + ((x.asks : Nat) : Int)) = ((Nd.askL (l.take (i + 1)) : Nat) : Int) := by rw [hget, IntKind.wrap_i64]; omega
      simp only [Ev, Inv10, b10_0, o10_3, o10_4, o10_5, o10_6, o10_7, hn', hH, h3, h6, h7, h8, hln, hi', h0', hv, hvl, hlv, e10, hw, hw1, hw2, c1, c2, hob, evalCode, runOps, runD, runDraw, askOf, askRecs, askAll, isEff, muteOp, stepA, wantedA, isCall, target, evalOp, opMove, opPick, opAlloc, opBox, opBuild, opBuildSlice, opLoad, opStore, opNilCheck, opBinOp, opUnOp, opConvert, opMakeFunc, opMakeMap, opSlice, opFieldAddr, opField, opIndexAddr, opLookup, opExtract, opAppendB, opLenB, wrOf, newA, eqlA, keepA, newV, evT, toA, putA, loadA, storeA, takeCells, setCells, isAgg, binA, unA, convA, arith, addOff, dstLen, nilNil, isConst, sameTy, strOp, params, results, packA, AExit.leaves, maxTmp, memN, askIn, fillA, repl, groups, Option.getD, Option.map, List.length, List.all, Int.reduceBEq, Int.reduceBNe, Int.reduceEq, Int.reduceGT, Int.reduceGE, Int.reduceNeg, Int.reduceAdd, Int.reduceSub, Int.reduceLT, Int.reduceLE, Int.reduceToNat, Nat.reduceLT, Nat.reducePow, Nat.reduceAdd, Nat.reduceMul, Nat.reduceLeDiff, Nat.reduceEqDiff, Nat.reduceBEq, reduceIte, ↓reduceIte, reduceCtorEq, syT, tyT, Rg.regF, Rg.findR, pickOps, fT10, Tryz.f10]
    · rw [c1, c2] at hax
      simp only [Bool.and_false, Bool.false_eq_true, if_false] at hax
      have hw2 : Nd.askL (l.take (i + 1)) = Nd.askL (l.take i) := by omega
      simp only [Ev, Inv10, b10_0, o10_3, o10_4, o10_5, o10_7, hn', hH, h3, h6, h7, h8, hln, hi', h0', hv, hvl, hlv, hw, hw2, c1, c2, hob, evalCode, runOps, runD, runDraw, askOf, askRecs, askAll, isEff, muteOp, stepA, wantedA, isCall, target, evalOp, opMove, opPick, opAlloc, opBox, opBuild, opBuildSlice, opLoad, opStore, opNilCheck, opBinOp, opUnOp, opConvert, opMakeFunc, opMakeMap, opSlice, opFieldAddr, opField, opIndexAddr, opLookup, opExtract, opAppendB, opLenB, wrOf, newA, eqlA, keepA, newV, evT, toA, putA, loadA, storeA, takeCells, setCells, isAgg, binA, unA, convA, arith, addOff, dstLen, nilNil, isConst, sameTy, strOp, params, results, packA, AExit.leaves, maxTmp, memN, askIn, fillA, repl, groups, Option.getD, Option.map, List.length, List.all, Int.reduceBEq, Int.reduceBNe, Int.reduceEq, Int.reduceGT, Int.reduceGE, Int.reduceNeg, Int.reduceAdd, Int.reduceSub, Int.reduceLT, Int.reduceLE, Int.reduceToNat, Nat.reduceLT, Nat.reducePow, Nat.reduceAdd, Nat.reduceMul, Nat.reduceLeDiff, Nat.reduceEqDiff, Nat.reduceBEq, reduceIte, ↓reduceIte, reduceCtorEq, syT, tyT, Rg.regF, Rg.findR, pickOps, fT10, Tryz.f10]
  · rw [c1] at hax
    simp only [Bool.false_and, Bool.false_eq_true, if_false] at hax
    have hw2 : Nd.askL (l.take (i + 1)) = Nd.askL (l.take i) := by omega
    simp only [Ev, Inv10, b10_0, o10_3, o10_4, o10_5, o10_7, hn', hH, h3, h6, h7, h8, hln, hi', h0', hv, hvl, hlv, hw, hw2, c1, hob, evalCode, runOps, runD, runDraw, askOf, askRecs, askAll, isEff, muteOp, stepA, wantedA, isCall, target, evalOp, opMove, opPick, opAlloc, opBox, opBuild, opBuildSlice, opLoad, opStore, opNilCheck, opBinOp, opUnOp, opConvert, opMakeFunc, opMakeMap, opSlice, opFieldAddr, opField, opIndexAddr, opLookup, opExtract, opAppendB, opLenB, wrOf, newA, eqlA, keepA, newV, evT, toA, putA, loadA, storeA, takeCells, setCells, isAgg, binA, unA, convA, arith, addOff, dstLen, nilNil, isConst, sameTy, strOp, params, results, packA, AExit.leaves, maxTmp, memN, askIn, fillA, repl, groups, Option.getD, Option.map, List.length, List.all, Int.reduceBEq, Int.reduceBNe, Int.reduceEq, Int.reduceGT, Int.reduceGE, Int.reduceNeg, Int.reduceAdd, Int.reduceSub, Int.reduceLT, Int.reduceLE, Int.reduceToNat, Nat.reduceLT, Nat.reducePow, Nat.reduceAdd, Nat.reduceMul, Nat.reduceLeDiff, Nat.reduceEqDiff, Nat.reduceBEq, reduceIte, ↓reduceIte, reduceCtorEq, syT, tyT, Rg.regF, Rg.findR, pickOps, fT10, Tryz.f10]

theorem ask10_end {call : CallF} {st : St} {H : Hp} {a : AVal} {l : List Nd} (h : Inv10 a l H l.length st) :
    Ev (env sp) call false 10 b10_0 st fun ex s => ex = .exit 0 ∧ s.1.n = 28 ∧ s.2 = H ∧ s.1.tm.get 3 = some (.int .i64 (Nd.askL l)) := by
  obtain ⟨hn', hH, h6, h7, h8, h3, hln⟩ := h
  rw [List.take_length] at h3
  have hi' : ((l.length : Int) < (l.length : Int)) = False := by simp
  simp only [Ev, b10_0, o10_3, hn', hH, h3, h6, h7, h8, hln, hi', evalCode, runOps, runD, runDraw, askOf, askRecs, askAll, isEff, muteOp, stepA, wantedA, isCall, target, evalOp, opMove, opPick, opAlloc, opBox, opBuild, opBuildSlice, opLoad, opStore, opNilCheck, opBinOp, opUnOp, opConvert, opMakeFunc, opMakeMap, opSlice, opFieldAddr, opField, opIndexAddr, opLookup, opExtract, opAppendB, opLenB, wrOf, newA, eqlA, keepA, newV, evT, toA, putA, loadA, storeA, takeCells, setCells, isAgg, binA, unA, convA, arith, addOff, dstLen, nilNil, isConst, sameTy, strOp, params, results, packA, AExit.leaves, maxTmp, memN, askIn, fillA, repl, groups, Option.getD, Option.map, List.length, List.all, Int.reduceBEq, Int.reduceBNe, Int.reduceEq, Int.reduceGT, Int.reduceGE, Int.reduceNeg, Int.reduceAdd, Int.reduceSub, Int.reduceLT, Int.reduceLE, Int.reduceToNat, Nat.reduceLT, Nat.reducePow, Nat.reduceAdd, Nat.reduceMul, Nat.reduceLeDiff, Nat.reduceEqDiff, Nat.reduceBEq, reduceIte, ↓reduceIte, reduceCtorEq, syT, tyT, Rg.regF, Rg.findR, pickOps, fT10, Tryz.f10]

theorem ask10 (h10 : sp false 10 = none) : ∀ (N : Nat) (l : List Nd), Nd.sizes l ≤ N → AskOk sp l := by
  intro N
  induction N with
  | zero =>
    intro l hl k hk a H ha hs
    have hll := sizes_len l
    have hl0 : l = [] := List.eq_nil_of_length_eq_zero (by omega)
    subst hl0
    obtain ⟨k', rfl⟩ : ∃ k', k = k' + 1 := ⟨k - 1, by omega⟩
    have hoa := ha.one
    have hla := ha.len
    have key : ∃ r, evalCall (env sp) (k' + 1) false 10 [a] H = some r ∧ (r.1 = .int .i64 0 ∧ r.2 = H) := by
      refine enter10 (Post := fun v H' => v = .int .i64 0 ∧ H' = H) h10 rfl ?_
      unfold c10
      refine Ev.seqN (Q := fun s => s.1.n = 28 ∧ s.2 = H ∧ s.1.tm.get 0 = some a ∧ s.1.lv.next = 0) ?_ ?_
      · simp only [Ev, o10_0, hoa, evalCode, runOps, runD, runDraw, askOf, askRecs, askAll, isEff, muteOp, stepA, wantedA, isCall, target, evalOp, opMove, opPick, opAlloc, opBox, opBuild, opBuildSlice, opLoad, opStore, opNilCheck, opBinOp, opUnOp, opConvert, opMakeFunc, opMakeMap, opSlice, opFieldAddr, opField, opIndexAddr, opLookup, opExtract, opAppendB, opLenB, wrOf, newA, eqlA, keepA, newV, evT, toA, putA, loadA, storeA, takeCells, setCells, isAgg, binA, unA, convA, arith, addOff, dstLen, nilNil, isConst, sameTy, strOp, params, results, packA, AExit.leaves, maxTmp, memN, askIn, fillA, repl, groups, Option.getD, Option.map, List.length, List.all, Int.reduceBEq, Int.reduceBNe, Int.reduceEq, Int.reduceGT, Int.reduceGE, Int.reduceNeg, Int.reduceAdd, Int.reduceSub, Int.reduceLT, Int.reduceLE, Int.reduceToNat, Nat.reduceLT, Nat.reducePow, Nat.reduceAdd, Nat.reduceMul, Nat.reduceLeDiff, Nat.reduceEqDiff, Nat.reduceBEq, reduceIte, ↓reduceIte, reduceCtorEq, syT, tyT, Rg.regF, Rg.findR, pickOps, fT10, Tryz.f10]
      rintro s ⟨hn', hH, h0, hln⟩
      refine Ev.seqN (Q := fun s => s.1.n = 28 ∧ s.2 = H ∧ s.1.tm.get 0 = some a ∧ s.1.lv.next = 0 ∧ s.1.tm.get 3 = some (.int .i64 0)) ?_ ?_
      · simp only [Ev, o10_1, hn', hH, h0, hln, hoa, evalCode, runOps, runD, runDraw, askOf, askRecs, askAll, isEff, muteOp, stepA, wantedA, isCall, target, evalOp, opMove, opPick, opAlloc, opBox, opBuild, opBuildSlice, opLoad, opStore, opNilCheck, opBinOp, opUnOp, opConvert, opMakeFunc, opMakeMap, opSlice, opFieldAddr, opField, opIndexAddr, opLookup, opExtract, opAppendB, opLenB, wrOf, newA, eqlA, keepA, newV, evT, toA, putA, loadA, storeA, takeCells, setCells, isAgg, binA, unA, convA, arith, addOff, dstLen, nilNil, isConst, sameTy, strOp, params, results, packA, AExit.leaves, maxTmp, memN, askIn, fillA, repl, groups, Option.getD, Option.map, List.length, List.all, Int.reduceBEq, Int.reduceBNe, Int.reduceEq, Int.reduceGT, Int.reduceGE, Int.reduceNeg, Int.reduceAdd, Int.reduceSub, Int.reduceLT, Int.reduceLE, Int.reduceToNat, Nat.reduceLT, Nat.reducePow, Nat.reduceAdd, Nat.reduceMul, Nat.reduceLeDiff, Nat.reduceEqDiff, Nat.reduceBEq, reduceIte, ↓reduceIte, reduceCtorEq, syT, tyT, Rg.regF, Rg.findR, pickOps, fT10, Tryz.f10]
      rintro s ⟨hn', hH, h0, hln, h3⟩
      refine Ev.seqN (Q := fun s => s.1.n = 28 ∧ s.2 = H ∧ s.1.tm.get 3 = some (.int .i64 0)) ?_ ?_
      · refine Ev.seqN (Q := fun s => Inv10 a [] H 0 s) ?_ ?_
        · simp only [Ev, Inv10, o10_2, hn', hH, h0, h3, hln, ↓hla, hoa, evalCode, runOps, runD, runDraw, askOf, askRecs, askAll, isEff, muteOp, stepA, wantedA, isCall, target, evalOp, opMove, opPick, opAlloc, opBox, opBuild, opBuildSlice, opLoad, opStore, opNilCheck, opBinOp, opUnOp, opConvert, opMakeFunc, opMakeMap, opSlice, opFieldAddr, opField, opIndexAddr, opLookup, opExtract, opAppendB, opLenB, wrOf, newA, eqlA, keepA, newV, evT, toA, putA, loadA, storeA, takeCells, setCells, isAgg, binA, unA, convA, arith, addOff, dstLen, nilNil, isConst, sameTy, strOp, params, results, packA, AExit.leaves, maxTmp, memN, askIn, fillA, repl, groups, Option.getD, Option.map, List.length, List.all, Int.reduceBEq, Int.reduceBNe, Int.reduceEq, Int.reduceGT, Int.reduceGE, Int.reduceNeg, Int.reduceAdd, Int.reduceSub, Int.reduceLT, Int.reduceLE, Int.reduceToNat, Nat.reduceLT, Nat.reducePow, Nat.reduceAdd, Nat.reduceMul, Nat.reduceLeDiff, Nat.reduceEqDiff, Nat.reduceBEq, reduceIte, ↓reduceIte, reduceCtorEq, syT, tyT, Rg.regF, Rg.findR, pickOps, fT10, Tryz.f10]
          simp [Nd.askL]
        intro s hs'
        refine Ev.block (Ev.loop (Inv := fun i s => i = 0 ∧ Inv10 a [] H i s) 0 (by omega) ⟨rfl, hs'⟩ fun i st hi hle => ?_)
        obtain ⟨rfl, hi⟩ := hi
        exact (ask10_end hi).mono fun ex s hs => .inr ⟨by rw [hs.1]; simp, by rw [hs.1]; rfl, hs.2⟩
      rintro s ⟨hn', hH, h3⟩
      simp only [Ev, o10_8, hn', hH, h3, evalCode, runOps, runD, runDraw, askOf, askRecs, askAll, isEff, muteOp, stepA, wantedA, isCall, target, evalOp, opMove, opPick, opAlloc, opBox, opBuild, opBuildSlice, opLoad, opStore, opNilCheck, opBinOp, opUnOp, opConvert, opMakeFunc, opMakeMap, opSlice, opFieldAddr, opField, opIndexAddr, opLookup, opExtract, opAppendB, opLenB, wrOf, newA, eqlA, keepA, newV, evT, toA, putA, loadA, storeA, takeCells, setCells, isAgg, binA, unA, convA, arith, addOff, dstLen, nilNil, isConst, sameTy, strOp, params, results, packA, AExit.leaves, maxTmp, memN, askIn, fillA, repl, groups, Option.getD, Option.map, List.length, List.all, Int.reduceBEq, Int.reduceBNe, Int.reduceEq, Int.reduceGT, Int.reduceGE, Int.reduceNeg, Int.reduceAdd, Int.reduceSub, Int.reduceLT, Int.reduceLE, Int.reduceToNat, Nat.reduceLT, Nat.reducePow, Nat.reduceAdd, Nat.reduceMul, Nat.reduceLeDiff, Nat.reduceEqDiff, Nat.reduceBEq, reduceIte, ↓reduceIte, reduceCtorEq, syT, tyT, Rg.regF, Rg.findR, pickOps, fT10, Tryz.f10]
    obtain ⟨⟨v', H'⟩, h1, h2, h3⟩ := key
    simp only [] at h2 h3
    subst h2 h3
    exact h1
  | succ N ih =>
    intro l hl k hk a H ha hs
    have hll := sizes_len l
    obtain ⟨k', rfl⟩ : ∃ k', k = k' + 1 := ⟨k - 1, by omega⟩
    have hoa := ha.one
    have hla := ha.len
    have key : ∃ r, evalCall (env sp) (k' + 1) false 10 [a] H = some r ∧ (r.1 = .int .i64 (Nd.askL l) ∧ r.2 = H) := by
      refine enter10 (Post := fun v H' => v = .int .i64 (Nd.askL l) ∧ H' = H) h10 rfl ?_
      unfold c10
      refine Ev.seqN (Q := fun s => s.1.n = 28 ∧ s.2 = H ∧ s.1.tm.get 0 = some a ∧ s.1.lv.next = 0) ?_ ?_
      · simp only [Ev, o10_0, hoa, evalCode, runOps, runD, runDraw, askOf, askRecs, askAll, isEff, muteOp, stepA, wantedA, isCall, target, evalOp, opMove, opPick, opAlloc, opBox, opBuild, opBuildSlice, opLoad, opStore, opNilCheck, opBinOp, opUnOp, opConvert, opMakeFunc, opMakeMap, opSlice, opFieldAddr, opField, opIndexAddr, opLookup, opExtract, opAppendB, opLenB, wrOf, newA, eqlA, keepA, newV, evT, toA, putA, loadA, storeA, takeCells, setCells, isAgg, binA, unA, convA, arith, addOff, dstLen, nilNil, isConst, sameTy, strOp, params, results, packA, AExit.leaves, maxTmp, memN, askIn, fillA, repl, groups, Option.getD, Option.map, List.length, List.all, Int.reduceBEq, Int.reduceBNe, Int.reduceEq, Int.reduceGT, Int.reduceGE, Int.reduceNeg, Int.reduceAdd, Int.reduceSub, Int.reduceLT, Int.reduceLE, Int.reduceToNat, Nat.reduceLT, Nat.reducePow, Nat.reduceAdd, Nat.reduceMul, Nat.reduceLeDiff, Nat.reduceEqDiff, Nat.reduceBEq, reduceIte, ↓reduceIte, reduceCtorEq, syT, tyT, Rg.regF, Rg.findR, pickOps, fT10, Tryz.f10]
      rintro s ⟨hn', hH, h0, hln⟩
      refine Ev.seqN (Q := fun s => s.1.n = 28 ∧ s.2 = H ∧ s.1.tm.get 0 = some a ∧ s.1.lv.next = 0 ∧ s.1.tm.get 3 = some (.int .i64 0)) ?_ ?_
      · simp only [Ev, o10_1, hn', hH, h0, hln, hoa, evalCode, runOps, runD, runDraw, askOf, askRecs, askAll, isEff, muteOp, stepA, wantedA, isCall, target, evalOp, opMove, opPick, opAlloc, opBox, opBuild, opBuildSlice, opLoad, opStore, opNilCheck, opBinOp, opUnOp, opConvert, opMakeFunc, opMakeMap, opSlice, opFieldAddr, opField, opIndexAddr, opLookup, opExtract, opAppendB, opLenB, wrOf, newA, eqlA, keepA, newV, evT, toA, putA, loadA, storeA, takeCells, setCells, isAgg, binA, unA, convA, arith, addOff, dstLen, nilNil, isConst, sameTy, strOp, params, results, packA, AExit.leaves, maxTmp, memN, askIn, fillA, repl, groups, Option.getD, Option.map, List.length, List.all, Int.reduceBEq, Int.reduceBNe, Int.reduceEq, Int.reduceGT, Int.reduceGE, Int.reduceNeg, Int.reduceAdd, Int.reduceSub, Int.reduceLT, Int.reduceLE, Int.reduceToNat, Nat.reduceLT, Nat.reducePow, Nat.reduceAdd, Nat.reduceMul, Nat.reduceLeDiff, Nat.reduceEqDiff, Nat.reduceBEq, reduceIte, ↓reduceIte, reduceCtorEq, syT, tyT, Rg.regF, Rg.findR, pickOps, fT10, Tryz.f10]
      rintro s ⟨hn', hH, h0, hln, h3⟩
      refine Ev.seqN (Q := fun s => s.1.n = 28 ∧ s.2 = H ∧ s.1.tm.get 3 = some (.int .i64 (Nd.askL l))) ?_ ?_
      · refine Ev.seqN (Q := fun s => Inv10 a l H 0 s) ?_ ?_
        · simp only [Ev, Inv10, o10_2, hn', hH, h0, h3, hln, ↓hla, hoa, evalCode, runOps, runD, runDraw, askOf, askRecs, askAll, isEff, muteOp, stepA, wantedA, isCall, target, evalOp, opMove, opPick, opAlloc, opBox, opBuild, opBuildSlice, opLoad, opStore, opNilCheck, opBinOp, opUnOp, opConvert, opMakeFunc, opMakeMap, opSlice, opFieldAddr, opField, opIndexAddr, opLookup, opExtract, opAppendB, opLenB, wrOf, newA, eqlA, keepA, newV, evT, toA, putA, loadA, storeA, takeCells, setCells, isAgg, binA, unA, convA, arith, addOff, dstLen, nilNil, isConst, sameTy, strOp, params, results, packA, AExit.leaves, maxTmp, memN, askIn, fillA, repl, groups, Option.getD, Option.map, List.length, List.all, Int.reduceBEq, Int.reduceBNe, Int.reduceEq, Int.reduceGT, Int.reduceGE, Int.reduceNeg, Int.reduceAdd, Int.reduceSub, Int.reduceLT, Int.reduceLE, Int.reduceToNat, Nat.reduceLT, Nat.reducePow, Nat.reduceAdd, Nat.reduceMul, Nat.reduceLeDiff, Nat.reduceEqDiff, Nat.reduceBEq, reduceIte, ↓reduceIte, reduceCtorEq, syT, tyT, Rg.regF, Rg.findR, pickOps, fT10, Tryz.f10]
          simp [Nd.askL]
        intro s hs'
        refine Ev.block (Ev.loop (Inv := fun i s => Inv10 a l H i s) l.length (by omega) hs' fun i st hi hle => ?_)
        by_cases hlt : i < l.length
        · obtain ⟨x, hx⟩ : ∃ x, l[i]? = some x := ⟨_, List.getElem?_eq_getElem hlt⟩
          have hxs := size_mem hx
          have hsx := size_eq x
          exact (ask10_step hx ha (ih x.l (by omega)) (by omega) hi hs).mono fun ex s hs => .inl ⟨hs.1, hlt, hs.2⟩
        · have : i = l.length := by omega
          subst this
          exact (ask10_end hi).mono fun ex s hs => .inr ⟨by rw [hs.1]; simp, by rw [hs.1]; rfl, hs.2⟩
      rintro s ⟨hn', hH, h3⟩
      simp only [Ev, o10_8, hn', hH, h3, evalCode, runOps, runD, runDraw, askOf, askRecs, askAll, isEff, muteOp, stepA, wantedA, isCall, target, evalOp, opMove, opPick, opAlloc, opBox, opBuild, opBuildSlice, opLoad, opStore, opNilCheck, opBinOp, opUnOp, opConvert, opMakeFunc, opMakeMap, opSlice, opFieldAddr, opField, opIndexAddr, opLookup, opExtract, opAppendB, opLenB, wrOf, newA, eqlA, keepA, newV, evT, toA, putA, loadA, storeA, takeCells, setCells, isAgg, binA, unA, convA, arith, addOff, dstLen, nilNil, isConst, sameTy, strOp, params, results, packA, AExit.leaves, maxTmp, memN, askIn, fillA, repl, groups, Option.getD, Option.map, List.length, List.all, Int.reduceBEq, Int.reduceBNe, Int.reduceEq, Int.reduceGT, Int.reduceGE, Int.reduceNeg, Int.reduceAdd, Int.reduceSub, Int.reduceLT, Int.reduceLE, Int.reduceToNat, Nat.reduceLT, Nat.reducePow, Nat.reduceAdd, Nat.reduceMul, Nat.reduceLeDiff, Nat.reduceEqDiff, Nat.reduceBEq, reduceIte, ↓reduceIte, reduceCtorEq, syT, tyT, Rg.regF, Rg.findR, pickOps, fT10, Tryz.f10]
    obtain ⟨⟨v', H'⟩, h1, h2, h3⟩ := key
    simp only [] at h2 h3
    subst h2 h3
    exact h1
end
end Go.Rs.Seat
end
/- Package arms: tests of a pattern. -/
section
namespace Go.Rs.Seat
open Go.Proofs Rg
set_option maxRecDepth 100000
set_option maxHeartbeats 8000000

/-! ## Appending -/
/-- what may grow, or is full -/
def GrF (B sz : Nat) (a : AVal) (H : Hp) : Prop := Gr B sz a H ∨ ∃ vs, a = .list vs .full sz

theorem GrF.one {B sz a H} (h : GrF B sz a H) : a.oneCell = true := by
  rcases h with h | ⟨vs, rfl⟩
  · exact h.one
  · rfl

theorem app_grF {α : Type} {P : AVal → α → Prop} {E : Env} {T e sz B : Nat} {H : Hp} {a : AVal} {l m : List α} {ys : List AVal} {tk : Tok} (hT : (E.ty T).u = .slice e) (he : ((E.ty e).ok && (E.ty e).zok && decide ((E.ty e).bytes < 4096)) = true) (hsz : (E.ty e).size = sz)
    (hg : GrF B sz a H) (ha : IsS P sz a l) (hy : AllP P ys m) (hne : ys ≠ []) (hn : H.next < 4096) (hB : B ≤ H.next) (hl : l.length + m.length < 100000) :
    ∃ r H', appendA E false T T H a (.list ys tk sz) = some (r, H') ∧ IsS P sz r (l ++ m) ∧ Gr B sz r H' ∧ H'.next = H.next + 1 ∧ ∀ i < B, H'.get i = H.get i := by
  rcases hg with hg | ⟨vs, rfl⟩
  · exact app_gr hT he hsz hg ha hy hne hn hB hl
  · have hap : appended E e T H (.list ys tk sz) = some ys := by
      unfold appended
      rw [hT]
      simp only [elemsOf, hsz, if_true]
    obtain ⟨y, ys', rfl⟩ : ∃ y ys', ys = y :: ys' := List.exists_cons_of_ne_nil hne
    have hmr : maxRow = 4294967296 := rfl
    have hmt : maxTmp = 4096 := rfl
    have hyl := hy.1
    obtain ⟨vs', t', he', hvs⟩ : ∃ vs' t', AVal.list vs .full sz = .list vs' t' sz ∧ AllP P vs' l := by
      rcases ha with ⟨h, -⟩ | h
      · cases h
      · exact h
    injection he' with he1 he2
    subst he1
    refine ⟨.list (vs ++ y :: ys') (.own H.next) sz, (H.alloc .tok).2, ?_, .inr ⟨_, _, rfl, hvs.append hy⟩, .inr ⟨_, _, rfl, ?_, hB, by simp [alN]⟩, rfl, fun i hi => ?_⟩
    · unfold appendA
      simp only [hT, hap, he, if_true, hsz, Bool.false_eq_true, if_false]
      rw [if_pos ⟨trivial, by rw [hyl, hvs.1, hmr]; omega⟩]
      exact if_pos (show H.next < maxTmp by omega)
    · rw [hnew hn, if_pos rfl]
    · rw [hnew hn, if_neg (by omega)]

/-- a slice is appended -/
theorem app_any {α : Type} {P : AVal → α → Prop} {E : Env} {T e sz B : Nat} {H : Hp} {a y : AVal} {l m : List α} (hT : (E.ty T).u = .slice e) (he : ((E.ty e).ok && (E.ty e).zok && decide ((E.ty e).bytes < 4096)) = true) (hsz : (E.ty e).size = sz)
    (hg : Gr B sz a H) (ha : IsS P sz a l) (hy : IsS P sz y m) (hn : H.next < 4096) (hB : B ≤ H.next) (hl : l.length + m.length < 100000) :
    ∃ r H', appendA E false T T H a y = some (r, H') ∧ IsS P sz r (l ++ m) ∧ Gr B sz r H' ∧ H.next ≤ H'.next ∧ H'.next ≤ H.next + 1 ∧ ∀ i < B, H'.get i = H.get i := by
  by_cases hm : m = []
  · subst hm
    have hap : appended E e T H y = some [] := by
      unfold appended
      rw [hT]
      rcases hy with ⟨rfl, -⟩ | ⟨vs, t, rfl, hvs⟩
      · rfl
      · have : vs = [] := List.eq_nil_of_length_eq_zero hvs.1
        subst this
        simp only [elemsOf, hsz, if_true]
    refine ⟨a, H, ?_, by simpa using ha, hg, Nat.le_refl _, by omega, fun _ _ => rfl⟩
    unfold appendA
    rcases hg with rfl | ⟨vs, t, rfl, -⟩ <;> simp only [hT, hap, he, if_true]
  · obtain ⟨vs, t, rfl, hvs⟩ : ∃ vs t, y = .list vs t sz ∧ AllP P vs m := by
      rcases hy with ⟨-, h⟩ | h
      · exact absurd h hm
      · exact h
    obtain ⟨r, H', h1, h2, h3, h4, h5⟩ := app_gr (tk := t) hT he hsz hg ha hvs (by intro h; rw [h] at hvs; exact hm (List.eq_nil_of_length_eq_zero hvs.1.symm)) hn hB hl
    exact ⟨r, H', h1, h2, h3, by omega, by omega, h5⟩

/-! ## Slices of numbers as slices -/
theorem isI_iff {a : AVal} {l : List Int} : IsI a l ↔ IsS (fun v x => v = .int .i64 x) 1 a l := by
  constructor
  · rintro (h | ⟨t, rfl⟩)
    · exact .inl h
    · exact .inr ⟨_, t, rfl, by simp [ints], fun i v x h1 h2 => by simp [ints, h2] at h1; exact h1.symm⟩
  · rintro (h | ⟨vs, t, rfl, hvs⟩)
    · exact .inl h
    · refine .inr ⟨t, ?_⟩
      congr 1
      apply List.ext_getElem?
      intro i
      cases hl : l[i]? with
      | none => 
        have := List.getElem?_eq_none_iff.1 hl
        rw [List.getElem?_eq_none (by rw [hvs.1]; exact this), List.getElem?_eq_none (by rw [ints_len]; exact this)]
      | some x =>
        obtain ⟨v, hv, he⟩ := hvs.get hl
        rw [hv, he, ints_get hl]

/-! ## A value is what it is -/
mutual
theorem IsN.same : ∀ {x : Nd} {v : AVal}, IsN x v → sameA v v = true
  | .mk k n s l, v, h => by
    unfold IsN at h
    obtain ⟨a, rfl, ⟨rfl, -⟩ | ⟨vs, t, rfl, hvs⟩⟩ := h
    · simp [sameA, sameAs]
    · have := IsNs.same hvs
      simp [sameA, sameAs, this]
theorem IsNs.same : ∀ {l : List Nd} {vs : List AVal}, IsNs l vs → sameAs vs vs = true
  | [], [], _ => rfl
  | x :: l, v :: vs, h => by
    unfold IsNs at h
    have h1 := IsN.same h.1
    have h2 := IsNs.same h.2
    simp [sameAs, h1, h2]
  | [], _ :: _, h => by unfold IsNs at h; exact h.elim
  | _ :: _, [], h => by unfold IsNs at h; exact h.elim
end

section
variable {sp : Bool → FuncId → Option (List AVal → Hp → Option (AVal × Hp))}

theorem clone47 {k B : Nat} {a : AVal} {l : List Int} {H : Hp} (h47 : sp false 47 = none) (ha : IsI a l) (hn : H.next < 4096) (hB : B ≤ H.next) (hl : l.length < 9000) :
    ∃ r H', evalCall (env sp) (k + 1) false 47 [a] H = some (r, H') ∧ IsI r l ∧ GrF B 1 r H' ∧ H.next ≤ H'.next ∧ H'.next ≤ H.next + 1 ∧ ∀ i < H.next, H'.get i = H.get i := by
  rcases ha with ⟨rfl, rfl⟩ | ⟨t, rfl⟩
  · exact ⟨_, H, clone47_nil h47, .inl ⟨rfl, rfl⟩, .inl .nil, Nat.le_refl _, by omega, fun _ _ => rfl⟩
  · cases l with
    | nil => exact ⟨_, H, clone47_empty h47, .inr ⟨.full, rfl⟩, .inr ⟨_, rfl⟩, Nat.le_refl _, by omega, fun _ _ => rfl⟩
    | cons x xs =>
      refine ⟨_, _, clone47_list h47 hn (by simp at hl; omega), .inr ⟨_, rfl⟩, .inl (.inr ⟨_, _, rfl, ?_, hB, by simp [alN]⟩), by simp [alN], by simp [alN], fun i hi => ?_⟩
      · rw [hnew hn, if_pos rfl]
      · rw [hnew hn, if_neg (by omega)]

theorem IsI.strip {a l} (h : IsI a l) : IsI a.strip l := by
  rcases h with ⟨rfl, rfl⟩ | ⟨t, rfl⟩
  · exact .inl ⟨rfl, rfl⟩
  · exact .inr ⟨.none, rfl⟩
end
end Go.Rs.Seat
end
/- Package arms: tests of a pattern. -/
section
namespace Go.Rs.Seat
open Go.Proofs Rg
set_option maxRecDepth 100000
set_option maxHeartbeats 8000000

mutual
def testsT : Nd → List Int → List Tst
  | .mk k n s l, path => if k == 3 then [⟨path, k, n, ⟨#[]⟩⟩] else if k == 4 then [⟨path, k, n, ⟨#[]⟩⟩] else if k == 5 then [⟨path, k, 0, s⟩]
    else if k == 6 then ⟨path, k, l.length, s⟩ :: testsL l path 0 else []
def testsL : List Nd → List Int → Nat → List Tst
  | [], _, _ => []
  | x :: l, path, i => testsT x (path ++ [(i : Int)]) ++ testsL l path (i + 1)
end

theorem testsT_eq (x : Nd) (path : List Int) : testsT x path = if x.k == 3 then [⟨path, x.k, x.n, ⟨#[]⟩⟩] else if x.k == 4 then [⟨path, x.k, x.n, ⟨#[]⟩⟩] else if x.k == 5 then [⟨path, x.k, 0, x.s⟩]
    else if x.k == 6 then ⟨path, x.k, x.l.length, x.s⟩ :: testsL x.l path 0 else [] := by
  cases x; rw [testsT]; rfl

theorem testsL_get {path : List Int} : ∀ {l : List Nd} {i : Nat} {x : Nd} {s : Nat}, l[i]? = some x → testsL (l.take (i + 1)) path s = testsL (l.take i) path s ++ testsT x (path ++ [((s + i : Nat) : Int)])
  | [], i, x, s, h => by simp at h
  | y :: l, 0, x, s, h => by simp at h; subst h; simp [testsL]
  | y :: l, i + 1, x, s, h => by
    have := testsL_get (path := path) (l := l) (i := i) (x := x) (s := s + 1) (by simpa using h)
    simp only [List.take_succ_cons, testsL, this, List.append_assoc]
    rw [show s + 1 + i = s + (i + 1) by omega]
mutual
theorem testsT_len : ∀ (x : Nd) (path : List Int), (testsT x path).length ≤ x.size
  | .mk k n s l, path => by
    have := testsL_len l path 0
    simp only [testsT, Nd.size]
    split
    · simp
    · split
      · simp
      · split
        · simp
        · split
          · simp; omega
          · simp
theorem testsL_len : ∀ (l : List Nd) (path : List Int) (i : Nat), (testsL l path i).length ≤ Nd.sizes l
  | [], _, _ => by simp [testsL]
  | x :: l, path, i => by
    have := testsT_len x (path ++ [(i : Int)])
    have := testsL_len l path (i + 1)
    simp only [testsL, Nd.sizes, List.length_append]
    omega
end

section
variable {sp : Bool → FuncId → Option (List AVal → Hp → Option (AVal × Hp))}

def TestsOk (sp : Bool → FuncId → Option (List AVal → Hp → Option (AVal × Hp))) (x : Nd) : Prop :=
  ∀ k, x.size + 1 ≤ k → ∀ (a pa : AVal) (path : List Int) (H : Hp), IsN x a → IsI pa path → path.length + x.size ≤ 8000 → H.next + 5 * x.size ≤ 4000 → x.size ≤ 700 →
    ∃ r H', evalCall (env sp) k false 28 [a, pa] H = some (r, H') ∧ IsTs r (testsT x path) ∧ H.next ≤ H'.next ∧ H'.next + 3 ≤ H.next + 5 * x.size ∧ ∀ j < H.next, H'.get j = H.get j

def Inv28 (x : Nd) (pa aa : AVal) (path : List Int) (t0 : Tst) (H0 : Hp) (i : Nat) (st : St) : Prop :=
  st.1.n = 72 ∧ st.1.tm.get 1 = some pa ∧ st.1.tm.get 54 = some aa ∧ st.1.tm.get 55 = some (.int .i64 x.l.length) ∧ st.1.tm.get 56 = some (.int .i64 i) ∧ st.1.lv.next = i + 1 ∧
    H0.next ≤ st.2.next ∧ st.2.next ≤ H0.next + 2 + 5 * Nd.sizes (x.l.take i) ∧ (∀ j < H0.next, st.2.get j = H0.get j) ∧
    ∃ o, st.1.tm.get 5 = some o ∧ IsTs o (t0 :: testsL (x.l.take i) path 0) ∧ Gr H0.next 5 o st.2

theorem tests28_step {k : Nat} {st : St} {H0 : Hp} {x y : Nd} {pa aa : AVal} {path : List Int} {t0 : Tst} {i : Nat} (h47 : sp false 47 = none) (hy : x.l[i]? = some y) (haa : IsL aa x.l) (hpa : IsI pa path) (hok : TestsOk sp y) (hk : y.size + 1 ≤ k)
    (h : Inv28 x pa aa path t0 H0 i st) (hs : H0.next + 5 * x.size ≤ 4000) (hp : path.length + x.size ≤ 8000) (hxs : x.size ≤ 700) :
    Ev (env sp) (evalCall (env sp) k) false 28 b28_1 st fun ex s => ex = .normal ∧ Inv28 x pa aa path t0 H0 (i + 1) s := by
  obtain ⟨hn', h1, h54, h55, h56, hln, hHn, hHs, hfr, o, h5, ho, hgo⟩ := h
  have hi : i < x.l.length := (List.getElem?_eq_some_iff.1 hy).1
  have hpl := sizes_len x.l
  have hsz := size_eq x
  have hys := size_mem hy
  have hsg := sizes_get hy
  have hst := sizes_take x.l (i + 1)
  obtain ⟨vs, tok, rfl, hvs⟩ := haa.list hy
  obtain ⟨v, hv, hN⟩ := hvs.get hy
  have hvl := hvs.1
  have hsame := hN.same
  obtain ⟨k', rfl⟩ : ∃ k', k = k' + 1 := ⟨k - 1, by omega⟩
  obtain ⟨r1, H1, e47, hr1, hg1, hn1, hn1', hf1⟩ := clone47 (k := k') (B := st.2.next) (H := st.2) h47 hpa (by omega) (Nat.le_refl _) (by omega)
  obtain ⟨r2, H2, eap, hr2, hg2, hn2, hf2⟩ := app_grF (P := fun v x => v = AVal.int .i64 x) (E := env sp) (T := 22) (e := 3) (sz := 1) (tk := .full) (m := [(i : Int)]) (by rw [ty22]) (by rw [ty3]; decide) (by rw [ty3]) hg1 (isI_iff.1 hr1) (AllP.cons rfl AllP.nil) (by simp) (by omega) (by omega) (by simp; omega)
  obtain ⟨r3, H3, e28, hr3, hn3, hn3', hf3⟩ := hok (k' + 1) (by omega) v r2 (path ++ [(i : Int)]) H2 hN (isI_iff.2 hr2) (by simp; omega) (by omega) (by omega)
  have hgo3 : Gr H0.next 5 o H3 := hgo.keep (by omega) fun j hj => by rw [hf3 j (by omega), hf2 j hj, hf1 j hj]
  have hlen := testsL_len (x.l.take i) path 0
  have hlen2 := testsT_len y (path ++ [(i : Int)])
  have hst2 := sizes_take x.l i
  obtain ⟨o', H4, eap2, ho', hgo', hn4, hn4', hf4⟩ := app_any (P := IsT) (E := env sp) (T := 43) (e := 38) (sz := 5) (by rw [ty43]) (by rw [ty38]; decide) (by rw [ty38]) hgo3 ho hr3 (by omega) (by omega) (by simp; omega)
  obtain ⟨b, rfl, hb⟩ := hN.cells
  have hob := hb.one
  have hoo := hgo.one
  have hop := hpa.one
  have hor1 := hr1.one
  have hor2 := hg2.one
  have hor3 := hr3.one
  have hoo' := hgo'.one
  have hi' : ((i : Int) < (x.l.length : Int)) = True := by simp [hi]
  have h0' : (0 ≤ (i : Int)) = True := by simp
  have hw : IntKind.i64.wrap ((i : Int) + 1) = ((i + 1 : Nat) : Int) := wrap_nat (by omega)
  have hlv : (i + 1 < 4096) = True := by simp; omega
  have hlv0 : ¬ i + 1 = 0 := by omega
  simp only [Ev, Inv28, b28_1, o28_12, o28_13, ↓drw28_14, d28_14, o28_15, hn', h1, h5, h54, h55, h56, hln, hi', h0', hv, hvl, hlv, hlv0, e47, eap, e28, eap2, hsame, hw, hob, hoo, hop, hor1, hor2, hor3, hoo', evalCode, runOps, runD, runDraw, askOf, askRecs, askAll, isEff, muteOp, stepA, wantedA, isCall, target, evalOp, opMove, opPick, opAlloc, opBox, opBuild, opBuildSlice, opLoad, opStore, opNilCheck, opBinOp, opUnOp, opConvert, opMakeFunc, opMakeMap, opSlice, opFieldAddr, opField, opIndexAddr, opLookup, opExtract, opAppendB, opLenB, wrOf, newA, eqlA, keepA, newV, evT, toA, putA, loadA, storeA, takeCells, setCells, isAgg, binA, unA, convA, arith, addOff, dstLen, nilNil, isConst, sameTy, strOp, params, results, packA, AExit.leaves, maxTmp, memN, askIn, fillA, repl, groups, Option.getD, Option.map, List.length, List.all, Int.reduceBEq, Int.reduceBNe, Int.reduceEq, Int.reduceGT, Int.reduceGE, Int.reduceNeg, Int.reduceAdd, Int.reduceSub, Int.reduceLT, Int.reduceLE, Int.reduceToNat, Nat.reduceLT, Nat.reducePow, Nat.reduceAdd, Nat.reduceMul, Nat.reduceLeDiff, Nat.reduceEqDiff, Nat.reduceBEq, reduceIte, ↓reduceIte, reduceCtorEq, syT, tyT, Rg.regF, Rg.findR, pickOps, fT28, Tryz.f28]
  refine ⟨by omega, by omega, fun j hj => ?_, ?_, hgo'⟩
  · rw [hf4 j hj, hf3 j (by omega), hf2 j (by omega), hf1 j (by omega), hfr j hj]
  · rw [testsL_get hy, Nat.zero_add]; exact ho'

theorem tests28_end {call : CallF} {st : St} {H0 : Hp} {x : Nd} {pa aa : AVal} {path : List Int} {t0 : Tst} (h : Inv28 x pa aa path t0 H0 x.l.length st) :
    Ev (env sp) call false 28 b28_1 st fun ex s => ex = .exit 1 ∧ Inv28 x pa aa path t0 H0 x.l.length s := by
  obtain ⟨hn', h1, h54, h55, h56, hln, hHn, hHs, hfr, o, h5, ho, hgo⟩ := h
  have hi' : ((x.l.length : Int) < (x.l.length : Int)) = False := by simp
  simp only [Ev, Inv28, b28_1, o28_12, hn', h1, h5, h54, h55, h56, hln, hi', evalCode, runOps, runD, runDraw, askOf, askRecs, askAll, isEff, muteOp, stepA, wantedA, isCall, target, evalOp, opMove, opPick, opAlloc, opBox, opBuild, opBuildSlice, opLoad, opStore, opNilCheck, opBinOp, opUnOp, opConvert, opMakeFunc, opMakeMap, opSlice, opFieldAddr, opField, opIndexAddr, opLookup, opExtract, opAppendB, opLenB, wrOf, newA, eqlA, keepA, newV, evT, toA, putA, loadA, storeA, takeCells, setCells, isAgg, binA, unA, convA, arith, addOff, dstLen, nilNil, isConst, sameTy, strOp, params, results, packA, AExit.leaves, maxTmp, memN, askIn, fillA, repl, groups, Option.getD, Option.map, List.length, List.all, Int.reduceBEq, Int.reduceBNe, Int.reduceEq, Int.reduceGT, Int.reduceGE, Int.reduceNeg, Int.reduceAdd, Int.reduceSub, Int.reduceLT, Int.reduceLE, Int.reduceToNat, Nat.reduceLT, Nat.reducePow, Nat.reduceAdd, Nat.reduceMul, Nat.reduceLeDiff, Nat.reduceEqDiff, Nat.reduceBEq, reduceIte, ↓reduceIte, reduceCtorEq, syT, tyT, Rg.regF, Rg.findR, pickOps, fT28, Tryz.f28]
  exact ⟨hHn, hHs, hfr, ho, hgo⟩

theorem tests28 (h28 : sp false 28 = none) (h47 : sp false 47 = none) : ∀ (N : Nat) (x : Nd), x.size ≤ N → TestsOk sp x
  | 0, x, h => absurd h (by have := size_pos x; omega)
  | N + 1, x, h => by
    intro k hk a pa path H hx hpa hpl hH hxs
    obtain ⟨k', rfl⟩ : ∃ k', k = k' + 1 + 1 := ⟨k - 2, by have := size_pos x; omega⟩
    obtain ⟨aa, rfl, haa⟩ := hx.cells
    have hsz := size_eq x
    have hll := sizes_len x.l
    have hoa := haa.one
    have hop := hpa.one
    have hla := haa.len
    obtain ⟨r1, H1, e47, hr1, hg1, hn1, hn1', hf1⟩ := clone47 (k := k') (B := H.next) (H := H) h47 hpa (by omega) (Nat.le_refl _) (by omega)
    have hor1 := hr1.one
    have hr1s := hr1.strip
    generalize hst : r1.strip = q at hr1s
    have hoq := hr1s.one
    -- one test behind nothing
    have one : ∀ (t : Tst), t.path = path → ∃ r H2, appendA (env sp) false 43 43 H1 .nilslice (.list [.agg [q, .int .i64 t.k, .int .i64 t.n, .str t.s, .nilslice]] .full 5) = some (r, H2) ∧ IsTs r [t] ∧ Gr H.next 5 r H2 ∧ H2.next = H1.next + 1 ∧ ∀ j < H.next, H2.get j = H1.get j := by
      intro t ht
      exact app_gr (P := IsT) (E := env sp) (T := 43) (e := 38) (sz := 5) (tk := .full) (m := [t]) (l := []) (by rw [ty43]) (by rw [ty38]; decide) (by rw [ty38]) .nil (.inl ⟨rfl, rfl⟩) (AllP.cons ⟨q, rfl, by rw [ht]; exact hr1s⟩ AllP.nil) (by simp) (by omega) hn1 (by simp)
    rw [testsT_eq]
    rcases bool_split (x.k == 3) with c3 | c3
    · obtain ⟨r, H2, eap, hr, hgr, hn2, hf2⟩ := one ⟨path, x.k, x.n, ⟨#[]⟩⟩ rfl
      have hor := hgr.one
      have key : evalCall (env sp) (k' + 1 + 1) false 28 [.agg [.int .i64 x.k, .int .i64 x.n, .str x.s, aa], pa] H = some (r, H2) := by
        rw [evalCall]
        simp only [h28, Tryz.func28, Tryz.f28, e47, eap, hst, hoa, hop, hor1, hoq, hor, c3, evalCode, runOps, runD, runDraw, askOf, askRecs, askAll, isEff, muteOp, stepA, wantedA, isCall, target, evalOp, opMove, opPick, opAlloc, opBox, opBuild, opBuildSlice, opLoad, opStore, opNilCheck, opBinOp, opUnOp, opConvert, opMakeFunc, opMakeMap, opSlice, opFieldAddr, opField, opIndexAddr, opLookup, opExtract, opAppendB, opLenB, wrOf, newA, eqlA, keepA, newV, evT, toA, putA, loadA, storeA, takeCells, setCells, isAgg, binA, unA, convA, arith, addOff, dstLen, nilNil, isConst, sameTy, strOp, params, results, packA, AExit.leaves, maxTmp, memN, askIn, fillA, repl, groups, Option.getD, Option.map, List.length, List.all, Int.reduceBEq, Int.reduceBNe, Int.reduceEq, Int.reduceGT, Int.reduceGE, Int.reduceNeg, Int.reduceAdd, Int.reduceSub, Int.reduceLT, Int.reduceLE, Int.reduceToNat, Nat.reduceLT, Nat.reducePow, Nat.reduceAdd, Nat.reduceMul, Nat.reduceLeDiff, Nat.reduceEqDiff, Nat.reduceBEq, reduceIte, ↓reduceIte, reduceCtorEq, syT, tyT, Rg.regF, Rg.findR, pickOps, fT28, Tryz.f28]
      rw [if_pos c3]
      exact ⟨r, H2, key, hr, by omega, by omega, fun j hj => by rw [hf2 j hj, hf1 j hj]⟩
    rw [if_neg (by simp [c3])]
    rcases bool_split (x.k == 4) with c4 | c4
    · obtain ⟨r, H2, eap, hr, hgr, hn2, hf2⟩ := one ⟨path, x.k, x.n, ⟨#[]⟩⟩ rfl
      have hor := hgr.one
      have key : evalCall (env sp) (k' + 1 + 1) false 28 [.agg [.int .i64 x.k, .int .i64 x.n, .str x.s, aa], pa] H = some (r, H2) := by
        rw [evalCall]
        simp only [h28, Tryz.func28, Tryz.f28, e47, eap, hst, hoa, hop, hor1, hoq, hor, c3, c4, evalCode, runOps, runD, runDraw, askOf, askRecs, askAll, isEff, muteOp, stepA, wantedA, isCall, target, evalOp, opMove, opPick, opAlloc, opBox, opBuild, opBuildSlice, opLoad, opStore, opNilCheck, opBinOp, opUnOp, opConvert, opMakeFunc, opMakeMap, opSlice, opFieldAddr, opField, opIndexAddr, opLookup, opExtract, opAppendB, opLenB, wrOf, newA, eqlA, keepA, newV, evT, toA, putA, loadA, storeA, takeCells, setCells, isAgg, binA, unA, convA, arith, addOff, dstLen, nilNil, isConst, sameTy, strOp, params, results, packA, AExit.leaves, maxTmp, memN, askIn, fillA, repl, groups, Option.getD, Option.map, List.length, List.all, Int.reduceBEq, Int.reduceBNe, Int.reduceEq, Int.reduceGT, Int.reduceGE, Int.reduceNeg, Int.reduceAdd, Int.reduceSub, Int.reduceLT, Int.reduceLE, Int.reduceToNat, Nat.reduceLT, Nat.reducePow, Nat.reduceAdd, Nat.reduceMul, Nat.reduceLeDiff, Nat.reduceEqDiff, Nat.reduceBEq, reduceIte, ↓reduceIte, reduceCtorEq, syT, tyT, Rg.regF, Rg.findR, pickOps, fT28, Tryz.f28]
      rw [if_pos c4]
      exact ⟨r, H2, key, hr, by omega, by omega, fun j hj => by rw [hf2 j hj, hf1 j hj]⟩
    rw [if_neg (by simp [c4])]
    rcases bool_split (x.k == 5) with c5 | c5
    · obtain ⟨r, H2, eap, hr, hgr, hn2, hf2⟩ := one ⟨path, x.k, 0, x.s⟩ rfl
      have hor := hgr.one
      have key : evalCall (env sp) (k' + 1 + 1) false 28 [.agg [.int .i64 x.k, .int .i64 x.n, .str x.s, aa], pa] H = some (r, H2) := by
        rw [evalCall]
        simp only [h28, Tryz.func28, Tryz.f28, e47, eap, hst, hoa, hop, hor1, hoq, hor, c3, c4, c5, evalCode, runOps, runD, runDraw, askOf, askRecs, askAll, isEff, muteOp, stepA, wantedA, isCall, target, evalOp, opMove, opPick, opAlloc, opBox, opBuild, opBuildSlice, opLoad, opStore, opNilCheck, opBinOp, opUnOp, opConvert, opMakeFunc, opMakeMap, opSlice, opFieldAddr, opField, opIndexAddr, opLookup, opExtract, opAppendB, opLenB, wrOf, newA, eqlA, keepA, newV, evT, toA, putA, loadA, storeA, takeCells, setCells, isAgg, binA, unA, convA, arith, addOff, dstLen, nilNil, isConst, sameTy, strOp, params, results, packA, AExit.leaves, maxTmp, memN, askIn, fillA, repl, groups, Option.getD, Option.map, List.length, List.all, Int.reduceBEq, Int.reduceBNe, Int.reduceEq, Int.reduceGT, Int.reduceGE, Int.reduceNeg, Int.reduceAdd, Int.reduceSub, Int.reduceLT, Int.reduceLE, Int.reduceToNat, Nat.reduceLT, Nat.reducePow, Nat.reduceAdd, Nat.reduceMul, Nat.reduceLeDiff, Nat.reduceEqDiff, Nat.reduceBEq, reduceIte, ↓reduceIte, reduceCtorEq, syT, tyT, Rg.regF, Rg.findR, pickOps, fT28, Tryz.f28]
      rw [if_pos c5]
      exact ⟨r, H2, key, hr, by omega, by omega, fun j hj => by rw [hf2 j hj, hf1 j hj]⟩
    rw [if_neg (by simp [c5])]
    rcases bool_split (x.k == 6) with c6 | c6
    · rw [if_pos c6]
      obtain ⟨r, H2, eap, hr, hgr, hn2, hf2⟩ := one ⟨path, x.k, x.l.length, x.s⟩ rfl
      have hor := hgr.one
      have key : ∃ r, evalCall (env sp) (k' + 1 + 1) false 28 [.agg [.int .i64 x.k, .int .i64 x.n, .str x.s, aa], pa] H = some r ∧
          (IsTs r.1 (⟨path, x.k, x.l.length, x.s⟩ :: testsL x.l path 0) ∧ H.next ≤ r.2.next ∧ r.2.next + 3 ≤ H.next + 5 * x.size ∧ ∀ j < H.next, r.2.get j = H.get j) := by
        refine enter28 (Post := fun v H' => IsTs v (⟨path, x.k, x.l.length, x.s⟩ :: testsL x.l path 0) ∧ H.next ≤ H'.next ∧ H'.next + 3 ≤ H.next + 5 * x.size ∧ ∀ j < H.next, H'.get j = H.get j) h28 rfl ?_
        unfold c28
        refine Ev.seqN (Q := fun s => s.1.n = 72 ∧ s.2 = H ∧ s.1.tm.get 1 = some pa ∧ s.1.tm.get 2 = some (.lptr 0 0) ∧ s.1.lv.next = 1 ∧ s.1.lv.get 0 = some [.int .i64 x.k, .int .i64 x.n, .str x.s, aa]) ?_ ?_
        · simp only [Ev, o28_0, hoa, hop, evalCode, runOps, runD, runDraw, askOf, askRecs, askAll, isEff, muteOp, stepA, wantedA, isCall, target, evalOp, opMove, opPick, opAlloc, opBox, opBuild, opBuildSlice, opLoad, opStore, opNilCheck, opBinOp, opUnOp, opConvert, opMakeFunc, opMakeMap, opSlice, opFieldAddr, opField, opIndexAddr, opLookup, opExtract, opAppendB, opLenB, wrOf, newA, eqlA, keepA, newV, evT, toA, putA, loadA, storeA, takeCells, setCells, isAgg, binA, unA, convA, arith, addOff, dstLen, nilNil, isConst, sameTy, strOp, params, results, packA, AExit.leaves, maxTmp, memN, askIn, fillA, repl, groups, Option.getD, Option.map, List.length, List.all, Int.reduceBEq, Int.reduceBNe, Int.reduceEq, Int.reduceGT, Int.reduceGE, Int.reduceNeg, Int.reduceAdd, Int.reduceSub, Int.reduceLT, Int.reduceLE, Int.reduceToNat, Nat.reduceLT, Nat.reducePow, Nat.reduceAdd, Nat.reduceMul, Nat.reduceLeDiff, Nat.reduceEqDiff, Nat.reduceBEq, reduceIte, ↓reduceIte, reduceCtorEq, syT, tyT, Rg.regF, Rg.findR, pickOps, fT28, Tryz.f28]
        rintro s ⟨hn', hH', h1, h2, hln, hl0⟩
        refine Ev.seqN (Q := fun s => s.1.n = 72 ∧ s.2 = H ∧ s.1.tm.get 1 = some pa ∧ s.1.tm.get 2 = some (.lptr 0 0) ∧ s.1.lv.next = 1 ∧ s.1.lv.get 0 = some [.int .i64 x.k, .int .i64 x.n, .str x.s, aa] ∧ s.1.tm.get 5 = some .nilslice) ?_ ?_
        · simp only [Ev, o28_1, hn', hH', h1, h2, hln, hl0, hoa, hop, evalCode, runOps, runD, runDraw, askOf, askRecs, askAll, isEff, muteOp, stepA, wantedA, isCall, target, evalOp, opMove, opPick, opAlloc, opBox, opBuild, opBuildSlice, opLoad, opStore, opNilCheck, opBinOp, opUnOp, opConvert, opMakeFunc, opMakeMap, opSlice, opFieldAddr, opField, opIndexAddr, opLookup, opExtract, opAppendB, opLenB, wrOf, newA, eqlA, keepA, newV, evT, toA, putA, loadA, storeA, takeCells, setCells, isAgg, binA, unA, convA, arith, addOff, dstLen, nilNil, isConst, sameTy, strOp, params, results, packA, AExit.leaves, maxTmp, memN, askIn, fillA, repl, groups, Option.getD, Option.map, List.length, List.all, Int.reduceBEq, Int.reduceBNe, Int.reduceEq, Int.reduceGT, Int.reduceGE, Int.reduceNeg, Int.reduceAdd, Int.reduceSub, Int.reduceLT, Int.reduceLE, Int.reduceToNat, Nat.reduceLT, Nat.reducePow, Nat.reduceAdd, Nat.reduceMul, Nat.reduceLeDiff, Nat.reduceEqDiff, Nat.reduceBEq, reduceIte, ↓reduceIte, reduceCtorEq, syT, tyT, Rg.regF, Rg.findR, pickOps, fT28, Tryz.f28]
        rintro s ⟨hn', hH', h1, h2, hln, hl0, h5⟩
        refine Ev.seqN (Q := fun s => s.1.n = 72 ∧ s.2 = H1 ∧ s.1.tm.get 1 = some pa ∧ s.1.tm.get 2 = some (.lptr 0 0) ∧ s.1.lv.next = 1 ∧ s.1.lv.get 0 = some [.int .i64 x.k, .int .i64 x.n, .str x.s, aa] ∧ s.1.tm.get 5 = some .nilslice ∧ s.1.tm.get 6 = some r1) ?_ ?_
        · simp only [Ev, o28_2, hn', hH', h1, h2, h5, hln, hl0, e47, hoa, hop, hor1, evalCode, runOps, runD, runDraw, askOf, askRecs, askAll, isEff, muteOp, stepA, wantedA, isCall, target, evalOp, opMove, opPick, opAlloc, opBox, opBuild, opBuildSlice, opLoad, opStore, opNilCheck, opBinOp, opUnOp, opConvert, opMakeFunc, opMakeMap, opSlice, opFieldAddr, opField, opIndexAddr, opLookup, opExtract, opAppendB, opLenB, wrOf, newA, eqlA, keepA, newV, evT, toA, putA, loadA, storeA, takeCells, setCells, isAgg, binA, unA, convA, arith, addOff, dstLen, nilNil, isConst, sameTy, strOp, params, results, packA, AExit.leaves, maxTmp, memN, askIn, fillA, repl, groups, Option.getD, Option.map, List.length, List.all, Int.reduceBEq, Int.reduceBNe, Int.reduceEq, Int.reduceGT, Int.reduceGE, Int.reduceNeg, Int.reduceAdd, Int.reduceSub, Int.reduceLT, Int.reduceLE, Int.reduceToNat, Nat.reduceLT, Nat.reducePow, Nat.reduceAdd, Nat.reduceMul, Nat.reduceLeDiff, Nat.reduceEqDiff, Nat.reduceBEq, reduceIte, ↓reduceIte, reduceCtorEq, syT, tyT, Rg.regF, Rg.findR, pickOps, fT28, Tryz.f28]
        rintro s ⟨hn', hH', h1, h2, hln, hl0, h5, h6⟩
        refine Ev.seqN (Q := fun s => Inv28 x pa aa path ⟨path, x.k, x.l.length, x.s⟩ H x.l.length s) ?_ ?_
        · refine Ev.seqN (Q := fun s => s.1.n = 72 ∧ s.2 = H1 ∧ s.1.tm.get 1 = some pa ∧ s.1.tm.get 2 = some (.lptr 0 0) ∧ s.1.lv.next = 1 ∧ s.1.lv.get 0 = some [.int .i64 x.k, .int .i64 x.n, .str x.s, aa] ∧ s.1.tm.get 5 = some .nilslice ∧ s.1.tm.get 6 = some r1 ∧ s.1.tm.get 12 = some (.int .i64 x.k)) ?_ ?_
          · simp only [Ev, o28_3, hn', hH', h1, h2, h5, h6, hln, hl0, hoa, hop, hor1, evalCode, runOps, runD, runDraw, askOf, askRecs, askAll, isEff, muteOp, stepA, wantedA, isCall, target, evalOp, opMove, opPick, opAlloc, opBox, opBuild, opBuildSlice, opLoad, opStore, opNilCheck, opBinOp, opUnOp, opConvert, opMakeFunc, opMakeMap, opSlice, opFieldAddr, opField, opIndexAddr, opLookup, opExtract, opAppendB, opLenB, wrOf, newA, eqlA, keepA, newV, evT, toA, putA, loadA, storeA, takeCells, setCells, isAgg, binA, unA, convA, arith, addOff, dstLen, nilNil, isConst, sameTy, strOp, params, results, packA, AExit.leaves, maxTmp, memN, askIn, fillA, repl, groups, Option.getD, Option.map, List.length, List.all, Int.reduceBEq, Int.reduceBNe, Int.reduceEq, Int.reduceGT, Int.reduceGE, Int.reduceNeg, Int.reduceAdd, Int.reduceSub, Int.reduceLT, Int.reduceLE, Int.reduceToNat, Nat.reduceLT, Nat.reducePow, Nat.reduceAdd, Nat.reduceMul, Nat.reduceLeDiff, Nat.reduceEqDiff, Nat.reduceBEq, reduceIte, ↓reduceIte, reduceCtorEq, syT, tyT, Rg.regF, Rg.findR, pickOps, fT28, Tryz.f28]
          rintro s ⟨hn', hH', h1, h2, hln, hl0, h5, h6, h12⟩
          refine Ev.block ?_
          refine Ev.seqN (Q := fun s => s.1.n = 72 ∧ s.2 = H1 ∧ s.1.tm.get 1 = some pa ∧ s.1.tm.get 2 = some (.lptr 0 0) ∧ s.1.lv.next = 1 ∧ s.1.lv.get 0 = some [.int .i64 x.k, .int .i64 x.n, .str x.s, aa] ∧ s.1.tm.get 5 = some .nilslice ∧ s.1.tm.get 6 = some r1 ∧ s.1.tm.get 12 = some (.int .i64 x.k) ∧ s.1.tm.get 13 = some (.bool false)) ?_ ?_
          · simp only [Ev, o28_4, o28_5, hn', hH', h1, h2, h5, h6, h12, hln, hl0, c3, c4, evalCode, runOps, runD, runDraw, askOf, askRecs, askAll, isEff, muteOp, stepA, wantedA, isCall, target, evalOp, opMove, opPick, opAlloc, opBox, opBuild, opBuildSlice, opLoad, opStore, opNilCheck, opBinOp, opUnOp, opConvert, opMakeFunc, opMakeMap, opSlice, opFieldAddr, opField, opIndexAddr, opLookup, opExtract, opAppendB, opLenB, wrOf, newA, eqlA, keepA, newV, evT, toA, putA, loadA, storeA, takeCells, setCells, isAgg, binA, unA, convA, arith, addOff, dstLen, nilNil, isConst, sameTy, strOp, params, results, packA, AExit.leaves, maxTmp, memN, askIn, fillA, repl, groups, Option.getD, Option.map, List.length, List.all, Int.reduceBEq, Int.reduceBNe, Int.reduceEq, Int.reduceGT, Int.reduceGE, Int.reduceNeg, Int.reduceAdd, Int.reduceSub, Int.reduceLT, Int.reduceLE, Int.reduceToNat, Nat.reduceLT, Nat.reducePow, Nat.reduceAdd, Nat.reduceMul, Nat.reduceLeDiff, Nat.reduceEqDiff, Nat.reduceBEq, reduceIte, ↓reduceIte, reduceCtorEq, syT, tyT, Rg.regF, Rg.findR, pickOps, fT28, Tryz.f28]
          rintro s ⟨hn', hH', h1, h2, hln, hl0, h5, h6, h12, h13⟩
          refine Ev.condF (by simp only [evT, h13, Option.getD]) ?_
          refine Ev.seqN (Q := fun s => s.1.n = 72 ∧ s.2 = H1 ∧ s.1.tm.get 1 = some pa ∧ s.1.tm.get 2 = some (.lptr 0 0) ∧ s.1.lv.next = 1 ∧ s.1.lv.get 0 = some [.int .i64 x.k, .int .i64 x.n, .str x.s, aa] ∧ s.1.tm.get 5 = some .nilslice ∧ s.1.tm.get 6 = some r1 ∧ s.1.tm.get 12 = some (.int .i64 x.k) ∧ s.1.tm.get 26 = some (.bool false)) ?_ ?_
          · simp only [Ev, o28_7, hn', hH', h1, h2, h5, h6, h12, hln, hl0, c5, evalCode, runOps, runD, runDraw, askOf, askRecs, askAll, isEff, muteOp, stepA, wantedA, isCall, target, evalOp, opMove, opPick, opAlloc, opBox, opBuild, opBuildSlice, opLoad, opStore, opNilCheck, opBinOp, opUnOp, opConvert, opMakeFunc, opMakeMap, opSlice, opFieldAddr, opField, opIndexAddr, opLookup, opExtract, opAppendB, opLenB, wrOf, newA, eqlA, keepA, newV, evT, toA, putA, loadA, storeA, takeCells, setCells, isAgg, binA, unA, convA, arith, addOff, dstLen, nilNil, isConst, sameTy, strOp, params, results, packA, AExit.leaves, maxTmp, memN, askIn, fillA, repl, groups, Option.getD, Option.map, List.length, List.all, Int.reduceBEq, Int.reduceBNe, Int.reduceEq, Int.reduceGT, Int.reduceGE, Int.reduceNeg, Int.reduceAdd, Int.reduceSub, Int.reduceLT, Int.reduceLE, Int.reduceToNat, Nat.reduceLT, Nat.reducePow, Nat.reduceAdd, Nat.reduceMul, Nat.reduceLeDiff, Nat.reduceEqDiff, Nat.reduceBEq, reduceIte, ↓reduceIte, reduceCtorEq, syT, tyT, Rg.regF, Rg.findR, pickOps, fT28, Tryz.f28]
          rintro s ⟨hn', hH', h1, h2, hln, hl0, h5, h6, h12, h26⟩
          refine Ev.condF (by simp only [evT, h26, Option.getD]) ?_
          refine Ev.seqN (Q := fun s => s.1.n = 72 ∧ s.2 = H1 ∧ s.1.tm.get 1 = some pa ∧ s.1.tm.get 2 = some (.lptr 0 0) ∧ s.1.lv.next = 1 ∧ s.1.lv.get 0 = some [.int .i64 x.k, .int .i64 x.n, .str x.s, aa] ∧ s.1.tm.get 5 = some .nilslice ∧ s.1.tm.get 6 = some r1 ∧ s.1.tm.get 38 = some (.bool true)) ?_ ?_
          · simp only [Ev, o28_9, hn', hH', h1, h2, h5, h6, h12, hln, hl0, c6, evalCode, runOps, runD, runDraw, askOf, askRecs, askAll, isEff, muteOp, stepA, wantedA, isCall, target, evalOp, opMove, opPick, opAlloc, opBox, opBuild, opBuildSlice, opLoad, opStore, opNilCheck, opBinOp, opUnOp, opConvert, opMakeFunc, opMakeMap, opSlice, opFieldAddr, opField, opIndexAddr, opLookup, opExtract, opAppendB, opLenB, wrOf, newA, eqlA, keepA, newV, evT, toA, putA, loadA, storeA, takeCells, setCells, isAgg, binA, unA, convA, arith, addOff, dstLen, nilNil, isConst, sameTy, strOp, params, results, packA, AExit.leaves, maxTmp, memN, askIn, fillA, repl, groups, Option.getD, Option.map, List.length, List.all, Int.reduceBEq, Int.reduceBNe, Int.reduceEq, Int.reduceGT, Int.reduceGE, Int.reduceNeg, Int.reduceAdd, Int.reduceSub, Int.reduceLT, Int.reduceLE, Int.reduceToNat, Nat.reduceLT, Nat.reducePow, Nat.reduceAdd, Nat.reduceMul, Nat.reduceLeDiff, Nat.reduceEqDiff, Nat.reduceBEq, reduceIte, ↓reduceIte, reduceCtorEq, syT, tyT, Rg.regF, Rg.findR, pickOps, fT28, Tryz.f28]
          rintro s ⟨hn', hH', h1, h2, hln, hl0, h5, h6, h38⟩
          refine Ev.condT (by simp only [evT, h38, Option.getD]) ?_
          refine Ev.seqN (Q := fun s => s.1.n = 72 ∧ s.2 = H2 ∧ s.1.tm.get 1 = some pa ∧ s.1.tm.get 2 = some (.lptr 0 0) ∧ s.1.lv.next = 1 ∧ s.1.lv.get 0 = some [.int .i64 x.k, .int .i64 x.n, .str x.s, aa] ∧ s.1.tm.get 5 = some r) ?_ ?_
          · simp only [Ev, o28_10, hn', hH', h1, h2, h5, h6, hln, hl0, ↓hla, eap, hst, hoa, hor1, hoq, hor, evalCode, runOps, runD, runDraw, askOf, askRecs, askAll, isEff, muteOp, stepA, wantedA, isCall, target, evalOp, opMove, opPick, opAlloc, opBox, opBuild, opBuildSlice, opLoad, opStore, opNilCheck, opBinOp, opUnOp, opConvert, opMakeFunc, opMakeMap, opSlice, opFieldAddr, opField, opIndexAddr, opLookup, opExtract, opAppendB, opLenB, wrOf, newA, eqlA, keepA, newV, evT, toA, putA, loadA, storeA, takeCells, setCells, isAgg, binA, unA, convA, arith, addOff, dstLen, nilNil, isConst, sameTy, strOp, params, results, packA, AExit.leaves, maxTmp, memN, askIn, fillA, repl, groups, Option.getD, Option.map, List.length, List.all, Int.reduceBEq, Int.reduceBNe, Int.reduceEq, Int.reduceGT, Int.reduceGE, Int.reduceNeg, Int.reduceAdd, Int.reduceSub, Int.reduceLT, Int.reduceLE, Int.reduceToNat, Nat.reduceLT, Nat.reducePow, Nat.reduceAdd, Nat.reduceMul, Nat.reduceLeDiff, Nat.reduceEqDiff, Nat.reduceBEq, reduceIte, ↓reduceIte, reduceCtorEq, syT, tyT, Rg.regF, Rg.findR, pickOps, fT28, Tryz.f28]
          rintro s ⟨hn', hH', h1, h2, hln, hl0, h5⟩
          refine Ev.seqN (Q := fun s => Inv28 x pa aa path ⟨path, x.k, x.l.length, x.s⟩ H 0 s) ?_ ?_
          · simp only [Ev, Inv28, o28_11, hn', hH', h1, h2, h5, hln, hl0, ↓hla, hoa, evalCode, runOps, runD, runDraw, askOf, askRecs, askAll, isEff, muteOp, stepA, wantedA, isCall, target, evalOp, opMove, opPick, opAlloc, opBox, opBuild, opBuildSlice, opLoad, opStore, opNilCheck, opBinOp, opUnOp, opConvert, opMakeFunc, opMakeMap, opSlice, opFieldAddr, opField, opIndexAddr, opLookup, opExtract, opAppendB, opLenB, wrOf, newA, eqlA, keepA, newV, evT, toA, putA, loadA, storeA, takeCells, setCells, isAgg, binA, unA, convA, arith, addOff, dstLen, nilNil, isConst, sameTy, strOp, params, results, packA, AExit.leaves, maxTmp, memN, askIn, fillA, repl, groups, Option.getD, Option.map, List.length, List.all, Int.reduceBEq, Int.reduceBNe, Int.reduceEq, Int.reduceGT, Int.reduceGE, Int.reduceNeg, Int.reduceAdd, Int.reduceSub, Int.reduceLT, Int.reduceLE, Int.reduceToNat, Nat.reduceLT, Nat.reducePow, Nat.reduceAdd, Nat.reduceMul, Nat.reduceLeDiff, Nat.reduceEqDiff, Nat.reduceBEq, reduceIte, ↓reduceIte, reduceCtorEq, syT, tyT, Rg.regF, Rg.findR, pickOps, fT28, Tryz.f28]
            refine ⟨by omega, by simp [Nd.sizes]; omega, fun j hj => by rw [hf2 j hj, hf1 j hj], by simpa [testsL] using hr, hgr⟩
          intro s hs'
          refine Ev.block (Ev.loop (Inv := fun i s => Inv28 x pa aa path ⟨path, x.k, x.l.length, x.s⟩ H i s) x.l.length (by omega) hs' fun i st hi hle => ?_)
          by_cases hlt : i < x.l.length
          · obtain ⟨y, hy⟩ : ∃ y, x.l[i]? = some y := ⟨_, List.getElem?_eq_getElem hlt⟩
            have hys := size_mem hy
            exact (tests28_step h47 hy haa hpa (tests28 h28 h47 N y (by omega)) (by omega) hi hH hpl hxs).mono fun ex s hs => .inl ⟨hs.1, hlt, hs.2⟩
          · have : i = x.l.length := by omega
            subst this
            exact (tests28_end hi).mono fun ex s hs => .inr ⟨by rw [hs.1]; simp, by rw [hs.1]; rfl, hs.2⟩
        rintro s ⟨hn', h1, h54, h55, h56, hln, hHn, hHs, hfr, o, h5, ho, hgo⟩
        have hoo := hgo.one
        rw [List.take_length] at ho hHs
        simp only [Ev, o28_16, hn', h5, hoo, evalCode, runOps, runD, runDraw, askOf, askRecs, askAll, isEff, muteOp, stepA, wantedA, isCall, target, evalOp, opMove, opPick, opAlloc, opBox, opBuild, opBuildSlice, opLoad, opStore, opNilCheck, opBinOp, opUnOp, opConvert, opMakeFunc, opMakeMap, opSlice, opFieldAddr, opField, opIndexAddr, opLookup, opExtract, opAppendB, opLenB, wrOf, newA, eqlA, keepA, newV, evT, toA, putA, loadA, storeA, takeCells, setCells, isAgg, binA, unA, convA, arith, addOff, dstLen, nilNil, isConst, sameTy, strOp, params, results, packA, AExit.leaves, maxTmp, memN, askIn, fillA, repl, groups, Option.getD, Option.map, List.length, List.all, Int.reduceBEq, Int.reduceBNe, Int.reduceEq, Int.reduceGT, Int.reduceGE, Int.reduceNeg, Int.reduceAdd, Int.reduceSub, Int.reduceLT, Int.reduceLE, Int.reduceToNat, Nat.reduceLT, Nat.reducePow, Nat.reduceAdd, Nat.reduceMul, Nat.reduceLeDiff, Nat.reduceEqDiff, Nat.reduceBEq, reduceIte, ↓reduceIte, reduceCtorEq, syT, tyT, Rg.regF, Rg.findR, pickOps, fT28, Tryz.f28]
        exact ⟨ho, hHn, by omega, hfr⟩
      obtain ⟨⟨v', H'⟩, h1, h2⟩ := key
      exact ⟨v', H', h1, h2⟩
    · have key : evalCall (env sp) (k' + 1 + 1) false 28 [.agg [.int .i64 x.k, .int .i64 x.n, .str x.s, aa], pa] H = some (.nilslice, H1) := by
        rw [evalCall]
        simp only [h28, Tryz.func28, Tryz.f28, e47, hst, hoa, hop, hor1, hoq, c3, c4, c5, c6, evalCode, runOps, runD, runDraw, askOf, askRecs, askAll, isEff, muteOp, stepA, wantedA, isCall, target, evalOp, opMove, opPick, opAlloc, opBox, opBuild, opBuildSlice, opLoad, opStore, opNilCheck, opBinOp, opUnOp, opConvert, opMakeFunc, opMakeMap, opSlice, opFieldAddr, opField, opIndexAddr, opLookup, opExtract, opAppendB, opLenB, wrOf, newA, eqlA, keepA, newV, evT, toA, putA, loadA, storeA, takeCells, setCells, isAgg, binA, unA, convA, arith, addOff, dstLen, nilNil, isConst, sameTy, strOp, params, results, packA, AExit.leaves, maxTmp, memN, askIn, fillA, repl, groups, Option.getD, Option.map, List.length, List.all, Int.reduceBEq, Int.reduceBNe, Int.reduceEq, Int.reduceGT, Int.reduceGE, Int.reduceNeg, Int.reduceAdd, Int.reduceSub, Int.reduceLT, Int.reduceLE, Int.reduceToNat, Nat.reduceLT, Nat.reducePow, Nat.reduceAdd, Nat.reduceMul, Nat.reduceLeDiff, Nat.reduceEqDiff, Nat.reduceBEq, reduceIte, ↓reduceIte, reduceCtorEq, syT, tyT, Rg.regF, Rg.findR, pickOps, fT28, Tryz.f28]
      rw [if_neg (by simp [c6])]
      exact ⟨_, H1, key, .inl ⟨rfl, rfl⟩, hn1, by omega, hf1⟩
end
end Go.Rs.Seat
end
/- slices.Concat of two slices of tests. -/
section
namespace Go.Rs.Seat
open Go.Proofs Rg
set_option maxRecDepth 100000
set_option maxHeartbeats 8000000

/-! ## What freezing leaves as it is -/
mutual
def Fz : AVal → Bool
  | .sl .. => false
  | .agg cs => Fzs cs
  | .list xs _ _ => Fzs xs
  | .undef | .bool _ | .int _ _ | .str _ | .nilptr | .ptr _ _ | .lptr _ _ | .eptr _ _ _ | .nilslice | .nilmap | .map _ | .func _ _ _ | .nilfunc | .iface _ _ | .niliface | .tuple _ | .iter _ => true
def Fzs : List AVal → Bool
  | [] => true
  | v :: vs => Fz v && Fzs vs
end

theorem freezeN_fz : ∀ (n : Nat) (vs : List AVal) (H : Hp), Fzs vs = true → freezeN n H vs = (vs, H)
  | 0, vs, H, _ => rfl
  | n + 1, [], H, _ => rfl
  | n + 1, v :: vs, H, h => by
    simp only [Fzs, Bool.and_eq_true] at h
    have h1 : freeze1 (freezeN n) H v = (v, H) := by
      cases v with
      | sl => simp [Fz] at h
      | agg cs => simp only [freeze1]; rw [freezeN_fz n cs H (by simpa [Fz] using h.1)]
      | list xs t s => simp only [freeze1]; rw [freezeN_fz n xs H (by simpa [Fz] using h.1)]
      | _ => rfl
    simp only [freezeN, h1]
    rw [freezeN_fz n vs H h.2]

theorem Fzs_append : ∀ (a b : List AVal), Fzs (a ++ b) = (Fzs a && Fzs b)
  | [], b => by simp [Fzs]
  | x :: a, b => by simp only [List.cons_append, Fzs, Fzs_append a b, Bool.and_assoc]

/-- tests lie flat in five cells each -/
def Cell5 (vs : List AVal) : Prop := ∀ v ∈ vs, ∃ cs, v = .agg cs ∧ cs.length = 5 ∧ Fzs cs = true

theorem flat_len5 : ∀ {vs : List AVal}, Cell5 vs → (flat vs).length = vs.length * 5
  | [], _ => rfl
  | v :: vs, h => by
    obtain ⟨cs, rfl, h5, -⟩ := h v (by simp)
    have := flat_len5 (vs := vs) fun w hw => h w (by simp [hw])
    simp only [flat, AVal.cells, List.length_append, List.length_cons, h5, this]
    omega
theorem groups_flat5 : ∀ {vs : List AVal}, Cell5 vs → groups 5 (5 != 1) vs.length (flat vs) = vs
  | [], _ => rfl
  | v :: vs, h => by
    obtain ⟨cs, rfl, h5, -⟩ := h v (by simp)
    have := groups_flat5 (vs := vs) fun w hw => h w (by simp [hw])
    simp only [flat, AVal.cells, List.length_cons, groups]
    rw [List.take_left' h5, List.drop_left' h5, this]
    simp
theorem Fzs_flat5 : ∀ {vs : List AVal}, Cell5 vs → Fzs (flat vs) = true
  | [], _ => rfl
  | v :: vs, h => by
    obtain ⟨cs, rfl, h5, hf⟩ := h v (by simp)
    have := Fzs_flat5 (vs := vs) fun w hw => h w (by simp [hw])
    simp only [flat, AVal.cells, Fzs_append, hf, this, Bool.and_self]
theorem Fzs_ints : ∀ (l : List Int), Fzs (ints l) = true
  | [] => rfl
  | x :: l => by simpa [ints, Fzs, Fz] using Fzs_ints l
theorem IsI.fz {a l} (h : IsI a l) : Fz a = true := by
  rcases h with ⟨rfl, -⟩ | ⟨t, rfl⟩
  · rfl
  · simp [Fz, Fzs_ints]
theorem cell5_of {vs : List AVal} {ts : List Tst} (h : AllP IsT vs ts) : Cell5 vs := by
  intro v hv
  obtain ⟨i, hi⟩ := List.mem_iff_getElem?.1 hv
  have hlt : i < ts.length := by rw [← h.1]; exact (List.getElem?_eq_some_iff.1 hi).1
  obtain ⟨a, rfl, ha⟩ := h.2 i v _ hi (List.getElem?_eq_getElem hlt)
  have := ha.fz
  exact ⟨_, rfl, rfl, by simp [Fzs, Fz, this]⟩
theorem flat_append : ∀ (a b : List AVal), flat (a ++ b) = flat a ++ flat b
  | [], b => rfl
  | x :: a, b => by simp only [List.cons_append, flat, flat_append a b, List.append_assoc]
theorem groups_len (sz : Nat) (agg : Bool) : ∀ (n : Nat) (cs : List AVal), (groups sz agg n cs).length = n
  | 0, _ => rfl
  | n + 1, cs => by simp [groups, groups_len sz agg n]

section
variable {sp : Bool → FuncId → Option (List AVal → Hp → Option (AVal × Hp))}

/-- a slice under way: what it holds; is it the whole object? -/
def SlS (us : List AVal) (ex : Prop) (o : AVal) (H : Hp) : Prop := ∃ id cs, o = .sl id 0 us.length 5 ∧ H.get id = .cells cs ∧ id < H.next ∧ us.length * 5 ≤ cs.length ∧ cs.take (us.length * 5) = flat us ∧ (ex → cs = flat us)

theorem SlS.one {us ex o H} (h : SlS us ex o H) : o.oneCell = true := by
  obtain ⟨id, cs, rfl, -⟩ := h; rfl

theorem app_sl {us ws : List AVal} {ex : Prop} {o y : AVal} {H : Hp} {ts : List Tst} (h : SlS us ex o H) (hy : (y = .nilslice ∧ ws = []) ∨ ∃ t, y = .list ws t 5) (hw : Cell5 ws) (hu : Cell5 us) (hn : H.next < 4096) (hl : us.length + ws.length < 100000) :
    ∃ r H', appendA (env sp) false 43 43 H o y = some (r, H') ∧ SlS (us ++ ws) (ex ∨ ws ≠ []) r H' ∧ H.next ≤ H'.next ∧ H'.next ≤ H.next + 1 := by
  obtain ⟨id, cs, rfl, hid, hidn, hle, htk, hex⟩ := h
  have hap : appended (env sp) 38 43 H y = some ws := by
    unfold appended
    rw [ty43]
    rcases hy with ⟨rfl, rfl⟩ | ⟨t, rfl⟩
    · rfl
    · simp only [elemsOf, ty38, if_true]
  have hmr : maxRow = 4294967296 := rfl
  cases ws with
  | nil =>
    refine ⟨.sl id 0 us.length 5, H, ?_, ⟨id, cs, by simp, hid, hidn, by simpa using hle, by simpa using htk, fun h => ?_⟩, Nat.le_refl _, by omega⟩
    · unfold appendA
      simp only [ty43, hap, ty38, Bool.and_self, Nat.reduceLT, decide_true, if_true]
    · rcases h with h | h
      · simpa using hex h
      · exact absurd rfl h
  | cons w ws' =>
    have hcs : cs.take (us.length * 5) ++ flat (w :: ws') = flat (us ++ w :: ws') := by rw [htk, flat_append]
    refine ⟨.sl H.next 0 (us ++ w :: ws').length 5, ((H.set id .dead).alloc (.cells (cs.take (us.length * 5) ++ flat (w :: ws')))).2, ?_, ⟨H.next, _, rfl, ?_, by simp [alN, stN], ?_, ?_, fun _ => hcs⟩, by simp [alN, stN], by simp [alN, stN]⟩
    · unfold appendA
      simp only [ty43, hap, ty38, Bool.and_self, Nat.reduceLT, decide_true, if_true, hid]
      rw [if_pos ⟨trivial, trivial, hle, by rw [hmr]; omega⟩]
      rw [List.length_append]
      exact if_pos (show H.next < maxTmp from hn)
    · rw [hnew (by rw [stN]; exact hn), stN, if_pos rfl]
    · rw [hcs, flat_len5 (by intro v hv; rcases List.mem_append.1 hv with h | h; exact hu v h; exact hw v h)]; exact Nat.le_refl _
    · rw [hcs]
      have := flat_len5 (vs := us ++ w :: ws') (by intro v hv; rcases List.mem_append.1 hv with h | h; exact hu v h; exact hw v h)
      rw [← this, List.take_length]

theorem grow74_zero {k : Nat} {H : Hp} (h74 : sp false 74 = none) : evalCall (env sp) (k + 1) false 74 [.nilslice, .int .i64 0] H = some (.nilslice, H) := by
  have hw : IntKind.i64.wrap 0 = 0 := by rw [IntKind.wrap_i64]; rfl
  rw [evalCall]
  simp only [h74, Tryz.func74, Tryz.f74, opCapB, hw, evalCode, runOps, runD, runDraw, askOf, askRecs, askAll, isEff, muteOp, stepA, wantedA, isCall, target, evalOp, opMove, opPick, opAlloc, opBox, opBuild, opBuildSlice, opLoad, opStore, opNilCheck, opBinOp, opUnOp, opConvert, opMakeFunc, opMakeMap, opSlice, opFieldAddr, opField, opIndexAddr, opLookup, opExtract, opAppendB, opLenB, wrOf, appendA, appended, elemsOf, newA, eqlA, keepA, newV, evT, toA, putA, loadA, storeA, takeCells, setCells, isAgg, binA, unA, convA, arith, addOff, dstLen, nilNil, isConst, sameTy, strOp, params, results, packA, AExit.leaves, maxTmp, memN, askIn, fillA, repl, groups, Option.getD, Option.map, List.length, List.all, Int.reduceBEq, Int.reduceBNe, Int.reduceEq, Int.reduceGT, Int.reduceGE, Int.reduceNeg, Int.reduceAdd, Int.reduceSub, Int.reduceLT, Int.reduceLE, Int.reduceToNat, Nat.reduceLT, Nat.reducePow, Nat.reduceAdd, Nat.reduceMul, Nat.reduceLeDiff, Nat.reduceEqDiff, Nat.reduceBEq, reduceIte, ↓reduceIte, reduceCtorEq, syT, tyT, Rg.regF, Rg.findR, pickOps, fT74, Tryz.f74]

theorem app_zero {E : Env} {T e sz xT n : Nat} {H : Hp} {x : AVal} {g : List AVal} (hT : (E.ty T).u = .slice e) (he : ((E.ty e).ok && (E.ty e).zok && decide ((E.ty e).bytes < 4096)) = true) (hsz : (E.ty e).size = sz)
    (hap : appended E e xT H x = some g) (hgl : g.length = n) (h0 : 0 < n) (hn : n < maxRow) (hH : H.next < maxTmp) : appendA E true T xT H .nilslice x = some (.sl H.next 0 n sz, (H.alloc (.cells (flat g))).2) := by
  obtain ⟨y, ys, rfl⟩ : ∃ y ys, g = y :: ys := List.exists_cons_of_ne_nil (by intro h; rw [h] at hgl; simp at hgl; omega)
  unfold appendA
  simp only [hT, hap, he, if_true, hsz]
  rw [if_pos (by rw [hgl]; exact hn), hgl]
  exact if_pos (show H.next < maxTmp from hH)
theorem gr_len {E : Env} {e sz xT : Nat} {H : Hp} {n : Nat} {z : List AVal} (hx : (E.ty xT).u = .int .i64) (hsz : (E.ty e).size = sz) (hz : (E.ty e).zero = z) (hn : n < maxRow) : ∃ b, appended E e xT H (.int .i64 n) = some (groups sz b n (repl n z)) := by
  refine ⟨isAgg (E.ty e).u, ?_⟩
  unfold appended
  simp only [hx, hsz, hz, Int.toNat_natCast]
  exact if_pos ⟨Int.natCast_nonneg _, Int.ofNat_lt.2 hn⟩

theorem grow_app {n : Nat} {H : Hp} (h0 : 0 < n) (hn : n < maxRow) (hH : H.next < maxTmp) :
    ∃ X, appendA (env sp) true 43 3 H .nilslice (.int .i64 n) = some (.sl H.next 0 n 5, (H.alloc (.cells X)).2) := by
  obtain ⟨b, hb⟩ := gr_len (E := env sp) (e := 38) (sz := 5) (xT := 3) (H := H) (n := n) (by rw [ty3]) (by rw [ty38]) rfl hn
  exact ⟨_, app_zero (by rw [ty43]) (by rw [ty38]; decide) (by rw [ty38]) hb (groups_len _ _ _ _) h0 hn hH⟩

theorem grow74_p3 {call : CallF} {n : Nat} {st : St} {H : Hp} (hn' : st.1.n = 27) (hH : st.2 = H) (h0 : st.1.tm.get 0 = some .nilslice) (h1 : st.1.tm.get 1 = some (.int .i64 n)) (hw : IntKind.i64.wrap (n : Int) = n) (hw0 : IntKind.i64.wrap 0 = 0) :
    Ev (env sp) call false 74 r74_3 st fun ex s => ex = .normal ∧ s.1.n = 27 ∧ s.2 = H ∧ s.1.tm.get 0 = some .nilslice ∧ s.1.tm.get 1 = some (.int .i64 n) := by
  simp only [Ev, o74_3, hn', hH, h0, h1, opCapB, hw, hw0, Int.sub_zero, evalCode, runOps, runD, runDraw, askOf, askRecs, askAll, isEff, muteOp, stepA, wantedA, isCall, target, evalOp, opMove, opPick, opAlloc, opBox, opBuild, opBuildSlice, opLoad, opStore, opNilCheck, opBinOp, opUnOp, opConvert, opMakeFunc, opMakeMap, opSlice, opFieldAddr, opField, opIndexAddr, opLookup, opExtract, opAppendB, opLenB, wrOf, newA, eqlA, keepA, newV, evT, toA, putA, loadA, storeA, takeCells, setCells, isAgg, binA, unA, convA, arith, addOff, dstLen, nilNil, isConst, sameTy, strOp, params, results, packA, AExit.leaves, maxTmp, memN, askIn, fillA, repl, groups, Option.getD, Option.map, List.length, List.all, Int.reduceBEq, Int.reduceBNe, Int.reduceEq, Int.reduceGT, Int.reduceGE, Int.reduceNeg, Int.reduceAdd, Int.reduceSub, Int.reduceLT, Int.reduceLE, Int.reduceToNat, Nat.reduceLT, Nat.reducePow, Nat.reduceAdd, Nat.reduceMul, Nat.reduceLeDiff, Nat.reduceEqDiff, Nat.reduceBEq, reduceIte, ↓reduceIte, reduceCtorEq, syT, tyT, Rg.regF, Rg.findR, pickOps, fT74, Tryz.f74]
theorem grow74_p1 {call : CallF} {n : Nat} {st : St} {H : Hp} (hn' : st.1.n = 27) (hH : st.2 = H) (h0 : st.1.tm.get 0 = some .nilslice) (h1 : st.1.tm.get 1 = some (.int .i64 n)) (c1 : ((n : Int) < 0) = False) :
    Ev (env sp) call false 74 r74_1 st fun ex s => ex = .normal ∧ s.1.n = 27 ∧ s.2 = H ∧ s.1.tm.get 0 = some .nilslice ∧ s.1.tm.get 1 = some (.int .i64 n) ∧ s.1.tm.get 6 = some (.bool false) := by
  simp only [Ev, o74_1, hn', hH, h0, h1, c1, evalCode, runOps, runD, runDraw, askOf, askRecs, askAll, isEff, muteOp, stepA, wantedA, isCall, target, evalOp, opMove, opPick, opAlloc, opBox, opBuild, opBuildSlice, opLoad, opStore, opNilCheck, opBinOp, opUnOp, opConvert, opMakeFunc, opMakeMap, opSlice, opFieldAddr, opField, opIndexAddr, opLookup, opExtract, opAppendB, opLenB, wrOf, newA, eqlA, keepA, newV, evT, toA, putA, loadA, storeA, takeCells, setCells, isAgg, binA, unA, convA, arith, addOff, dstLen, nilNil, isConst, sameTy, strOp, params, results, packA, AExit.leaves, maxTmp, memN, askIn, fillA, repl, groups, Option.getD, Option.map, List.length, List.all, Int.reduceBEq, Int.reduceBNe, Int.reduceEq, Int.reduceGT, Int.reduceGE, Int.reduceNeg, Int.reduceAdd, Int.reduceSub, Int.reduceLT, Int.reduceLE, Int.reduceToNat, Nat.reduceLT, Nat.reducePow, Nat.reduceAdd, Nat.reduceMul, Nat.reduceLeDiff, Nat.reduceEqDiff, Nat.reduceBEq, reduceIte, ↓reduceIte, reduceCtorEq, syT, tyT, Rg.regF, Rg.findR, pickOps, fT74, Tryz.f74]
theorem grow74_p4 {call : CallF} {n : Nat} {st : St} {H : Hp} (hn' : st.1.n = 27) (hH : st.2 = H) (h0 : st.1.tm.get 0 = some .nilslice) (h1 : st.1.tm.get 1 = some (.int .i64 n)) (c2 : ((n : Int) > 0) = True) :
    Ev (env sp) call false 74 r74_4 st fun ex s => ex = .normal ∧ s.1.n = 27 ∧ s.2 = H ∧ s.1.tm.get 0 = some .nilslice ∧ s.1.tm.get 1 = some (.int .i64 n) ∧ s.1.tm.get 16 = some (.bool true) := by
  simp only [Ev, o74_4, hn', hH, h0, h1, c2, evalCode, runOps, runD, runDraw, askOf, askRecs, askAll, isEff, muteOp, stepA, wantedA, isCall, target, evalOp, opMove, opPick, opAlloc, opBox, opBuild, opBuildSlice, opLoad, opStore, opNilCheck, opBinOp, opUnOp, opConvert, opMakeFunc, opMakeMap, opSlice, opFieldAddr, opField, opIndexAddr, opLookup, opExtract, opAppendB, opLenB, wrOf, newA, eqlA, keepA, newV, evT, toA, putA, loadA, storeA, takeCells, setCells, isAgg, binA, unA, convA, arith, addOff, dstLen, nilNil, isConst, sameTy, strOp, params, results, packA, AExit.leaves, maxTmp, memN, askIn, fillA, repl, groups, Option.getD, Option.map, List.length, List.all, Int.reduceBEq, Int.reduceBNe, Int.reduceEq, Int.reduceGT, Int.reduceGE, Int.reduceNeg, Int.reduceAdd, Int.reduceSub, Int.reduceLT, Int.reduceLE, Int.reduceToNat, Nat.reduceLT, Nat.reducePow, Nat.reduceAdd, Nat.reduceMul, Nat.reduceLeDiff, Nat.reduceEqDiff, Nat.reduceBEq, reduceIte, ↓reduceIte, reduceCtorEq, syT, tyT, Rg.regF, Rg.findR, pickOps, fT74, Tryz.f74]
theorem grow74_p5 {call : CallF} {n : Nat} {st : St} {H : Hp} {X} (hn' : st.1.n = 27) (hH : st.2 = H) (h0 : st.1.tm.get 0 = some .nilslice) (h1 : st.1.tm.get 1 = some (.int .i64 n)) (c0 : (0 ≤ (n : Int)) = True) (F) (hF : @appendA = F)
   (hap : F (env sp) true 43 3 H .nilslice (.int .i64 n) = some (.sl H.next 0 n 5, (H.alloc (.cells X)).2)) (hwr : (env sp).wr false 74 22 = true) :
    Ev (env sp) call false 74 r74_5 st fun ex s => ex = .normal ∧ s.1.n = 27 ∧ s.2 = (H.alloc (.cells X)).2 ∧ s.1.tm.get 0 = some (.sl H.next 0 0 5) := by
  simp only [Ev, o74_5, hn', hH, h0, h1, hF, hap, hwr, opCapB, c0, sliceA, lenOf, bound, Nat.zero_mul, Nat.add_zero, Nat.sub_zero, Nat.sub_self, Nat.zero_le, evalCode, runOps, runD, runDraw, askOf, askRecs, askAll, isEff, muteOp, stepA, wantedA, isCall, target, evalOp, opMove, opPick, opAlloc, opBox, opBuild, opBuildSlice, opLoad, opStore, opNilCheck, opBinOp, opUnOp, opConvert, opMakeFunc, opMakeMap, opSlice, opFieldAddr, opField, opIndexAddr, opLookup, opExtract, opAppendB, opLenB, wrOf, newA, eqlA, keepA, newV, evT, toA, putA, loadA, storeA, takeCells, setCells, isAgg, binA, unA, convA, arith, addOff, dstLen, nilNil, isConst, sameTy, strOp, params, results, packA, AExit.leaves, maxTmp, memN, askIn, fillA, repl, groups, Option.getD, Option.map, List.length, List.all, Int.reduceBEq, Int.reduceBNe, Int.reduceEq, Int.reduceGT, Int.reduceGE, Int.reduceNeg, Int.reduceAdd, Int.reduceSub, Int.reduceLT, Int.reduceLE, Int.reduceToNat, Nat.reduceLT, Nat.reducePow, Nat.reduceAdd, Nat.reduceMul, Nat.reduceLeDiff, Nat.reduceEqDiff, Nat.reduceBEq, reduceIte, ↓reduceIte, reduceCtorEq, syT, tyT, Rg.regF, Rg.findR, pickOps, fT74, Tryz.f74]

theorem grow74_pos {k n : Nat} {H : Hp} (h74 : sp false 74 = none) (h0 : 0 < n) (hn : n < maxRow) (hw : IntKind.i64.wrap (n : Int) = n) (hH : H.next < maxTmp) :
    ∃ X, evalCall (env sp) (k + 1) false 74 [.nilslice, .int .i64 n] H = some (.sl H.next 0 0 5, (H.alloc (.cells X)).2) := by
  have hw0 : IntKind.i64.wrap 0 = 0 := by rw [IntKind.wrap_i64]; rfl
  have c1 : ((n : Int) < 0) = False := by simp
  have c2 : ((n : Int) > 0) = True := by simp; omega
  have c0 : (0 ≤ (n : Int)) = True := by simp
  obtain ⟨X, hap⟩ := grow_app (sp := sp) h0 hn hH
  have hwr := wr_74 sp
  -- the kernel must not look into it: it would count to 2^32
  obtain ⟨F, hF⟩ : ∃ F, @appendA = F := ⟨_, rfl⟩
  rw [hF] at hap
  have key : ∃ r, evalCall (env sp) (k + 1) false 74 [.nilslice, .int .i64 n] H = some r ∧ (r.1 = .sl H.next 0 0 5 ∧ r.2 = (H.alloc (.cells X)).2) := by
    refine enter74 (Post := fun v H' => v = .sl H.next 0 0 5 ∧ H' = (H.alloc (.cells X)).2) h74 rfl ?_
    unfold c74
    refine Ev.seqN (Q := fun s => s.1.n = 27 ∧ s.2 = H ∧ s.1.tm.get 0 = some .nilslice ∧ s.1.tm.get 1 = some (.int .i64 n)) ?_ ?_
    · simp only [Ev, o74_0, evalCode, runOps, runD, runDraw, askOf, askRecs, askAll, isEff, muteOp, stepA, wantedA, isCall, target, evalOp, opMove, opPick, opAlloc, opBox, opBuild, opBuildSlice, opLoad, opStore, opNilCheck, opBinOp, opUnOp, opConvert, opMakeFunc, opMakeMap, opSlice, opFieldAddr, opField, opIndexAddr, opLookup, opExtract, opAppendB, opLenB, wrOf, newA, eqlA, keepA, newV, evT, toA, putA, loadA, storeA, takeCells, setCells, isAgg, binA, unA, convA, arith, addOff, dstLen, nilNil, isConst, sameTy, strOp, params, results, packA, AExit.leaves, maxTmp, memN, askIn, fillA, repl, groups, Option.getD, Option.map, List.length, List.all, Int.reduceBEq, Int.reduceBNe, Int.reduceEq, Int.reduceGT, Int.reduceGE, Int.reduceNeg, Int.reduceAdd, Int.reduceSub, Int.reduceLT, Int.reduceLE, Int.reduceToNat, Nat.reduceLT, Nat.reducePow, Nat.reduceAdd, Nat.reduceMul, Nat.reduceLeDiff, Nat.reduceEqDiff, Nat.reduceBEq, reduceIte, ↓reduceIte, reduceCtorEq, syT, tyT, Rg.regF, Rg.findR, pickOps, fT74, Tryz.f74]
    rintro s ⟨a1, a2, a3, a4⟩
    refine Ev.seqN (Q := fun s => s.1.n = 27 ∧ s.2 = H ∧ s.1.tm.get 0 = some .nilslice ∧ s.1.tm.get 1 = some (.int .i64 n)) ?_ ?_
    · refine Ev.seqN (grow74_p1 a1 a2 a3 a4 c1) ?_
      rintro s ⟨a1, a2, a3, a4, a5⟩
      exact Ev.condF (by simp only [evT, a5, Option.getD]) (Ev.skip ⟨rfl, a1, a2, a3, a4⟩)
    rintro s ⟨a1, a2, a3, a4⟩
    refine Ev.seqN (Q := fun s => s.1.n = 27 ∧ s.2 = (H.alloc (.cells X)).2 ∧ s.1.tm.get 0 = some (.sl H.next 0 0 5)) ?_ ?_
    · refine Ev.seqN (grow74_p3 a1 a2 a3 a4 hw hw0) ?_
      rintro s ⟨a1, a2, a3, a4⟩
      refine Ev.seqN (grow74_p4 a1 a2 a3 a4 c2) ?_
      rintro s ⟨a1, a2, a3, a4, a5⟩
      exact Ev.condT (by simp only [evT, a5, Option.getD]) (grow74_p5 a1 a2 a3 a4 c0 F hF hap hwr)
    rintro s ⟨a1, a2, a3⟩
    simp only [Ev, o74_6, a1, a2, a3, evalCode, runOps, runD, runDraw, askOf, askRecs, askAll, isEff, muteOp, stepA, wantedA, isCall, target, evalOp, opMove, opPick, opAlloc, opBox, opBuild, opBuildSlice, opLoad, opStore, opNilCheck, opBinOp, opUnOp, opConvert, opMakeFunc, opMakeMap, opSlice, opFieldAddr, opField, opIndexAddr, opLookup, opExtract, opAppendB, opLenB, wrOf, newA, eqlA, keepA, newV, evT, toA, putA, loadA, storeA, takeCells, setCells, isAgg, binA, unA, convA, arith, addOff, dstLen, nilNil, isConst, sameTy, strOp, params, results, packA, AExit.leaves, maxTmp, memN, askIn, fillA, repl, groups, Option.getD, Option.map, List.length, List.all, Int.reduceBEq, Int.reduceBNe, Int.reduceEq, Int.reduceGT, Int.reduceGE, Int.reduceNeg, Int.reduceAdd, Int.reduceSub, Int.reduceLT, Int.reduceLE, Int.reduceToNat, Nat.reduceLT, Nat.reducePow, Nat.reduceAdd, Nat.reduceMul, Nat.reduceLeDiff, Nat.reduceEqDiff, Nat.reduceBEq, reduceIte, ↓reduceIte, reduceCtorEq, syT, tyT, Rg.regF, Rg.findR, pickOps, fT74, Tryz.f74]
  obtain ⟨⟨v, H'⟩, h1, h2, h3⟩ := key
  simp only [] at h2 h3
  subst h2 h3
  exact ⟨X, h1⟩
end
end Go.Rs.Seat
end
/- slices.Concat of two slices of tests. -/
section
namespace Go.Rs.Seat
open Go.Proofs Rg
set_option maxRecDepth 100000
set_option maxHeartbeats 8000000

section
variable {sp : Bool → FuncId → Option (List AVal → Hp → Option (AVal × Hp))}

def AccS (Z : Prop) (us : List AVal) (o : AVal) (H : Hp) : Prop := (o = .nilslice ∧ Z ∧ us = []) ∨ (¬ Z ∧ SlS us (us ≠ []) o H)

theorem AccS.one {Z us o H} (h : AccS Z us o H) : o.oneCell = true := by
  rcases h with ⟨rfl, -⟩ | ⟨-, h⟩
  · rfl
  · exact h.one

theorem acc_app {Z : Prop} {us ws : List AVal} {o y : AVal} {H : Hp} (h : AccS Z us o H) (hy : (y = .nilslice ∧ ws = []) ∨ ∃ t, y = .list ws t 5) (hz : Z → ws = []) (hw : Cell5 ws) (hu : Cell5 us) (hn : H.next < 4096) (hl : us.length + ws.length < 100000) :
    ∃ r H', appendA (env sp) false 43 43 H o y = some (r, H') ∧ AccS Z (us ++ ws) r H' ∧ H.next ≤ H'.next ∧ H'.next ≤ H.next + 1 := by
  rcases h with ⟨rfl, hZ, rfl⟩ | ⟨hZ, h⟩
  · have := hz hZ
    subst this
    have hap : appended (env sp) 38 43 H y = some [] := by
      unfold appended
      rw [ty43]
      rcases hy with ⟨rfl, -⟩ | ⟨t, rfl⟩
      · rfl
      · simp only [elemsOf, ty38, if_true]
    refine ⟨.nilslice, H, ?_, .inl ⟨rfl, hZ, rfl⟩, Nat.le_refl _, by omega⟩
    unfold appendA
    simp only [ty43, hap, ty38, Bool.and_self, Nat.reduceLT, decide_true, if_true]
  · obtain ⟨r, H', h1, h2, h3, h4⟩ := app_sl (ts := []) h hy hw hu hn hl
    refine ⟨r, H', h1, .inr ⟨hZ, ?_⟩, h3, h4⟩
    obtain ⟨id, cs, a, b, c, d, e, f⟩ := h2
    refine ⟨id, cs, a, b, c, d, e, fun hne => f ?_⟩
    by_cases hus : us = []
    · right; intro hws; subst hus hws; exact hne rfl
    · exact .inl hus

def Inv50a (x : AVal) (na nb : Nat) (H : Hp) (i : Nat) (st : St) : Prop :=
  st.1.n = 36 ∧ st.2 = H ∧ st.1.tm.get 0 = some x ∧ st.1.tm.get 9 = some x ∧ st.1.tm.get 10 = some (.int .i64 2) ∧ st.1.tm.get 11 = some (.int .i64 i) ∧
    st.1.tm.get 3 = some (.int .i64 ((if i = 0 then 0 else if i = 1 then na else na + nb : Nat) : Int))

theorem con50a {call : CallF} {st : St} {H : Hp} {a b : AVal} {tok : Tok} {i : Nat} {ts us : List Tst} (ha : IsTs a ts) (hb : IsTs b us) (hl : ts.length + us.length < 100000) (h : Inv50a (.list [a, b] tok 1) ts.length us.length H i st) (hi : i ≤ 2) :
    Ev (env sp) call false 50 b50_0 st fun ex s => (ex = .normal ∧ i < 2 ∧ Inv50a (.list [a, b] tok 1) ts.length us.length H (i + 1) s) ∨ (ex ≠ .normal ∧ ex = .exit 0 ∧ Inv50a (.list [a, b] tok 1) ts.length us.length H 2 s) := by
  obtain ⟨hn', hH, h0, h9, h10, h11, h3⟩ := h
  have hoa := ha.one
  have hob := hb.one
  have hla := ha.len
  have hlb := hb.len
  have hw0 : IntKind.i64.wrap 1 = 1 := by rw [IntKind.wrap_i64]; rfl
  have hw1 : IntKind.i64.wrap 2 = 2 := by rw [IntKind.wrap_i64]; rfl
  have hwa : IntKind.i64.wrap (0 + (ts.length : Int)) = (ts.length : Int) := by rw [IntKind.wrap_i64]; omega
  have hwb : IntKind.i64.wrap ((ts.length : Int) + (us.length : Int)) = ((ts.length + us.length : Nat) : Int) := by rw [IntKind.wrap_i64]; omega
  have c1 : ((ts.length : Int) < 0) = False := by simp
  have c2 : (((ts.length + us.length : Nat) : Int) < 0) = False := by simp; omega
  have n10 : ¬ (1 : Nat) = 0 := by omega
  have n20 : ¬ (2 : Nat) = 0 := by omega
  have n21 : ¬ (2 : Nat) = 1 := by omega
  obtain rfl | rfl | rfl : i = 0 ∨ i = 1 ∨ i = 2 := by omega
  · refine Ev.mono (Q := fun ex s => ex = .normal ∧ Inv50a (.list [a, b] tok 1) ts.length us.length H 1 s) ?_ fun ex s h => .inl ⟨h.1, by omega, h.2⟩
    simp only [if_true] at h3
    simp only [Ev, Inv50a, b50_0, o50_3, o50_4, o50_5, o50_6, o50_8, hn', hH, h0, h9, h10, h11, h3, ↓hla, hoa, hob, hw0, hwa, c1, n10, evalCode, runOps, runD, runDraw, askOf, askRecs, askAll, isEff, muteOp, stepA, wantedA, isCall, target, evalOp, opMove, opPick, opAlloc, opBox, opBuild, opBuildSlice, opLoad, opStore, opNilCheck, opBinOp, opUnOp, opConvert, opMakeFunc, opMakeMap, opSlice, opFieldAddr, opField, opIndexAddr, opLookup, opExtract, opAppendB, opLenB, wrOf, newA, eqlA, keepA, newV, evT, toA, putA, loadA, storeA, takeCells, setCells, isAgg, binA, unA, convA, arith, addOff, dstLen, nilNil, isConst, sameTy, strOp, params, results, packA, AExit.leaves, maxTmp, memN, askIn, fillA, repl, groups, Option.getD, Option.map, List.length, List.all, Int.reduceBEq, Int.reduceBNe, Int.reduceEq, Int.reduceGT, Int.reduceGE, Int.reduceNeg, Int.reduceAdd, Int.reduceSub, Int.reduceLT, Int.reduceLE, Int.reduceToNat, Nat.reduceLT, Nat.reducePow, Nat.reduceAdd, Nat.reduceMul, Nat.reduceLeDiff, Nat.reduceEqDiff, Nat.reduceBEq, reduceIte, ↓reduceIte, reduceCtorEq, syT, tyT, Rg.regF, Rg.findR, pickOps, fT50, Tryz.f50]
  · refine Ev.mono (Q := fun ex s => ex = .normal ∧ Inv50a (.list [a, b] tok 1) ts.length us.length H 2 s) ?_ fun ex s h => .inl ⟨h.1, by omega, h.2⟩
    simp only [n10, if_true, if_false] at h3
    simp only [Ev, Inv50a, b50_0, o50_3, o50_4, o50_5, o50_6, o50_8, hn', hH, h0, h9, h10, h11, h3, ↓hlb, hoa, hob, hw1, hwb, c2, n10, n20, n21, evalCode, runOps, runD, runDraw, askOf, askRecs, askAll, isEff, muteOp, stepA, wantedA, isCall, target, evalOp, opMove, opPick, opAlloc, opBox, opBuild, opBuildSlice, opLoad, opStore, opNilCheck, opBinOp, opUnOp, opConvert, opMakeFunc, opMakeMap, opSlice, opFieldAddr, opField, opIndexAddr, opLookup, opExtract, opAppendB, opLenB, wrOf, newA, eqlA, keepA, newV, evT, toA, putA, loadA, storeA, takeCells, setCells, isAgg, binA, unA, convA, arith, addOff, dstLen, nilNil, isConst, sameTy, strOp, params, results, packA, AExit.leaves, maxTmp, memN, askIn, fillA, repl, groups, Option.getD, Option.map, List.length, List.all, Int.reduceBEq, Int.reduceBNe, Int.reduceEq, Int.reduceGT, Int.reduceGE, Int.reduceNeg, Int.reduceAdd, Int.reduceSub, Int.reduceLT, Int.reduceLE, Int.reduceToNat, Nat.reduceLT, Nat.reducePow, Nat.reduceAdd, Nat.reduceMul, Nat.reduceLeDiff, Nat.reduceEqDiff, Nat.reduceBEq, reduceIte, ↓reduceIte, reduceCtorEq, syT, tyT, Rg.regF, Rg.findR, pickOps, fT50, Tryz.f50]
  · refine Ev.mono (Q := fun ex s => ex = .exit 0 ∧ Inv50a (.list [a, b] tok 1) ts.length us.length H 2 s) ?_ fun ex s h => .inr ⟨by rw [h.1]; simp, h.1, h.2⟩
    simp only [Ev, Inv50a, b50_0, o50_3, hn', hH, h0, h9, h10, h11, h3, evalCode, runOps, runD, runDraw, askOf, askRecs, askAll, isEff, muteOp, stepA, wantedA, isCall, target, evalOp, opMove, opPick, opAlloc, opBox, opBuild, opBuildSlice, opLoad, opStore, opNilCheck, opBinOp, opUnOp, opConvert, opMakeFunc, opMakeMap, opSlice, opFieldAddr, opField, opIndexAddr, opLookup, opExtract, opAppendB, opLenB, wrOf, newA, eqlA, keepA, newV, evT, toA, putA, loadA, storeA, takeCells, setCells, isAgg, binA, unA, convA, arith, addOff, dstLen, nilNil, isConst, sameTy, strOp, params, results, packA, AExit.leaves, maxTmp, memN, askIn, fillA, repl, groups, Option.getD, Option.map, List.length, List.all, Int.reduceBEq, Int.reduceBNe, Int.reduceEq, Int.reduceGT, Int.reduceGE, Int.reduceNeg, Int.reduceAdd, Int.reduceSub, Int.reduceLT, Int.reduceLE, Int.reduceToNat, Nat.reduceLT, Nat.reducePow, Nat.reduceAdd, Nat.reduceMul, Nat.reduceLeDiff, Nat.reduceEqDiff, Nat.reduceBEq, reduceIte, ↓reduceIte, reduceCtorEq, syT, tyT, Rg.regF, Rg.findR, pickOps, fT50, Tryz.f50]

def Inv50b (Z : Prop) (x : AVal) (va vb : List AVal) (B : Nat) (i : Nat) (st : St) : Prop :=
  st.1.n = 36 ∧ st.1.tm.get 25 = some x ∧ st.1.tm.get 26 = some (.int .i64 2) ∧ st.1.tm.get 27 = some (.int .i64 i) ∧ st.2.next ≤ B + i ∧ B ≤ st.2.next ∧
    ∃ o, st.1.tm.get 6 = some o ∧ AccS Z (if i = 0 then [] else if i = 1 then va else va ++ vb) o st.2

theorem con50b {call : CallF} {st : St} {Z : Prop} {a b : AVal} {va vb : List AVal} {tok : Tok} {i B : Nat} (ha : (a = .nilslice ∧ va = []) ∨ ∃ t, a = .list va t 5) (hb : (b = .nilslice ∧ vb = []) ∨ ∃ t, b = .list vb t 5)
    (hZ : Z → va = [] ∧ vb = []) (ca : Cell5 va) (cb : Cell5 vb) (hl : va.length + vb.length < 100000) (hB : B ≤ 4000) (h : Inv50b Z (.list [a, b] tok 1) va vb B i st) (hi : i ≤ 2) :
    Ev (env sp) call false 50 b50_2 st fun ex s => (ex = .normal ∧ i < 2 ∧ Inv50b Z (.list [a, b] tok 1) va vb B (i + 1) s) ∨ (ex ≠ .normal ∧ ex = .exit 2 ∧ Inv50b Z (.list [a, b] tok 1) va vb B 2 s) := by
  obtain ⟨hn', h25, h26, h27, hH, hH', o, h6, hacc⟩ := h
  have hoo := hacc.one
  have hoa : a.oneCell = true := by rcases ha with ⟨rfl, -⟩ | ⟨t, rfl⟩ <;> rfl
  have hob : b.oneCell = true := by rcases hb with ⟨rfl, -⟩ | ⟨t, rfl⟩ <;> rfl
  have hw0 : IntKind.i64.wrap 1 = 1 := by rw [IntKind.wrap_i64]; rfl
  have hw1 : IntKind.i64.wrap 2 = 2 := by rw [IntKind.wrap_i64]; rfl
  have n10 : ¬ (1 : Nat) = 0 := by omega
  have n20 : ¬ (2 : Nat) = 0 := by omega
  have n21 : ¬ (2 : Nat) = 1 := by omega
  obtain rfl | rfl | rfl : i = 0 ∨ i = 1 ∨ i = 2 := by omega
  · refine Ev.mono (Q := fun ex s => ex = .normal ∧ Inv50b Z (.list [a, b] tok 1) va vb B 1 s) ?_ fun ex s h => .inl ⟨h.1, by omega, h.2⟩
    simp only [if_true] at hacc
    obtain ⟨r, H', eap, hr, hn1, hn2⟩ := acc_app (sp := sp) hacc ha (fun z => (hZ z).1) ca (by intro v hv; cases hv) (by omega) (by simp; omega)
    have hor := hr.one
    simp only [Ev, Inv50b, b50_2, o50_11, o50_12, o50_13, o50_14, hn', h25, h26, h27, h6, eap, hoo, hoa, hob, hor, hw0, n10, evalCode, runOps, runD, runDraw, askOf, askRecs, askAll, isEff, muteOp, stepA, wantedA, isCall, target, evalOp, opMove, opPick, opAlloc, opBox, opBuild, opBuildSlice, opLoad, opStore, opNilCheck, opBinOp, opUnOp, opConvert, opMakeFunc, opMakeMap, opSlice, opFieldAddr, opField, opIndexAddr, opLookup, opExtract, opAppendB, opLenB, wrOf, newA, eqlA, keepA, newV, evT, toA, putA, loadA, storeA, takeCells, setCells, isAgg, binA, unA, convA, arith, addOff, dstLen, nilNil, isConst, sameTy, strOp, params, results, packA, AExit.leaves, maxTmp, memN, askIn, fillA, repl, groups, Option.getD, Option.map, List.length, List.all, Int.reduceBEq, Int.reduceBNe, Int.reduceEq, Int.reduceGT, Int.reduceGE, Int.reduceNeg, Int.reduceAdd, Int.reduceSub, Int.reduceLT, Int.reduceLE, Int.reduceToNat, Nat.reduceLT, Nat.reducePow, Nat.reduceAdd, Nat.reduceMul, Nat.reduceLeDiff, Nat.reduceEqDiff, Nat.reduceBEq, reduceIte, ↓reduceIte, reduceCtorEq, syT, tyT, Rg.regF, Rg.findR, pickOps, fT50, Tryz.f50]
    exact ⟨by omega, by omega, by simpa using hr⟩
  · refine Ev.mono (Q := fun ex s => ex = .normal ∧ Inv50b Z (.list [a, b] tok 1) va vb B 2 s) ?_ fun ex s h => .inl ⟨h.1, by omega, h.2⟩
    simp only [n10, if_true, if_false] at hacc
    obtain ⟨r, H', eap, hr, hn1, hn2⟩ := acc_app (sp := sp) hacc hb (fun z => (hZ z).2) cb ca (by omega) (by omega)
    have hor := hr.one
    simp only [Ev, Inv50b, b50_2, o50_11, o50_12, o50_13, o50_14, hn', h25, h26, h27, h6, eap, hoo, hoa, hob, hor, hw1, n10, n20, n21, evalCode, runOps, runD, runDraw, askOf, askRecs, askAll, isEff, muteOp, stepA, wantedA, isCall, target, evalOp, opMove, opPick, opAlloc, opBox, opBuild, opBuildSlice, opLoad, opStore, opNilCheck, opBinOp, opUnOp, opConvert, opMakeFunc, opMakeMap, opSlice, opFieldAddr, opField, opIndexAddr, opLookup, opExtract, opAppendB, opLenB, wrOf, newA, eqlA, keepA, newV, evT, toA, putA, loadA, storeA, takeCells, setCells, isAgg, binA, unA, convA, arith, addOff, dstLen, nilNil, isConst, sameTy, strOp, params, results, packA, AExit.leaves, maxTmp, memN, askIn, fillA, repl, groups, Option.getD, Option.map, List.length, List.all, Int.reduceBEq, Int.reduceBNe, Int.reduceEq, Int.reduceGT, Int.reduceGE, Int.reduceNeg, Int.reduceAdd, Int.reduceSub, Int.reduceLT, Int.reduceLE, Int.reduceToNat, Nat.reduceLT, Nat.reducePow, Nat.reduceAdd, Nat.reduceMul, Nat.reduceLeDiff, Nat.reduceEqDiff, Nat.reduceBEq, reduceIte, ↓reduceIte, reduceCtorEq, syT, tyT, Rg.regF, Rg.findR, pickOps, fT50, Tryz.f50]
    exact ⟨by omega, by omega, by simpa using hr⟩
  · refine Ev.mono (Q := fun ex s => ex = .exit 2 ∧ Inv50b Z (.list [a, b] tok 1) va vb B 2 s) ?_ fun ex s h => .inr ⟨by rw [h.1]; simp, h.1, h.2⟩
    simp only [Ev, Inv50b, b50_2, o50_11, hn', h25, h26, h27, h6, evalCode, runOps, runD, runDraw, askOf, askRecs, askAll, isEff, muteOp, stepA, wantedA, isCall, target, evalOp, opMove, opPick, opAlloc, opBox, opBuild, opBuildSlice, opLoad, opStore, opNilCheck, opBinOp, opUnOp, opConvert, opMakeFunc, opMakeMap, opSlice, opFieldAddr, opField, opIndexAddr, opLookup, opExtract, opAppendB, opLenB, wrOf, newA, eqlA, keepA, newV, evT, toA, putA, loadA, storeA, takeCells, setCells, isAgg, binA, unA, convA, arith, addOff, dstLen, nilNil, isConst, sameTy, strOp, params, results, packA, AExit.leaves, maxTmp, memN, askIn, fillA, repl, groups, Option.getD, Option.map, List.length, List.all, Int.reduceBEq, Int.reduceBNe, Int.reduceEq, Int.reduceGT, Int.reduceGE, Int.reduceNeg, Int.reduceAdd, Int.reduceSub, Int.reduceLT, Int.reduceLE, Int.reduceToNat, Nat.reduceLT, Nat.reducePow, Nat.reduceAdd, Nat.reduceMul, Nat.reduceLeDiff, Nat.reduceEqDiff, Nat.reduceBEq, reduceIte, ↓reduceIte, reduceCtorEq, syT, tyT, Rg.regF, Rg.findR, pickOps, fT50, Tryz.f50]
    exact ⟨hH, hH', hacc⟩
end
end Go.Rs.Seat
end
/- slices.Concat of two slices of tests: the whole. -/
section
namespace Go.Rs.Seat
open Go.Proofs Rg
set_option maxRecDepth 100000
set_option maxHeartbeats 8000000

section
variable {sp : Bool → FuncId → Option (List AVal → Hp → Option (AVal × Hp))}

theorem IsTs.parts {a : AVal} {ts : List Tst} (h : IsTs a ts) : ∃ vs, ((a = .nilslice ∧ vs = []) ∨ ∃ t, a = .list vs t 5) ∧ AllP IsT vs ts := by
  rcases h with ⟨rfl, rfl⟩ | ⟨vs, t, rfl, h⟩
  · exact ⟨[], .inl ⟨rfl, rfl⟩, .nil⟩
  · exact ⟨vs, .inr ⟨t, rfl⟩, h⟩

theorem concat50 {k : Nat} {H : Hp} {a b : AVal} {tok : Tok} {ts us : List Tst} (h50 : sp false 50 = none) (h74 : sp false 74 = none) (ha : IsTs a ts) (hb : IsTs b us) (hl : ts.length + us.length < 100000) (hH : H.next ≤ 3900) :
    ∃ r H', evalCall (env sp) (k + 2) false 50 [.list [a, b] tok 1] H = some (r, H') ∧ IsTs r (ts ++ us) := by
  have hoa := ha.one
  have hob := hb.one
  obtain ⟨va, pa, hva⟩ := ha.parts
  obtain ⟨vb, pb, hvb⟩ := hb.parts
  have ca := cell5_of hva
  have cb := cell5_of hvb
  have hva1 := hva.1
  have hvb1 := hvb.1
  have key : ∃ r, evalCall (env sp) (k + 1 + 1) false 50 [.list [a, b] tok 1] H = some r ∧ IsTs r.1 (ts ++ us) := by
    refine enter50 (Post := fun v H' => IsTs v (ts ++ us)) h50 rfl ?_
    unfold c50
    refine Ev.seqN (Q := fun s => s.1.n = 36 ∧ s.2 = H ∧ s.1.tm.get 0 = some (.list [a, b] tok 1)) ?_ ?_
    · simp only [Ev, o50_0, evalCode, runOps, runD, runDraw, askOf, askRecs, askAll, isEff, muteOp, stepA, wantedA, isCall, target, evalOp, opMove, opPick, opAlloc, opBox, opBuild, opBuildSlice, opLoad, opStore, opNilCheck, opBinOp, opUnOp, opConvert, opMakeFunc, opMakeMap, opSlice, opFieldAddr, opField, opIndexAddr, opLookup, opExtract, opAppendB, opLenB, wrOf, newA, eqlA, keepA, newV, evT, toA, putA, loadA, storeA, takeCells, setCells, isAgg, binA, unA, convA, arith, addOff, dstLen, nilNil, isConst, sameTy, strOp, params, results, packA, AExit.leaves, maxTmp, memN, askIn, fillA, repl, groups, Option.getD, Option.map, List.length, List.all, Int.reduceBEq, Int.reduceBNe, Int.reduceEq, Int.reduceGT, Int.reduceGE, Int.reduceNeg, Int.reduceAdd, Int.reduceSub, Int.reduceLT, Int.reduceLE, Int.reduceToNat, Nat.reduceLT, Nat.reducePow, Nat.reduceAdd, Nat.reduceMul, Nat.reduceLeDiff, Nat.reduceEqDiff, Nat.reduceBEq, reduceIte, ↓reduceIte, reduceCtorEq, syT, tyT, Rg.regF, Rg.findR, pickOps, fT50, Tryz.f50]
    rintro s ⟨a1, a2, a3⟩
    refine Ev.seqN (Q := fun s => s.1.n = 36 ∧ s.2 = H ∧ s.1.tm.get 0 = some (.list [a, b] tok 1) ∧ s.1.tm.get 3 = some (.int .i64 0)) ?_ ?_
    · simp only [Ev, o50_1, a1, a2, a3, evalCode, runOps, runD, runDraw, askOf, askRecs, askAll, isEff, muteOp, stepA, wantedA, isCall, target, evalOp, opMove, opPick, opAlloc, opBox, opBuild, opBuildSlice, opLoad, opStore, opNilCheck, opBinOp, opUnOp, opConvert, opMakeFunc, opMakeMap, opSlice, opFieldAddr, opField, opIndexAddr, opLookup, opExtract, opAppendB, opLenB, wrOf, newA, eqlA, keepA, newV, evT, toA, putA, loadA, storeA, takeCells, setCells, isAgg, binA, unA, convA, arith, addOff, dstLen, nilNil, isConst, sameTy, strOp, params, results, packA, AExit.leaves, maxTmp, memN, askIn, fillA, repl, groups, Option.getD, Option.map, List.length, List.all, Int.reduceBEq, Int.reduceBNe, Int.reduceEq, Int.reduceGT, Int.reduceGE, Int.reduceNeg, Int.reduceAdd, Int.reduceSub, Int.reduceLT, Int.reduceLE, Int.reduceToNat, Nat.reduceLT, Nat.reducePow, Nat.reduceAdd, Nat.reduceMul, Nat.reduceLeDiff, Nat.reduceEqDiff, Nat.reduceBEq, reduceIte, ↓reduceIte, reduceCtorEq, syT, tyT, Rg.regF, Rg.findR, pickOps, fT50, Tryz.f50]
    rintro s ⟨a1, a2, a3, a4⟩
    refine Ev.seqN (Q := fun s => Inv50a (.list [a, b] tok 1) ts.length us.length H 2 s) ?_ ?_
    · refine Ev.seqN (Q := fun s => Inv50a (.list [a, b] tok 1) ts.length us.length H 0 s) ?_ ?_
      · simp only [Ev, Inv50a, o50_2, a1, a2, a3, a4, evalCode, runOps, runD, runDraw, askOf, askRecs, askAll, isEff, muteOp, stepA, wantedA, isCall, target, evalOp, opMove, opPick, opAlloc, opBox, opBuild, opBuildSlice, opLoad, opStore, opNilCheck, opBinOp, opUnOp, opConvert, opMakeFunc, opMakeMap, opSlice, opFieldAddr, opField, opIndexAddr, opLookup, opExtract, opAppendB, opLenB, wrOf, newA, eqlA, keepA, newV, evT, toA, putA, loadA, storeA, takeCells, setCells, isAgg, binA, unA, convA, arith, addOff, dstLen, nilNil, isConst, sameTy, strOp, params, results, packA, AExit.leaves, maxTmp, memN, askIn, fillA, repl, groups, Option.getD, Option.map, List.length, List.all, Int.reduceBEq, Int.reduceBNe, Int.reduceEq, Int.reduceGT, Int.reduceGE, Int.reduceNeg, Int.reduceAdd, Int.reduceSub, Int.reduceLT, Int.reduceLE, Int.reduceToNat, Nat.reduceLT, Nat.reducePow, Nat.reduceAdd, Nat.reduceMul, Nat.reduceLeDiff, Nat.reduceEqDiff, Nat.reduceBEq, reduceIte, ↓reduceIte, reduceCtorEq, syT, tyT, Rg.regF, Rg.findR, pickOps, fT50, Tryz.f50]
      intro s hs
      refine Ev.block (Ev.loop (Inv := fun i s => Inv50a (.list [a, b] tok 1) ts.length us.length H i s) 2 (by omega) hs fun i st hi hle => ?_)
      refine (con50a ha hb hl hi hle).mono fun ex s h => ?_
      rcases h with h | ⟨h1, h2, h3⟩
      · exact .inl h
      · exact .inr ⟨h1, by rw [h2]; rfl, h3⟩
    rintro s ⟨a1, a2, a3, a9, a10, a11, a4⟩
    have e3 : (if (2 : Nat) = 0 then 0 else if (2 : Nat) = 1 then ts.length else ts.length + us.length) = ts.length + us.length := rfl
    rw [e3] at a4
    -- room
    have hg : ∃ g H1, evalCall (env sp) (k + 1) false 74 [.nilslice, .int .i64 ((ts.length + us.length : Nat) : Int)] H = some (g, H1) ∧ AccS (ts.length + us.length = 0) [] g H1 ∧ H.next ≤ H1.next ∧ H1.next ≤ H.next + 1 := by
      by_cases h0 : ts.length + us.length = 0
      · rw [h0]
        exact ⟨_, H, grow74_zero h74, .inl ⟨rfl, rfl, rfl⟩, Nat.le_refl _, by omega⟩
      · have hmt : maxTmp = 4096 := rfl
        have hmr : maxRow = 4294967296 := rfl
        obtain ⟨X, h1⟩ := grow74_pos (k := k) (n := ts.length + us.length) (H := H) h74 (by omega) (by omega) (wrap_nat' (by omega)) (by omega)
        refine ⟨_, _, h1, .inr ⟨h0, H.next, X, rfl, ?_, by simp [alN], by simp, by simp [flat], fun h => absurd rfl h⟩, by simp [alN], by simp [alN]⟩
        rw [hnew (by omega), if_pos rfl]
    obtain ⟨g, H1, e74, hacc, hg1, hg2⟩ := hg
    have hog := hacc.one
    refine Ev.seqN (Q := fun s => s.1.n = 36 ∧ s.2 = H1 ∧ s.1.tm.get 0 = some (.list [a, b] tok 1) ∧ s.1.tm.get 6 = some g) ?_ ?_
    · simp only [Ev, o50_9, a1, a2, a3, a4, e74, hog, evalCode, runOps, runD, runDraw, askOf, askRecs, askAll, isEff, muteOp, stepA, wantedA, isCall, target, evalOp, opMove, opPick, opAlloc, opBox, opBuild, opBuildSlice, opLoad, opStore, opNilCheck, opBinOp, opUnOp, opConvert, opMakeFunc, opMakeMap, opSlice, opFieldAddr, opField, opIndexAddr, opLookup, opExtract, opAppendB, opLenB, wrOf, newA, eqlA, keepA, newV, evT, toA, putA, loadA, storeA, takeCells, setCells, isAgg, binA, unA, convA, arith, addOff, dstLen, nilNil, isConst, sameTy, strOp, params, results, packA, AExit.leaves, maxTmp, memN, askIn, fillA, repl, groups, Option.getD, Option.map, List.length, List.all, Int.reduceBEq, Int.reduceBNe, Int.reduceEq, Int.reduceGT, Int.reduceGE, Int.reduceNeg, Int.reduceAdd, Int.reduceSub, Int.reduceLT, Int.reduceLE, Int.reduceToNat, Nat.reduceLT, Nat.reducePow, Nat.reduceAdd, Nat.reduceMul, Nat.reduceLeDiff, Nat.reduceEqDiff, Nat.reduceBEq, reduceIte, ↓reduceIte, reduceCtorEq, syT, tyT, Rg.regF, Rg.findR, pickOps, fT50, Tryz.f50]
    rintro s ⟨a1, a2, a3, a6⟩
    refine Ev.seqN (Q := fun s => Inv50b (ts.length + us.length = 0) (.list [a, b] tok 1) va vb H1.next 2 s) ?_ ?_
    · refine Ev.seqN (Q := fun s => Inv50b (ts.length + us.length = 0) (.list [a, b] tok 1) va vb H1.next 0 s) ?_ ?_
      · simp only [Ev, Inv50b, o50_10, a1, a2, a3, a6, evalCode, runOps, runD, runDraw, askOf, askRecs, askAll, isEff, muteOp, stepA, wantedA, isCall, target, evalOp, opMove, opPick, opAlloc, opBox, opBuild, opBuildSlice, opLoad, opStore, opNilCheck, opBinOp, opUnOp, opConvert, opMakeFunc, opMakeMap, opSlice, opFieldAddr, opField, opIndexAddr, opLookup, opExtract, opAppendB, opLenB, wrOf, newA, eqlA, keepA, newV, evT, toA, putA, loadA, storeA, takeCells, setCells, isAgg, binA, unA, convA, arith, addOff, dstLen, nilNil, isConst, sameTy, strOp, params, results, packA, AExit.leaves, maxTmp, memN, askIn, fillA, repl, groups, Option.getD, Option.map, List.length, List.all, Int.reduceBEq, Int.reduceBNe, Int.reduceEq, Int.reduceGT, Int.reduceGE, Int.reduceNeg, Int.reduceAdd, Int.reduceSub, Int.reduceLT, Int.reduceLE, Int.reduceToNat, Nat.reduceLT, Nat.reducePow, Nat.reduceAdd, Nat.reduceMul, Nat.reduceLeDiff, Nat.reduceEqDiff, Nat.reduceBEq, reduceIte, ↓reduceIte, reduceCtorEq, syT, tyT, Rg.regF, Rg.findR, pickOps, fT50, Tryz.f50]
        exact ⟨by omega, hacc⟩
      intro s hs
      refine Ev.block (Ev.loop (Inv := fun i s => Inv50b (ts.length + us.length = 0) (.list [a, b] tok 1) va vb H1.next i s) 2 (by omega) hs fun i st hi hle => ?_)
      refine (con50b pa pb (fun z => ⟨List.eq_nil_of_length_eq_zero (by omega), List.eq_nil_of_length_eq_zero (by omega)⟩) ca cb (by omega) (by omega) hi hle).mono fun ex s h => ?_
      rcases h with h | ⟨h1, h2, h3⟩
      · exact .inl h
      · exact .inr ⟨h1, by rw [h2]; rfl, h3⟩
    rintro s ⟨a1, a25, a26, a27, an1, an2, o, a6, hacc⟩
    have e4 : (if (2 : Nat) = 0 then [] else if (2 : Nat) = 1 then va else va ++ vb) = va ++ vb := rfl
    rw [e4] at hacc
    have hoo := hacc.one
    have hfz : IsTs (packA (freezeN 1000 s.2 [o]).1) (ts ++ us) := by
      rcases hacc with ⟨rfl, hZ, hnil⟩ | ⟨hZ, id, cs, rfl, hid, hidn, hle, htk, hex⟩
      · have h1 := List.append_eq_nil_iff.1 hnil
        have ht : ts = [] := List.eq_nil_of_length_eq_zero (by omega)
        have hu : us = [] := List.eq_nil_of_length_eq_zero (by omega)
        subst ht hu
        rw [freezeN_fz 1000 [.nilslice] s.2 rfl]
        exact .inl ⟨rfl, rfl⟩
      · have hne : va ++ vb ≠ [] := by
          intro h
          have h1 := List.append_eq_nil_iff.1 h
          rw [h1.1] at hva1; rw [h1.2] at hvb1
          simp at hva1 hvb1; omega
        have hcs := hex hne
        have c5 : Cell5 (va ++ vb) := by intro v hv; rcases List.mem_append.1 hv with h | h; exact ca v h; exact cb v h
        have hfl := flat_len5 c5
        have hfzs := Fzs_flat5 c5
        have hpos : 0 < (va ++ vb).length := List.length_pos_iff.2 hne
        have hf1 : freeze1 (freezeN 999) s.2 (.sl id 0 (va ++ vb).length 5) = (.list (va ++ vb) .none 5, s.2.set id .dead) := by
          unfold freeze1
          simp only [hid]
          rw [hcs, if_pos ⟨hfl.symm, by omega⟩, freezeN_fz 999 _ _ hfzs]
          simp only [hid, groups_flat5 c5]
        have hf2 : freezeN 1000 s.2 [.sl id 0 (va ++ vb).length 5] = ([.list (va ++ vb) .none 5], s.2.set id .dead) := by
          show (let r := freeze1 (freezeN 999) s.2 (.sl id 0 (va ++ vb).length 5); let x := freezeN 999 r.2 []; (r.1 :: x.1, x.2)) = _
          rw [hf1]
          rfl
        rw [hf2]
        exact .inr ⟨_, _, rfl, hva.append hvb⟩
    simp only [Ev, o50_15, a1, a6, hoo, evalCode, runOps, runD, runDraw, askOf, askRecs, askAll, isEff, muteOp, stepA, wantedA, isCall, target, evalOp, opMove, opPick, opAlloc, opBox, opBuild, opBuildSlice, opLoad, opStore, opNilCheck, opBinOp, opUnOp, opConvert, opMakeFunc, opMakeMap, opSlice, opFieldAddr, opField, opIndexAddr, opLookup, opExtract, opAppendB, opLenB, wrOf, newA, eqlA, keepA, newV, evT, toA, putA, loadA, storeA, takeCells, setCells, isAgg, binA, unA, convA, arith, addOff, dstLen, nilNil, isConst, sameTy, strOp, params, results, packA, AExit.leaves, maxTmp, memN, askIn, fillA, repl, groups, Option.getD, Option.map, List.length, List.all, Int.reduceBEq, Int.reduceBNe, Int.reduceEq, Int.reduceGT, Int.reduceGE, Int.reduceNeg, Int.reduceAdd, Int.reduceSub, Int.reduceLT, Int.reduceLE, Int.reduceToNat, Nat.reduceLT, Nat.reducePow, Nat.reduceAdd, Nat.reduceMul, Nat.reduceLeDiff, Nat.reduceEqDiff, Nat.reduceBEq, reduceIte, ↓reduceIte, reduceCtorEq, syT, tyT, Rg.regF, Rg.findR, pickOps, fT50, Tryz.f50]
    exact hfz
  obtain ⟨⟨v, H'⟩, h1, h2⟩ := key
  exact ⟨v, H', h1, h2⟩
end
end Go.Rs.Seat
end
/- What the boundary of a contract does to slices, tests, rows, trees, nodes: it takes their rights to grow. -/
section
namespace Go.Rs.Seat
open Go.Proofs Rg
set_option maxRecDepth 100000
set_option maxHeartbeats 4000000

/-- it goes through a boundary -/
def Sat {α : Type} (P : AVal → α → Prop) : Prop := ∀ v x, P v x → ∃ v', renA nope false v = some v' ∧ P v' x

theorem AllP.strip {α : Type} {P : AVal → α → Prop} (h : Sat P) : ∀ {vs : List AVal} {l : List α}, AllP P vs l → ∃ vs', renAs nope false vs = some vs' ∧ AllP P vs' l
  | [], [], _ => ⟨[], rfl, .nil⟩
  | v :: vs, x :: l, ha => by
    obtain ⟨v', h1, h2⟩ := h v x (ha.2 0 v x rfl rfl)
    obtain ⟨vs', h3, h4⟩ := AllP.strip h (vs := vs) (l := l) ⟨by simpa using ha.1, fun i w y hw hy => ha.2 (i + 1) w y (by simpa using hw) (by simpa using hy)⟩
    exact ⟨v' :: vs', by simp only [renAs, h1, h3], AllP.cons h2 h4⟩
  | [], _ :: _, ha => by simp [AllP] at ha
  | _ :: _, [], ha => by simp [AllP] at ha

theorem IsS.ren {α : Type} {P : AVal → α → Prop} {sz : Nat} (h : Sat P) : Sat (IsS P sz) := by
  rintro v l (⟨rfl, rfl⟩ | ⟨vs, t, rfl, hvs⟩)
  · exact ⟨_, rfl, .inl ⟨rfl, rfl⟩⟩
  · obtain ⟨vs', h1, h2⟩ := AllP.strip h hvs
    exact ⟨.list vs' (renT nope t) sz, by simp only [renA, h1, Bool.not_false, Bool.true_or, if_true], .inr ⟨vs', _, rfl, h2⟩⟩

theorem IsI.ren : Sat IsI := by
  intro v l h
  obtain ⟨v', h1, h2⟩ := IsS.ren (P := fun v x => v = AVal.int .i64 x) (sz := 1) (fun v x h => by subst h; exact ⟨_, rfl, rfl⟩) v l (isI_iff.1 h)
  exact ⟨v', h1, isI_iff.2 h2⟩

theorem IsT.ren : Sat IsT := by
  rintro v t ⟨a, rfl, ha⟩
  obtain ⟨a', h1, h2⟩ := IsI.ren _ _ ha
  exact ⟨.agg [a', .int .i64 t.k, .int .i64 t.n, .str t.s, .nilslice], by simp only [renA, renAs, h1], a', rfl, h2⟩

theorem IsTs.ren : Sat IsTs := IsS.ren IsT.ren

/-- a row -/
structure Row where
  arm : Int
  ts : List Tst

def IsRow (v : AVal) (r : Row) : Prop := ∃ a, v = .agg [.int .i64 r.arm, a] ∧ IsTs a r.ts
abbrev IsRows (a : AVal) (l : List Row) : Prop := IsS IsRow 2 a l

theorem IsRow.ren : Sat IsRow := by
  rintro v t ⟨a, rfl, ha⟩
  obtain ⟨a', h1, h2⟩ := IsTs.ren _ _ ha
  exact ⟨.agg [.int .i64 t.arm, a'], by simp only [renA, renAs, h1], a', rfl, h2⟩
theorem IsRows.ren : Sat IsRows := IsS.ren IsRow.ren

theorem IsTree.ren : ∀ (T : Tree) (v : AVal), IsTree T v → ∃ v', renA nope false v = some v' ∧ IsTree T v'
  | .leaf arm, v, h => by
    have h' := h
    simp only [IsTree] at h
    subst h
    exact ⟨_, rfl, h'⟩
  | .node t y n, v, h => by
    obtain ⟨a, ty, tn, vy, vn, rfl, ha, hy, hn⟩ := h
    obtain ⟨a', h1, h2⟩ := IsI.ren _ _ ha
    obtain ⟨vy', h3, h4⟩ := IsTree.ren y vy hy
    obtain ⟨vn', h5, h6⟩ := IsTree.ren n vn hn
    refine ⟨.agg [.bool false, .int .i64 0, a', .int .i64 t.k, .int .i64 t.n, .str t.s, .nilslice, .list [vy'] (renT nope ty) 9, .list [vn'] (renT nope tn) 9], ?_, a', _, _, vy', vn', rfl, h2, h4, h6⟩
    simp only [renA, renAs, h1, h3, h5, Bool.not_false, Bool.true_or, if_true]

mutual
theorem IsN.ren : ∀ {x : Nd} {v : AVal}, IsN x v → ∃ v', renA nope false v = some v' ∧ IsN x v'
  | .mk k n s l, v, h => by
    unfold IsN at h
    obtain ⟨a, rfl, ⟨rfl, rfl⟩ | ⟨vs, t, rfl, hvs⟩⟩ := h
    · exact ⟨.agg [.int .i64 k, .int .i64 n, .str s, .nilslice], rfl, by unfold IsN; exact ⟨_, rfl, .inl ⟨rfl, rfl⟩⟩⟩
    · obtain ⟨vs', h1, h2⟩ := IsNs.ren hvs
      exact ⟨.agg [.int .i64 k, .int .i64 n, .str s, .list vs' (renT nope t) 4], by simp only [renA, renAs, h1, Bool.not_false, Bool.true_or, if_true], by unfold IsN; exact ⟨_, rfl, .inr ⟨vs', _, rfl, h2⟩⟩⟩
theorem IsNs.ren : ∀ {l : List Nd} {vs : List AVal}, IsNs l vs → ∃ vs', renAs nope false vs = some vs' ∧ IsNs l vs'
  | [], [], _ => ⟨[], rfl, trivial⟩
  | x :: l, v :: vs, h => by
    unfold IsNs at h
    obtain ⟨v', h1, h2⟩ := IsN.ren h.1
    obtain ⟨vs', h3, h4⟩ := IsNs.ren h.2
    exact ⟨v' :: vs', by simp only [renAs, h1, h3], h2, h4⟩
  | [], _ :: _, h => by unfold IsNs at h; exact h.elim
  | _ :: _, [], h => by unfold IsNs at h; exact h.elim
end
theorem IsL.ren : Sat IsL := IsS.ren fun v x h => IsN.ren h

/-- a contract from what the call does over the empty heap -/
theorem pureS_eq {B : Nat} {call : List AVal → Hp → Option (AVal × Hp)} {args args' : List AVal} {r r' : AVal} {H0 : Hp} (h1 : renAs nope false args = some args') (h2 : call args' ⟨.nil, B⟩ = some (r, H0)) (h3 : renA nope false r = some r') (H : Hp) :
    pureS B call args H = some (r', H) := by
  unfold pureS
  rw [h1]
  simp only [h2, h3]
end Go.Rs.Seat
end
