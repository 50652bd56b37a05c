/- Package arms: the tree of rows, in plain words. -/
import Derived.Test.YtceenhjhejjdlaaGreatDoorP13
import Derived.Test.YtceenhjhejjdlaaGreatDoorP03
import Derived.Test.YtceenhjhejjdlaaGreatDoorP06
set_option linter.unusedSimpArgs false
set_option linter.unusedVariables false
section
namespace Go.Rs.Seat
open Go.Proofs Rg
set_option maxRecDepth 100000

/-- the row where the test is answered yes -/
def yesRow (t : Tst) (r : Row) : Option Row := match r.ts.findIdx? (fun x => sameT x t) with
  | some i => some ⟨r.arm, r.ts.take i ++ r.ts.drop (i + 1)⟩
  | none => if r.ts.any (fun x => decide (x.path = t.path)) then none else some r
/-- the row where it is answered no -/
def noRow (t : Tst) (r : Row) : Option Row := match r.ts.findIdx? (fun x => sameT x t) with
  | some _ => none
  | none => some r

def yesRows (t : Tst) (l : List Row) : List Row := l.filterMap (yesRow t)
def noRows (t : Tst) (l : List Row) : List Row := l.filterMap (noRow t)

def buildT : Nat → List Row → Tree
  | _, [] => .leaf (-1)
  | 0, _ :: _ => .leaf (-1)
  | n + 1, r :: rs => match r.ts with
    | [] => .leaf r.arm
    | t :: _ => .node t (buildT n (yesRows t (r :: rs))) (buildT n (noRows t (r :: rs)))

/-- how much is left -/
def weight : List Row → Nat
  | [] => 0
  | r :: l => r.ts.length + 1 + weight l

theorem sameT_refl (t : Tst) : sameT t t = true := by simp [sameT, strB]

theorem yes_weight (t : Tst) : ∀ (l : List Row), weight (yesRows t l) ≤ weight l
  | [] => Nat.le_refl _
  | r :: l => by
    have ih := yes_weight t l
    unfold yesRows at ih ⊢
    simp only [List.filterMap_cons]
    cases hy : yesRow t r with
    | none => simp only [weight]; omega
    | some r' =>
      have : r'.ts.length ≤ r.ts.length := by
        unfold yesRow at hy
        split at hy
        · injection hy with hy; subst hy; simp; omega
        · split at hy
          · cases hy
          · injection hy with hy; subst hy; exact Nat.le_refl _
      simp only [weight]; omega
theorem no_weight (t : Tst) : ∀ (l : List Row), weight (noRows t l) ≤ weight l
  | [] => Nat.le_refl _
  | r :: l => by
    have ih := no_weight t l
    unfold noRows at ih ⊢
    simp only [List.filterMap_cons]
    cases hy : noRow t r with
    | none => simp only [weight]; omega
    | some r' =>
      have : r' = r := by
        unfold noRow at hy
        split at hy
        · cases hy
        · injection hy with hy; exact hy.symm
      subst this
      simp only [weight]; omega

theorem first_has {t : Tst} {ts : List Tst} : (t :: ts).findIdx? (fun x => sameT x t) = some 0 := by
  simp [List.findIdx?_cons, sameT_refl]
theorem yes_less {t : Tst} {r : Row} {ts : List Tst} {l : List Row} (h : r.ts = t :: ts) : weight (yesRows t (r :: l)) < weight (r :: l) := by
  have h1 : yesRow t r = some ⟨r.arm, ts⟩ := by unfold yesRow; rw [h, first_has]; simp
  have ih := yes_weight t l
  unfold yesRows at ih ⊢
  rw [List.filterMap_cons, h1]
  simp only [weight, h, List.length_cons]
  omega
theorem no_less {t : Tst} {r : Row} {ts : List Tst} {l : List Row} (h : r.ts = t :: ts) : weight (noRows t (r :: l)) < weight (r :: l) := by
  have h1 : noRow t r = none := by unfold noRow; rw [h, first_has]
  have ih := no_weight t l
  unfold noRows at ih ⊢
  rw [List.filterMap_cons, h1]
  simp only [weight, h, List.length_cons]
  omega
end Go.Rs.Seat
end
/- Package arms: two slices that grow at once. -/
section
namespace Go.Rs.Seat
open Go.Proofs Rg
set_option maxRecDepth 100000
set_option maxHeartbeats 4000000

/-- what a slice's right to grow stands on -/
def tokOf : AVal → Option Nat
  | .list _ (.own t) _ => some t
  | _ => none

theorem app_gr' {α : Type} {P : AVal → α → Prop} {E : Env} {T e sz B : Nat} {H : Hp} {a : AVal} {l m : List α} {ys : List AVal} {tk : Tok} (hT : (E.ty T).u = .slice e) (he : ((E.ty e).ok && (E.ty e).zok && decide ((E.ty e).bytes < 4096)) = true) (hsz : (E.ty e).size = sz)
    (hg : Gr B sz a H) (ha : IsS P sz a l) (hy : AllP P ys m) (hne : ys ≠ []) (hn : H.next < 4096) (hB : B ≤ H.next) (hl : l.length + m.length < 100000) :
    ∃ r H', appendA E false T T H a (.list ys tk sz) = some (r, H') ∧ IsS P sz r (l ++ m) ∧ Gr B sz r H' ∧ H'.next = H.next + 1 ∧ tokOf r = some H.next ∧ ∀ i < H.next, tokOf a ≠ some i → H'.get i = H.get i := by
  have hap : appended E e T H (.list ys tk sz) = some ys := by
    unfold appended
    rw [hT]
    simp only [elemsOf, hsz, if_true]
  obtain ⟨y, ys', rfl⟩ : ∃ y ys', ys = y :: ys' := List.exists_cons_of_ne_nil hne
  have hmr : maxRow = 4294967296 := rfl
  have hmt : maxTmp = 4096 := rfl
  have hyl := hy.1
  rcases hg with rfl | ⟨vs, t, rfl, h1, h2, h3⟩
  · have hl0 : l = [] := by
      rcases ha with ⟨-, h⟩ | ⟨vs, t, h, -⟩
      · exact h
      · cases h
    subst hl0
    refine ⟨.list (y :: ys') (.own H.next) sz, (H.alloc .tok).2, ?_, .inr ⟨_, _, rfl, by simpa using hy⟩, .inr ⟨_, _, rfl, ?_, hB, by simp [alN]⟩, rfl, rfl, fun i hi _ => ?_⟩
    · unfold appendA
      simp only [hT, hap, he, if_true, Bool.false_eq_true, if_false, newA, al1, hsz]
      rw [if_pos (by rw [hyl, hmr]; simp at hl; omega), if_pos (by omega)]
    · rw [hnew hn, if_pos rfl]
    · rw [hnew hn, if_neg (by omega)]
  · obtain ⟨vs', t', he', hvs⟩ : ∃ vs' t', AVal.list vs (.own t) sz = .list vs' t' sz ∧ AllP P vs' l := by
      rcases ha with ⟨h, -⟩ | h
      · cases h
      · exact h
    injection he' with he1 he2
    subst he1
    refine ⟨.list (vs ++ y :: ys') (.own H.next) sz, ((H.set t .dead).alloc .tok).2, ?_, .inr ⟨_, _, rfl, hvs.append hy⟩, .inr ⟨_, _, rfl, ?_, hB, by simp [alN, stN]⟩, rfl, rfl, fun i hi hne => ?_⟩
    · unfold appendA
      simp only [hT, hap, he, if_true, hsz, h1]
      rw [if_pos ⟨trivial, by rw [hyl, hvs.1, hmr]; omega⟩]
      exact if_pos (show H.next < maxTmp by omega)
    · rw [hnew (by rw [stN]; exact hn), stN, if_pos rfl]
    · rw [hnew (by rw [stN]; exact hn), stN, if_neg (by omega), hget (by omega), if_neg (fun h => hne (by simp only [tokOf, h]))]

/-- the other slice stays as it is -/
theorem Gr.other {B sz : Nat} {b a : AVal} {H H' : Hp} (h : Gr B sz b H) (hn : H.next ≤ H'.next) (hd : ∀ t, tokOf a = some t → tokOf b ≠ some t) (hk : ∀ i < H.next, tokOf a ≠ some i → H'.get i = H.get i) : Gr B sz b H' := by
  rcases h with rfl | ⟨vs, t, rfl, h1, h2, h3⟩
  · exact .inl rfl
  · exact .inr ⟨vs, t, rfl, by rw [hk t h3 (fun h => hd t h rfl)]; exact h1, h2, by omega⟩
theorem Gr.tok_lt {B sz : Nat} {b : AVal} {H : Hp} (h : Gr B sz b H) {t : Nat} (ht : tokOf b = some t) : t < H.next := by
  rcases h with rfl | ⟨vs, t', rfl, h1, h2, h3⟩
  · cases ht
  · injection ht with ht; omega
end Go.Rs.Seat
end
/- Package arms: build. -/
section
namespace Go.Rs.Seat
open Go.Proofs Rg
set_option maxRecDepth 100000
set_option maxHeartbeats 8000000

theorem same_int (k n) : sameA (.int k n) (.int k n) = true := by simp [sameA]

section
variable {sp : Bool → FuncId → Option (List AVal → Hp → Option (AVal × Hp))}

/-- the functions below build that stand for themselves -/
structure Plain29 (sp : Bool → FuncId → Option (List AVal → Hp → Option (AVal × Hp))) : Prop where
  h12 : sp false 12 = none
  h14 : sp false 14 = none
  h30 : sp false 30 = none
  h47 : sp false 47 = none
  h48 : sp false 48 = none
  h49 : sp false 49 = none
  h50 : sp false 50 = none
  h51 : sp false 51 = none
  h74 : sp false 74 = none

def Inv29 (a : AVal) (rows : List Row) (t : Tst) (tc : List AVal) (id B : Nat) (i : Nat) (st : St) : Prop :=
  st.1.n = 85 ∧ st.1.tm.get 2 = some (.lptr 0 0) ∧ st.1.tm.get 3 = some (.ptr id 0) ∧ st.1.tm.get 30 = some a ∧ st.1.tm.get 31 = some (.int .i64 rows.length) ∧ st.1.tm.get 32 = some (.int .i64 i) ∧
    st.1.lv.next = i + 1 ∧ st.1.lv.get 0 = some [.bool false, .int .i64 0, .nilslice, .int .i64 0, .int .i64 0, .str ⟨#[]⟩, .nilslice, .nilslice, .nilslice] ∧
    st.2.get id = .cells tc ∧ B ≤ st.2.next ∧ st.2.next ≤ B + 8 * i ∧
    (∃ y, st.1.tm.get 4 = some y ∧ ∃ n, st.1.tm.get 5 = some n ∧ IsRows y (yesRows t (rows.take i)) ∧ Gr B 2 y st.2 ∧ IsRows n (noRows t (rows.take i)) ∧ Gr B 2 n st.2 ∧ ∀ u, tokOf y = some u → tokOf n ≠ some u)

/-- what build's calls are answered by -/
structure Calls29 (call : CallF) : Prop where
  idx : ∀ (a : AVal) (ts : List Tst) (H : Hp) (id : Nat) (tc : List AVal) (t : Tst), IsTs a ts → H.get id = .cells tc → IsT (.agg tc) t → ts.length < 9000 → (∀ x ∈ ts, x.path.length < 9000) → call false 30 [a, .func (.func 48) [] [.ptr id 0]] H = some (.int .i64 (idxI (fun x => sameT x t) ts), H)
  has : ∀ (a : AVal) (ts : List Tst) (H : Hp) (id : Nat) (tc : List AVal) (t : Tst), IsTs a ts → H.get id = .cells tc → IsT (.agg tc) t → ts.length < 9000 → (∀ x ∈ ts, x.path.length < 9000) → call false 12 [a, .func (.func 51) [] [.ptr id 0]] H = some (.bool (ts.any (fun x => decide (x.path = t.path))), H)
  con : ∀ (a b : AVal) (ts us : List Tst) (tok : Tok), IsTs a ts → IsTs b us → ts.length + us.length < 9000 → ∃ r, IsTs r (ts ++ us) ∧ ∀ H, call false 50 [.list [a, b] tok 1] H = some (r, H)
  clo : ∀ (a : AVal) (l : List Int) (H : Hp), IsI a l → l.length < 9000 → H.next < 4000 → ∃ r H', call false 47 [a] H = some (r, H') ∧ IsI r l ∧ H.next ≤ H'.next ∧ H'.next ≤ H.next + 1 ∧ ∀ i < H.next, H'.get i = H.get i

/-- no test fits, but one is at the path -/
theorem build29_no {call : CallF} (hc : Calls29 call) {st : St} {rows : List Row} {vs : List AVal} {tok : Tok} {t : Tst} {tc : List AVal} {id B i : Nat} {r : Row} (hr : rows[i]? = some r) (hvs : AllP IsRow vs rows) (ht : IsT (.agg tc) t)
    (h : Inv29 (.list vs tok 2) rows t tc id B i st) (hB : B + 8 * rows.length ≤ 4000) (hid : id < B) (hlen : r.ts.length < 9000) (hpath : ∀ x ∈ r.ts, x.path.length < 9000) (hnone : r.ts.findIdx? (fun x => sameT x t) = none) (hany : r.ts.any (fun x => decide (x.path = t.path)) = true) :
    Ev (env sp) call false 29 b29_0 st fun ex s => ex = .normal ∧ Inv29 (.list vs tok 2) rows t tc id B (i + 1) s := by
  obtain ⟨hn', h2, h3, h30, h31, h32, hln, hl0, hid', hHn, hHs, y, h4, n, h5, hy, hgy, hn, hgn, hd⟩ := h
  have hi : i < rows.length := (List.getElem?_eq_some_iff.1 hr).1
  obtain ⟨v, hv, b, rfl, hb⟩ := hvs.get hr
  have hvl := hvs.1
  have hob := hb.one
  have hoy := hgy.one
  have hon := hgn.one
  have e30 := hc.idx b r.ts st.2 id tc t hb hid' ht hlen hpath
  have e12 := hc.has b r.ts
  have hix : idxI (fun x => sameT x t) r.ts = -1 := by unfold idxI; rw [hnone]
  rw [hix] at e30
  obtain ⟨n', H1, eap, hn1, hgn1, hx1, htok, hf1⟩ := app_gr' (P := IsRow) (E := env sp) (T := 106) (e := 109) (sz := 2) (tk := .full) (m := [r]) (by rw [ty106]) (by rw [ty109]; decide) (by rw [ty109]) hgn hn (AllP.cons ⟨b, rfl, hb⟩ AllP.nil) (by simp) (by omega) hHn (by
    have : (noRows t (rows.take i)).length ≤ (rows.take i).length := List.length_filterMap_le _ _
    have := List.length_take_le i rows
    simp; omega)
  have hon1 := hgn1.one
  have hid1 : H1.get id = .cells tc := by
    rw [hf1 id (by omega) (fun hh => ?_)]
    · exact hid'
    · rcases hgn with rfl | ⟨ws, u, rfl, k1, k2, k3⟩
      · cases hh
      · injection hh with hh; omega
  have e12' := hc.has b r.ts H1 id tc t hb hid1 ht hlen hpath
  rw [hany] at e12'
  have hi' : ((i : Int) < (rows.length : Int)) = True := by simp [hi]
  have h0' : (0 ≤ (i : Int)) = True := by simp
  have hw : IntKind.i64.wrap ((i : Int) + 1) = ((i + 1 : Nat) : Int) := wrap_nat (by omega)
  have hlv : (i + 1 < 4096) = True := by simp; omega
  have hlv0 : ¬ i + 1 = 0 := by omega
  have hyes : yesRow t r = none := by unfold yesRow; rw [hnone]; simp [hany]
  have hno : noRow t r = some r := by unfold noRow; rw [hnone]
  simp only [Ev, Inv29, b29_0, o29_8, o29_9, o29_10, o29_11, o29_13, o29_14, o29_16, hn', h2, h3, h4, h5, h30, h31, h32, hln, hl0, hi', h0', hv, hvl, hlv, hlv0, e30, e12', eap, hw, hob, hoy, hon, hon1, evalCode, runOps, runD, runDraw, askOf, askRecs, askAll, isEff, muteOp, stepA, wantedA, isCall, target, evalOp, opMove, opPick, opAlloc, opBox, opBuild, opBuildSlice, opLoad, opStore, opNilCheck, opBinOp, opUnOp, opConvert, opMakeFunc, opMakeMap, opSlice, opFieldAddr, opField, opIndexAddr, opLookup, opExtract, opAppendB, opLenB, wrOf, newA, eqlA, keepA, newV, evT, toA, putA, loadA, storeA, takeCells, setCells, isAgg, binA, unA, convA, arith, addOff, dstLen, nilNil, isConst, sameTy, strOp, params, results, packA, AExit.leaves, maxTmp, memN, askIn, fillA, repl, groups, Option.getD, Option.map, List.length, List.all, Int.reduceBEq, Int.reduceBNe, Int.reduceEq, Int.reduceGT, Int.reduceGE, Int.reduceNeg, Int.reduceAdd, Int.reduceSub, Int.reduceLT, Int.reduceLE, Int.reduceToNat, Nat.reduceLT, Nat.reducePow, Nat.reduceAdd, Nat.reduceMul, Nat.reduceLeDiff, Nat.reduceEqDiff, Nat.reduceBEq, reduceIte, ↓reduceIte, reduceCtorEq, syT, tyT, Rg.regF, Rg.findR, pickOps, fT29, Tryz.f29]
  have hty : yesRows t (rows.take (i + 1)) = yesRows t (rows.take i) := by
    rw [List.take_add_one, hr]; simp [yesRows, List.filterMap_append, hyes]
  have htn : noRows t (rows.take (i + 1)) = noRows t (rows.take i) ++ [r] := by
    rw [List.take_add_one, hr]; simp [noRows, List.filterMap_append, hno]
  refine ⟨hid1, by omega, by omega, by rw [hty]; exact hy, hgy.other (by omega) (fun u h1 h2 => hd u h2 h1) hf1, by rw [htn]; exact hn1, hgn1, fun u h1 h2 => ?_⟩
  rw [htok] at h2
  injection h2 with h2
  have := hgy.tok_lt h1
  omega
/-- no test fits, none is at the path -/
theorem build29_both {call : CallF} (hc : Calls29 call) {st : St} {rows : List Row} {vs : List AVal} {tok : Tok} {t : Tst} {tc : List AVal} {id B i : Nat} {r : Row} (hr : rows[i]? = some r) (hvs : AllP IsRow vs rows) (ht : IsT (.agg tc) t)
    (h : Inv29 (.list vs tok 2) rows t tc id B i st) (hB : B + 8 * rows.length ≤ 4000) (hid : id < B) (hlen : r.ts.length < 9000) (hpath : ∀ x ∈ r.ts, x.path.length < 9000) (hnone : r.ts.findIdx? (fun x => sameT x t) = none) (hany : r.ts.any (fun x => decide (x.path = t.path)) = false) :
    Ev (env sp) call false 29 b29_0 st fun ex s => ex = .normal ∧ Inv29 (.list vs tok 2) rows t tc id B (i + 1) s := by
  obtain ⟨hn', h2, h3, h30, h31, h32, hln, hl0, hid', hHn, hHs, y, h4, n, h5, hy, hgy, hn, hgn, hd⟩ := h
  have hi : i < rows.length := (List.getElem?_eq_some_iff.1 hr).1
  obtain ⟨v, hv, b, rfl, hb⟩ := hvs.get hr
  have hvl := hvs.1
  have hob := hb.one
  have hoy := hgy.one
  have hon := hgn.one
  have e30 := hc.idx b r.ts st.2 id tc t hb hid' ht hlen hpath
  have e12 := hc.has b r.ts
  have hix : idxI (fun x => sameT x t) r.ts = -1 := by unfold idxI; rw [hnone]
  rw [hix] at e30
  obtain ⟨n', H1, eap, hn1, hgn1, hx1, htok, hf1⟩ := app_gr' (P := IsRow) (E := env sp) (T := 106) (e := 109) (sz := 2) (tk := .full) (m := [r]) (by rw [ty106]) (by rw [ty109]; decide) (by rw [ty109]) hgn hn (AllP.cons ⟨b, rfl, hb⟩ AllP.nil) (by simp) (by omega) hHn (by
    have : (noRows t (rows.take i)).length ≤ (rows.take i).length := List.length_filterMap_le _ _
    have := List.length_take_le i rows
    simp; omega)
  have hon1 := hgn1.one
  have hid1 : H1.get id = .cells tc := by
    rw [hf1 id (by omega) (fun hh => ?_)]
    · exact hid'
    · rcases hgn with rfl | ⟨ws, u, rfl, k1, k2, k3⟩
      · cases hh
      · injection hh with hh; omega
  have e12' := hc.has b r.ts H1 id tc t hb hid1 ht hlen hpath
  rw [hany] at e12'
  have hgy1 : Gr B 2 y H1 := hgy.other (by omega) (fun u h1 h2 => hd u h2 h1) hf1
  obtain ⟨y', H2, eap2, hy2, hgy2, hx2, htok2, hf2⟩ := app_gr' (P := IsRow) (E := env sp) (T := 106) (e := 109) (sz := 2) (tk := .full) (m := [r]) (by rw [ty106]) (by rw [ty109]; decide) (by rw [ty109]) hgy1 hy (AllP.cons ⟨b, rfl, hb⟩ AllP.nil) (by simp) (by omega) (by omega) (by
    have : (yesRows t (rows.take i)).length ≤ (rows.take i).length := List.length_filterMap_le _ _
    have := List.length_take_le i rows
    simp; omega)
  have hoy2 := hgy2.one
  have hid2 : H2.get id = .cells tc := by
    rw [hf2 id (by omega) (fun hh => ?_)]
    · exact hid1
    · rcases hgy with rfl | ⟨ws, u, rfl, k1, k2, k3⟩
      · cases hh
      · injection hh with hh; omega
  have hi' : ((i : Int) < (rows.length : Int)) = True := by simp [hi]
  have h0' : (0 ≤ (i : Int)) = True := by simp
  have hw : IntKind.i64.wrap ((i : Int) + 1) = ((i + 1 : Nat) : Int) := wrap_nat (by omega)
  have hlv : (i + 1 < 4096) = True := by simp; omega
  have hlv0 : ¬ i + 1 = 0 := by omega
  have hyes : yesRow t r = some r := by unfold yesRow; rw [hnone]; simp only [hany]; rfl
  have hno : noRow t r = some r := by unfold noRow; rw [hnone]
  simp only [Ev, Inv29, b29_0, o29_8, o29_9, o29_10, o29_11, o29_13, o29_14, o29_15, o29_16, hn', h2, h3, h4, h5, h30, h31, h32, hln, hl0, hi', h0', hv, hvl, hlv, hlv0, e30, e12', eap, eap2, hoy2, hw, hob, hoy, hon, hon1, evalCode, runOps, runD, runDraw, askOf, askRecs, askAll, isEff, muteOp, stepA, wantedA, isCall, target, evalOp, opMove, opPick, opAlloc, opBox, opBuild, opBuildSlice, opLoad, opStore, opNilCheck, opBinOp, opUnOp, opConvert, opMakeFunc, opMakeMap, opSlice, opFieldAddr, opField, opIndexAddr, opLookup, opExtract, opAppendB, opLenB, wrOf, newA, eqlA, keepA, newV, evT, toA, putA, loadA, storeA, takeCells, setCells, isAgg, binA, unA, convA, arith, addOff, dstLen, nilNil, isConst, sameTy, strOp, params, results, packA, AExit.leaves, maxTmp, memN, askIn, fillA, repl, groups, Option.getD, Option.map, List.length, List.all, Int.reduceBEq, Int.reduceBNe, Int.reduceEq, Int.reduceGT, Int.reduceGE, Int.reduceNeg, Int.reduceAdd, Int.reduceSub, Int.reduceLT, Int.reduceLE, Int.reduceToNat, Nat.reduceLT, Nat.reducePow, Nat.reduceAdd, Nat.reduceMul, Nat.reduceLeDiff, Nat.reduceEqDiff, Nat.reduceBEq, reduceIte, ↓reduceIte, reduceCtorEq, syT, tyT, Rg.regF, Rg.findR, pickOps, fT29, Tryz.f29]
  have hty : yesRows t (rows.take (i + 1)) = yesRows t (rows.take i) ++ [r] := by
    rw [List.take_add_one, hr]; simp [yesRows, List.filterMap_append, hyes]
  have htn : noRows t (rows.take (i + 1)) = noRows t (rows.take i) ++ [r] := by
    rw [List.take_add_one, hr]; simp [noRows, List.filterMap_append, hno]
  refine ⟨hid2, by omega, by omega, by rw [hty]; exact hy2, hgy2, by rw [htn]; exact hn1, hgn1.other (a := y) (by omega) (fun u h1 h2 => ?_) hf2, fun u h1 h2 => ?_⟩
  · rw [htok] at h2
    injection h2 with h2
    have := hgy.tok_lt h1
    omega
  · rw [htok2] at h1
    rw [htok] at h2
    injection h1 with h1
    injection h2 with h2
    omega
/-- a test fits -/
theorem build29_yes {call : CallF} (hc : Calls29 call) {st : St} {rows : List Row} {vs : List AVal} {tok : Tok} {t : Tst} {tc : List AVal} {id B i : Nat} {r : Row} (hr : rows[i]? = some r) (hvs : AllP IsRow vs rows) (ht : IsT (.agg tc) t)
    (h : Inv29 (.list vs tok 2) rows t tc id B i st) (hB : B + 8 * rows.length ≤ 4000) (hid : id < B) (hlen : r.ts.length < 9000) (hpath : ∀ x ∈ r.ts, x.path.length < 9000) {j : Nat} (hsome : r.ts.findIdx? (fun x => sameT x t) = some j) :
    Ev (env sp) call false 29 b29_0 st fun ex s => ex = .normal ∧ Inv29 (.list vs tok 2) rows t tc id B (i + 1) s := by
  obtain ⟨hn', h2, h3, h30, h31, h32, hln, hl0, hid', hHn, hHs, y, h4, n, h5, hy, hgy, hn, hgn, hd⟩ := h
  have hi : i < rows.length := (List.getElem?_eq_some_iff.1 hr).1
  obtain ⟨v, hv, b, rfl, hb⟩ := hvs.get hr
  have hvl := hvs.1
  have hob := hb.one
  have hoy := hgy.one
  have hon := hgn.one
  have e30 := hc.idx b r.ts st.2 id tc t hb hid' ht hlen hpath
  have e12 := hc.has b r.ts
  have hix : idxI (fun x => sameT x t) r.ts = j := by unfold idxI; rw [hsome]
  rw [hix] at e30
  have hj : j < r.ts.length := (List.findIdx?_eq_some_iff_getElem.1 hsome).1
  obtain ⟨ws, tb, rfl, hws⟩ := hb.list (List.getElem?_eq_getElem hj)
  have hwl := hws.1
  obtain ⟨q, hq, e50⟩ := hc.con (.list (ws.take j) .none 5) (.list ((ws.take ws.length).drop (j + 1)) .none 5) (r.ts.take j) (r.ts.drop (j + 1)) .full (.inr ⟨_, _, rfl, by simpa using hws.take j⟩) (.inr ⟨_, _, rfl, by simpa using hws.drop (j + 1)⟩) (by simp; omega)
  have hoq := hq.one
  have hqs : ∃ q', q.strip = q' ∧ IsTs q' (r.ts.take j ++ r.ts.drop (j + 1)) ∧ q'.oneCell = true := by
    rcases hq with ⟨rfl, h⟩ | ⟨us, u, rfl, h⟩
    · exact ⟨_, rfl, .inl ⟨rfl, h⟩, rfl⟩
    · exact ⟨_, rfl, .inr ⟨us, .none, rfl, h⟩, rfl⟩
  obtain ⟨q', hqs, hq', hoq'⟩ := hqs
  obtain ⟨y', H1, eap, hy1, hgy1, hx1, htok, hf1⟩ := app_gr' (P := IsRow) (E := env sp) (T := 106) (e := 109) (sz := 2) (tk := .full) (m := [⟨r.arm, r.ts.take j ++ r.ts.drop (j + 1)⟩]) (by rw [ty106]) (by rw [ty109]; decide) (by rw [ty109]) hgy hy (AllP.cons ⟨q', rfl, hq'⟩ AllP.nil) (by simp) (by omega) hHn (by
    have : (yesRows t (rows.take i)).length ≤ (rows.take i).length := List.length_filterMap_le _ _
    have := List.length_take_le i rows
    simp; omega)
  have hoy1 := hgy1.one
  have hid1 : H1.get id = .cells tc := by
    rw [hf1 id (by omega) (fun hh => ?_)]
    · exact hid'
    · rcases hgy with rfl | ⟨ws, u, rfl, k1, k2, k3⟩
      · cases hh
      · injection hh with hh; omega
  have c0 : (0 ≤ (j : Int)) = True := by simp
  have c1 : ((j : Int) ≤ (ws.length : Int)) = True := by simp; omega
  have c2 : (((j + 1 : Nat) : Int) ≤ (ws.length : Int)) = True := by simp; omega
  have c3 : (0 ≤ ((j + 1 : Nat) : Int)) = True := by simp; omega
  have c4 : decide ((j : Int) ≥ 0) = true := by simp
  have hwj : IntKind.i64.wrap ((j : Int) + 1) = ((j + 1 : Nat) : Int) := wrap_nat (by omega)
  have hi' : ((i : Int) < (rows.length : Int)) = True := by simp [hi]
  have h0' : (0 ≤ (i : Int)) = True := by simp
  have hw : IntKind.i64.wrap ((i : Int) + 1) = ((i + 1 : Nat) : Int) := wrap_nat (by omega)
  have hlv : (i + 1 < 4096) = True := by simp; omega
  have hlv0 : ¬ i + 1 = 0 := by omega
  have hyes : yesRow t r = some ⟨r.arm, r.ts.take j ++ r.ts.drop (j + 1)⟩ := by unfold yesRow; rw [hsome]
  have hno : noRow t r = none := by unfold noRow; rw [hsome]
  simp only [Ev, Inv29, b29_0, o29_8, o29_9, o29_10, o29_11, ↓drw29_12, d29_12, o29_16, hn', h2, h3, h4, h5, h30, h31, h32, hln, hl0, hi', h0', hv, hvl, hlv, hlv0, e30, e50, eap, hw, hwj, c0, c1, c2, c3, c4, hqs, hoq, hoq', hoy, hon, hoy1, sliceA, lenOf, bound, same_int, evalCode, runOps, runD, runDraw, askOf, askRecs, askAll, isEff, muteOp, stepA, wantedA, isCall, target, evalOp, opMove, opPick, opAlloc, opBox, opBuild, opBuildSlice, opLoad, opStore, opNilCheck, opBinOp, opUnOp, opConvert, opMakeFunc, opMakeMap, opSlice, opFieldAddr, opField, opIndexAddr, opLookup, opExtract, opAppendB, opLenB, wrOf, newA, eqlA, keepA, newV, evT, toA, putA, loadA, storeA, takeCells, setCells, isAgg, binA, unA, convA, arith, addOff, dstLen, nilNil, isConst, sameTy, strOp, params, results, packA, AExit.leaves, maxTmp, memN, askIn, fillA, repl, groups, Option.getD, Option.map, List.length, List.all, Int.reduceBEq, Int.reduceBNe, Int.reduceEq, Int.reduceGT, Int.reduceGE, Int.reduceNeg, Int.reduceAdd, Int.reduceSub, Int.reduceLT, Int.reduceLE, Int.reduceToNat, Nat.reduceLT, Nat.reducePow, Nat.reduceAdd, Nat.reduceMul, Nat.reduceLeDiff, Nat.reduceEqDiff, Nat.reduceBEq, reduceIte, ↓reduceIte, reduceCtorEq, syT, tyT, Rg.regF, Rg.findR, pickOps, fT29, Tryz.f29]
  have hty : yesRows t (rows.take (i + 1)) = yesRows t (rows.take i) ++ [⟨r.arm, r.ts.take j ++ r.ts.drop (j + 1)⟩] := by
    rw [List.take_add_one, hr]; simp [yesRows, List.filterMap_append, hyes]
  have htn : noRows t (rows.take (i + 1)) = noRows t (rows.take i) := by
    rw [List.take_add_one, hr]; simp [noRows, List.filterMap_append, hno]
  refine ⟨hid1, by omega, by omega, by rw [hty]; exact hy1, hgy1, by rw [htn]; exact hn, hgn.other (by omega) (fun u h1 h2 => hd u h1 h2) hf1, fun u h1 h2 => ?_⟩
  rw [htok] at h1
  injection h1 with h1
  have := hgn.tok_lt h2
  omega

end
end Go.Rs.Seat
end
/- Package arms: build, the whole. -/
section
namespace Go.Rs.Seat
open Go.Proofs Rg
set_option maxRecDepth 100000
set_option maxHeartbeats 8000000

/-- a step from its body -/
theorem step_ev {sp} {call : CallF} {md : Bool} {f : Nat} {fn : Func} {c : Code} {n : Nat} {args : List AVal} {H : Hp} {rs : List ResultVar} {Post : AVal → Hp → Prop} (hsp : sp md f = none) (hf : Go.Proofs.Tryz.prog.funcs[f]? = some fn) (hb : fn.body = some c) (hrs : fn.results.toList = rs)
    (hla : args.length < maxTmp) (hn : max fn.ntmps args.length = n) (hfrz : (env sp).frz md f = false) (hfrzI : (env sp).frzIn f = false)
    (hev : Ev (env sp) call md f c (⟨params 0 args .nil, ⟨.nil, 0⟩, n⟩, H) fun ex s => ex.leaves = true ∧ ∃ vs, results (env sp) s.1.tm s.1.lv s.2 rs = some vs ∧ Post (packA vs) s.2) :
    ∃ r, callStep (env sp) call md f args H = some r ∧ Post r.1 r.2 := by
  obtain ⟨⟨ex, s⟩, h1, h2, vs, h3, h4⟩ := hev
  refine ⟨(packA vs, s.2), ?_, h4⟩
  have e1 : (env sp).spec md f = none := hsp
  have e2 : (env sp).fn f = some fn := hf
  simp only [callStep, e1, e2, hb, if_pos hla, hn, h1, h2, if_true, hrs, h3, hfrz, hfrzI, Bool.false_eq_true, if_false]

section
variable {sp : Bool → FuncId → Option (List AVal → Hp → Option (AVal × Hp))}
theorem build29_end {call : CallF} {st : St} {rows : List Row} {a : AVal} {t : Tst} {tc : List AVal} {id B : Nat} (h : Inv29 a rows t tc id B rows.length st) :
    Ev (env sp) call false 29 b29_0 st fun ex s => ex = .exit 0 ∧ Inv29 a rows t tc id B rows.length s := by
  obtain ⟨hn', h2, h3, h30, h31, h32, hln, hl0, hid', hHn, hHs, y, h4, n, h5, hy, hgy, hn, hgn, hd⟩ := h
  have hi' : ((rows.length : Int) < (rows.length : Int)) = False := by simp
  simp only [Ev, Inv29, b29_0, o29_8, hn', h2, h3, h4, h5, h30, h31, h32, hln, hl0, hi', evalCode, runOps, runD, runDraw, askOf, askRecs, askAll, isEff, muteOp, stepA, wantedA, isCall, target, evalOp, opMove, opPick, opAlloc, opBox, opBuild, opBuildSlice, opLoad, opStore, opNilCheck, opBinOp, opUnOp, opConvert, opMakeFunc, opMakeMap, opSlice, opFieldAddr, opField, opIndexAddr, opLookup, opExtract, opAppendB, opLenB, wrOf, newA, eqlA, keepA, newV, evT, toA, putA, loadA, storeA, takeCells, setCells, isAgg, binA, unA, convA, arith, addOff, dstLen, nilNil, isConst, sameTy, strOp, params, results, packA, AExit.leaves, maxTmp, memN, askIn, fillA, repl, groups, Option.getD, Option.map, List.length, List.all, Int.reduceBEq, Int.reduceBNe, Int.reduceEq, Int.reduceGT, Int.reduceGE, Int.reduceNeg, Int.reduceAdd, Int.reduceSub, Int.reduceLT, Int.reduceLE, Int.reduceToNat, Nat.reduceLT, Nat.reducePow, Nat.reduceAdd, Nat.reduceMul, Nat.reduceLeDiff, Nat.reduceEqDiff, Nat.reduceBEq, reduceIte, ↓reduceIte, reduceCtorEq, syT, tyT, Rg.regF, Rg.findR, pickOps, fT29, Tryz.f29]
  exact ⟨hid', hHn, hHs, hy, hgy, hn, hgn, hd⟩

/-- rows of a size that fits -/
def RowsOk (rows : List Row) : Prop := rows.length ≤ 400 ∧ ∀ r ∈ rows, r.ts.length < 4000 ∧ ∀ x ∈ r.ts, x.path.length < 9000

theorem yesRow_sub {t : Tst} {r r' : Row} (h : yesRow t r = some r') : r'.ts.length ≤ r.ts.length ∧ ∀ x ∈ r'.ts, x ∈ r.ts := by
  unfold yesRow at h
  split at h
  · injection h with h; subst h
    refine ⟨by simp; omega, fun x hx => ?_⟩
    rcases List.mem_append.1 hx with hx | hx
    · exact List.mem_of_mem_take hx
    · exact List.mem_of_mem_drop hx
  · split at h
    · cases h
    · injection h with h; subst h; exact ⟨Nat.le_refl _, fun _ hx => hx⟩
theorem noRow_sub {t : Tst} {r r' : Row} (h : noRow t r = some r') : r' = r := by
  unfold noRow at h
  split at h
  · cases h
  · injection h with h; exact h.symm
theorem RowsOk.yes {t : Tst} {rows : List Row} (h : RowsOk rows) : RowsOk (yesRows t rows) := by
  refine ⟨Nat.le_trans (List.length_filterMap_le _ _) h.1, fun r' hr' => ?_⟩
  obtain ⟨r, hr, hy⟩ := List.mem_filterMap.1 hr'
  have := yesRow_sub hy
  have := h.2 r hr
  exact ⟨by omega, fun x hx => this.2 x ((yesRow_sub hy).2 x hx)⟩
theorem RowsOk.no {t : Tst} {rows : List Row} (h : RowsOk rows) : RowsOk (noRows t rows) := by
  refine ⟨Nat.le_trans (List.length_filterMap_le _ _) h.1, fun r' hr' => ?_⟩
  obtain ⟨r, hr, hy⟩ := List.mem_filterMap.1 hr'
  rw [noRow_sub hy]
  exact h.2 r hr

theorem build29_loop {call : CallF} (hc : Calls29 call) {st : St} {rows : List Row} {vs : List AVal} {tok : Tok} {t : Tst} {tc : List AVal} {id B : Nat} (hvs : AllP IsRow vs rows) (ht : IsT (.agg tc) t) (hok : RowsOk rows)
    (h : Inv29 (.list vs tok 2) rows t tc id B 0 st) (hB : B + 8 * rows.length ≤ 4000) (hid : id < B) :
    Ev (env sp) call false 29 (.block 0 (.loop b29_0)) st fun ex s => ex = .normal ∧ Inv29 (.list vs tok 2) rows t tc id B rows.length s := by
  refine Ev.block (Ev.loop (Inv := fun i s => Inv29 (.list vs tok 2) rows t tc id B i s) rows.length (by have := hok.1; omega) h fun i st hi hle => ?_)
  by_cases hlt : i < rows.length
  · obtain ⟨r, hr⟩ : ∃ r, rows[i]? = some r := ⟨_, List.getElem?_eq_getElem hlt⟩
    have hrok := hok.2 r (List.mem_of_getElem? hr)
    have key : Ev (env sp) call false 29 b29_0 st fun ex s => ex = .normal ∧ Inv29 (.list vs tok 2) rows t tc id B (i + 1) s := by
      cases hf : r.ts.findIdx? (fun x => sameT x t) with
      | some j => exact build29_yes hc hr hvs ht hi hB hid (by omega) hrok.2 hf
      | none =>
        rcases bool_split (r.ts.any (fun x => decide (x.path = t.path))) with c | c
        · exact build29_no hc hr hvs ht hi hB hid (by omega) hrok.2 hf c
        · exact build29_both hc hr hvs ht hi hB hid (by omega) hrok.2 hf c
    exact key.mono fun ex s hs => .inl ⟨hs.1, hlt, hs.2⟩
  · have : i = rows.length := by omega
    subst this
    exact (build29_end hi).mono fun ex s hs => .inr ⟨by rw [hs.1]; simp, by rw [hs.1]; rfl, hs.2⟩

theorem build29_empty {call : CallF} (h29 : sp false 29 = none) {a : AVal} {H : Hp} (ha : IsRows a []) :
    ∃ r, callStep (env sp) call false 29 [a] H = some r ∧ IsTree (.leaf (-1)) r.1 := by
  have hoa := ha.one
  have hla := ha.len
  refine step_ev (n := 85) (Post := fun v _ => IsTree (.leaf (-1)) v) h29 Tryz.func29 body29 res29 (show 1 < maxTmp by decide) (by kernel_rfl) (frz_29 sp false) (frzIn_29 sp) ?_
  unfold c29
  simp only [List.length_nil] at hla
  simp only [Ev, o29_0, o29_1, o29_2, hoa, ↓hla, evalCode, runOps, runD, runDraw, askOf, askRecs, askAll, isEff, muteOp, stepA, wantedA, isCall, target, evalOp, opMove, opPick, opAlloc, opBox, opBuild, opBuildSlice, opLoad, opStore, opNilCheck, opBinOp, opUnOp, opConvert, opMakeFunc, opMakeMap, opSlice, opFieldAddr, opField, opIndexAddr, opLookup, opExtract, opAppendB, opLenB, wrOf, newA, eqlA, keepA, newV, evT, toA, putA, loadA, storeA, takeCells, setCells, isAgg, binA, unA, convA, arith, addOff, dstLen, nilNil, isConst, sameTy, strOp, params, results, packA, AExit.leaves, maxTmp, memN, askIn, fillA, repl, groups, Option.getD, Option.map, List.length, List.all, Int.reduceBEq, Int.reduceBNe, Int.reduceEq, Int.reduceGT, Int.reduceGE, Int.reduceNeg, Int.reduceAdd, Int.reduceSub, Int.reduceLT, Int.reduceLE, Int.reduceToNat, Nat.reduceLT, Nat.reducePow, Nat.reduceAdd, Nat.reduceMul, Nat.reduceLeDiff, Nat.reduceEqDiff, Nat.reduceBEq, reduceIte, ↓reduceIte, reduceCtorEq, syT, tyT, Rg.regF, Rg.findR, pickOps, fT29, Tryz.f29]
  simp only [IsTree]

theorem build29_leaf {call : CallF} (h29 : sp false 29 = none) {a : AVal} {H : Hp} {r : Row} {rows : List Row} (ha : IsRows a (r :: rows)) (hr : r.ts = []) :
    ∃ x, callStep (env sp) call false 29 [a] H = some x ∧ IsTree (.leaf r.arm) x.1 := by
  obtain ⟨vs, tok, rfl, hvs⟩ := ha.list (i := 0) (x := r) rfl
  obtain ⟨v, hv, b, rfl, hb⟩ := hvs.get (i := 0) (x := r) rfl
  have hvl := hvs.1
  have hob := hb.one
  have hlb := hb.len
  rw [hr] at hlb
  have c0 : ((0 : Int) < ((rows.length + 1 : Nat) : Int)) = True := by simp <;> omega
  have c1 : (((rows.length + 1 : Nat) : Int) == 0) = false := by simp <;> omega
  simp only [List.length_cons] at hvl
  simp only [List.length_nil] at hlb
  refine step_ev (n := 85) (Post := fun v _ => IsTree (.leaf r.arm) v) h29 Tryz.func29 body29 res29 (show 1 < maxTmp by decide) (by kernel_rfl) (frz_29 sp false) (frzIn_29 sp) ?_
  unfold c29
  simp only [Ev, o29_0, o29_1, o29_3, o29_4, hv, hvl, hob, ↓hlb, c0, c1, evalCode, runOps, runD, runDraw, askOf, askRecs, askAll, isEff, muteOp, stepA, wantedA, isCall, target, evalOp, opMove, opPick, opAlloc, opBox, opBuild, opBuildSlice, opLoad, opStore, opNilCheck, opBinOp, opUnOp, opConvert, opMakeFunc, opMakeMap, opSlice, opFieldAddr, opField, opIndexAddr, opLookup, opExtract, opAppendB, opLenB, wrOf, newA, eqlA, keepA, newV, evT, toA, putA, loadA, storeA, takeCells, setCells, isAgg, binA, unA, convA, arith, addOff, dstLen, nilNil, isConst, sameTy, strOp, params, results, packA, AExit.leaves, maxTmp, memN, askIn, fillA, repl, groups, Option.getD, Option.map, List.length, List.all, Int.reduceBEq, Int.reduceBNe, Int.reduceEq, Int.reduceGT, Int.reduceGE, Int.reduceNeg, Int.reduceAdd, Int.reduceSub, Int.reduceLT, Int.reduceLE, Int.reduceToNat, Nat.reduceLT, Nat.reducePow, Nat.reduceAdd, Nat.reduceMul, Nat.reduceLeDiff, Nat.reduceEqDiff, Nat.reduceBEq, reduceIte, ↓reduceIte, reduceCtorEq, syT, tyT, Rg.regF, Rg.findR, pickOps, fT29, Tryz.f29]
  simp only [IsTree]
end
end Go.Rs.Seat
end
/- Package arms: build, a node; the recursion. -/
section
namespace Go.Rs.Seat
open Go.Proofs Rg
set_option maxRecDepth 100000
set_option maxHeartbeats 8000000

theorem ints_same : ∀ (l : List Int), sameAs (ints l) (ints l) = true
  | [] => rfl
  | x :: l => by
    have := ints_same l
    simp only [ints, List.map_cons] at this ⊢
    simp only [sameAs, same_int, this, Bool.and_self]
theorem IsI.same {a l} (h : IsI a l) : sameA a a = true := by
  rcases h with ⟨rfl, -⟩ | ⟨t, rfl⟩
  · simp [sameA]
  · simp [sameA, ints_same]

section
variable {sp : Bool → FuncId → Option (List AVal → Hp → Option (AVal × Hp))}

theorem build29_node {call : CallF} (hc : Calls29 call) (h29 : sp false 29 = none) {n : Nat} {a : AVal} {H : Hp} {r : Row} {rows : List Row} {t : Tst} {ts : List Tst} (ha : IsRows a (r :: rows)) (hts : r.ts = t :: ts) (hok : RowsOk (r :: rows)) (hH : H.next ≤ 500)
    (hrec : ∀ a' rows', IsRows a' rows' → RowsOk rows' → weight rows' < weight (r :: rows) → ∃ v, IsTree (buildT n rows') v ∧ ∀ H, call false 29 [a'] H = some (v, H)) :
    ∃ x, callStep (env sp) call false 29 [a] H = some x ∧ IsTree (.node t (buildT n (yesRows t (r :: rows))) (buildT n (noRows t (r :: rows)))) x.1 := by
  obtain ⟨vs, tok, rfl, hvs⟩ := ha.list (i := 0) (x := r) rfl
  obtain ⟨v, hv, b, rfl, hb⟩ := hvs.get (i := 0) (x := r) rfl
  obtain ⟨ws, tb, rfl, hws⟩ := hb.list (i := 0) (x := t) (by rw [hts]; rfl)
  obtain ⟨w, hw, hT⟩ := hws.get (i := 0) (x := t) (by rw [hts]; rfl)
  have hT' := hT
  obtain ⟨pa, rfl, hpa⟩ := hT
  have hvl := hvs.1
  have hwl := hws.1
  have hop := hpa.one
  have hrl := hok.1
  rw [hts] at hwl
  simp only [List.length_cons] at hvl hwl hrl
  have c0 : ((0 : Int) < ((rows.length + 1 : Nat) : Int)) = True := by simp <;> omega
  have c1 : (((rows.length + 1 : Nat) : Int) == 0) = false := by simp <;> omega
  have c2 : ((0 : Int) < ((ts.length + 1 : Nat) : Int)) = True := by simp <;> omega
  have c3 : (((ts.length + 1 : Nat) : Int) == 0) = false := by simp <;> omega
  have hH1 : (H.next < 4096) = True := by simp <;> omega
  have hH1' : H.next < 4096 := by omega
  have g1 : ∀ o, (H.alloc o).2.get H.next = o := fun o => by rw [hnew hH1', if_pos rfl]
  refine step_ev (n := 85) (Post := fun v _ => IsTree (.node t (buildT n (yesRows t (r :: rows))) (buildT n (noRows t (r :: rows)))) v) h29 Tryz.func29 body29 res29 (show 1 < maxTmp by decide) (by kernel_rfl) (frz_29 sp false) (frzIn_29 sp) ?_
  unfold c29
  refine Ev.seqN (Q := fun s => s.1.n = 85 ∧ s.2 = H ∧ s.1.tm.get 0 = some (.list vs tok 2) ∧ s.1.tm.get 2 = some (.lptr 0 0) ∧ s.1.lv.next = 1 ∧ s.1.lv.get 0 = some [.bool false, .int .i64 0, .nilslice, .int .i64 0, .int .i64 0, .str ⟨#[]⟩, .nilslice, .nilslice, .nilslice]) ?_ ?_
  · simp only [Ev, o29_0, evalCode, runOps, runD, runDraw, askOf, askRecs, askAll, isEff, muteOp, stepA, wantedA, isCall, target, evalOp, opMove, opPick, opAlloc, opBox, opBuild, opBuildSlice, opLoad, opStore, opNilCheck, opBinOp, opUnOp, opConvert, opMakeFunc, opMakeMap, opSlice, opFieldAddr, opField, opIndexAddr, opLookup, opExtract, opAppendB, opLenB, wrOf, newA, eqlA, keepA, newV, evT, toA, putA, loadA, storeA, takeCells, setCells, isAgg, binA, unA, convA, arith, addOff, dstLen, nilNil, isConst, sameTy, strOp, params, results, packA, AExit.leaves, maxTmp, memN, askIn, fillA, repl, groups, Option.getD, Option.map, List.length, List.all, Int.reduceBEq, Int.reduceBNe, Int.reduceEq, Int.reduceGT, Int.reduceGE, Int.reduceNeg, Int.reduceAdd, Int.reduceSub, Int.reduceLT, Int.reduceLE, Int.reduceToNat, Nat.reduceLT, Nat.reducePow, Nat.reduceAdd, Nat.reduceMul, Nat.reduceLeDiff, Nat.reduceEqDiff, Nat.reduceBEq, reduceIte, ↓reduceIte, reduceCtorEq, syT, tyT, Rg.regF, Rg.findR, pickOps, fT29, Tryz.f29]
  rintro s ⟨a1, a2, a3, a4, a5, a6⟩
  refine Ev.seqN (Q := fun s => s.1.n = 85 ∧ s.2 = H ∧ s.1.tm.get 0 = some (.list vs tok 2) ∧ s.1.tm.get 2 = some (.lptr 0 0) ∧ s.1.lv.next = 1 ∧ s.1.lv.get 0 = some [.bool false, .int .i64 0, .nilslice, .int .i64 0, .int .i64 0, .str ⟨#[]⟩, .nilslice, .nilslice, .nilslice]) ?_ ?_
  · simp only [Ev, o29_1, a1, a2, a3, a4, a5, a6, hvl, c1, evalCode, runOps, runD, runDraw, askOf, askRecs, askAll, isEff, muteOp, stepA, wantedA, isCall, target, evalOp, opMove, opPick, opAlloc, opBox, opBuild, opBuildSlice, opLoad, opStore, opNilCheck, opBinOp, opUnOp, opConvert, opMakeFunc, opMakeMap, opSlice, opFieldAddr, opField, opIndexAddr, opLookup, opExtract, opAppendB, opLenB, wrOf, newA, eqlA, keepA, newV, evT, toA, putA, loadA, storeA, takeCells, setCells, isAgg, binA, unA, convA, arith, addOff, dstLen, nilNil, isConst, sameTy, strOp, params, results, packA, AExit.leaves, maxTmp, memN, askIn, fillA, repl, groups, Option.getD, Option.map, List.length, List.all, Int.reduceBEq, Int.reduceBNe, Int.reduceEq, Int.reduceGT, Int.reduceGE, Int.reduceNeg, Int.reduceAdd, Int.reduceSub, Int.reduceLT, Int.reduceLE, Int.reduceToNat, Nat.reduceLT, Nat.reducePow, Nat.reduceAdd, Nat.reduceMul, Nat.reduceLeDiff, Nat.reduceEqDiff, Nat.reduceBEq, reduceIte, ↓reduceIte, reduceCtorEq, syT, tyT, Rg.regF, Rg.findR, pickOps, fT29, Tryz.f29]
  clear a1 a2 a3 a4 a5 a6
  rintro s ⟨a1, a2, a3, a4, a5, a6⟩
  refine Ev.seqN (Q := fun s => s.1.n = 85 ∧ s.2 = H ∧ s.1.tm.get 0 = some (.list vs tok 2) ∧ s.1.tm.get 2 = some (.lptr 0 0) ∧ s.1.lv.next = 1 ∧ s.1.lv.get 0 = some [.bool false, .int .i64 0, .nilslice, .int .i64 0, .int .i64 0, .str ⟨#[]⟩, .nilslice, .nilslice, .nilslice]) ?_ ?_
  · simp only [Ev, o29_3, a1, a2, a3, a4, a5, a6, hv, hvl, hwl, c0, c3, evalCode, runOps, runD, runDraw, askOf, askRecs, askAll, isEff, muteOp, stepA, wantedA, isCall, target, evalOp, opMove, opPick, opAlloc, opBox, opBuild, opBuildSlice, opLoad, opStore, opNilCheck, opBinOp, opUnOp, opConvert, opMakeFunc, opMakeMap, opSlice, opFieldAddr, opField, opIndexAddr, opLookup, opExtract, opAppendB, opLenB, wrOf, newA, eqlA, keepA, newV, evT, toA, putA, loadA, storeA, takeCells, setCells, isAgg, binA, unA, convA, arith, addOff, dstLen, nilNil, isConst, sameTy, strOp, params, results, packA, AExit.leaves, maxTmp, memN, askIn, fillA, repl, groups, Option.getD, Option.map, List.length, List.all, Int.reduceBEq, Int.reduceBNe, Int.reduceEq, Int.reduceGT, Int.reduceGE, Int.reduceNeg, Int.reduceAdd, Int.reduceSub, Int.reduceLT, Int.reduceLE, Int.reduceToNat, Nat.reduceLT, Nat.reducePow, Nat.reduceAdd, Nat.reduceMul, Nat.reduceLeDiff, Nat.reduceEqDiff, Nat.reduceBEq, reduceIte, ↓reduceIte, reduceCtorEq, syT, tyT, Rg.regF, Rg.findR, pickOps, fT29, Tryz.f29]
  clear a1 a2 a3 a4 a5 a6
  rintro s ⟨a1, a2, a3, a4, a5, a6⟩
  refine Ev.seqN (Q := fun s => s.1.n = 85 ∧ s.2 = ((H.alloc (.cells [.nilslice, .int .i64 0, .int .i64 0, .str ⟨#[]⟩, .nilslice])).2.set H.next (.cells [pa, .int .i64 t.k, .int .i64 t.n, .str t.s, .nilslice])) ∧ s.1.tm.get 0 = some (.list vs tok 2) ∧ s.1.tm.get 2 = some (.lptr 0 0) ∧ s.1.tm.get 3 = some (.ptr H.next 0) ∧ s.1.lv.next = 1 ∧ s.1.lv.get 0 = some [.bool false, .int .i64 0, .nilslice, .int .i64 0, .int .i64 0, .str ⟨#[]⟩, .nilslice, .nilslice, .nilslice]) ?_ ?_
  · simp only [Ev, o29_5, a1, a2, a3, a4, a5, a6, hv, hvl, hw, hwl, hop, c0, c2, hH1, g1, evalCode, runOps, runD, runDraw, askOf, askRecs, askAll, isEff, muteOp, stepA, wantedA, isCall, target, evalOp, opMove, opPick, opAlloc, opBox, opBuild, opBuildSlice, opLoad, opStore, opNilCheck, opBinOp, opUnOp, opConvert, opMakeFunc, opMakeMap, opSlice, opFieldAddr, opField, opIndexAddr, opLookup, opExtract, opAppendB, opLenB, wrOf, newA, eqlA, keepA, newV, evT, toA, putA, loadA, storeA, takeCells, setCells, isAgg, binA, unA, convA, arith, addOff, dstLen, nilNil, isConst, sameTy, strOp, params, results, packA, AExit.leaves, maxTmp, memN, askIn, fillA, repl, groups, Option.getD, Option.map, List.length, List.all, Int.reduceBEq, Int.reduceBNe, Int.reduceEq, Int.reduceGT, Int.reduceGE, Int.reduceNeg, Int.reduceAdd, Int.reduceSub, Int.reduceLT, Int.reduceLE, Int.reduceToNat, Nat.reduceLT, Nat.reducePow, Nat.reduceAdd, Nat.reduceMul, Nat.reduceLeDiff, Nat.reduceEqDiff, Nat.reduceBEq, reduceIte, ↓reduceIte, reduceCtorEq, syT, tyT, Rg.regF, Rg.findR, pickOps, fT29, Tryz.f29]
  clear a1 a2 a3 a4 a5 a6
  rintro s ⟨a1, a2, a3, a4, a7, a5, a6⟩
  generalize hK : ((H.alloc (.cells [.nilslice, .int .i64 0, .int .i64 0, .str ⟨#[]⟩, .nilslice])).2.set H.next (.cells [pa, .int .i64 t.k, .int .i64 t.n, .str t.s, .nilslice])) = K at a2
  have hKn : K.next = H.next + 1 := by rw [← hK, stN, alN]
  have hKg : K.get H.next = .cells [pa, .int .i64 t.k, .int .i64 t.n, .str t.s, .nilslice] := by rw [← hK, hget hH1', if_pos rfl]
  refine Ev.seqN (Q := fun s => s.1.n = 85 ∧ s.2 = K ∧ s.1.tm.get 0 = some (.list vs tok 2) ∧ s.1.tm.get 2 = some (.lptr 0 0) ∧ s.1.tm.get 3 = some (.ptr H.next 0) ∧ s.1.tm.get 4 = some .nilslice ∧ s.1.tm.get 5 = some .nilslice ∧ s.1.lv.next = 1 ∧ s.1.lv.get 0 = some [.bool false, .int .i64 0, .nilslice, .int .i64 0, .int .i64 0, .str ⟨#[]⟩, .nilslice, .nilslice, .nilslice]) ?_ ?_
  · simp only [Ev, o29_6, a1, a2, a3, a4, a5, a6, a7, evalCode, runOps, runD, runDraw, askOf, askRecs, askAll, isEff, muteOp, stepA, wantedA, isCall, target, evalOp, opMove, opPick, opAlloc, opBox, opBuild, opBuildSlice, opLoad, opStore, opNilCheck, opBinOp, opUnOp, opConvert, opMakeFunc, opMakeMap, opSlice, opFieldAddr, opField, opIndexAddr, opLookup, opExtract, opAppendB, opLenB, wrOf, newA, eqlA, keepA, newV, evT, toA, putA, loadA, storeA, takeCells, setCells, isAgg, binA, unA, convA, arith, addOff, dstLen, nilNil, isConst, sameTy, strOp, params, results, packA, AExit.leaves, maxTmp, memN, askIn, fillA, repl, groups, Option.getD, Option.map, List.length, List.all, Int.reduceBEq, Int.reduceBNe, Int.reduceEq, Int.reduceGT, Int.reduceGE, Int.reduceNeg, Int.reduceAdd, Int.reduceSub, Int.reduceLT, Int.reduceLE, Int.reduceToNat, Nat.reduceLT, Nat.reducePow, Nat.reduceAdd, Nat.reduceMul, Nat.reduceLeDiff, Nat.reduceEqDiff, Nat.reduceBEq, reduceIte, ↓reduceIte, reduceCtorEq, syT, tyT, Rg.regF, Rg.findR, pickOps, fT29, Tryz.f29]
  clear a1 a2 a3 a4 a5 a6 a7
  rintro s ⟨a1, a2, a3, a4, a7, a8, a9, a5, a6⟩
  refine Ev.seqN (Q := fun s => Inv29 (.list vs tok 2) (r :: rows) t [pa, .int .i64 t.k, .int .i64 t.n, .str t.s, .nilslice] H.next (H.next + 1) (r :: rows).length s) ?_ ?_
  · refine Ev.seqN (Q := fun s => Inv29 (.list vs tok 2) (r :: rows) t [pa, .int .i64 t.k, .int .i64 t.n, .str t.s, .nilslice] H.next (H.next + 1) 0 s) ?_ ?_
    · simp only [Ev, Inv29, o29_7, a1, a2, a3, a4, a5, a6, a7, a8, a9, hvl, evalCode, runOps, runD, runDraw, askOf, askRecs, askAll, isEff, muteOp, stepA, wantedA, isCall, target, evalOp, opMove, opPick, opAlloc, opBox, opBuild, opBuildSlice, opLoad, opStore, opNilCheck, opBinOp, opUnOp, opConvert, opMakeFunc, opMakeMap, opSlice, opFieldAddr, opField, opIndexAddr, opLookup, opExtract, opAppendB, opLenB, wrOf, newA, eqlA, keepA, newV, evT, toA, putA, loadA, storeA, takeCells, setCells, isAgg, binA, unA, convA, arith, addOff, dstLen, nilNil, isConst, sameTy, strOp, params, results, packA, AExit.leaves, maxTmp, memN, askIn, fillA, repl, groups, Option.getD, Option.map, List.length, List.all, Int.reduceBEq, Int.reduceBNe, Int.reduceEq, Int.reduceGT, Int.reduceGE, Int.reduceNeg, Int.reduceAdd, Int.reduceSub, Int.reduceLT, Int.reduceLE, Int.reduceToNat, Nat.reduceLT, Nat.reducePow, Nat.reduceAdd, Nat.reduceMul, Nat.reduceLeDiff, Nat.reduceEqDiff, Nat.reduceBEq, reduceIte, ↓reduceIte, reduceCtorEq, syT, tyT, Rg.regF, Rg.findR, pickOps, fT29, Tryz.f29]
      exact ⟨hKg, by omega, by omega, .inl ⟨rfl, rfl⟩, .nil, .inl ⟨rfl, rfl⟩, .nil, fun u h => by cases h⟩
    intro s hs
    exact build29_loop hc hvs hT' hok hs (by simp only [List.length_cons]; omega) (by omega)
  clear a1 a2 a3 a4 a5 a6 a7 a8 a9
  rintro s ⟨hn', h2, h3, h30, h31, h32, hln, hl0, hid', hHn, hHs, y, h4, no, h5, hy, hgy, hno, hgn, hd⟩
  rw [List.take_length] at hy hno
  simp only [List.length_cons] at hHs
  have hpl : t.path.length < 9000 := (hok.2 r (by simp)).2 t (by rw [hts]; simp)
  obtain ⟨q, H1, e47, hq, hq1, hq2, hq3⟩ := hc.clo pa t.path s.2 hpa hpl (by omega)
  have hoq := hq.one
  have hid1 : H1.get H.next = .cells [pa, .int .i64 t.k, .int .i64 t.n, .str t.s, .nilslice] := by rw [hq3 _ (by omega)]; exact hid'
  have hoy := hgy.one
  have hon := hgn.one
  refine Ev.seqN (Q := fun s => s.1.n = 85 ∧ s.2 = H1.set H.next (.cells [q, .int .i64 t.k, .int .i64 t.n, .str t.s, .nilslice]) ∧ s.1.tm.get 2 = some (.lptr 0 0) ∧ s.1.tm.get 3 = some (.ptr H.next 0) ∧ s.1.tm.get 4 = some y ∧ s.1.tm.get 5 = some no ∧ s.1.lv.get 0 = some [.bool false, .int .i64 0, .nilslice, .int .i64 0, .int .i64 0, .str ⟨#[]⟩, .nilslice, .nilslice, .nilslice]) ?_ ?_
  · simp only [Ev, o29_17, hn', h2, h3, h4, h5, hl0, hid', hid1, e47, hop, hoq, evalCode, runOps, runD, runDraw, askOf, askRecs, askAll, isEff, muteOp, stepA, wantedA, isCall, target, evalOp, opMove, opPick, opAlloc, opBox, opBuild, opBuildSlice, opLoad, opStore, opNilCheck, opBinOp, opUnOp, opConvert, opMakeFunc, opMakeMap, opSlice, opFieldAddr, opField, opIndexAddr, opLookup, opExtract, opAppendB, opLenB, wrOf, newA, eqlA, keepA, newV, evT, toA, putA, loadA, storeA, takeCells, setCells, isAgg, binA, unA, convA, arith, addOff, dstLen, nilNil, isConst, sameTy, strOp, params, results, packA, AExit.leaves, maxTmp, memN, askIn, fillA, repl, groups, Option.getD, Option.map, List.length, List.all, Int.reduceBEq, Int.reduceBNe, Int.reduceEq, Int.reduceGT, Int.reduceGE, Int.reduceNeg, Int.reduceAdd, Int.reduceSub, Int.reduceLT, Int.reduceLE, Int.reduceToNat, Nat.reduceLT, Nat.reducePow, Nat.reduceAdd, Nat.reduceMul, Nat.reduceLeDiff, Nat.reduceEqDiff, Nat.reduceBEq, reduceIte, ↓reduceIte, reduceCtorEq, syT, tyT, Rg.regF, Rg.findR, pickOps, fT29, Tryz.f29]
  clear hn' h2 h3 h30 h31 h32 hln hl0 h4 h5
  rintro s ⟨hn', hK2, h2, h3, h4, h5, hl0⟩
  generalize hL : H1.set H.next (.cells [q, .int .i64 t.k, .int .i64 t.n, .str t.s, .nilslice]) = L at hK2
  have hLg : L.get H.next = .cells [q, .int .i64 t.k, .int .i64 t.n, .str t.s, .nilslice] := by rw [← hL, hget hH1', if_pos rfl]
  have hsm : sameA (.agg [q, .int .i64 t.k, .int .i64 t.n, .str t.s, .nilslice]) (.agg [q, .int .i64 t.k, .int .i64 t.n, .str t.s, .nilslice]) = true := by
    simp [sameA, sameAs, hq.same]
  obtain ⟨vy, hvy, ey⟩ := hrec y _ hy hok.yes (yes_less hts)
  obtain ⟨vn, hvn, en⟩ := hrec no _ hno hok.no (no_less hts)
  have eyL := ey L
  have enL := en L
  obtain ⟨y0, y1, y2, y3, y4, y5, y6, y7, y8, rfl, p0, p1, p2, p3, p4, p5, p6, p7, p8⟩ := hvy.cells
  obtain ⟨n0, n1, n2, n3, n4, n5, n6, n7, n8, rfl, q0, q1, q2, q3, q4, q5, q6, q7, q8⟩ := hvn.cells
  simp only [Ev, ↓drw29_18, d29_18, hn', hK2, h2, h3, h4, h5, hl0, hLg, eyL, enL, hoy, hon, hoq, p0, p1, p2, p3, p4, p5, p6, p7, p8, q0, q1, q2, q3, q4, q5, q6, q7, q8, hsm, List.take, List.drop, evalCode, runOps, runD, runDraw, askOf, askRecs, askAll, isEff, muteOp, stepA, wantedA, isCall, target, evalOp, opMove, opPick, opAlloc, opBox, opBuild, opBuildSlice, opLoad, opStore, opNilCheck, opBinOp, opUnOp, opConvert, opMakeFunc, opMakeMap, opSlice, opFieldAddr, opField, opIndexAddr, opLookup, opExtract, opAppendB, opLenB, wrOf, newA, eqlA, keepA, newV, evT, toA, putA, loadA, storeA, takeCells, setCells, isAgg, binA, unA, convA, arith, addOff, dstLen, nilNil, isConst, sameTy, strOp, params, results, packA, AExit.leaves, maxTmp, memN, askIn, fillA, repl, groups, Option.getD, Option.map, List.length, List.all, Int.reduceBEq, Int.reduceBNe, Int.reduceEq, Int.reduceGT, Int.reduceGE, Int.reduceNeg, Int.reduceAdd, Int.reduceSub, Int.reduceLT, Int.reduceLE, Int.reduceToNat, Nat.reduceLT, Nat.reducePow, Nat.reduceAdd, Nat.reduceMul, Nat.reduceLeDiff, Nat.reduceEqDiff, Nat.reduceBEq, reduceIte, ↓reduceIte, reduceCtorEq, syT, tyT, Rg.regF, Rg.findR, pickOps, fT29, Tryz.f29]
  exact ⟨q, _, _, _, _, rfl, hq, hvy, hvn⟩
end
end Go.Rs.Seat
end
/- Package arms: build by a contract; Of. -/
section
namespace Go.Rs.Seat
open Go.Proofs Rg
set_option maxRecDepth 100000
set_option maxHeartbeats 8000000

theorem call_tab {sp : Bool → FuncId → Option (List AVal → Hp → Option (AVal × Hp))} {k : Nat} {md : Bool} {f : Nat} {s : List AVal → Hp → Option (AVal × Hp)} {args : List AVal} {H : Hp} (h : sp md f = some s) : evalCall (env sp) (k + 1) md f args H = s args H := by
  rw [evalCall]
  have e : (env sp).spec md f = some s := h
  simp only [e]

noncomputable section
/-- Concat for itself -/
def spB : Sp := [(50, pureS 4 (evalCall (env (ofSp [])) 8 false 50))]
theorem spB_ok : SpOk spB := .cons (pureS_ok (globs _) (by decide) (call_ok (toldSp .nil) 8 false 50)) .nil

/-- build's calls -/
def recCall (R : List AVal → Hp → Option (AVal × Hp)) : CallF := fun md f a H => if f = 29 then R a H else evalCall (env (ofSp spB)) 9 md f a H

/-- build -/
def recS : Nat → List AVal → Hp → Option (AVal × Hp)
  | 0 => fun _ _ => none
  | n + 1 => pureS 4 (callStep (env (ofSp spB)) (recCall (recS n)) false 29)

theorem recCall_ok {R} (h : CallAt Tryz.prog (env noSpec) 29 R) : CallsOk Tryz.prog (env (ofSp spB)) (recCall R) := by
  intro md f
  by_cases hf : f = 29
  · subst hf
    exact h
  · have : recCall R md f = evalCall (env (ofSp spB)) 9 md f := by
      funext a H
      unfold recCall
      rw [if_neg hf]
    rw [this]
    exact call_ok (toldSp spB_ok) 9 md f

theorem recS_ok : ∀ n, CallAt Tryz.prog (env noSpec) 29 (recS n)
  | 0 => fun args H r H' h => by cases h
  | n + 1 => pureS_ok (globs _) (by decide) (step_ok (toldSp spB_ok) (recCall_ok (recS_ok n)) false 29)
end

theorem con_pure {a b : AVal} {ts us : List Tst} {tok : Tok} (ha : IsTs a ts) (hb : IsTs b us) (hl : ts.length + us.length < 9000) :
    ∃ r, IsTs r (ts ++ us) ∧ ∀ H, pureS 4 (evalCall (env (ofSp [])) 8 false 50) [.list [a, b] tok 1] H = some (r, H) := by
  obtain ⟨a', ha1, ha2⟩ := IsTs.ren _ _ ha
  obtain ⟨b', hb1, hb2⟩ := IsTs.ren _ _ hb
  obtain ⟨r, H', h1, h2⟩ := concat50 (sp := ofSp []) (k := 6) (H := ⟨.nil, 4⟩) (tok := renT nope tok) rfl rfl ha2 hb2 (by omega) (by decide)
  obtain ⟨r', hr1, hr2⟩ := IsTs.ren _ _ h2
  refine ⟨r', hr2, pureS_eq ?_ h1 hr1⟩
  simp only [renAs, renA, ha1, hb1, Bool.not_false, Bool.true_or, if_true]

theorem calls29 (R : List AVal → Hp → Option (AVal × Hp)) : Calls29 (recCall R) where
  idx := fun a ts H id tc t ha hH ht hl hp => by
    show (if (30 : Nat) = 29 then _ else _) = _
    rw [if_neg (by decide)]
    exact idx30 (k := 8) rfl ha hl rfl (fun v u hv hu => clo48 (k := 5) rfl rfl rfl hv ht (hp u hu) hH)
  has := fun a ts H id tc t ha hH ht hl hp => by
    show (if (12 : Nat) = 29 then _ else _) = _
    rw [if_neg (by decide)]
    exact has12 (k := 7) (p := fun x => decide (x.path = t.path)) rfl rfl ha hl rfl (fun v u hv hu => clo51 (k := 5) rfl rfl hv ht (hp u hu) hH)
  con := fun a b ts us tok ha hb hl => by
    obtain ⟨r, hr, h⟩ := con_pure (tok := tok) ha hb hl
    refine ⟨r, hr, fun H => ?_⟩
    show (if (50 : Nat) = 29 then _ else _) = _
    rw [if_neg (by decide), call_tab (k := 8) (s := pureS 4 (evalCall (env (ofSp [])) 8 false 50)) rfl]
    exact h H
  clo := fun a l H ha hl hH => by
    obtain ⟨r, H', h1, h2, -, h3, h4, h5⟩ := clone47 (sp := ofSp spB) (k := 8) (B := 0) (H := H) rfl ha (by omega) (Nat.zero_le _) hl
    refine ⟨r, H', ?_, h2, h3, h4, h5⟩
    show (if (47 : Nat) = 29 then _ else _) = _
    rw [if_neg (by decide)]
    exact h1

theorem weight_pos {rows : List Row} (h : weight rows ≤ 0) : rows = [] := by
  cases rows with
  | nil => rfl
  | cons r l => simp only [weight] at h; omega

theorem tree_pure {a : AVal} {rows : List Row} {T : Tree} {n : Nat} (ha : IsRows a rows) (h : ∀ a', IsRows a' rows → ∃ x, callStep (env (ofSp spB)) (recCall (recS n)) false 29 [a'] ⟨.nil, 4⟩ = some x ∧ IsTree T x.1) :
    ∃ v, IsTree T v ∧ ∀ H, recS (n + 1) [a] H = some (v, H) := by
  obtain ⟨a', h1, h2⟩ := IsRows.ren _ _ ha
  obtain ⟨⟨v, H'⟩, h3, h4⟩ := h a' h2
  obtain ⟨v', h5, h6⟩ := IsTree.ren _ _ h4
  refine ⟨v', h6, fun H => ?_⟩
  show pureS 4 (callStep (env (ofSp spB)) (recCall (recS n)) false 29) [a] H = _
  exact pureS_eq (by simp only [renAs, h1]) h3 h5 H

/-- build makes the tree of the rows -/
theorem tree29 : ∀ (n : Nat) (a : AVal) (rows : List Row), IsRows a rows → RowsOk rows → weight rows ≤ n → ∃ v, IsTree (buildT n rows) v ∧ ∀ H, recS (n + 1) [a] H = some (v, H)
  | 0, a, rows, ha, hok, hw => by
    have := weight_pos hw
    subst this
    exact tree_pure ha fun a' h => build29_empty rfl h
  | n + 1, a, [], ha, hok, hw => tree_pure ha fun a' h => build29_empty rfl h
  | n + 1, a, r :: rows, ha, hok, hw => by
    refine tree_pure ha fun a' h => ?_
    cases hts : r.ts with
    | nil =>
      have e : buildT (n + 1) (r :: rows) = .leaf r.arm := by simp only [buildT, hts]
      rw [e]
      exact build29_leaf rfl h hts
    | cons t ts =>
      have e : buildT (n + 1) (r :: rows) = .node t (buildT n (yesRows t (r :: rows))) (buildT n (noRows t (r :: rows))) := by simp only [buildT, hts]
      rw [e]
      refine build29_node (calls29 _) rfl h hts hok (by decide) fun a2 rows2 h2 hok2 hw2 => ?_
      obtain ⟨v, hv, hr⟩ := tree29 n a2 rows2 h2 hok2 (by omega)
      exact ⟨v, hv, fun H => hr H⟩

/-- the rows of patterns -/
def rowsOf : List Nd → Nat → List Row
  | [], _ => []
  | x :: l, i => ⟨i, testsT x []⟩ :: rowsOf l (i + 1)

theorem rowsOf_len : ∀ (l : List Nd) (i : Nat), (rowsOf l i).length = l.length
  | [], _ => rfl
  | x :: l, i => by simp [rowsOf, rowsOf_len l (i + 1)]
theorem rowsOf_get : ∀ {l : List Nd} {i : Nat} {x : Nd} {s : Nat}, l[i]? = some x → rowsOf (l.take (i + 1)) s = rowsOf (l.take i) s ++ [⟨((s + i : Nat) : Int), testsT x []⟩]
  | [], i, x, s, h => by simp at h
  | y :: l, 0, x, s, h => by simp at h; subst h; simp [rowsOf]
  | y :: l, i + 1, x, s, h => by
    have := rowsOf_get (l := l) (i := i) (x := x) (s := s + 1) (by simpa using h)
    simp only [List.take_succ_cons, rowsOf, this, List.cons_append]
    rw [show s + 1 + i = s + (i + 1) by omega]
theorem rowsOf_mem : ∀ {l : List Nd} {s : Nat} {r : Row}, r ∈ rowsOf l s → ∃ x ∈ l, r.ts = testsT x []
  | [], s, r, h => by simp [rowsOf] at h
  | y :: l, s, r, h => by
    simp only [rowsOf, List.mem_cons] at h
    rcases h with rfl | h
    · exact ⟨y, by simp, rfl⟩
    · obtain ⟨x, hx, e⟩ := rowsOf_mem h
      exact ⟨x, by simp [hx], e⟩

mutual
theorem testsT_path : ∀ (x : Nd) (path : List Int) (u : Tst), u ∈ testsT x path → u.path.length ≤ path.length + x.size
  | .mk k n s l, path, u, h => by
    simp only [testsT] at h
    split at h
    · simp at h; subst h; simp
    · split at h
      · simp at h; subst h; simp
      · split at h
        · simp at h; subst h; simp
        · split at h
          · simp only [List.mem_cons] at h
            rcases h with rfl | h
            · simp
            · have := testsL_path l path 0 u h
              simp only [Nd.size]
              omega
          · cases h
theorem testsL_path : ∀ (l : List Nd) (path : List Int) (i : Nat) (u : Tst), u ∈ testsL l path i → u.path.length ≤ path.length + 1 + Nd.sizes l
  | [], _, _, u, h => by simp [testsL] at h
  | x :: l, path, i, u, h => by
    simp only [testsL, List.mem_append] at h
    rcases h with h | h
    · have := testsT_path x _ u h
      simp only [List.length_append, List.length_cons, List.length_nil, Nd.sizes] at this ⊢
      omega
    · have := testsL_path l path (i + 1) u h
      simp only [Nd.sizes]
      omega
end
end Go.Rs.Seat
end
/- Package arms: Of. -/
section
namespace Go.Rs.Seat
open Go.Proofs Rg
set_option maxRecDepth 100000
set_option maxHeartbeats 8000000

section
variable {sp : Bool → FuncId → Option (List AVal → Hp → Option (AVal × Hp))}

def Inv11 (a : AVal) (ps : List Nd) (H0 : Hp) (i : Nat) (st : St) : Prop :=
  st.1.n = 23 ∧ st.1.tm.get 2 = some (.lptr 0 0) ∧ st.1.tm.get 6 = some a ∧ st.1.tm.get 7 = some (.int .i64 ps.length) ∧ st.1.tm.get 8 = some (.int .i64 i) ∧ st.1.lv.next = i + 1 ∧
    st.1.lv.get 0 = some [.bool false, .int .i64 0, .nilslice, .int .i64 0, .int .i64 0, .str ⟨#[]⟩, .nilslice, .nilslice, .nilslice] ∧
    H0.next ≤ st.2.next ∧ st.2.next ≤ H0.next + 5 * Nd.sizes (ps.take i) ∧
    ∃ y, st.1.tm.get 3 = some y ∧ IsRows y (rowsOf (ps.take i) 0) ∧ Gr H0.next 2 y st.2

theorem of11_step {k : Nat} {st : St} {H0 : Hp} {vs : List AVal} {tok : Tok} {ps : List Nd} {x : Nd} {i : Nat} (h28 : sp false 28 = none) (h47 : sp false 47 = none) (hx : ps[i]? = some x) (hvs : AllP (fun v x => IsN x v) vs ps) (hk : x.size + 1 ≤ k)
    (h : Inv11 (.list vs tok 4) ps H0 i st) (hs : H0.next + 5 * Nd.sizes ps ≤ 4000) (hxs : Nd.sizes ps ≤ 700) :
    Ev (env sp) (evalCall (env sp) k) false 11 b11_0 st fun ex s => ex = .normal ∧ Inv11 (.list vs tok 4) ps H0 (i + 1) s := by
  obtain ⟨hn', h2, h6, h7, h8, hln, hl0, hHn, hHs, y, h3, hy, hgy⟩ := h
  have hi : i < ps.length := (List.getElem?_eq_some_iff.1 hx).1
  have hpl := sizes_len ps
  have hst := sizes_take ps (i + 1)
  have hsz := sizes_get hx
  obtain ⟨v, hv, hN⟩ := hvs.get hx
  have hvl := hvs.1
  obtain ⟨r, H1, e28, hr, hm1, hm2, hfr⟩ := tests28 h28 h47 x.size x (Nat.le_refl _) k hk v .nilslice [] st.2 hN (.inl ⟨rfl, rfl⟩) (by simp; omega) (by omega) (by omega)
  obtain ⟨b, rfl, hb⟩ := hN.cells
  have hob := hb.one
  have hor := hr.one
  have hoy := hgy.one
  have hrs : ∃ r', r.strip = r' ∧ IsTs r' (testsT x []) ∧ r'.oneCell = true := by
    rcases hr with ⟨rfl, h⟩ | ⟨us, u, rfl, h⟩
    · exact ⟨_, rfl, .inl ⟨rfl, h⟩, rfl⟩
    · exact ⟨_, rfl, .inr ⟨us, .none, rfl, h⟩, rfl⟩
  obtain ⟨r', hrs, hr', hor'⟩ := hrs
  have hgy1 : Gr H0.next 2 y H1 := hgy.keep hm1 hfr
  obtain ⟨y', H2, eap, hy1, hgy2, hx1, htok, hf1⟩ := app_gr' (P := IsRow) (E := env sp) (T := 106) (e := 109) (sz := 2) (tk := .full) (m := [⟨(i : Int), testsT x []⟩]) (by rw [ty106]) (by rw [ty109]; decide) (by rw [ty109]) hgy1 hy (AllP.cons ⟨r', rfl, hr'⟩ AllP.nil) (by simp) (by omega) (by omega) (by
    rw [rowsOf_len]
    have := List.length_take_le i ps
    simp; omega)
  have hoy1 := hgy2.one
  have hi' : ((i : Int) < (ps.length : Int)) = True := by simp [hi]
  have h0' : (0 ≤ (i : Int)) = True := by simp
  have hw : IntKind.i64.wrap ((i : Int) + 1) = ((i + 1 : Nat) : Int) := wrap_nat (by omega)
  have hlv : (i + 1 < 4096) = True := by simp; omega
  have hlv0 : ¬ i + 1 = 0 := by omega
  simp only [Ev, Inv11, b11_0, o11_3, o11_4, o11_5, o11_6, hn', h2, h3, h6, h7, h8, hln, hl0, hi', h0', hv, hvl, hlv, hlv0, e28, eap, hw, hrs, hob, hor, hor', hoy, hoy1, evalCode, runOps, runD, runDraw, askOf, askRecs, askAll, isEff, muteOp, stepA, wantedA, isCall, target, evalOp, opMove, opPick, opAlloc, opBox, opBuild, opBuildSlice, opLoad, opStore, opNilCheck, opBinOp, opUnOp, opConvert, opMakeFunc, opMakeMap, opSlice, opFieldAddr, opField, opIndexAddr, opLookup, opExtract, opAppendB, opLenB, wrOf, newA, eqlA, keepA, newV, evT, toA, putA, loadA, storeA, takeCells, setCells, isAgg, binA, unA, convA, arith, addOff, dstLen, nilNil, isConst, sameTy, strOp, params, results, packA, AExit.leaves, maxTmp, memN, askIn, fillA, repl, groups, Option.getD, Option.map, List.length, List.all, Int.reduceBEq, Int.reduceBNe, Int.reduceEq, Int.reduceGT, Int.reduceGE, Int.reduceNeg, Int.reduceAdd, Int.reduceSub, Int.reduceLT, Int.reduceLE, Int.reduceToNat, Nat.reduceLT, Nat.reducePow, Nat.reduceAdd, Nat.reduceMul, Nat.reduceLeDiff, Nat.reduceEqDiff, Nat.reduceBEq, reduceIte, ↓reduceIte, reduceCtorEq, syT, tyT, Rg.regF, Rg.findR, pickOps, fT11, Tryz.f11]
  have hrw := rowsOf_get (s := 0) hx
  rw [Nat.zero_add] at hrw
  refine ⟨by omega, by omega, by rw [hrw]; exact hy1, hgy2⟩

theorem of11_end {call : CallF} {st : St} {H0 : Hp} {a : AVal} {ps : List Nd} (h : Inv11 a ps H0 ps.length st) :
    Ev (env sp) call false 11 b11_0 st fun ex s => ex = .exit 0 ∧ Inv11 a ps H0 ps.length s := by
  obtain ⟨hn', h2, h6, h7, h8, hln, hl0, hHn, hHs, y, h3, hy, hgy⟩ := h
  have hi' : ((ps.length : Int) < (ps.length : Int)) = False := by simp
  simp only [Ev, Inv11, b11_0, o11_3, hn', h2, h3, h6, h7, h8, hln, hl0, hi', evalCode, runOps, runD, runDraw, askOf, askRecs, askAll, isEff, muteOp, stepA, wantedA, isCall, target, evalOp, opMove, opPick, opAlloc, opBox, opBuild, opBuildSlice, opLoad, opStore, opNilCheck, opBinOp, opUnOp, opConvert, opMakeFunc, opMakeMap, opSlice, opFieldAddr, opField, opIndexAddr, opLookup, opExtract, opAppendB, opLenB, wrOf, newA, eqlA, keepA, newV, evT, toA, putA, loadA, storeA, takeCells, setCells, isAgg, binA, unA, convA, arith, addOff, dstLen, nilNil, isConst, sameTy, strOp, params, results, packA, AExit.leaves, maxTmp, memN, askIn, fillA, repl, groups, Option.getD, Option.map, List.length, List.all, Int.reduceBEq, Int.reduceBNe, Int.reduceEq, Int.reduceGT, Int.reduceGE, Int.reduceNeg, Int.reduceAdd, Int.reduceSub, Int.reduceLT, Int.reduceLE, Int.reduceToNat, Nat.reduceLT, Nat.reducePow, Nat.reduceAdd, Nat.reduceMul, Nat.reduceLeDiff, Nat.reduceEqDiff, Nat.reduceBEq, reduceIte, ↓reduceIte, reduceCtorEq, syT, tyT, Rg.regF, Rg.findR, pickOps, fT11, Tryz.f11]
  exact ⟨hHn, hHs, hy, hgy⟩

/-- Of makes the tree of the patterns' rows -/
theorem of11 {k N : Nat} {a : AVal} {ps : List Nd} {H : Hp} (h11 : sp false 11 = none) (h28 : sp false 28 = none) (h47 : sp false 47 = none) (h29 : sp false 29 = some (recS (N + 1))) (ha : IsL a ps) (hk : Nd.sizes ps + 1 ≤ k) (hw : weight (rowsOf ps 0) ≤ N)
    (hs : H.next + 5 * Nd.sizes ps ≤ 4000) (hxs : Nd.sizes ps ≤ 400) :
    ∃ v H', evalCall (env sp) (k + 1) false 11 [a] H = some (v, H') ∧ IsTree (buildT N (rowsOf ps 0)) v ∧ H.next ≤ H'.next ∧ H'.next ≤ H.next + 5 * Nd.sizes ps := by
  have hoa := ha.one
  have hla := ha.len
  have hpl := sizes_len ps
  have key : ∃ r, evalCall (env sp) (k + 1) false 11 [a] H = some r ∧ (IsTree (buildT N (rowsOf ps 0)) r.1 ∧ H.next ≤ r.2.next ∧ r.2.next ≤ H.next + 5 * Nd.sizes ps) := by
    refine enter11 (Post := fun v H' => IsTree (buildT N (rowsOf ps 0)) v ∧ H.next ≤ H'.next ∧ H'.next ≤ H.next + 5 * Nd.sizes ps) h11 rfl ?_
    unfold c11
    refine Ev.seqN (Q := fun s => s.1.n = 23 ∧ s.2 = H ∧ s.1.tm.get 0 = some a ∧ s.1.tm.get 2 = some (.lptr 0 0) ∧ s.1.lv.next = 1 ∧ s.1.lv.get 0 = some [.bool false, .int .i64 0, .nilslice, .int .i64 0, .int .i64 0, .str ⟨#[]⟩, .nilslice, .nilslice, .nilslice]) ?_ ?_
    · simp only [Ev, o11_0, hoa, evalCode, runOps, runD, runDraw, askOf, askRecs, askAll, isEff, muteOp, stepA, wantedA, isCall, target, evalOp, opMove, opPick, opAlloc, opBox, opBuild, opBuildSlice, opLoad, opStore, opNilCheck, opBinOp, opUnOp, opConvert, opMakeFunc, opMakeMap, opSlice, opFieldAddr, opField, opIndexAddr, opLookup, opExtract, opAppendB, opLenB, wrOf, newA, eqlA, keepA, newV, evT, toA, putA, loadA, storeA, takeCells, setCells, isAgg, binA, unA, convA, arith, addOff, dstLen, nilNil, isConst, sameTy, strOp, params, results, packA, AExit.leaves, maxTmp, memN, askIn, fillA, repl, groups, Option.getD, Option.map, List.length, List.all, Int.reduceBEq, Int.reduceBNe, Int.reduceEq, Int.reduceGT, Int.reduceGE, Int.reduceNeg, Int.reduceAdd, Int.reduceSub, Int.reduceLT, Int.reduceLE, Int.reduceToNat, Nat.reduceLT, Nat.reducePow, Nat.reduceAdd, Nat.reduceMul, Nat.reduceLeDiff, Nat.reduceEqDiff, Nat.reduceBEq, reduceIte, ↓reduceIte, reduceCtorEq, syT, tyT, Rg.regF, Rg.findR, pickOps, fT11, Tryz.f11]
    rintro s ⟨a1, a2, a3, a4, a5, a6⟩
    refine Ev.seqN (Q := fun s => s.1.n = 23 ∧ s.2 = H ∧ s.1.tm.get 0 = some a ∧ s.1.tm.get 2 = some (.lptr 0 0) ∧ s.1.tm.get 3 = some .nilslice ∧ s.1.lv.next = 1 ∧ s.1.lv.get 0 = some [.bool false, .int .i64 0, .nilslice, .int .i64 0, .int .i64 0, .str ⟨#[]⟩, .nilslice, .nilslice, .nilslice]) ?_ ?_
    · simp only [Ev, o11_1, a1, a2, a3, a4, a5, a6, evalCode, runOps, runD, runDraw, askOf, askRecs, askAll, isEff, muteOp, stepA, wantedA, isCall, target, evalOp, opMove, opPick, opAlloc, opBox, opBuild, opBuildSlice, opLoad, opStore, opNilCheck, opBinOp, opUnOp, opConvert, opMakeFunc, opMakeMap, opSlice, opFieldAddr, opField, opIndexAddr, opLookup, opExtract, opAppendB, opLenB, wrOf, newA, eqlA, keepA, newV, evT, toA, putA, loadA, storeA, takeCells, setCells, isAgg, binA, unA, convA, arith, addOff, dstLen, nilNil, isConst, sameTy, strOp, params, results, packA, AExit.leaves, maxTmp, memN, askIn, fillA, repl, groups, Option.getD, Option.map, List.length, List.all, Int.reduceBEq, Int.reduceBNe, Int.reduceEq, Int.reduceGT, Int.reduceGE, Int.reduceNeg, Int.reduceAdd, Int.reduceSub, Int.reduceLT, Int.reduceLE, Int.reduceToNat, Nat.reduceLT, Nat.reducePow, Nat.reduceAdd, Nat.reduceMul, Nat.reduceLeDiff, Nat.reduceEqDiff, Nat.reduceBEq, reduceIte, ↓reduceIte, reduceCtorEq, syT, tyT, Rg.regF, Rg.findR, pickOps, fT11, Tryz.f11]
    clear a1 a2 a3 a4 a5 a6
    rintro s ⟨a1, a2, a3, a4, a7, a5, a6⟩
    refine Ev.seqN (Q := fun s => Inv11 a ps H ps.length s) ?_ ?_
    · refine Ev.seqN (Q := fun s => Inv11 a ps H 0 s) ?_ ?_
      · simp only [Ev, Inv11, o11_2, a1, a2, a3, a4, a5, a6, a7, ↓hla, hoa, evalCode, runOps, runD, runDraw, askOf, askRecs, askAll, isEff, muteOp, stepA, wantedA, isCall, target, evalOp, opMove, opPick, opAlloc, opBox, opBuild, opBuildSlice, opLoad, opStore, opNilCheck, opBinOp, opUnOp, opConvert, opMakeFunc, opMakeMap, opSlice, opFieldAddr, opField, opIndexAddr, opLookup, opExtract, opAppendB, opLenB, wrOf, newA, eqlA, keepA, newV, evT, toA, putA, loadA, storeA, takeCells, setCells, isAgg, binA, unA, convA, arith, addOff, dstLen, nilNil, isConst, sameTy, strOp, params, results, packA, AExit.leaves, maxTmp, memN, askIn, fillA, repl, groups, Option.getD, Option.map, List.length, List.all, Int.reduceBEq, Int.reduceBNe, Int.reduceEq, Int.reduceGT, Int.reduceGE, Int.reduceNeg, Int.reduceAdd, Int.reduceSub, Int.reduceLT, Int.reduceLE, Int.reduceToNat, Nat.reduceLT, Nat.reducePow, Nat.reduceAdd, Nat.reduceMul, Nat.reduceLeDiff, Nat.reduceEqDiff, Nat.reduceBEq, reduceIte, ↓reduceIte, reduceCtorEq, syT, tyT, Rg.regF, Rg.findR, pickOps, fT11, Tryz.f11]
        exact ⟨by omega, .inl ⟨rfl, rfl⟩, .nil⟩
      intro s hs'
      refine Ev.block (Ev.loop (Inv := fun i s => Inv11 a ps H i s) ps.length (by omega) hs' fun i st hi hle => ?_)
      by_cases hlt : i < ps.length
      · obtain ⟨x, hx⟩ : ∃ x, ps[i]? = some x := ⟨_, List.getElem?_eq_getElem hlt⟩
        obtain ⟨vs, tok, rfl, hvs⟩ := ha.list hx
        have hxm := size_mem hx
        exact (of11_step h28 h47 hx hvs (by omega) hi hs (by omega)).mono fun ex s hs => .inl ⟨hs.1, hlt, hs.2⟩
      · have : i = ps.length := by omega
        subst this
        exact (of11_end hi).mono fun ex s hs => .inr ⟨by rw [hs.1]; simp, by rw [hs.1]; rfl, hs.2⟩
    clear a1 a2 a3 a4 a5 a6 a7
    rintro s ⟨hn', h2, h6, h7, h8, hln, hl0, hHn, hHs, y, h3, hy, hgy⟩
    rw [List.take_length] at hy hHs
    have hoy := hgy.one
    have hok : RowsOk (rowsOf ps 0) := by
      refine ⟨by rw [rowsOf_len]; omega, fun r hr => ?_⟩
      obtain ⟨x, hx, e⟩ := rowsOf_mem hr
      obtain ⟨i, hi⟩ := List.mem_iff_getElem?.1 hx
      have hxm := size_mem hi
      rw [e]
      refine ⟨by have := testsT_len x []; omega, fun u hu => ?_⟩
      have := testsT_path x [] u hu
      simp at this
      omega
    obtain ⟨v, hv, ev⟩ := tree29 N y _ hy hok hw
    obtain ⟨k', rfl⟩ : ∃ k', k = k' + 1 := ⟨k - 1, by omega⟩
    have e29 : evalCall (env sp) (k' + 1) false 29 [y] s.2 = some (v, s.2) := by rw [call_tab h29]; exact ev _
    obtain ⟨y0, y1, y2, y3, y4, y5, y6, y7, y8, rfl, p0, p1, p2, p3, p4, p5, p6, p7, p8⟩ := hv.cells
    simp only [Ev, o11_7, hn', h2, h3, hl0, e29, hoy, p0, p1, p2, p3, p4, p5, p6, p7, p8, evalCode, runOps, runD, runDraw, askOf, askRecs, askAll, isEff, muteOp, stepA, wantedA, isCall, target, evalOp, opMove, opPick, opAlloc, opBox, opBuild, opBuildSlice, opLoad, opStore, opNilCheck, opBinOp, opUnOp, opConvert, opMakeFunc, opMakeMap, opSlice, opFieldAddr, opField, opIndexAddr, opLookup, opExtract, opAppendB, opLenB, wrOf, newA, eqlA, keepA, newV, evT, toA, putA, loadA, storeA, takeCells, setCells, isAgg, binA, unA, convA, arith, addOff, dstLen, nilNil, isConst, sameTy, strOp, params, results, packA, AExit.leaves, maxTmp, memN, askIn, fillA, repl, groups, Option.getD, Option.map, List.length, List.all, Int.reduceBEq, Int.reduceBNe, Int.reduceEq, Int.reduceGT, Int.reduceGE, Int.reduceNeg, Int.reduceAdd, Int.reduceSub, Int.reduceLT, Int.reduceLE, Int.reduceToNat, Nat.reduceLT, Nat.reducePow, Nat.reduceAdd, Nat.reduceMul, Nat.reduceLeDiff, Nat.reduceEqDiff, Nat.reduceBEq, reduceIte, ↓reduceIte, reduceCtorEq, syT, tyT, Rg.regF, Rg.findR, pickOps, fT11, Tryz.f11]
    exact ⟨hv, hHn, hHs⟩
  obtain ⟨⟨v, H'⟩, h1, h2⟩ := key
  exact ⟨v, H', h1, h2⟩
end
end Go.Rs.Seat
end
/- The dice: short, pick, n, of. -/
section
namespace Go.Rs.Seat
open Go.Proofs Rg
set_option maxRecDepth 100000
set_option maxHeartbeats 8000000

theorem wrapU64 (n : Int) : IntKind.u64.wrap n = n % 18446744073709551616 := by simp [IntKind.wrap, IntKind.bits, IntKind.signed]

section
variable {sp : Bool → FuncId → Option (List AVal → Hp → Option (AVal × Hp))}

theorem short7 {k : Nat} {a : AVal} {l : List Int} {H : Hp} (h7 : sp false 7 = none) (ha : IsI a l) : evalCall (env sp) (k + 1) false 7 [a] H = some (.bool (decide ((l.length : Int) ≤ 300)), H) := by
  have hoa := ha.one
  have hla := ha.len
  rw [evalCall]
  simp only [h7, Tryz.func7, Tryz.f7, ↓hla, hoa, evalCode, runOps, runD, runDraw, askOf, askRecs, askAll, isEff, muteOp, stepA, wantedA, isCall, target, evalOp, opMove, opPick, opAlloc, opBox, opBuild, opBuildSlice, opLoad, opStore, opNilCheck, opBinOp, opUnOp, opConvert, opMakeFunc, opMakeMap, opSlice, opFieldAddr, opField, opIndexAddr, opLookup, opExtract, opAppendB, opLenB, wrOf, newA, eqlA, keepA, newV, evT, toA, putA, loadA, storeA, takeCells, setCells, isAgg, binA, unA, convA, arith, addOff, dstLen, nilNil, isConst, sameTy, strOp, params, results, packA, AExit.leaves, maxTmp, memN, askIn, fillA, repl, groups, Option.getD, Option.map, List.length, List.all, Int.reduceBEq, Int.reduceBNe, Int.reduceEq, Int.reduceGT, Int.reduceGE, Int.reduceNeg, Int.reduceAdd, Int.reduceSub, Int.reduceLT, Int.reduceLE, Int.reduceToNat, Nat.reduceLT, Nat.reducePow, Nat.reduceAdd, Nat.reduceMul, Nat.reduceLeDiff, Nat.reduceEqDiff, Nat.reduceBEq, reduceIte, ↓reduceIte, reduceCtorEq, syT, tyT, Rg.regF, Rg.findR, pickOps, fT7, Tryz.f7]

/-- pick's answer -/
def pickI (a n : Int) : Int := IntKind.i64.wrap ((IntKind.u64.wrap a).tmod (IntKind.u64.wrap n))

theorem pickI_lt {a : Int} {n : Nat} (h0 : 0 < n) (hn : n < 4294967296) : 0 ≤ pickI a n ∧ pickI a n < n := by
  unfold pickI
  rw [IntKind.wrap_i64, wrapU64, wrapU64]
  have h1 : ((n : Int) % 18446744073709551616) = n := by omega
  rw [h1, Int.tmod_eq_emod_of_nonneg (by omega)]
  have h2 := Int.emod_nonneg (a % 18446744073709551616) (b := (n : Int)) (by omega)
  have h3 := Int.emod_lt_of_pos (a % 18446744073709551616) (b := (n : Int)) (by omega)
  omega

theorem pick16 {k : Nat} {a : Int} {n : Nat} {H : Hp} (h16 : sp false 16 = none) (h0 : 0 < n) (hn : n < 4294967296) : evalCall (env sp) (k + 1) false 16 [.int .i64 a, .int .i64 n] H = some (.int .i64 (pickI a n), H) := by
  have h1 : (IntKind.u64.wrap (n : Int) = 0) = False := by rw [wrapU64]; simp; omega
  rw [evalCall]
  simp only [h16, Tryz.func16, Tryz.f16, pickI, h1, evalCode, runOps, runD, runDraw, askOf, askRecs, askAll, isEff, muteOp, stepA, wantedA, isCall, target, evalOp, opMove, opPick, opAlloc, opBox, opBuild, opBuildSlice, opLoad, opStore, opNilCheck, opBinOp, opUnOp, opConvert, opMakeFunc, opMakeMap, opSlice, opFieldAddr, opField, opIndexAddr, opLookup, opExtract, opAppendB, opLenB, wrOf, newA, eqlA, keepA, newV, evT, toA, putA, loadA, storeA, takeCells, setCells, isAgg, binA, unA, convA, arith, addOff, dstLen, nilNil, isConst, sameTy, strOp, params, results, packA, AExit.leaves, maxTmp, memN, askIn, fillA, repl, groups, Option.getD, Option.map, List.length, List.all, Int.reduceBEq, Int.reduceBNe, Int.reduceEq, Int.reduceGT, Int.reduceGE, Int.reduceNeg, Int.reduceAdd, Int.reduceSub, Int.reduceLT, Int.reduceLE, Int.reduceToNat, Nat.reduceLT, Nat.reducePow, Nat.reduceAdd, Nat.reduceMul, Nat.reduceLeDiff, Nat.reduceEqDiff, Nat.reduceBEq, reduceIte, ↓reduceIte, reduceCtorEq, syT, tyT, Rg.regF, Rg.findR, pickOps, fT16, Tryz.f16]

/-- the dice: numbers and a place -/
def Dice (H : Hp) (id : Nat) (at_ : Nat) : Prop := ∃ la l b, H.get id = .cells [la, .int .i64 at_, .bool b] ∧ IsI la l ∧ l.length ≤ 300

structure PlainD (sp : Bool → FuncId → Option (List AVal → Hp → Option (AVal × Hp))) : Prop where
  h16 : sp false 16 = none
  h25 : sp false 25 = none
  h26 : sp false 26 = none
  h27 : sp false 27 = none
  h8 : sp false 8 = none
  h9 : sp false 9 = none

theorem dice25 (hs : PlainD sp) {k : Nat} {id c n : Nat} {H : Hp} (hd : Dice H id c) (hid : id < 4096) (hc : c < 2 ^ 40) (h0 : 0 < n) (hn : n < 4294967296) :
    ∃ r H', evalCall (env sp) (k + 2) false 25 [.ptr id 0, .int .i64 n] H = some (.int .i64 r, H') ∧ 0 ≤ r ∧ r < n ∧ H'.next = H.next ∧ (∃ c' ≤ c + 1, Dice H' id c') ∧ ∀ j, j ≠ id → H'.get j = H.get j := by
  obtain ⟨la, l, b, hg, hl, hll⟩ := hd
  have hol := hl.one
  have h25 := hs.h25
  rcases hl with ⟨rfl, rfl⟩ | ⟨tok, rfl⟩
  · refine ⟨0, H, ?_, by omega, by omega, rfl, ⟨c, by omega, _, _, b, hg, .inl ⟨rfl, rfl⟩, by simp⟩, fun _ _ => rfl⟩
    rw [evalCall]
    simp only [h25, Tryz.func25, Tryz.f25, hg, evalCode, runOps, runD, runDraw, askOf, askRecs, askAll, isEff, muteOp, stepA, wantedA, isCall, target, evalOp, opMove, opPick, opAlloc, opBox, opBuild, opBuildSlice, opLoad, opStore, opNilCheck, opBinOp, opUnOp, opConvert, opMakeFunc, opMakeMap, opSlice, opFieldAddr, opField, opIndexAddr, opLookup, opExtract, opAppendB, opLenB, wrOf, newA, eqlA, keepA, newV, evT, toA, putA, loadA, storeA, takeCells, setCells, isAgg, binA, unA, convA, arith, addOff, dstLen, nilNil, isConst, sameTy, strOp, params, results, packA, AExit.leaves, maxTmp, memN, askIn, fillA, repl, groups, Option.getD, Option.map, List.length, List.all, Int.reduceBEq, Int.reduceBNe, Int.reduceEq, Int.reduceGT, Int.reduceGE, Int.reduceNeg, Int.reduceAdd, Int.reduceSub, Int.reduceLT, Int.reduceLE, Int.reduceToNat, Nat.reduceLT, Nat.reducePow, Nat.reduceAdd, Nat.reduceMul, Nat.reduceLeDiff, Nat.reduceEqDiff, Nat.reduceBEq, reduceIte, ↓reduceIte, reduceCtorEq, syT, tyT, Rg.regF, Rg.findR, pickOps, fT25, Tryz.f25]
  cases l with
  | nil =>
    refine ⟨0, H, ?_, by omega, by omega, rfl, ⟨c, by omega, _, _, b, hg, .inr ⟨tok, rfl⟩, by simp⟩, fun _ _ => rfl⟩
    rw [evalCall]
    simp only [h25, Tryz.func25, Tryz.f25, hg, ints, evalCode, runOps, runD, runDraw, askOf, askRecs, askAll, isEff, muteOp, stepA, wantedA, isCall, target, evalOp, opMove, opPick, opAlloc, opBox, opBuild, opBuildSlice, opLoad, opStore, opNilCheck, opBinOp, opUnOp, opConvert, opMakeFunc, opMakeMap, opSlice, opFieldAddr, opField, opIndexAddr, opLookup, opExtract, opAppendB, opLenB, wrOf, newA, eqlA, keepA, newV, evT, toA, putA, loadA, storeA, takeCells, setCells, isAgg, binA, unA, convA, arith, addOff, dstLen, nilNil, isConst, sameTy, strOp, params, results, packA, AExit.leaves, maxTmp, memN, askIn, fillA, repl, groups, Option.getD, Option.map, List.length, List.all, Int.reduceBEq, Int.reduceBNe, Int.reduceEq, Int.reduceGT, Int.reduceGE, Int.reduceNeg, Int.reduceAdd, Int.reduceSub, Int.reduceLT, Int.reduceLE, Int.reduceToNat, Nat.reduceLT, Nat.reducePow, Nat.reduceAdd, Nat.reduceMul, Nat.reduceLeDiff, Nat.reduceEqDiff, Nat.reduceBEq, reduceIte, ↓reduceIte, reduceCtorEq, syT, tyT, Rg.regF, Rg.findR, pickOps, fT25, Tryz.f25]
  | cons x xs =>
    have hil : (ints (x :: xs)).length = xs.length + 1 := by simp [ints]
    generalize hys : ints (x :: xs) = ys at hg hol
    rw [hys] at hil
    obtain ⟨z, hz⟩ : ∃ z, ys[c % (xs.length + 1)]? = some (.int .i64 z) := by
      have : c % (xs.length + 1) < (x :: xs).length := by simp; exact Nat.mod_lt _ (by omega)
      rw [← hys]
      exact ⟨_, ints_get (List.getElem?_eq_getElem this)⟩
    have w1 : IntKind.i64.wrap ((c : Int) + 1) = ((c + 1 : Nat) : Int) := wrap_nat (by omega)
    have w2 : IntKind.i64.wrap (((c + 1 : Nat) : Int) - 1) = (c : Int) := by rw [IntKind.wrap_i64]; omega
    have w3 : (c : Int).tmod ((xs.length + 1 : Nat) : Int) = ((c % (xs.length + 1) : Nat) : Int) := by rw [Int.tmod_eq_emod_of_nonneg (by omega)]; rfl
    have c1 : (((xs.length + 1 : Nat) : Int) = 0) = False := by simp; omega
    have c2 : (((xs.length + 1 : Nat) : Int) == 0) = false := by simp; omega
    have c3 : (0 ≤ ((c % (xs.length + 1) : Nat) : Int)) = True := by simp only [eq_iff_iff, iff_true]; omega
    have c4 : (((c % (xs.length + 1) : Nat) : Int) < ((xs.length + 1 : Nat) : Int)) = True := by
      have := Nat.mod_lt c (show 0 < xs.length + 1 by omega)
      simp only [eq_iff_iff, iff_true]; omega
    have g1 : ∀ o, (H.set id o).get id = o := fun o => by rw [hget hid, if_pos rfl]
    obtain ⟨q, hq⟩ : ∃ q, q = IntKind.i64.wrap (z + IntKind.i64.wrap (IntKind.i64.wrap ((c : Int).tdiv ((xs.length + 1 : Nat) : Int)) * 7)) := ⟨_, rfl⟩
    have e16 : evalCall (env sp) (k + 1) false 16 [.int .i64 q, .int .i64 n] (H.set id (.cells [.list ys tok 1, .int .i64 ((c + 1 : Nat) : Int), .bool b])) = _ := pick16 hs.h16 h0 hn
    have hp := pickI_lt (a := q) h0 hn
    refine ⟨pickI q n, H.set id (.cells [.list ys tok 1, .int .i64 ((c + 1 : Nat) : Int), .bool b]), ?_, hp.1, hp.2, rfl, ⟨c + 1, Nat.le_refl _, _, x :: xs, b, g1 _, .inr ⟨tok, by rw [hys]⟩, hll⟩, fun j hj => by rw [hget hid, if_neg (fun h => hj h.symm)]⟩
    have key : ∃ r, evalCall (env sp) (k + 1 + 1) false 25 [.ptr id 0, .int .i64 n] H = some r ∧ (r.1 = .int .i64 (pickI q n) ∧ r.2 = H.set id (.cells [.list ys tok 1, .int .i64 ((c + 1 : Nat) : Int), .bool b])) := by
      refine enter25 (Post := fun v H' => v = .int .i64 (pickI q n) ∧ H' = H.set id (.cells [.list ys tok 1, .int .i64 ((c + 1 : Nat) : Int), .bool b])) h25 rfl ?_
      unfold c25
      refine Ev.seqN (Q := fun s => s.1.n = 50 ∧ s.2 = H ∧ s.1.tm.get 0 = some (.ptr id 0) ∧ s.1.tm.get 1 = some (.int .i64 n)) ?_ ?_
      · simp only [Ev, o25_0, evalCode, runOps, runD, runDraw, askOf, askRecs, askAll, isEff, muteOp, stepA, wantedA, isCall, target, evalOp, opMove, opPick, opAlloc, opBox, opBuild, opBuildSlice, opLoad, opStore, opNilCheck, opBinOp, opUnOp, opConvert, opMakeFunc, opMakeMap, opSlice, opFieldAddr, opField, opIndexAddr, opLookup, opExtract, opAppendB, opLenB, wrOf, newA, eqlA, keepA, newV, evT, toA, putA, loadA, storeA, takeCells, setCells, isAgg, binA, unA, convA, arith, addOff, dstLen, nilNil, isConst, sameTy, strOp, params, results, packA, AExit.leaves, maxTmp, memN, askIn, fillA, repl, groups, Option.getD, Option.map, List.length, List.all, Int.reduceBEq, Int.reduceBNe, Int.reduceEq, Int.reduceGT, Int.reduceGE, Int.reduceNeg, Int.reduceAdd, Int.reduceSub, Int.reduceLT, Int.reduceLE, Int.reduceToNat, Nat.reduceLT, Nat.reducePow, Nat.reduceAdd, Nat.reduceMul, Nat.reduceLeDiff, Nat.reduceEqDiff, Nat.reduceBEq, reduceIte, ↓reduceIte, reduceCtorEq, syT, tyT, Rg.regF, Rg.findR, pickOps, fT25, Tryz.f25]
      rintro s ⟨a1, a2, a3, a4⟩
      refine Ev.seqN (Q := fun s => s.1.n = 50 ∧ s.2 = H ∧ s.1.tm.get 0 = some (.ptr id 0) ∧ s.1.tm.get 1 = some (.int .i64 n)) ?_ ?_
      · simp only [Ev, o25_1, a1, a2, a3, a4, hg, hil, c2, evalCode, runOps, runD, runDraw, askOf, askRecs, askAll, isEff, muteOp, stepA, wantedA, isCall, target, evalOp, opMove, opPick, opAlloc, opBox, opBuild, opBuildSlice, opLoad, opStore, opNilCheck, opBinOp, opUnOp, opConvert, opMakeFunc, opMakeMap, opSlice, opFieldAddr, opField, opIndexAddr, opLookup, opExtract, opAppendB, opLenB, wrOf, newA, eqlA, keepA, newV, evT, toA, putA, loadA, storeA, takeCells, setCells, isAgg, binA, unA, convA, arith, addOff, dstLen, nilNil, isConst, sameTy, strOp, params, results, packA, AExit.leaves, maxTmp, memN, askIn, fillA, repl, groups, Option.getD, Option.map, List.length, List.all, Int.reduceBEq, Int.reduceBNe, Int.reduceEq, Int.reduceGT, Int.reduceGE, Int.reduceNeg, Int.reduceAdd, Int.reduceSub, Int.reduceLT, Int.reduceLE, Int.reduceToNat, Nat.reduceLT, Nat.reducePow, Nat.reduceAdd, Nat.reduceMul, Nat.reduceLeDiff, Nat.reduceEqDiff, Nat.reduceBEq, reduceIte, ↓reduceIte, reduceCtorEq, syT, tyT, Rg.regF, Rg.findR, pickOps, fT25, Tryz.f25]
      clear a1 a2 a3 a4
      rintro s ⟨a1, a2, a3, a4⟩
      refine Ev.seqN (Q := fun s => s.1.n = 50 ∧ s.2 = H.set id (.cells [.list ys tok 1, .int .i64 ((c + 1 : Nat) : Int), .bool b]) ∧ s.1.tm.get 0 = some (.ptr id 0) ∧ s.1.tm.get 1 = some (.int .i64 n)) ?_ ?_
      · simp only [Ev, o25_3, a1, a2, a3, a4, hg, w1, evalCode, runOps, runD, runDraw, askOf, askRecs, askAll, isEff, muteOp, stepA, wantedA, isCall, target, evalOp, opMove, opPick, opAlloc, opBox, opBuild, opBuildSlice, opLoad, opStore, opNilCheck, opBinOp, opUnOp, opConvert, opMakeFunc, opMakeMap, opSlice, opFieldAddr, opField, opIndexAddr, opLookup, opExtract, opAppendB, opLenB, wrOf, newA, eqlA, keepA, newV, evT, toA, putA, loadA, storeA, takeCells, setCells, isAgg, binA, unA, convA, arith, addOff, dstLen, nilNil, isConst, sameTy, strOp, params, results, packA, AExit.leaves, maxTmp, memN, askIn, fillA, repl, groups, Option.getD, Option.map, List.length, List.all, Int.reduceBEq, Int.reduceBNe, Int.reduceEq, Int.reduceGT, Int.reduceGE, Int.reduceNeg, Int.reduceAdd, Int.reduceSub, Int.reduceLT, Int.reduceLE, Int.reduceToNat, Nat.reduceLT, Nat.reducePow, Nat.reduceAdd, Nat.reduceMul, Nat.reduceLeDiff, Nat.reduceEqDiff, Nat.reduceBEq, reduceIte, ↓reduceIte, reduceCtorEq, syT, tyT, Rg.regF, Rg.findR, pickOps, fT25, Tryz.f25]
      clear a1 a2 a3 a4
      rintro s ⟨a1, a2, a3, a4⟩
      simp only [Ev, ↓drw25_4, d25_4, a1, a2, a3, a4, g1, hil, hz, w2, w3, c1, c2, c3, c4, ← hq, e16, evalCode, runOps, runD, runDraw, askOf, askRecs, askAll, isEff, muteOp, stepA, wantedA, isCall, target, evalOp, opMove, opPick, opAlloc, opBox, opBuild, opBuildSlice, opLoad, opStore, opNilCheck, opBinOp, opUnOp, opConvert, opMakeFunc, opMakeMap, opSlice, opFieldAddr, opField, opIndexAddr, opLookup, opExtract, opAppendB, opLenB, wrOf, newA, eqlA, keepA, newV, evT, toA, putA, loadA, storeA, takeCells, setCells, isAgg, binA, unA, convA, arith, addOff, dstLen, nilNil, isConst, sameTy, strOp, params, results, packA, AExit.leaves, maxTmp, memN, askIn, fillA, repl, groups, Option.getD, Option.map, List.length, List.all, Int.reduceBEq, Int.reduceBNe, Int.reduceEq, Int.reduceGT, Int.reduceGE, Int.reduceNeg, Int.reduceAdd, Int.reduceSub, Int.reduceLT, Int.reduceLE, Int.reduceToNat, Nat.reduceLT, Nat.reducePow, Nat.reduceAdd, Nat.reduceMul, Nat.reduceLeDiff, Nat.reduceEqDiff, Nat.reduceBEq, reduceIte, ↓reduceIte, reduceCtorEq, syT, tyT, Rg.regF, Rg.findR, pickOps, fT25, Tryz.f25]
    obtain ⟨⟨v, H'⟩, h1, rfl, rfl⟩ := key
    exact h1

theorem of27 (hs : PlainD sp) {k : Nat} {id c : Nat} {H : Hp} {ss : List ByteArray} {tok : Tok} (hd : Dice H id c) (hid : id < 4096) (hc : c < 2 ^ 40) (hne : 0 < ss.length) (hl : ss.length < 1000) :
    ∃ r H', evalCall (env sp) (k + 3) false 27 [.ptr id 0, .list (ss.map .str) tok 1] H = some (.str r, H') ∧ r ∈ ss ∧ H'.next = H.next ∧ (∃ c' ≤ c + 1, Dice H' id c') ∧ ∀ j, j ≠ id → H'.get j = H.get j := by
  obtain ⟨r, H', e25, hr0, hr1, h1, h2, h3⟩ := dice25 hs (k := k) (n := ss.length) hd hid hc hne (by omega)
  obtain ⟨i, rfl⟩ : ∃ i : Nat, r = i := ⟨r.toNat, by omega⟩
  have hi : i < ss.length := by omega
  have hx : (ss.map AVal.str)[i]? = some (.str ss[i]) := by simp [List.getElem?_eq_getElem hi]
  have hlen : (ss.map AVal.str).length = ss.length := by simp
  generalize hys : ss.map AVal.str = ys at hx hlen
  have c0 : (0 ≤ (i : Int)) = True := by simp
  have c1 : ((i : Int) < (ss.length : Int)) = True := by simp [hi]
  have h27 := hs.h27
  refine ⟨ss[i], H', ?_, List.getElem_mem _, h1, h2, h3⟩
  rw [show k + 3 = (k + 2) + 1 from rfl, evalCall]
  simp only [h27, Tryz.func27, Tryz.f27, hlen, e25, hx, c0, c1, evalCode, runOps, runD, runDraw, askOf, askRecs, askAll, isEff, muteOp, stepA, wantedA, isCall, target, evalOp, opMove, opPick, opAlloc, opBox, opBuild, opBuildSlice, opLoad, opStore, opNilCheck, opBinOp, opUnOp, opConvert, opMakeFunc, opMakeMap, opSlice, opFieldAddr, opField, opIndexAddr, opLookup, opExtract, opAppendB, opLenB, wrOf, newA, eqlA, keepA, newV, evT, toA, putA, loadA, storeA, takeCells, setCells, isAgg, binA, unA, convA, arith, addOff, dstLen, nilNil, isConst, sameTy, strOp, params, results, packA, AExit.leaves, maxTmp, memN, askIn, fillA, repl, groups, Option.getD, Option.map, List.length, List.all, Int.reduceBEq, Int.reduceBNe, Int.reduceEq, Int.reduceGT, Int.reduceGE, Int.reduceNeg, Int.reduceAdd, Int.reduceSub, Int.reduceLT, Int.reduceLE, Int.reduceToNat, Nat.reduceLT, Nat.reducePow, Nat.reduceAdd, Nat.reduceMul, Nat.reduceLeDiff, Nat.reduceEqDiff, Nat.reduceBEq, reduceIte, ↓reduceIte, reduceCtorEq, syT, tyT, Rg.regF, Rg.findR, pickOps, fT27, Tryz.f27]
end
end Go.Rs.Seat
end
/- Package arms in plain words: the tree leads to the first pattern that fits. -/
section
namespace Go.Rs.Seat
open Go.Proofs Rg
set_option maxRecDepth 100000
set_option maxHeartbeats 4000000

/-! ## Patterns of the six kinds -/
mutual
def WfP : Nd → Prop
  | .mk k _ _ l => (1 ≤ k ∧ k ≤ 6) ∧ WfPs l
def WfPs : List Nd → Prop
  | [] => True
  | x :: l => WfP x ∧ WfPs l
end

theorem WfPs_append : ∀ {l m : List Nd}, WfPs (l ++ m) ↔ WfPs l ∧ WfPs m
  | [], m => by simp [WfPs]
  | x :: l, m => by simp only [List.cons_append, WfPs]; rw [WfPs_append]; exact and_assoc.symm
theorem WfPs_mem : ∀ {l : List Nd} {x : Nd}, WfPs l → x ∈ l → WfP x
  | [], x, _, h => by cases h
  | y :: l, x, hw, h => by
    simp only [WfPs] at hw
    rcases List.mem_cons.1 h with rfl | h
    · exact hw.1
    · exact WfPs_mem hw.2 h

/-! ## A pattern fits where its tests hold -/
theorem strB_iff {a b : ByteArray} : strB a b = true ↔ a = b := by
  unfold strB
  simp only [beq_iff_eq]
  constructor
  · intro h; exact ByteArray.ext (Array.ext' h)
  · intro h; rw [h]

theorem walk_append : ∀ (p q : List Int) (v : Nd), walk (p ++ q) v = (walk p v).bind (walk q)
  | [], q, v => rfl
  | i :: p, q, v => by
    simp only [List.cons_append, walk]
    split
    · rfl
    · split
      · exact walk_append p q _
      · rfl

theorem holds_at {t : Tst} {x v : Nd} (h : walk t.path x = some v) : holdsB t x = testB t v := by
  unfold holdsB
  rw [h]

theorem walk_child {path : List Int} {x v : Nd} (h : walk path x = some v) (hk : v.k = 5) (i : Nat) : walk (path ++ [(i : Int)]) x = v.l[i]? := by
  rw [walk_append, h]
  simp only [Option.bind_some, walk]
  have h1 : (v.k != 5 || decide ((i : Int) < 0)) = false := by rw [hk]; simp
  rw [h1, if_neg (by simp), Int.toNat_natCast]
  cases v.l[i]? <;> rfl

mutual
theorem tests_fit : ∀ (p : Nd) (path : List Int) (x v : Nd), WfP p → walk path x = some v → (testsT p path).all (holdsB · x) = bindB p v
  | .mk k n s l, path, x, v, hw, hx => by
    simp only [WfP] at hw
    obtain ⟨⟨hk1, hk2⟩, hwl⟩ := hw
    rw [bindB, testsT]
    obtain rfl | rfl | rfl | rfl | rfl | rfl : k = 1 ∨ k = 2 ∨ k = 3 ∨ k = 4 ∨ k = 5 ∨ k = 6 := by omega
    · simp
    · simp
    · simp only [Int.reduceBEq, if_true, Bool.false_eq_true, if_false, List.all_cons, List.all_nil, Bool.and_true]
      rw [holds_at (t := ⟨path, 3, n, ⟨#[]⟩⟩) hx]
      simp [testB, litB, Nd.k, Nd.n, Nd.s]
    · simp only [Int.reduceBEq, if_true, Bool.false_eq_true, if_false, List.all_cons, List.all_nil, Bool.and_true]
      rw [holds_at (t := ⟨path, 4, n, ⟨#[]⟩⟩) hx]
      simp [testB, litB, Nd.k, Nd.n, Nd.s]
    · simp only [Int.reduceBEq, if_true, Bool.false_eq_true, if_false, List.all_cons, List.all_nil, Bool.and_true]
      rw [holds_at (t := ⟨path, 5, 0, s⟩) hx]
      simp [testB, litB, Nd.k, Nd.n, Nd.s]
    · simp only [Int.reduceBEq, if_true, Bool.false_eq_true, if_false, List.all_cons]
      rw [holds_at (t := ⟨path, 6, l.length, s⟩) hx]
      have ht : testB ⟨path, 6, l.length, s⟩ v = (v.k == 5 && strB v.s s && ((v.l.length : Int) == (l.length : Int))) := by simp [testB]
      rw [ht]
      rcases bool_split (v.k == 5) with c1 | c1
      · rcases bool_split (strB v.s s) with c2 | c2
        · rcases bool_split ((v.l.length : Int) == (l.length : Int)) with c3 | c3
          · have hk : v.k = 5 := by simpa using c1
            have hlen : v.l.length = l.length := by simp at c3; omega
            have hc := tests_fits l path x v 0 v.l hwl hx hk (by simp) (by omega)
            unfold strB at c2
            simp only [c1, c2, c3, strB, Bool.and_self, Bool.true_and, bne, Bool.not_true, Bool.false_eq_true, if_false]
            exact hc
          · unfold strB at c2
            simp [c1, c2, c3, strB, bne]
        · unfold strB at c2
          simp [c1, c2, strB, bne]
      · simp [c1, bne]
theorem tests_fits : ∀ (l : List Nd) (path : List Int) (x v : Nd) (i : Nat) (vs : List Nd), WfPs l → walk path x = some v → v.k = 5 → (∀ j, v.l[i + j]? = vs[j]?) → vs.length = l.length → (testsL l path i).all (holdsB · x) = bindL l vs
  | [], _, _, _, _, _, _, _, _, _, _ => by simp [testsL, bindL]
  | p :: l, path, x, v, i, [], _, _, _, _, hl => by simp at hl
  | p :: l, path, x, v, i, w :: vs, hw, hx, hk, hv, hl => by
    simp only [WfPs] at hw
    simp only [testsL, bindL, List.all_append]
    have h0 := hv 0
    simp only [Nat.add_zero, List.getElem?_cons_zero] at h0
    have h1 : walk (path ++ [(i : Int)]) x = some w := by rw [walk_child hx hk, h0]
    rw [tests_fit p _ x w hw.1 h1, tests_fits l path x v (i + 1) vs hw.2 hx hk (fun j => by
      have := hv (j + 1)
      rw [show i + (j + 1) = i + 1 + j by omega] at this
      rw [this]; simp) (by simpa using hl)]
end

/-! ## The tests that patterns have -/
/-- a test of a pattern -/
def CanT (t : Tst) : Prop := (t.k = 3 ∨ t.k = 4 → t.s = ⟨#[]⟩) ∧ (t.k = 5 → t.n = 0)

mutual
theorem tests_can : ∀ (p : Nd) (path : List Int) (t : Tst), t ∈ testsT p path → CanT t
  | .mk k n s l, path, t, h => by
    simp only [testsT] at h
    split at h
    · simp at h; subst h; exact ⟨fun _ => rfl, fun h => by simp_all⟩
    · split at h
      · simp at h; subst h; exact ⟨fun _ => rfl, fun h => by simp_all⟩
      · split at h
        · simp at h; subst h; exact ⟨fun h => by simp_all, fun _ => rfl⟩
        · split at h
          · simp only [List.mem_cons] at h
            rcases h with rfl | h
            · exact ⟨fun h => by simp_all, fun h => by simp_all⟩
            · exact tests_cans l path 0 t h
          · cases h
theorem tests_cans : ∀ (l : List Nd) (path : List Int) (i : Nat) (t : Tst), t ∈ testsL l path i → CanT t
  | [], _, _, t, h => by simp [testsL] at h
  | x :: l, path, i, t, h => by
    simp only [testsL, List.mem_append] at h
    rcases h with h | h
    · exact tests_can x _ t h
    · exact tests_cans l path (i + 1) t h
end

theorem sameT_iff {t u : Tst} : sameT t u = true ↔ t.path = u.path ∧ t.k = u.k ∧ t.n = u.n ∧ t.s = u.s := by
  unfold sameT
  simp only [Bool.and_eq_true, decide_eq_true_eq, beq_iff_eq, strB_iff, and_assoc]
theorem sameT_eq {t u : Tst} (h : sameT t u = true) : t = u := by
  obtain ⟨h1, h2, h3, h4⟩ := sameT_iff.1 h
  cases t; cases u; simp_all

/-- two tests of patterns that hold at one place are one -/
theorem same_of_holds {t u : Tst} {x : Nd} (ht : CanT t) (hu : CanT u) (hp : t.path = u.path) (h1 : holdsB t x = true) (h2 : holdsB u x = true) : t = u := by
  unfold holdsB at h1 h2
  rw [hp] at h1
  split at h1
  · rename_i w hw
    rw [hw] at h2
    simp only [] at h2
    obtain ⟨tp, tk, tn, ts⟩ := t
    obtain ⟨up, uk, un, us⟩ := u
    simp only [CanT] at ht hu
    simp only [testB, litB, Nd.k, Nd.n, Nd.s] at h1 h2
    simp only [] at hp
    subst hp
    by_cases a6 : tk = 6
    · subst a6
      simp at h1
      by_cases b6 : uk = 6
      · subst b6
        simp at h2
        obtain ⟨⟨h11, h12⟩, h13⟩ := h1
        obtain ⟨⟨h21, h22⟩, h23⟩ := h2
        rw [strB_iff] at h12 h22
        simp [← h12, ← h22, ← h13, ← h23]
      · simp only [b6, beq_iff_eq, if_false] at h2
        by_cases b3 : uk = 3
        · subst b3; simp at h2; omega
        · by_cases b4 : uk = 4
          · subst b4; simp at h2; omega
          · by_cases b5 : uk = 5
            · subst b5; simp at h2; omega
            · simp [b3, b4, b5] at h2
    · simp only [a6, beq_iff_eq, if_false] at h1
      by_cases a3 : tk = 3
      · subst a3
        simp at h1
        by_cases b6 : uk = 6
        · subst b6; simp at h2; omega
        · simp only [b6, beq_iff_eq, if_false] at h2
          by_cases b3 : uk = 3
          · subst b3; simp at h2
            have e1 := ht.1 (.inl rfl); have e2 := hu.1 (.inl rfl)
            simp [e1, e2, ← h1.2, ← h2.2]
          · by_cases b4 : uk = 4
            · subst b4; simp at h2; omega
            · by_cases b5 : uk = 5
              · subst b5; simp at h2; omega
              · simp [b3, b4, b5] at h2
      · by_cases a4 : tk = 4
        · subst a4
          simp at h1
          by_cases b6 : uk = 6
          · subst b6; simp at h2; omega
          · simp only [b6, beq_iff_eq, if_false] at h2
            by_cases b3 : uk = 3
            · subst b3; simp at h2; omega
            · by_cases b4 : uk = 4
              · subst b4; simp at h2
                have e1 := ht.1 (.inr rfl); have e2 := hu.1 (.inr rfl)
                simp [e1, e2, ← h1.2, ← h2.2]
              · by_cases b5 : uk = 5
                · subst b5; simp at h2; omega
                · simp [b3, b4, b5] at h2
        · by_cases a5 : tk = 5
          · subst a5
            simp at h1
            by_cases b6 : uk = 6
            · subst b6; simp at h2; omega
            · simp only [b6, beq_iff_eq, if_false] at h2
              by_cases b3 : uk = 3
              · subst b3; simp at h2; omega
              · by_cases b4 : uk = 4
                · subst b4; simp at h2; omega
                · by_cases b5 : uk = 5
                  · subst b5; simp at h2
                    have e1 := ht.2 rfl; have e2 := hu.2 rfl
                    have e3 := strB_iff.1 h1.2; have e4 := strB_iff.1 h2.2
                    simp [e1, e2, ← e3, ← e4]
                  · simp [b3, b4, b5] at h2
          · simp [a3, a4, a5] at h1
  · cases h1

/-! ## The tree -/
def fitR (x : Nd) (r : Row) : Bool := r.ts.all (holdsB · x)
def firstA (x : Nd) : List Row → Int
  | [] => -1
  | r :: l => if fitR x r then r.arm else firstA x l

def CanR (rows : List Row) : Prop := ∀ r ∈ rows, ∀ t ∈ r.ts, CanT t

theorem idx_split {ts : List Tst} {t : Tst} {i : Nat} (h : ts.findIdx? (fun x => sameT x t) = some i) : ∃ a b, ts = a ++ t :: b ∧ ts.take i = a ∧ ts.drop (i + 1) = b := by
  obtain ⟨hi, h1, -⟩ := List.findIdx?_eq_some_iff_getElem.1 h
  have := sameT_eq h1
  refine ⟨ts.take i, ts.drop (i + 1), ?_, rfl, rfl⟩
  rw [← this]
  simp

theorem first_yes {x : Nd} {t : Tst} (ht : CanT t) (hx : holdsB t x = true) : ∀ {rows : List Row}, CanR rows → firstA x (yesRows t rows) = firstA x rows
  | [], _ => rfl
  | r :: l, hc => by
    have ih := first_yes ht hx (rows := l) fun r hr => hc r (by simp [hr])
    unfold yesRows at ih ⊢
    rw [List.filterMap_cons]
    cases hf : r.ts.findIdx? (fun x => sameT x t) with
    | some i =>
      obtain ⟨a, b, e1, e2, e3⟩ := idx_split hf
      have hy : yesRow t r = some ⟨r.arm, a ++ b⟩ := by unfold yesRow; rw [hf]; simp only [e2, e3]
      have hfit : fitR x ⟨r.arm, a ++ b⟩ = fitR x r := by
        simp only [fitR]
        rw [e1]
        simp [hx]
      rw [hy]
      simp only [firstA, hfit, ih]
    | none =>
      rcases bool_split (r.ts.any (fun x => decide (x.path = t.path))) with c | c
      · have hy : yesRow t r = none := by unfold yesRow; rw [hf]; simp [c]
        have hfit : fitR x r = false := by
          obtain ⟨u, hu, hup⟩ := List.any_eq_true.1 c
          have hup : u.path = t.path := by simpa using hup
          rw [List.findIdx?_eq_none_iff] at hf
          have hne := hf u hu
          rw [fitR, List.all_eq_false]
          refine ⟨u, hu, fun h => ?_⟩
          have := same_of_holds (hc r (by simp) u hu) ht hup h hx
          rw [this, sameT_refl] at hne
          cases hne
        rw [hy]
        simp only [firstA, hfit, Bool.false_eq_true, if_false, ih]
      · have hy : yesRow t r = some r := by unfold yesRow; rw [hf]; simp only [c]; rfl
        rw [hy]
        simp only [firstA, ih]

theorem first_no {x : Nd} {t : Tst} (hx : holdsB t x = false) : ∀ {rows : List Row}, firstA x (noRows t rows) = firstA x rows
  | [] => rfl
  | r :: l => by
    have ih := first_no hx (rows := l)
    unfold noRows at ih ⊢
    rw [List.filterMap_cons]
    cases hf : r.ts.findIdx? (fun x => sameT x t) with
    | some i =>
      obtain ⟨a, b, e1, -, -⟩ := idx_split hf
      have hy : noRow t r = none := by unfold noRow; rw [hf]
      have hfit : fitR x r = false := by
        rw [fitR, e1]
        simp [hx]
      rw [hy]
      simp only [firstA, hfit, Bool.false_eq_true, if_false, ih]
    | none =>
      have hy : noRow t r = some r := by unfold noRow; rw [hf]
      rw [hy]
      simp only [firstA, ih]

theorem CanR.yes {t : Tst} {rows : List Row} (h : CanR rows) : CanR (yesRows t rows) := by
  intro r' hr' u hu
  obtain ⟨r, hr, hy⟩ := List.mem_filterMap.1 hr'
  exact h r hr u ((by
    unfold yesRow at hy
    split at hy
    · injection hy with hy; subst hy
      rcases List.mem_append.1 hu with hx | hx
      · exact List.mem_of_mem_take hx
      · exact List.mem_of_mem_drop hx
    · split at hy
      · cases hy
      · injection hy with hy; subst hy; exact hu))
theorem CanR.no {t : Tst} {rows : List Row} (h : CanR rows) : CanR (noRows t rows) := by
  intro r' hr' u hu
  obtain ⟨r, hr, hy⟩ := List.mem_filterMap.1 hr'
  refine h r hr u ?_
  unfold noRow at hy
  split at hy
  · cases hy
  · injection hy with hy; subst hy; exact hu

/-- the tree leads to the first row that fits -/
theorem pick_first (x : Nd) : ∀ (n : Nat) (rows : List Row), CanR rows → weight rows ≤ n → (pickT (buildT n rows) x).1 = firstA x rows
  | n, [], _, _ => by cases n <;> rfl
  | 0, r :: l, _, h => by simp only [weight] at h; omega
  | n + 1, r :: l, hc, hw => by
    cases hts : r.ts with
    | nil =>
      simp only [buildT, hts, pickT, firstA, fitR, List.all_nil, if_true]
    | cons t ts =>
      simp only [buildT, hts, pickT]
      have hct : CanT t := hc r (by simp) t (by rw [hts]; simp)
      rcases bool_split (holdsB t x) with c | c
      · rw [if_pos c, pick_first x n _ hc.yes (by have := yes_less (l := l) hts; omega), first_yes hct c hc]
      · rw [if_neg (by simp [c]), pick_first x n _ hc.no (by have := no_less (l := l) hts; omega), first_no c]

theorem first_rows (x : Nd) : ∀ (l : List Nd) (i : Nat), WfPs l → firstA x (rowsOf l i) = if idxI (bindB · x) l = -1 then -1 else i + idxI (bindB · x) l
  | [], i, _ => by simp [rowsOf, firstA, idxI]
  | p :: l, i, hw => by
    simp only [WfPs] at hw
    have ih := first_rows x l (i + 1) hw.2
    have hfit : fitR x ⟨i, testsT p []⟩ = bindB p x := tests_fit p [] x x hw.1 rfl
    simp only [rowsOf, firstA, hfit]
    rw [ih]
    unfold idxI
    rw [List.findIdx?_cons]
    rcases bool_split (bindB p x) with c | c
    · simp [c]
    · simp only [c, Bool.false_eq_true, if_false]
      cases List.findIdx? (bindB · x) l with
      | none => simp
      | some j =>
        simp only [Option.map_some]
        rw [if_neg (by omega), if_neg (by omega)]
        push_cast
        omega

theorem rows_can {l : List Nd} {i : Nat} : CanR (rowsOf l i) := by
  intro r hr t ht
  obtain ⟨x, -, e⟩ := rowsOf_mem hr
  rw [e] at ht
  exact tests_can x [] t ht

/-- ArmsPick, in plain words -/
theorem pick_plain {l : List Nd} {x : Nd} {n : Nat} (hw : WfPs l) (hn : weight (rowsOf l 0) ≤ n) : (pickT (buildT n (rowsOf l 0)) x).1 = idxI (bindB · x) l := by
  rw [pick_first x n _ rows_can hn, first_rows x l 0 hw]
  split
  · rename_i h; exact h.symm
  · simp
end Go.Rs.Seat
end
/- The dice: patterns. -/
section
namespace Go.Rs.Seat
open Go.Proofs Rg
set_option maxRecDepth 100000
set_option maxHeartbeats 8000000

/-- how large a tree of numbers is -/
def szD : Nat → Nat
  | 0 => 1
  | d + 1 => 1 + 2 * szD d
theorem szD_ge : ∀ d, d + 1 ≤ szD d
  | 0 => Nat.le_refl _
  | d + 1 => by have := szD_ge d; simp only [szD]; omega

theorem IsL.same {a l} (h : IsL a l) : sameA a a = true := by
  rcases h with ⟨rfl, -⟩ | ⟨vs, t, rfl, hvs⟩
  · simp [sameA]
  · have := IsNs.same ((IsNs_iff _ _).2 hvs)
    simp [sameA, this]

theorem Gr.keep' {B sz a H H'} (h : Gr B sz a H) (hn : H.next ≤ H'.next) (hk : ∀ i, B ≤ i → i < H.next → H'.get i = H.get i) : Gr B sz a H' := by
  rcases h with rfl | ⟨vs, t, rfl, h1, h2, h3⟩
  · exact .inl rfl
  · exact .inr ⟨vs, t, rfl, by rw [hk t h2 h3]; exact h1, h2, by omega⟩

theorem key9N (sp) : (env sp).keyFit 9 (.str ⟨#[78]⟩) = true := by kernel_rfl
theorem key9A (sp) : (env sp).keyFit 9 (.str ⟨#[65]⟩) = true := by kernel_rfl
theorem key9B (sp) : (env sp).keyFit 9 (.str ⟨#[66]⟩) = true := by kernel_rfl
theorem key9Q (sp) : (env sp).keyFit 9 (.str ⟨#[81]⟩) = true := by kernel_rfl
theorem eqNN : eqA (.str ⟨#[78]⟩) (.str ⟨#[78]⟩) = some true := by decide
theorem eqNA : eqA (.str ⟨#[78]⟩) (.str ⟨#[65]⟩) = some false := by decide
theorem eqNB : eqA (.str ⟨#[78]⟩) (.str ⟨#[66]⟩) = some false := by decide
theorem eqNQ : eqA (.str ⟨#[78]⟩) (.str ⟨#[81]⟩) = some false := by decide
theorem eqAN : eqA (.str ⟨#[65]⟩) (.str ⟨#[78]⟩) = some false := by decide
theorem eqAA : eqA (.str ⟨#[65]⟩) (.str ⟨#[65]⟩) = some true := by decide
theorem eqAB : eqA (.str ⟨#[65]⟩) (.str ⟨#[66]⟩) = some false := by decide
theorem eqAQ : eqA (.str ⟨#[65]⟩) (.str ⟨#[81]⟩) = some false := by decide
theorem eqBN : eqA (.str ⟨#[66]⟩) (.str ⟨#[78]⟩) = some false := by decide
theorem eqBA : eqA (.str ⟨#[66]⟩) (.str ⟨#[65]⟩) = some false := by decide
theorem eqBB : eqA (.str ⟨#[66]⟩) (.str ⟨#[66]⟩) = some true := by decide
theorem eqBQ : eqA (.str ⟨#[66]⟩) (.str ⟨#[81]⟩) = some false := by decide
theorem eqQN : eqA (.str ⟨#[81]⟩) (.str ⟨#[78]⟩) = some false := by decide
theorem eqQA : eqA (.str ⟨#[81]⟩) (.str ⟨#[65]⟩) = some false := by decide
theorem eqQB : eqA (.str ⟨#[81]⟩) (.str ⟨#[66]⟩) = some false := by decide
theorem eqQQ : eqA (.str ⟨#[81]⟩) (.str ⟨#[81]⟩) = some true := by decide

/-- how many parts a name has -/
def cntN (x : ByteArray) : Nat := if x = ⟨#[66]⟩ then 2 else if x = ⟨#[78]⟩ then 0 else 1
theorem cntN_le (x : ByteArray) : cntN x ≤ 2 := by 
  unfold cntN
  split
  · omega
  · split <;> omega

section
variable {sp : Bool → FuncId → Option (List AVal → Hp → Option (AVal × Hp))}

def PatOk (sp : Bool → FuncId → Option (List AVal → Hp → Option (AVal × Hp))) (d : Nat) : Prop :=
  ∀ k, d + 5 ≤ k → ∀ (id c : Nat) (H : Hp), Dice H id c → id < H.next → c + 3 * szD d < 1000000 → H.next + 3 * szD d ≤ 4000 →
    ∃ v p H', evalCall (env sp) k false 26 [.ptr id 0, .int .i64 d] H = some (v, H') ∧ IsN p v ∧ WfP p ∧ p.size ≤ szD d ∧ H.next ≤ H'.next ∧ H'.next ≤ H.next + 3 * szD d ∧ (∃ c' ≤ c + 3 * szD d, Dice H' id c') ∧ ∀ j < H.next, j ≠ id → H'.get j = H.get j

def Inv26 (id c d z n : Nat) (x : ByteArray) (H0 : Hp) (i : Nat) (st : St) : Prop :=
  st.1.n = 56 ∧ st.1.tm.get 0 = some (.ptr id 0) ∧ st.1.tm.get 1 = some (.int .i64 d) ∧ st.1.tm.get 4 = some (.lptr 0 0) ∧ st.1.tm.get 5 = some (.lptr 1 0) ∧ st.1.tm.get 42 = some (.int .i64 n) ∧ st.1.tm.get 43 = some (.int .i64 i) ∧
    st.1.lv.get 0 = some [.int .i64 0, .int .i64 0, .str ⟨#[]⟩, .nilslice] ∧ H0.next ≤ st.2.next ∧ st.2.next ≤ H0.next + i * (3 * z + 1) ∧ (∃ c' ≤ c + i * (3 * z), Dice st.2 id c') ∧ (∀ j < H0.next, j ≠ id → st.2.get j = H0.get j) ∧
    ∃ o, st.1.lv.get 1 = some [.int .i64 6, .int .i64 0, .str x, o] ∧ ∃ l, IsL o l ∧ Gr H0.next 4 o st.2 ∧ Nd.sizes l ≤ i * z ∧ l.length = i ∧ WfPs l

theorem pat26_step {k : Nat} {st : St} {H0 : Hp} {id c d n i : Nat} {x : ByteArray} (hok : PatOk sp d) (hk : d + 5 ≤ k) (hid : id < H0.next) (hc : c + n * (3 * szD d) < 1000000) (hH : H0.next + n * (3 * szD d + 1) ≤ 4000) (hin : i < n) (hnn : n ≤ 2) (hdd : d < 4000)
    (h : Inv26 id c (d + 1) (szD d) n x H0 i st) :
    Ev (env sp) (evalCall (env sp) k) false 26 b26_1 st fun ex s => ex = .normal ∧ Inv26 id c (d + 1) (szD d) n x H0 (i + 1) s := by
  obtain ⟨hn', h0, h1, h4, h5, h42, h43, hl0, hHn, hHs, ⟨c', hc', hd⟩, hfr, o, hl1, l, ho, hgo, hls, hll, hwl⟩ := h
  have hmul : (i + 1) * (3 * szD d + 1) = i * (3 * szD d + 1) + (3 * szD d + 1) := Nat.succ_mul _ _
  have hmul2 : (i + 1) * (3 * szD d) = i * (3 * szD d) + 3 * szD d := Nat.succ_mul _ _
  have hmul3 : (i + 1) * szD d = i * szD d + szD d := Nat.succ_mul _ _
  have hle : (i + 1) * (3 * szD d + 1) ≤ n * (3 * szD d + 1) := Nat.mul_le_mul_right _ hin
  have hle2 : (i + 1) * (3 * szD d) ≤ n * (3 * szD d) := Nat.mul_le_mul_right _ hin
  obtain ⟨v, p, H1, e26, hp, hwp, hps, hm1, hm2, ⟨c2, hc2, hd2⟩, hfr1⟩ := hok k hk id c' st.2 hd (by omega) (by omega) (by omega)
  have hgo1 : Gr H0.next 4 o H1 := hgo.keep' hm1 fun j hj1 hj2 => hfr1 j hj2 (by omega)
  obtain ⟨b, rfl, hb⟩ := hp.cells
  obtain ⟨o', H2, eap, ho', hgo', hx1, htok, hf1⟩ := app_gr' (P := fun v x => IsN x v) (E := env sp) (T := 25) (e := 36) (sz := 4) (tk := .full) (m := [p]) (ys := [.agg [.int .i64 p.k, .int .i64 p.n, .str p.s, b]]) (by rw [ty25]) (by rw [ty36]; decide) (by rw [ty36]) hgo1 ho (AllP.cons (isN_of hb) AllP.nil) (by simp) (by omega) (by omega) (by
    rw [hll]; simp; omega)
  have hob := hb.one
  have hoo := hgo.one
  have hoo' := hgo'.one
  have hsm := ho.same
  have hi' : ((i : Int) < (n : Int)) = True := by simp [hin]
  have hw : IntKind.i64.wrap ((i : Int) + 1) = ((i + 1 : Nat) : Int) := wrap_nat (by omega)
  have hwd : IntKind.i64.wrap (((d + 1 : Nat) : Int) - 1) = (d : Int) := by rw [IntKind.wrap_i64]; omega
  simp only [Ev, Inv26, b26_1, o26_16, ↓drw26_17, d26_17, o26_18, hn', h0, h1, h4, h5, h42, h43, hl0, hl1, hi', e26, eap, hw, hwd, hob, hoo, hoo', hsm, List.take, List.drop, evalCode, runOps, runD, runDraw, askOf, askRecs, askAll, isEff, muteOp, stepA, wantedA, isCall, target, evalOp, opMove, opPick, opAlloc, opBox, opBuild, opBuildSlice, opLoad, opStore, opNilCheck, opBinOp, opUnOp, opConvert, opMakeFunc, opMakeMap, opSlice, opFieldAddr, opField, opIndexAddr, opLookup, opExtract, opAppendB, opLenB, wrOf, newA, eqlA, keepA, newV, evT, toA, putA, loadA, storeA, takeCells, setCells, isAgg, binA, unA, convA, arith, addOff, dstLen, nilNil, isConst, sameTy, strOp, params, results, packA, AExit.leaves, maxTmp, memN, askIn, fillA, repl, groups, Option.getD, Option.map, List.length, List.all, Int.reduceBEq, Int.reduceBNe, Int.reduceEq, Int.reduceGT, Int.reduceGE, Int.reduceNeg, Int.reduceAdd, Int.reduceSub, Int.reduceLT, Int.reduceLE, Int.reduceToNat, Nat.reduceLT, Nat.reducePow, Nat.reduceAdd, Nat.reduceMul, Nat.reduceLeDiff, Nat.reduceEqDiff, Nat.reduceBEq, reduceIte, ↓reduceIte, reduceCtorEq, syT, tyT, Rg.regF, Rg.findR, pickOps, fT26, Tryz.f26]
  refine ⟨by omega, by omega, ⟨c2, by omega, ?_⟩, fun j hj hne => ?_, o', rfl, l ++ [p], ho', hgo', ?_, by simp [hll], WfPs_append.2 ⟨hwl, hwp, trivial⟩⟩
  · obtain ⟨la, l', bb, q1, q2, q3⟩ := hd2
    refine ⟨la, l', bb, ?_, q2, q3⟩
    rw [hf1 id (by omega) (fun hh => ?_)]
    · exact q1
    · rcases hgo with rfl | ⟨ws, u, rfl, k1, k2, k3⟩
      · cases hh
      · injection hh with hh; omega
  · rw [hf1 j (by omega) (fun hh => ?_), hfr1 j (by omega) hne, hfr j hj hne]
    rcases hgo with rfl | ⟨ws, u, rfl, k1, k2, k3⟩
    · cases hh
    · injection hh with hh; omega
  · rw [sizes_append]; simp [Nd.sizes]; omega

theorem pat26_end {call : CallF} {st : St} {H0 : Hp} {id c d z n : Nat} {x : ByteArray} (h : Inv26 id c d z n x H0 n st) :
    Ev (env sp) call false 26 b26_1 st fun ex s => ex = .exit 1 ∧ Inv26 id c d z n x H0 n s := by
  obtain ⟨hn', h0, h1, h4, h5, h42, h43, hl0, hHn, hHs, hd, hfr, o, hl1, l, ho, hgo, hls, hll, hwl⟩ := h
  have hi' : ((n : Int) < (n : Int)) = False := by simp
  simp only [Ev, Inv26, b26_1, o26_16, hn', h0, h1, h4, h5, h42, h43, hl0, hl1, hi', evalCode, runOps, runD, runDraw, askOf, askRecs, askAll, isEff, muteOp, stepA, wantedA, isCall, target, evalOp, opMove, opPick, opAlloc, opBox, opBuild, opBuildSlice, opLoad, opStore, opNilCheck, opBinOp, opUnOp, opConvert, opMakeFunc, opMakeMap, opSlice, opFieldAddr, opField, opIndexAddr, opLookup, opExtract, opAppendB, opLenB, wrOf, newA, eqlA, keepA, newV, evT, toA, putA, loadA, storeA, takeCells, setCells, isAgg, binA, unA, convA, arith, addOff, dstLen, nilNil, isConst, sameTy, strOp, params, results, packA, AExit.leaves, maxTmp, memN, askIn, fillA, repl, groups, Option.getD, Option.map, List.length, List.all, Int.reduceBEq, Int.reduceBNe, Int.reduceEq, Int.reduceGT, Int.reduceGE, Int.reduceNeg, Int.reduceAdd, Int.reduceSub, Int.reduceLT, Int.reduceLE, Int.reduceToNat, Nat.reduceLT, Nat.reducePow, Nat.reduceAdd, Nat.reduceMul, Nat.reduceLeDiff, Nat.reduceEqDiff, Nat.reduceBEq, reduceIte, ↓reduceIte, reduceCtorEq, syT, tyT, Rg.regF, Rg.findR, pickOps, fT26, Tryz.f26]
  exact ⟨hHn, hHs, hd, hfr, o, rfl, l, ho, hgo, hls, hll, hwl⟩
end
end Go.Rs.Seat
end
/- The dice: a pattern, the whole. -/
section
namespace Go.Rs.Seat
open Go.Proofs Rg
set_option maxRecDepth 100000
set_option maxHeartbeats 16000000

theorem mem4 {x a b c d : ByteArray} (h : x ∈ [a, b, c, d]) : x = a ∨ x = b ∨ x = c ∨ x = d := by simpa using h

section
variable {sp : Bool → FuncId → Option (List AVal → Hp → Option (AVal × Hp))}

theorem pat26_map {call : CallF} {st : St} {H : Hp} {x : ByteArray} (hx : x ∈ [(⟨#[78]⟩ : ByteArray), ⟨#[65]⟩, ⟨#[66]⟩, ⟨#[81]⟩]) (hn' : st.1.n = 56) (hH : st.2 = H) (hHn : H.next < 4096) {id d : Nat} {z0 : List AVal}
    (h0 : st.1.tm.get 0 = some (.ptr id 0)) (h1 : st.1.tm.get 1 = some (.int .i64 d)) (h4 : st.1.tm.get 4 = some (.lptr 0 0)) (h5 : st.1.tm.get 5 = some (.lptr 1 0)) (hl0 : st.1.lv.get 0 = some z0) (hl1 : st.1.lv.get 1 = some [.int .i64 6, .int .i64 0, .str x, .nilslice]) :
    Ev (env sp) call false 26 r26_12 st fun ex s => ex = .normal ∧ s.1.n = 56 ∧ s.2.next = H.next + 1 ∧ (∀ j, j ≠ H.next → s.2.get j = H.get j) ∧ s.1.tm.get 0 = some (.ptr id 0) ∧ s.1.tm.get 1 = some (.int .i64 d) ∧ s.1.tm.get 4 = some (.lptr 0 0) ∧ s.1.tm.get 5 = some (.lptr 1 0) ∧ s.1.tm.get 6 = some (.int .i64 (cntN x)) ∧
      s.1.lv.get 0 = some z0 ∧ s.1.lv.get 1 = some [.int .i64 6, .int .i64 0, .str x, .nilslice] := by
  have hHn' : (H.next < 4096) = True := by simp [hHn]
  have gA : ∀ o, (H.alloc o).2.get H.next = o := fun o => by rw [hnew hHn, if_pos rfl]
  have gS : ∀ (K : Hp) o, (K.set H.next o).get H.next = o := fun K o => by rw [hget hHn, if_pos rfl]
  have fr : ∀ o1 o2 o3 o4 o5 j, j ≠ H.next → (((((H.alloc o1).2.set H.next o2).set H.next o3).set H.next o4).set H.next o5).get j = H.get j := by
    intro o1 o2 o3 o4 o5 j hj
    have hj' : H.next ≠ j := fun h => hj h.symm
    rw [hget hHn, if_neg hj', hget hHn, if_neg hj', hget hHn, if_neg hj', hget hHn, if_neg hj', hnew hHn, if_neg hj']
  rcases mem4 hx with rfl | rfl | rfl | rfl
  all_goals
    simp only [Ev, o26_12, hn', hH, h0, h1, h4, h5, hl0, hl1, hHn', gA, gS, opMapUpdate, foundA, findE, updE, key9N, key9A, key9B, key9Q, eqNN, eqNA, eqNB, eqNQ, eqAN, eqAA, eqAB, eqAQ, eqBN, eqBA, eqBB, eqBQ, eqQN, eqQA, eqQB, eqQQ, evalCode, runOps, runD, runDraw, askOf, askRecs, askAll, isEff, muteOp, stepA, wantedA, isCall, target, evalOp, opMove, opPick, opAlloc, opBox, opBuild, opBuildSlice, opLoad, opStore, opNilCheck, opBinOp, opUnOp, opConvert, opMakeFunc, opMakeMap, opSlice, opFieldAddr, opField, opIndexAddr, opLookup, opExtract, opAppendB, opLenB, wrOf, newA, eqlA, keepA, newV, evT, toA, putA, loadA, storeA, takeCells, setCells, isAgg, binA, unA, convA, arith, addOff, dstLen, nilNil, isConst, sameTy, strOp, params, results, packA, AExit.leaves, maxTmp, memN, askIn, fillA, repl, groups, Option.getD, Option.map, List.length, List.all, Int.reduceBEq, Int.reduceBNe, Int.reduceEq, Int.reduceGT, Int.reduceGE, Int.reduceNeg, Int.reduceAdd, Int.reduceSub, Int.reduceLT, Int.reduceLE, Int.reduceToNat, Nat.reduceLT, Nat.reducePow, Nat.reduceAdd, Nat.reduceMul, Nat.reduceLeDiff, Nat.reduceEqDiff, Nat.reduceBEq, reduceIte, ↓reduceIte, reduceCtorEq, syT, tyT, Rg.regF, Rg.findR, pickOps, fT26, Tryz.f26]
    exact ⟨fun j hj => fr _ _ _ _ _ j hj, rfl⟩

/-- what stands behind the first dice -/
theorem pat26_leaf (hs : PlainD sp) {k : Nat} {st : St} {H : Hp} {id c d : Nat} {r : Int} (hd : Dice H id c) (hid : id < 4096) (hc : c < 1000000) (hr0 : 0 ≤ r) (hr1 : r < 7) (hn' : st.1.n = 56) (hH : st.2 = H)
    (h0 : st.1.tm.get 0 = some (.ptr id 0)) (h1 : st.1.tm.get 1 = some (.int .i64 d)) (h4 : st.1.tm.get 4 = some (.lptr 0 0)) (h8 : st.1.tm.get 8 = some (.int .i64 r)) (hln : st.1.lv.next = 1) (hl0 : st.1.lv.get 0 = some [.int .i64 0, .int .i64 0, .str ⟨#[]⟩, .nilslice]) :
    Ev (env sp) (evalCall (env sp) (k + 3)) false 26 (.block 0 (.seq r26_2 (.cond (.tmp 9) (.seq r26_3 .ret) (.seq (.seq r26_4 (.cond (.tmp 12) .skip r26_5)) (.cond (.tmp 12) (.seq r26_6 .ret) (.seq r26_7 (.cond (.tmp 19) (.seq r26_8 .ret) (.seq r26_9 (.cond (.tmp 25) (.seq r26_10 .ret) .skip))))))))) st fun ex s =>
      (ex = .ret ∧ s.2.next = H.next ∧ (∃ c' ≤ c + 1, Dice s.2 id c') ∧ (∀ j, j ≠ id → s.2.get j = H.get j) ∧ s.1.tm.get 4 = some (.lptr 0 0) ∧ ∃ a b x, s.1.lv.get 0 = some [.int .i64 a, .int .i64 b, .str x, .nilslice] ∧ 1 ≤ a ∧ a ≤ 6) ∨
      (ex = .normal ∧ s.1.n = 56 ∧ s.2 = H ∧ s.1.tm.get 0 = some (.ptr id 0) ∧ s.1.tm.get 1 = some (.int .i64 d) ∧ s.1.tm.get 4 = some (.lptr 0 0) ∧ s.1.lv.next = 1 ∧ s.1.lv.get 0 = some [.int .i64 0, .int .i64 0, .str ⟨#[]⟩, .nilslice]) := by
  have n10 : ((1 : Int) == 0) = false := rfl
  rcases bool_split (r == 0) with q0 | q0
  · refine Ev.block ?_
    refine Ev.mono (Q := fun ex s => ex = .ret ∧ s.2 = H ∧ s.1.tm.get 4 = some (.lptr 0 0) ∧ s.1.lv.get 0 = some [.int .i64 1, .int .i64 0, .str ⟨#[]⟩, .nilslice]) ?_ fun ex s h => ?_
    · simp only [Ev, o26_2, o26_3, hn', hH, h0, h1, h4, h8, hln, hl0, q0, evalCode, runOps, runD, runDraw, askOf, askRecs, askAll, isEff, muteOp, stepA, wantedA, isCall, target, evalOp, opMove, opPick, opAlloc, opBox, opBuild, opBuildSlice, opLoad, opStore, opNilCheck, opBinOp, opUnOp, opConvert, opMakeFunc, opMakeMap, opSlice, opFieldAddr, opField, opIndexAddr, opLookup, opExtract, opAppendB, opLenB, wrOf, newA, eqlA, keepA, newV, evT, toA, putA, loadA, storeA, takeCells, setCells, isAgg, binA, unA, convA, arith, addOff, dstLen, nilNil, isConst, sameTy, strOp, params, results, packA, AExit.leaves, maxTmp, memN, askIn, fillA, repl, groups, Option.getD, Option.map, List.length, List.all, Int.reduceBEq, Int.reduceBNe, Int.reduceEq, Int.reduceGT, Int.reduceGE, Int.reduceNeg, Int.reduceAdd, Int.reduceSub, Int.reduceLT, Int.reduceLE, Int.reduceToNat, Nat.reduceLT, Nat.reducePow, Nat.reduceAdd, Nat.reduceMul, Nat.reduceLeDiff, Nat.reduceEqDiff, Nat.reduceBEq, reduceIte, ↓reduceIte, reduceCtorEq, syT, tyT, Rg.regF, Rg.findR, pickOps, fT26, Tryz.f26]
    · obtain ⟨rfl, e, t4, hl⟩ := h
      exact .inl ⟨rfl, by rw [e], ⟨c, by omega, by rw [e]; exact hd⟩, fun j _ => by rw [e], t4, 1, 0, ⟨#[]⟩, hl, by omega, by omega⟩
  rcases bool_split (r == 1 || r == 2) with q1 | q1
  · obtain ⟨x, H', e27, -, g1, g2, g3⟩ := of27 hs (k := k) (ss := [⟨#[97]⟩, ⟨#[120]⟩, ⟨#[121]⟩]) (tok := .full) hd hid (by omega) (by simp) (by simp)
    simp only [List.map_cons, List.map_nil] at e27
    refine Ev.block ?_
    refine Ev.mono (Q := fun ex s => ex = .ret ∧ s.2 = H' ∧ s.1.tm.get 4 = some (.lptr 0 0) ∧ s.1.lv.get 0 = some [.int .i64 2, .int .i64 0, .str x, .nilslice]) ?_ fun ex s h => ?_
    · rcases bool_split (r == 1) with q2 | q2
      · simp only [Ev, o26_2, o26_4, o26_6, hn', hH, h0, h1, h4, h8, hln, hl0, q0, q2, e27, evalCode, runOps, runD, runDraw, askOf, askRecs, askAll, isEff, muteOp, stepA, wantedA, isCall, target, evalOp, opMove, opPick, opAlloc, opBox, opBuild, opBuildSlice, opLoad, opStore, opNilCheck, opBinOp, opUnOp, opConvert, opMakeFunc, opMakeMap, opSlice, opFieldAddr, opField, opIndexAddr, opLookup, opExtract, opAppendB, opLenB, wrOf, newA, eqlA, keepA, newV, evT, toA, putA, loadA, storeA, takeCells, setCells, isAgg, binA, unA, convA, arith, addOff, dstLen, nilNil, isConst, sameTy, strOp, params, results, packA, AExit.leaves, maxTmp, memN, askIn, fillA, repl, groups, Option.getD, Option.map, List.length, List.all, Int.reduceBEq, Int.reduceBNe, Int.reduceEq, Int.reduceGT, Int.reduceGE, Int.reduceNeg, Int.reduceAdd, Int.reduceSub, Int.reduceLT, Int.reduceLE, Int.reduceToNat, Nat.reduceLT, Nat.reducePow, Nat.reduceAdd, Nat.reduceMul, Nat.reduceLeDiff, Nat.reduceEqDiff, Nat.reduceBEq, reduceIte, ↓reduceIte, reduceCtorEq, syT, tyT, Rg.regF, Rg.findR, pickOps, fT26, Tryz.f26]
      · rw [q2, Bool.false_or] at q1
        simp only [Ev, o26_2, o26_4, o26_5, o26_6, hn', hH, h0, h1, h4, h8, hln, hl0, q0, q2, q1, e27, evalCode, runOps, runD, runDraw, askOf, askRecs, askAll, isEff, muteOp, stepA, wantedA, isCall, target, evalOp, opMove, opPick, opAlloc, opBox, opBuild, opBuildSlice, opLoad, opStore, opNilCheck, opBinOp, opUnOp, opConvert, opMakeFunc, opMakeMap, opSlice, opFieldAddr, opField, opIndexAddr, opLookup, opExtract, opAppendB, opLenB, wrOf, newA, eqlA, keepA, newV, evT, toA, putA, loadA, storeA, takeCells, setCells, isAgg, binA, unA, convA, arith, addOff, dstLen, nilNil, isConst, sameTy, strOp, params, results, packA, AExit.leaves, maxTmp, memN, askIn, fillA, repl, groups, Option.getD, Option.map, List.length, List.all, Int.reduceBEq, Int.reduceBNe, Int.reduceEq, Int.reduceGT, Int.reduceGE, Int.reduceNeg, Int.reduceAdd, Int.reduceSub, Int.reduceLT, Int.reduceLE, Int.reduceToNat, Nat.reduceLT, Nat.reducePow, Nat.reduceAdd, Nat.reduceMul, Nat.reduceLeDiff, Nat.reduceEqDiff, Nat.reduceBEq, reduceIte, ↓reduceIte, reduceCtorEq, syT, tyT, Rg.regF, Rg.findR, pickOps, fT26, Tryz.f26]
    · obtain ⟨rfl, e, t4, hl⟩ := h
      exact .inl ⟨rfl, by rw [e]; exact g1, by rw [e]; exact g2, fun j hj => by rw [e]; exact g3 j hj, t4, 2, 0, x, hl, by omega, by omega⟩
  rw [Bool.or_eq_false_iff] at q1
  obtain ⟨q1, q2⟩ := q1
  rcases bool_split (r == 3) with q3 | q3
  · obtain ⟨x, H', e25, -, -, g1, g2, g3⟩ := dice25 hs (k := k + 1) (n := 3) hd hid (by omega) (by omega) (by omega)
    rw [nc3] at e25
    refine Ev.block ?_
    refine Ev.mono (Q := fun ex s => ex = .ret ∧ s.2 = H' ∧ s.1.tm.get 4 = some (.lptr 0 0) ∧ s.1.lv.get 0 = some [.int .i64 3, .int .i64 (IntKind.i64.wrap (x - 1)), .str ⟨#[]⟩, .nilslice]) ?_ fun ex s h => ?_
    · simp only [Ev, o26_2, o26_4, o26_5, o26_7, o26_8, hn', hH, h0, h1, h4, h8, hln, hl0, q0, q1, q2, q3, e25, evalCode, runOps, runD, runDraw, askOf, askRecs, askAll, isEff, muteOp, stepA, wantedA, isCall, target, evalOp, opMove, opPick, opAlloc, opBox, opBuild, opBuildSlice, opLoad, opStore, opNilCheck, opBinOp, opUnOp, opConvert, opMakeFunc, opMakeMap, opSlice, opFieldAddr, opField, opIndexAddr, opLookup, opExtract, opAppendB, opLenB, wrOf, newA, eqlA, keepA, newV, evT, toA, putA, loadA, storeA, takeCells, setCells, isAgg, binA, unA, convA, arith, addOff, dstLen, nilNil, isConst, sameTy, strOp, params, results, packA, AExit.leaves, maxTmp, memN, askIn, fillA, repl, groups, Option.getD, Option.map, List.length, List.all, Int.reduceBEq, Int.reduceBNe, Int.reduceEq, Int.reduceGT, Int.reduceGE, Int.reduceNeg, Int.reduceAdd, Int.reduceSub, Int.reduceLT, Int.reduceLE, Int.reduceToNat, Nat.reduceLT, Nat.reducePow, Nat.reduceAdd, Nat.reduceMul, Nat.reduceLeDiff, Nat.reduceEqDiff, Nat.reduceBEq, reduceIte, ↓reduceIte, reduceCtorEq, syT, tyT, Rg.regF, Rg.findR, pickOps, fT26, Tryz.f26]
    · obtain ⟨rfl, e, t4, hl⟩ := h
      exact .inl ⟨rfl, by rw [e]; exact g1, by rw [e]; exact g2, fun j hj => by rw [e]; exact g3 j hj, t4, 3, _, _, hl, by omega, by omega⟩
  rcases bool_split (r == 4) with q4 | q4
  · obtain ⟨x, H', e25, -, -, g1, g2, g3⟩ := dice25 hs (k := k + 1) (n := 2) hd hid (by omega) (by omega) (by omega)
    rw [nc2] at e25
    refine Ev.block ?_
    refine Ev.mono (Q := fun ex s => ex = .ret ∧ s.2 = H' ∧ s.1.tm.get 4 = some (.lptr 0 0) ∧ s.1.lv.get 0 = some [.int .i64 4, .int .i64 x, .str ⟨#[]⟩, .nilslice]) ?_ fun ex s h => ?_
    · simp only [Ev, o26_2, o26_4, o26_5, o26_7, o26_9, o26_10, hn', hH, h0, h1, h4, h8, hln, hl0, q0, q1, q2, q3, q4, e25, evalCode, runOps, runD, runDraw, askOf, askRecs, askAll, isEff, muteOp, stepA, wantedA, isCall, target, evalOp, opMove, opPick, opAlloc, opBox, opBuild, opBuildSlice, opLoad, opStore, opNilCheck, opBinOp, opUnOp, opConvert, opMakeFunc, opMakeMap, opSlice, opFieldAddr, opField, opIndexAddr, opLookup, opExtract, opAppendB, opLenB, wrOf, newA, eqlA, keepA, newV, evT, toA, putA, loadA, storeA, takeCells, setCells, isAgg, binA, unA, convA, arith, addOff, dstLen, nilNil, isConst, sameTy, strOp, params, results, packA, AExit.leaves, maxTmp, memN, askIn, fillA, repl, groups, Option.getD, Option.map, List.length, List.all, Int.reduceBEq, Int.reduceBNe, Int.reduceEq, Int.reduceGT, Int.reduceGE, Int.reduceNeg, Int.reduceAdd, Int.reduceSub, Int.reduceLT, Int.reduceLE, Int.reduceToNat, Nat.reduceLT, Nat.reducePow, Nat.reduceAdd, Nat.reduceMul, Nat.reduceLeDiff, Nat.reduceEqDiff, Nat.reduceBEq, reduceIte, ↓reduceIte, reduceCtorEq, syT, tyT, Rg.regF, Rg.findR, pickOps, fT26, Tryz.f26]
    · obtain ⟨rfl, e, t4, hl⟩ := h
      exact .inl ⟨rfl, by rw [e]; exact g1, by rw [e]; exact g2, fun j hj => by rw [e]; exact g3 j hj, t4, 4, _, _, hl, by omega, by omega⟩
  · refine Ev.block ?_
    refine Ev.mono (Q := fun ex s => ex = .normal ∧ s.1.n = 56 ∧ s.2 = H ∧ s.1.tm.get 0 = some (.ptr id 0) ∧ s.1.tm.get 1 = some (.int .i64 d) ∧ s.1.tm.get 4 = some (.lptr 0 0) ∧ s.1.lv.next = 1 ∧ s.1.lv.get 0 = some [.int .i64 0, .int .i64 0, .str ⟨#[]⟩, .nilslice]) ?_ fun ex s h => ?_
    · simp only [Ev, o26_2, o26_4, o26_5, o26_7, o26_9, hn', hH, h0, h1, h4, h8, hln, hl0, q0, q1, q2, q3, q4, evalCode, runOps, runD, runDraw, askOf, askRecs, askAll, isEff, muteOp, stepA, wantedA, isCall, target, evalOp, opMove, opPick, opAlloc, opBox, opBuild, opBuildSlice, opLoad, opStore, opNilCheck, opBinOp, opUnOp, opConvert, opMakeFunc, opMakeMap, opSlice, opFieldAddr, opField, opIndexAddr, opLookup, opExtract, opAppendB, opLenB, wrOf, newA, eqlA, keepA, newV, evT, toA, putA, loadA, storeA, takeCells, setCells, isAgg, binA, unA, convA, arith, addOff, dstLen, nilNil, isConst, sameTy, strOp, params, results, packA, AExit.leaves, maxTmp, memN, askIn, fillA, repl, groups, Option.getD, Option.map, List.length, List.all, Int.reduceBEq, Int.reduceBNe, Int.reduceEq, Int.reduceGT, Int.reduceGE, Int.reduceNeg, Int.reduceAdd, Int.reduceSub, Int.reduceLT, Int.reduceLE, Int.reduceToNat, Nat.reduceLT, Nat.reducePow, Nat.reduceAdd, Nat.reduceMul, Nat.reduceLeDiff, Nat.reduceEqDiff, Nat.reduceBEq, reduceIte, ↓reduceIte, reduceCtorEq, syT, tyT, Rg.regF, Rg.findR, pickOps, fT26, Tryz.f26]
    · obtain ⟨rfl, h⟩ := h
      exact .inr ⟨rfl, h⟩

theorem pat26_at (hs : PlainD sp) (d : Nat) (ih : ∀ d', d = d' + 1 → PatOk sp d') : PatOk sp d := by
  intro k hk id c H hd hid hc hH
  obtain ⟨k', rfl⟩ : ∃ k', k = k' + 3 + 1 := ⟨k - 4, by omega⟩
  have hszp := szD_ge d
  have hid' : id < 4096 := by omega
  have key : ∃ r, evalCall (env sp) (k' + 3 + 1) false 26 [.ptr id 0, .int .i64 d] H = some r ∧ (∃ p, IsN p r.1 ∧ WfP p ∧ p.size ≤ szD d ∧ H.next ≤ r.2.next ∧ r.2.next ≤ H.next + 3 * szD d ∧ (∃ c' ≤ c + 3 * szD d, Dice r.2 id c') ∧ ∀ j < H.next, j ≠ id → r.2.get j = H.get j) := by
    refine enter26 (Post := fun v H' => ∃ p, IsN p v ∧ WfP p ∧ p.size ≤ szD d ∧ H.next ≤ H'.next ∧ H'.next ≤ H.next + 3 * szD d ∧ (∃ c' ≤ c + 3 * szD d, Dice H' id c') ∧ ∀ j < H.next, j ≠ id → H'.get j = H.get j) hs.h26 rfl ?_
    unfold c26
    refine Ev.seqN (Q := fun s => s.1.n = 56 ∧ s.2 = H ∧ s.1.tm.get 0 = some (.ptr id 0) ∧ s.1.tm.get 1 = some (.int .i64 d) ∧ s.1.tm.get 4 = some (.lptr 0 0) ∧ s.1.lv.next = 1 ∧ s.1.lv.get 0 = some [.int .i64 0, .int .i64 0, .str ⟨#[]⟩, .nilslice]) ?_ ?_
    · simp only [Ev, o26_0, evalCode, runOps, runD, runDraw, askOf, askRecs, askAll, isEff, muteOp, stepA, wantedA, isCall, target, evalOp, opMove, opPick, opAlloc, opBox, opBuild, opBuildSlice, opLoad, opStore, opNilCheck, opBinOp, opUnOp, opConvert, opMakeFunc, opMakeMap, opSlice, opFieldAddr, opField, opIndexAddr, opLookup, opExtract, opAppendB, opLenB, wrOf, newA, eqlA, keepA, newV, evT, toA, putA, loadA, storeA, takeCells, setCells, isAgg, binA, unA, convA, arith, addOff, dstLen, nilNil, isConst, sameTy, strOp, params, results, packA, AExit.leaves, maxTmp, memN, askIn, fillA, repl, groups, Option.getD, Option.map, List.length, List.all, Int.reduceBEq, Int.reduceBNe, Int.reduceEq, Int.reduceGT, Int.reduceGE, Int.reduceNeg, Int.reduceAdd, Int.reduceSub, Int.reduceLT, Int.reduceLE, Int.reduceToNat, Nat.reduceLT, Nat.reducePow, Nat.reduceAdd, Nat.reduceMul, Nat.reduceLeDiff, Nat.reduceEqDiff, Nat.reduceBEq, reduceIte, ↓reduceIte, reduceCtorEq, syT, tyT, Rg.regF, Rg.findR, pickOps, fT26, Tryz.f26]
    rintro s ⟨a1, a2, a3, a4, a5, a6, a7⟩
    obtain ⟨r, H1, e25, hr0, hr1, hn1, ⟨c1, hc1, hd1⟩, hfr1⟩ := dice25 hs (k := k' + 1) (n := 7) hd hid' (by omega) (by omega) (by omega)
    have nc7 : ((7 : Nat) : Int) = 7 := rfl
    rw [nc7] at e25 hr1
    refine Ev.seq (Q := fun ex s =>
      (ex = .ret ∧ s.2.next = H1.next ∧ (∃ c' ≤ c1 + 1, Dice s.2 id c') ∧ (∀ j, j ≠ id → s.2.get j = H1.get j) ∧ s.1.tm.get 4 = some (.lptr 0 0) ∧ ∃ a b x, s.1.lv.get 0 = some [.int .i64 a, .int .i64 b, .str x, .nilslice] ∧ 1 ≤ a ∧ a ≤ 6) ∨
      (ex = .normal ∧ s.1.n = 56 ∧ s.2 = H1 ∧ s.1.tm.get 0 = some (.ptr id 0) ∧ s.1.tm.get 1 = some (.int .i64 d) ∧ s.1.tm.get 4 = some (.lptr 0 0) ∧ s.1.lv.next = 1 ∧ s.1.lv.get 0 = some [.int .i64 0, .int .i64 0, .str ⟨#[]⟩, .nilslice])) ?_ ?_ ?_
    · refine Ev.seqN (Q := fun s => s.1.n = 56 ∧ s.2 = H1 ∧ s.1.tm.get 0 = some (.ptr id 0) ∧ s.1.tm.get 1 = some (.int .i64 d) ∧ s.1.tm.get 4 = some (.lptr 0 0) ∧ s.1.tm.get 8 = some (.int .i64 r) ∧ s.1.lv.next = 1 ∧ s.1.lv.get 0 = some [.int .i64 0, .int .i64 0, .str ⟨#[]⟩, .nilslice]) ?_ ?_
      · simp only [Ev, o26_1, a1, a2, a3, a4, a5, a6, a7, e25, evalCode, runOps, runD, runDraw, askOf, askRecs, askAll, isEff, muteOp, stepA, wantedA, isCall, target, evalOp, opMove, opPick, opAlloc, opBox, opBuild, opBuildSlice, opLoad, opStore, opNilCheck, opBinOp, opUnOp, opConvert, opMakeFunc, opMakeMap, opSlice, opFieldAddr, opField, opIndexAddr, opLookup, opExtract, opAppendB, opLenB, wrOf, newA, eqlA, keepA, newV, evT, toA, putA, loadA, storeA, takeCells, setCells, isAgg, binA, unA, convA, arith, addOff, dstLen, nilNil, isConst, sameTy, strOp, params, results, packA, AExit.leaves, maxTmp, memN, askIn, fillA, repl, groups, Option.getD, Option.map, List.length, List.all, Int.reduceBEq, Int.reduceBNe, Int.reduceEq, Int.reduceGT, Int.reduceGE, Int.reduceNeg, Int.reduceAdd, Int.reduceSub, Int.reduceLT, Int.reduceLE, Int.reduceToNat, Nat.reduceLT, Nat.reducePow, Nat.reduceAdd, Nat.reduceMul, Nat.reduceLeDiff, Nat.reduceEqDiff, Nat.reduceBEq, reduceIte, ↓reduceIte, reduceCtorEq, syT, tyT, Rg.regF, Rg.findR, pickOps, fT26, Tryz.f26]
      clear a1 a2 a3 a4 a5 a6 a7
      rintro s ⟨a1, a2, a3, a4, a5, a8, a6, a7⟩
      exact pat26_leaf hs hd1 hid' (by omega) hr0 hr1 a1 a2 a3 a4 a5 a8 a6 a7
    · clear a1 a2 a3 a4 a5 a6 a7
      rintro s (⟨h, -⟩ | ⟨-, a1, a2, a3, a4, a5, a6, a7⟩)
      · cases h
      obtain ⟨x, H2, e27, hx, hn2, ⟨c2, hc2, hd2⟩, hfr2⟩ := of27 hs (k := k') (ss := [⟨#[78]⟩, ⟨#[65]⟩, ⟨#[66]⟩, ⟨#[81]⟩]) (tok := .full) hd1 hid' (by omega) (by simp) (by simp)
      simp only [List.map_cons, List.map_nil] at e27
      refine Ev.seqN (Q := fun s => s.1.n = 56 ∧ s.2 = H2 ∧ s.1.tm.get 0 = some (.ptr id 0) ∧ s.1.tm.get 1 = some (.int .i64 d) ∧ s.1.tm.get 4 = some (.lptr 0 0) ∧ s.1.tm.get 5 = some (.lptr 1 0) ∧ s.1.lv.get 0 = some [.int .i64 0, .int .i64 0, .str ⟨#[]⟩, .nilslice] ∧ s.1.lv.get 1 = some [.int .i64 6, .int .i64 0, .str x, .nilslice]) ?_ ?_
      · simp only [Ev, o26_11, a1, a2, a3, a4, a5, a6, a7, e27, evalCode, runOps, runD, runDraw, askOf, askRecs, askAll, isEff, muteOp, stepA, wantedA, isCall, target, evalOp, opMove, opPick, opAlloc, opBox, opBuild, opBuildSlice, opLoad, opStore, opNilCheck, opBinOp, opUnOp, opConvert, opMakeFunc, opMakeMap, opSlice, opFieldAddr, opField, opIndexAddr, opLookup, opExtract, opAppendB, opLenB, wrOf, newA, eqlA, keepA, newV, evT, toA, putA, loadA, storeA, takeCells, setCells, isAgg, binA, unA, convA, arith, addOff, dstLen, nilNil, isConst, sameTy, strOp, params, results, packA, AExit.leaves, maxTmp, memN, askIn, fillA, repl, groups, Option.getD, Option.map, List.length, List.all, Int.reduceBEq, Int.reduceBNe, Int.reduceEq, Int.reduceGT, Int.reduceGE, Int.reduceNeg, Int.reduceAdd, Int.reduceSub, Int.reduceLT, Int.reduceLE, Int.reduceToNat, Nat.reduceLT, Nat.reducePow, Nat.reduceAdd, Nat.reduceMul, Nat.reduceLeDiff, Nat.reduceEqDiff, Nat.reduceBEq, reduceIte, ↓reduceIte, reduceCtorEq, syT, tyT, Rg.regF, Rg.findR, pickOps, fT26, Tryz.f26]
      clear a1 a2 a3 a4 a5 a6 a7
      rintro s ⟨a1, a2, a3, a4, a5, a6, a7, a8⟩
      refine Ev.seqN (pat26_map hx a1 a2 (by omega) a3 a4 a5 a6 a7 a8) ?_
      clear a1 a2 a3 a4 a5 a6 a7 a8
      rintro s ⟨a1, hn3, hfr3, a3, a4, a5, a6, a9, a7, a8⟩
      -- the number of parts
      have hd3 : Dice s.2 id c2 := by
        obtain ⟨la, l', bb, q1, q2, q3⟩ := hd2
        exact ⟨la, l', bb, by rw [hfr3 id (by omega)]; exact q1, q2, q3⟩
      have hfr4 : ∀ j < H.next, j ≠ id → s.2.get j = H.get j := fun j hj hne => by rw [hfr3 j (by omega), hfr2 j hne, hfr1 j hne]
      generalize hH3 : s.2 = H3 at hn3 hfr3 hd3 hfr4
      have hn3' : H3.next = H.next + 1 := by omega
      refine Ev.seqN (Q := fun s => ∃ n y, s.1.n = 56 ∧ s.2 = H3 ∧ s.1.tm.get 0 = some (.ptr id 0) ∧ s.1.tm.get 1 = some (.int .i64 d) ∧ s.1.tm.get 4 = some (.lptr 0 0) ∧ s.1.tm.get 5 = some (.lptr 1 0) ∧ s.1.tm.get 6 = some (.int .i64 (n : Nat)) ∧
        s.1.lv.get 0 = some [.int .i64 0, .int .i64 0, .str ⟨#[]⟩, .nilslice] ∧ s.1.lv.get 1 = some [.int .i64 6, .int .i64 0, .str y, .nilslice] ∧ n ≤ 2 ∧ (d = 0 → n = 0)) ?_ ?_
      · cases d with
        | zero =>
          refine Ev.mono (Q := fun ex s => ex = .normal ∧ s.1.n = 56 ∧ s.2 = H3 ∧ s.1.tm.get 0 = some (.ptr id 0) ∧ s.1.tm.get 1 = some (.int .i64 (0 : Nat)) ∧ s.1.tm.get 4 = some (.lptr 0 0) ∧ s.1.tm.get 5 = some (.lptr 1 0) ∧ s.1.tm.get 6 = some (.int .i64 (0 : Nat)) ∧
            s.1.lv.get 0 = some [.int .i64 0, .int .i64 0, .str ⟨#[]⟩, .nilslice] ∧ s.1.lv.get 1 = some [.int .i64 6, .int .i64 0, .str ⟨#[78]⟩, .nilslice]) ?_ fun ex s h => ⟨h.1, 0, ⟨#[78]⟩, h.2.1, h.2.2.1, h.2.2.2.1, h.2.2.2.2.1, h.2.2.2.2.2.1, h.2.2.2.2.2.2.1, h.2.2.2.2.2.2.2.1, h.2.2.2.2.2.2.2.2.1, h.2.2.2.2.2.2.2.2.2, by omega, fun _ => rfl⟩
          rw [nc0] at a4 ⊢
          simp only [Ev, o26_13, o26_14, a1, hH3, a3, a4, a5, a6, a7, a8, a9, evalCode, runOps, runD, runDraw, askOf, askRecs, askAll, isEff, muteOp, stepA, wantedA, isCall, target, evalOp, opMove, opPick, opAlloc, opBox, opBuild, opBuildSlice, opLoad, opStore, opNilCheck, opBinOp, opUnOp, opConvert, opMakeFunc, opMakeMap, opSlice, opFieldAddr, opField, opIndexAddr, opLookup, opExtract, opAppendB, opLenB, wrOf, newA, eqlA, keepA, newV, evT, toA, putA, loadA, storeA, takeCells, setCells, isAgg, binA, unA, convA, arith, addOff, dstLen, nilNil, isConst, sameTy, strOp, params, results, packA, AExit.leaves, maxTmp, memN, askIn, fillA, repl, groups, Option.getD, Option.map, List.length, List.all, Int.reduceBEq, Int.reduceBNe, Int.reduceEq, Int.reduceGT, Int.reduceGE, Int.reduceNeg, Int.reduceAdd, Int.reduceSub, Int.reduceLT, Int.reduceLE, Int.reduceToNat, Nat.reduceLT, Nat.reducePow, Nat.reduceAdd, Nat.reduceMul, Nat.reduceLeDiff, Nat.reduceEqDiff, Nat.reduceBEq, reduceIte, ↓reduceIte, reduceCtorEq, syT, tyT, Rg.regF, Rg.findR, pickOps, fT26, Tryz.f26]
        | succ d =>
          have hlt : (((d + 1 : Nat) : Int) < 1) = False := by simp; omega
          refine Ev.mono (Q := fun ex s => ex = .normal ∧ s.1.n = 56 ∧ s.2 = H3 ∧ s.1.tm.get 0 = some (.ptr id 0) ∧ s.1.tm.get 1 = some (.int .i64 (d + 1 : Nat)) ∧ s.1.tm.get 4 = some (.lptr 0 0) ∧ s.1.tm.get 5 = some (.lptr 1 0) ∧ s.1.tm.get 6 = some (.int .i64 (cntN x)) ∧
            s.1.lv.get 0 = some [.int .i64 0, .int .i64 0, .str ⟨#[]⟩, .nilslice] ∧ s.1.lv.get 1 = some [.int .i64 6, .int .i64 0, .str x, .nilslice]) ?_ fun ex s h => ⟨h.1, cntN x, x, h.2.1, h.2.2.1, h.2.2.2.1, h.2.2.2.2.1, h.2.2.2.2.2.1, h.2.2.2.2.2.2.1, h.2.2.2.2.2.2.2.1, h.2.2.2.2.2.2.2.2.1, h.2.2.2.2.2.2.2.2.2, cntN_le x, fun h => by cases h⟩
          simp only [Ev, o26_13, a1, hH3, a3, a4, a5, a6, a7, a8, a9, hlt, evalCode, runOps, runD, runDraw, askOf, askRecs, askAll, isEff, muteOp, stepA, wantedA, isCall, target, evalOp, opMove, opPick, opAlloc, opBox, opBuild, opBuildSlice, opLoad, opStore, opNilCheck, opBinOp, opUnOp, opConvert, opMakeFunc, opMakeMap, opSlice, opFieldAddr, opField, opIndexAddr, opLookup, opExtract, opAppendB, opLenB, wrOf, newA, eqlA, keepA, newV, evT, toA, putA, loadA, storeA, takeCells, setCells, isAgg, binA, unA, convA, arith, addOff, dstLen, nilNil, isConst, sameTy, strOp, params, results, packA, AExit.leaves, maxTmp, memN, askIn, fillA, repl, groups, Option.getD, Option.map, List.length, List.all, Int.reduceBEq, Int.reduceBNe, Int.reduceEq, Int.reduceGT, Int.reduceGE, Int.reduceNeg, Int.reduceAdd, Int.reduceSub, Int.reduceLT, Int.reduceLE, Int.reduceToNat, Nat.reduceLT, Nat.reducePow, Nat.reduceAdd, Nat.reduceMul, Nat.reduceLeDiff, Nat.reduceEqDiff, Nat.reduceBEq, reduceIte, ↓reduceIte, reduceCtorEq, syT, tyT, Rg.regF, Rg.findR, pickOps, fT26, Tryz.f26]
      clear a1 a3 a4 a5 a6 a7 a8 a9 hH3
      rintro s ⟨n, y, a1, hH3, a3, a4, a5, a6, a9, a7, a8, hn2', hd0⟩
      have hz : ∃ z, n * (3 * z) ≤ 2 * (3 * z) ∧ n * (3 * z + 1) ≤ 2 * (3 * z + 1) ∧ n * z ≤ 2 * z ∧ (d = 0 ∧ z = 0 ∨ ∃ d', d = d' + 1 ∧ z = szD d') := by
        cases d with
        | zero => exact ⟨0, Nat.mul_le_mul_right _ hn2', Nat.mul_le_mul_right _ hn2', Nat.mul_le_mul_right _ hn2', .inl ⟨rfl, rfl⟩⟩
        | succ d => exact ⟨szD d, Nat.mul_le_mul_right _ hn2', Nat.mul_le_mul_right _ hn2', Nat.mul_le_mul_right _ hn2', .inr ⟨d, rfl, rfl⟩⟩
      obtain ⟨z, hz1, hz2, hz3, hz4⟩ := hz
      have hzs : 2 * z + 1 ≤ szD d := by
        rcases hz4 with ⟨rfl, rfl⟩ | ⟨d', rfl, rfl⟩
        · simp [szD]
        · simp only [szD]; omega
      refine Ev.seqN (Q := fun s => Inv26 id c2 d z n y H3 n s) ?_ ?_
      · refine Ev.seqN (Q := fun s => Inv26 id c2 d z n y H3 0 s) ?_ ?_
        · simp only [Ev, Inv26, o26_15, a1, hH3, a3, a4, a5, a6, a7, a8, a9, evalCode, runOps, runD, runDraw, askOf, askRecs, askAll, isEff, muteOp, stepA, wantedA, isCall, target, evalOp, opMove, opPick, opAlloc, opBox, opBuild, opBuildSlice, opLoad, opStore, opNilCheck, opBinOp, opUnOp, opConvert, opMakeFunc, opMakeMap, opSlice, opFieldAddr, opField, opIndexAddr, opLookup, opExtract, opAppendB, opLenB, wrOf, newA, eqlA, keepA, newV, evT, toA, putA, loadA, storeA, takeCells, setCells, isAgg, binA, unA, convA, arith, addOff, dstLen, nilNil, isConst, sameTy, strOp, params, results, packA, AExit.leaves, maxTmp, memN, askIn, fillA, repl, groups, Option.getD, Option.map, List.length, List.all, Int.reduceBEq, Int.reduceBNe, Int.reduceEq, Int.reduceGT, Int.reduceGE, Int.reduceNeg, Int.reduceAdd, Int.reduceSub, Int.reduceLT, Int.reduceLE, Int.reduceToNat, Nat.reduceLT, Nat.reducePow, Nat.reduceAdd, Nat.reduceMul, Nat.reduceLeDiff, Nat.reduceEqDiff, Nat.reduceBEq, reduceIte, ↓reduceIte, reduceCtorEq, syT, tyT, Rg.regF, Rg.findR, pickOps, fT26, Tryz.f26]
          refine ⟨by omega, ⟨c2, by omega, hd3⟩, ?_, .nilslice, rfl, [], .inl ⟨rfl, rfl⟩, .nil, by simp [Nd.sizes], rfl, trivial⟩
          exact fun _ _ _ => trivial
        intro s hs'
        refine Ev.block (Ev.loop (Inv := fun i s => Inv26 id c2 d z n y H3 i s) n (by omega) hs' fun i st hi hle => ?_)
        by_cases hlt : i < n
        · rcases hz4 with ⟨rfl, -⟩ | ⟨d', rfl, rfl⟩
          · have := hd0 rfl; omega
          · exact (pat26_step (ih d' rfl) (by omega) (by omega) (by omega) (by omega) hlt hn2' (by omega) hi).mono fun ex s hs => .inl ⟨hs.1, hlt, hs.2⟩
        · have : i = n := by omega
          subst this
          exact (pat26_end hi).mono fun ex s hs => .inr ⟨by rw [hs.1]; simp, by rw [hs.1]; rfl, hs.2⟩
      clear a1 a3 a4 a5 a6 a7 a8 a9 hH3
      rintro s ⟨a1, a3, a4, a5, a6, a42, a43, a7, hHn, hHs, ⟨c3, hc3, hd4⟩, hfr5, o, a8, l, ho, hgo, hls, hll, hwl⟩
      have hoo := ho.one
      simp only [Ev, o26_19, a1, a3, a4, a5, a6, a7, a8, hoo, evalCode, runOps, runD, runDraw, askOf, askRecs, askAll, isEff, muteOp, stepA, wantedA, isCall, target, evalOp, opMove, opPick, opAlloc, opBox, opBuild, opBuildSlice, opLoad, opStore, opNilCheck, opBinOp, opUnOp, opConvert, opMakeFunc, opMakeMap, opSlice, opFieldAddr, opField, opIndexAddr, opLookup, opExtract, opAppendB, opLenB, wrOf, newA, eqlA, keepA, newV, evT, toA, putA, loadA, storeA, takeCells, setCells, isAgg, binA, unA, convA, arith, addOff, dstLen, nilNil, isConst, sameTy, strOp, params, results, packA, AExit.leaves, maxTmp, memN, askIn, fillA, repl, groups, Option.getD, Option.map, List.length, List.all, Int.reduceBEq, Int.reduceBNe, Int.reduceEq, Int.reduceGT, Int.reduceGE, Int.reduceNeg, Int.reduceAdd, Int.reduceSub, Int.reduceLT, Int.reduceLE, Int.reduceToNat, Nat.reduceLT, Nat.reducePow, Nat.reduceAdd, Nat.reduceMul, Nat.reduceLeDiff, Nat.reduceEqDiff, Nat.reduceBEq, reduceIte, ↓reduceIte, reduceCtorEq, syT, tyT, Rg.regF, Rg.findR, pickOps, fT26, Tryz.f26]
      refine ⟨.mk 6 0 y l, IsN_mk.2 ⟨o, rfl, ho⟩, by simp only [WfP]; exact ⟨by omega, hwl⟩, by simp only [Nd.size]; omega, by omega, by omega, ⟨c3, by omega, hd4⟩, fun j hj hne => by rw [hfr5 j (by omega) hne, hfr4 j hj hne]⟩
    · rintro ex s hne (⟨rfl, hn3, ⟨c2, hc2, hd2⟩, hfr2, t4, a, b, x, hl, ha1, ha2⟩ | ⟨h, -⟩)
      · simp only [hl, t4, evalCode, runOps, runD, runDraw, askOf, askRecs, askAll, isEff, muteOp, stepA, wantedA, isCall, target, evalOp, opMove, opPick, opAlloc, opBox, opBuild, opBuildSlice, opLoad, opStore, opNilCheck, opBinOp, opUnOp, opConvert, opMakeFunc, opMakeMap, opSlice, opFieldAddr, opField, opIndexAddr, opLookup, opExtract, opAppendB, opLenB, wrOf, newA, eqlA, keepA, newV, evT, toA, putA, loadA, storeA, takeCells, setCells, isAgg, binA, unA, convA, arith, addOff, dstLen, nilNil, isConst, sameTy, strOp, params, results, packA, AExit.leaves, maxTmp, memN, askIn, fillA, repl, groups, Option.getD, Option.map, List.length, List.all, Int.reduceBEq, Int.reduceBNe, Int.reduceEq, Int.reduceGT, Int.reduceGE, Int.reduceNeg, Int.reduceAdd, Int.reduceSub, Int.reduceLT, Int.reduceLE, Int.reduceToNat, Nat.reduceLT, Nat.reducePow, Nat.reduceAdd, Nat.reduceMul, Nat.reduceLeDiff, Nat.reduceEqDiff, Nat.reduceBEq, reduceIte, ↓reduceIte, reduceCtorEq, syT, tyT, Rg.regF, Rg.findR, pickOps, fT26, Tryz.f26]
        refine ⟨.mk a b x [], IsN_mk.2 ⟨.nilslice, rfl, .inl ⟨rfl, rfl⟩⟩, by simp only [WfP, WfPs]; exact ⟨⟨ha1, ha2⟩, trivial⟩, by simp [Nd.size, Nd.sizes]; omega, by omega, by omega, ⟨c2, by omega, hd2⟩, fun j hj hne => by rw [hfr2 j hne, hfr1 j hne]⟩
      · exact absurd h hne
  obtain ⟨⟨v, H'⟩, h1, p, h2⟩ := key
  exact ⟨v, p, H', h1, h2⟩

theorem pat26 (hs : PlainD sp) : ∀ d, PatOk sp d := by
  intro d
  induction d with
  | zero => exact pat26_at hs 0 (fun d' h => by cases h)
  | succ d ih => exact pat26_at hs (d + 1) (fun d' h => by injection h with h; subst h; exact ih)
end
end Go.Rs.Seat
end
/- The dice: a value. -/
section
namespace Go.Rs.Seat
open Go.Proofs Rg
set_option maxRecDepth 100000
set_option maxHeartbeats 16000000

section
variable {sp : Bool → FuncId → Option (List AVal → Hp → Option (AVal × Hp))}

def LeafOk (sp : Bool → FuncId → Option (List AVal → Hp → Option (AVal × Hp))) (d : Nat) : Prop :=
  ∀ k, d + 5 ≤ k → ∀ (id c : Nat) (H : Hp), Dice H id c → id < H.next → c + 4 * szD d < 1000000 → H.next + 3 * szD d ≤ 4000 →
    ∃ v p H', evalCall (env sp) k false 9 [.ptr id 0, .int .i64 d] H = some (v, H') ∧ IsN p v ∧ p.size ≤ szD d ∧ H.next ≤ H'.next ∧ H'.next ≤ H.next + 3 * szD d ∧ (∃ c' ≤ c + 4 * szD d, Dice H' id c') ∧ ∀ j < H.next, j ≠ id → H'.get j = H.get j

def Inv9 (id c d z n : Nat) (x : ByteArray) (H0 : Hp) (i : Nat) (st : St) : Prop :=
  st.1.n = 48 ∧ st.1.tm.get 0 = some (.ptr id 0) ∧ st.1.tm.get 1 = some (.int .i64 d) ∧ st.1.tm.get 4 = some (.lptr 0 0) ∧ st.1.tm.get 5 = some (.lptr 1 0) ∧ st.1.tm.get 34 = some (.int .i64 n) ∧ st.1.tm.get 35 = some (.int .i64 i) ∧
    st.1.lv.get 0 = some [.int .i64 0, .int .i64 0, .str ⟨#[]⟩, .nilslice] ∧ H0.next ≤ st.2.next ∧ st.2.next ≤ H0.next + i * (3 * z + 1) ∧ (∃ c' ≤ c + i * (4 * z), Dice st.2 id c') ∧ (∀ j < H0.next, j ≠ id → st.2.get j = H0.get j) ∧
    ∃ o, st.1.lv.get 1 = some [.int .i64 5, .int .i64 0, .str x, o] ∧ ∃ l, IsL o l ∧ Gr H0.next 4 o st.2 ∧ Nd.sizes l ≤ i * z ∧ l.length = i

theorem leaf9_step {k : Nat} {st : St} {H0 : Hp} {id c d n i : Nat} {x : ByteArray} (hok : LeafOk sp d) (hk : d + 5 ≤ k) (hid : id < H0.next) (hc : c + n * (4 * szD d) < 1000000) (hH : H0.next + n * (3 * szD d + 1) ≤ 4000) (hin : i < n) (hnn : n ≤ 2) (hdd : d < 4000)
    (h : Inv9 id c (d + 1) (szD d) n x H0 i st) :
    Ev (env sp) (evalCall (env sp) k) false 9 b9_0 st fun ex s => ex = .normal ∧ Inv9 id c (d + 1) (szD d) n x H0 (i + 1) s := by
  obtain ⟨hn', h0, h1, h4, h5, h42, h43, hl0, hHn, hHs, ⟨c', hc', hd⟩, hfr, o, hl1, l, ho, hgo, hls, hll⟩ := h
  have hmul : (i + 1) * (3 * szD d + 1) = i * (3 * szD d + 1) + (3 * szD d + 1) := Nat.succ_mul _ _
  have hmul2 : (i + 1) * (4 * szD d) = i * (4 * szD d) + 4 * szD d := Nat.succ_mul _ _
  have hmul3 : (i + 1) * szD d = i * szD d + szD d := Nat.succ_mul _ _
  have hle : (i + 1) * (3 * szD d + 1) ≤ n * (3 * szD d + 1) := Nat.mul_le_mul_right _ hin
  have hle2 : (i + 1) * (4 * szD d) ≤ n * (4 * szD d) := Nat.mul_le_mul_right _ hin
  obtain ⟨v, p, H1, e9, hp, hps, hm1, hm2, ⟨c2, hc2, hd2⟩, hfr1⟩ := hok k hk id c' st.2 hd (by omega) (by omega) (by omega)
  have hgo1 : Gr H0.next 4 o H1 := hgo.keep' hm1 fun j hj1 hj2 => hfr1 j hj2 (by omega)
  obtain ⟨b, rfl, hb⟩ := hp.cells
  obtain ⟨o', H2, eap, ho', hgo', hx1, htok, hf1⟩ := app_gr' (P := fun v x => IsN x v) (E := env sp) (T := 27) (e := 29) (sz := 4) (tk := .full) (m := [p]) (ys := [.agg [.int .i64 p.k, .int .i64 p.n, .str p.s, b]]) (by rw [ty27]) (by rw [ty29]; decide) (by rw [ty29]) hgo1 ho (AllP.cons (isN_of hb) AllP.nil) (by simp) (by omega) (by omega) (by
    rw [hll]; simp; omega)
  have hob := hb.one
  have hoo := hgo.one
  have hoo' := hgo'.one
  have hsm := ho.same
  have hi' : ((i : Int) < (n : Int)) = True := by simp [hin]
  have hw : IntKind.i64.wrap ((i : Int) + 1) = ((i + 1 : Nat) : Int) := wrap_nat (by omega)
  have hwd : IntKind.i64.wrap (((d + 1 : Nat) : Int) - 1) = (d : Int) := by rw [IntKind.wrap_i64]; omega
  simp only [Ev, Inv9, b9_0, o9_5, ↓drw9_6, d9_6, o9_7, hn', h0, h1, h4, h5, h42, h43, hl0, hl1, hi', e9, eap, hw, hwd, hob, hoo, hoo', hsm, List.take, List.drop, evalCode, runOps, runD, runDraw, askOf, askRecs, askAll, isEff, muteOp, stepA, wantedA, isCall, target, evalOp, opMove, opPick, opAlloc, opBox, opBuild, opBuildSlice, opLoad, opStore, opNilCheck, opBinOp, opUnOp, opConvert, opMakeFunc, opMakeMap, opSlice, opFieldAddr, opField, opIndexAddr, opLookup, opExtract, opAppendB, opLenB, wrOf, newA, eqlA, keepA, newV, evT, toA, putA, loadA, storeA, takeCells, setCells, isAgg, binA, unA, convA, arith, addOff, dstLen, nilNil, isConst, sameTy, strOp, params, results, packA, AExit.leaves, maxTmp, memN, askIn, fillA, repl, groups, Option.getD, Option.map, List.length, List.all, Int.reduceBEq, Int.reduceBNe, Int.reduceEq, Int.reduceGT, Int.reduceGE, Int.reduceNeg, Int.reduceAdd, Int.reduceSub, Int.reduceLT, Int.reduceLE, Int.reduceToNat, Nat.reduceLT, Nat.reducePow, Nat.reduceAdd, Nat.reduceMul, Nat.reduceLeDiff, Nat.reduceEqDiff, Nat.reduceBEq, reduceIte, ↓reduceIte, reduceCtorEq, syT, tyT, Rg.regF, Rg.findR, pickOps, fT9, Tryz.f9]
  refine ⟨by omega, by omega, ⟨c2, by omega, ?_⟩, fun j hj hne => ?_, o', rfl, l ++ [p], ho', hgo', ?_, by simp [hll]⟩
  · obtain ⟨la, l', bb, q1, q2, q3⟩ := hd2
    refine ⟨la, l', bb, ?_, q2, q3⟩
    rw [hf1 id (by omega) (fun hh => ?_)]
    · exact q1
    · rcases hgo with rfl | ⟨ws, u, rfl, k1, k2, k3⟩
      · cases hh
      · injection hh with hh; omega
  · rw [hf1 j (by omega) (fun hh => ?_), hfr1 j (by omega) hne, hfr j hj hne]
    rcases hgo with rfl | ⟨ws, u, rfl, k1, k2, k3⟩
    · cases hh
    · injection hh with hh; omega
  · rw [sizes_append]; simp [Nd.sizes]; omega

theorem leaf9_end {call : CallF} {st : St} {H0 : Hp} {id c d z n : Nat} {x : ByteArray} (h : Inv9 id c d z n x H0 n st) :
    Ev (env sp) call false 9 b9_0 st fun ex s => ex = .exit 0 ∧ Inv9 id c d z n x H0 n s := by
  obtain ⟨hn', h0, h1, h4, h5, h42, h43, hl0, hHn, hHs, hd, hfr, o, hl1, l, ho, hgo, hls, hll⟩ := h
  have hi' : ((n : Int) < (n : Int)) = False := by simp
  simp only [Ev, Inv9, b9_0, o9_5, hn', h0, h1, h4, h5, h42, h43, hl0, hl1, hi', evalCode, runOps, runD, runDraw, askOf, askRecs, askAll, isEff, muteOp, stepA, wantedA, isCall, target, evalOp, opMove, opPick, opAlloc, opBox, opBuild, opBuildSlice, opLoad, opStore, opNilCheck, opBinOp, opUnOp, opConvert, opMakeFunc, opMakeMap, opSlice, opFieldAddr, opField, opIndexAddr, opLookup, opExtract, opAppendB, opLenB, wrOf, newA, eqlA, keepA, newV, evT, toA, putA, loadA, storeA, takeCells, setCells, isAgg, binA, unA, convA, arith, addOff, dstLen, nilNil, isConst, sameTy, strOp, params, results, packA, AExit.leaves, maxTmp, memN, askIn, fillA, repl, groups, Option.getD, Option.map, List.length, List.all, Int.reduceBEq, Int.reduceBNe, Int.reduceEq, Int.reduceGT, Int.reduceGE, Int.reduceNeg, Int.reduceAdd, Int.reduceSub, Int.reduceLT, Int.reduceLE, Int.reduceToNat, Nat.reduceLT, Nat.reducePow, Nat.reduceAdd, Nat.reduceMul, Nat.reduceLeDiff, Nat.reduceEqDiff, Nat.reduceBEq, reduceIte, ↓reduceIte, reduceCtorEq, syT, tyT, Rg.regF, Rg.findR, pickOps, fT9, Tryz.f9]
  exact ⟨hHn, hHs, hd, hfr, o, rfl, l, ho, hgo, hls, hll⟩

theorem leaf9_map {call : CallF} {st : St} {H : Hp} {x : ByteArray} (hx : x ∈ [(⟨#[78]⟩ : ByteArray), ⟨#[65]⟩, ⟨#[66]⟩, ⟨#[81]⟩]) (hn' : st.1.n = 48) (hH : st.2 = H) (hHn : H.next < 4096) {id d : Nat} {z0 : List AVal}
    (h0 : st.1.tm.get 0 = some (.ptr id 0)) (h1 : st.1.tm.get 1 = some (.int .i64 d)) (h4 : st.1.tm.get 4 = some (.lptr 0 0)) (h5 : st.1.tm.get 5 = some (.lptr 1 0)) (hl0 : st.1.lv.get 0 = some z0) (hl1 : st.1.lv.get 1 = some [.int .i64 5, .int .i64 0, .str x, .nilslice]) :
    Ev (env sp) call false 9 r9_4 st fun ex s => ex = .normal ∧ s.1.n = 48 ∧ s.2.next = H.next + 1 ∧ (∀ j, j ≠ H.next → s.2.get j = H.get j) ∧ s.1.tm.get 0 = some (.ptr id 0) ∧ s.1.tm.get 1 = some (.int .i64 d) ∧ s.1.tm.get 4 = some (.lptr 0 0) ∧ s.1.tm.get 5 = some (.lptr 1 0) ∧ s.1.tm.get 34 = some (.int .i64 (cntN x)) ∧ s.1.tm.get 35 = some (.int .i64 (0 : Nat)) ∧
      s.1.lv.get 0 = some z0 ∧ s.1.lv.get 1 = some [.int .i64 5, .int .i64 0, .str x, .nilslice] := by
  have hHn' : (H.next < 4096) = True := by simp [hHn]
  have gA : ∀ o, (H.alloc o).2.get H.next = o := fun o => by rw [hnew hHn, if_pos rfl]
  have gS : ∀ (K : Hp) o, (K.set H.next o).get H.next = o := fun K o => by rw [hget hHn, if_pos rfl]
  have fr : ∀ o1 o2 o3 o4 o5 j, j ≠ H.next → (((((H.alloc o1).2.set H.next o2).set H.next o3).set H.next o4).set H.next o5).get j = H.get j := by
    intro o1 o2 o3 o4 o5 j hj
    have hj' : H.next ≠ j := fun h => hj h.symm
    rw [hget hHn, if_neg hj', hget hHn, if_neg hj', hget hHn, if_neg hj', hget hHn, if_neg hj', hnew hHn, if_neg hj']
  rcases mem4 hx with rfl | rfl | rfl | rfl
  all_goals
    simp only [Ev, o9_4, hn', hH, h0, h1, h4, h5, hl0, hl1, hHn', gA, gS, opMapUpdate, foundA, findE, updE, key9N, key9A, key9B, key9Q, eqNN, eqNA, eqNB, eqNQ, eqAN, eqAA, eqAB, eqAQ, eqBN, eqBA, eqBB, eqBQ, eqQN, eqQA, eqQB, eqQQ, evalCode, runOps, runD, runDraw, askOf, askRecs, askAll, isEff, muteOp, stepA, wantedA, isCall, target, evalOp, opMove, opPick, opAlloc, opBox, opBuild, opBuildSlice, opLoad, opStore, opNilCheck, opBinOp, opUnOp, opConvert, opMakeFunc, opMakeMap, opSlice, opFieldAddr, opField, opIndexAddr, opLookup, opExtract, opAppendB, opLenB, wrOf, newA, eqlA, keepA, newV, evT, toA, putA, loadA, storeA, takeCells, setCells, isAgg, binA, unA, convA, arith, addOff, dstLen, nilNil, isConst, sameTy, strOp, params, results, packA, AExit.leaves, maxTmp, memN, askIn, fillA, repl, groups, Option.getD, Option.map, List.length, List.all, Int.reduceBEq, Int.reduceBNe, Int.reduceEq, Int.reduceGT, Int.reduceGE, Int.reduceNeg, Int.reduceAdd, Int.reduceSub, Int.reduceLT, Int.reduceLE, Int.reduceToNat, Nat.reduceLT, Nat.reducePow, Nat.reduceAdd, Nat.reduceMul, Nat.reduceLeDiff, Nat.reduceEqDiff, Nat.reduceBEq, reduceIte, ↓reduceIte, reduceCtorEq, syT, tyT, Rg.regF, Rg.findR, pickOps, fT9, Tryz.f9]
    exact ⟨fun j hj => fr _ _ _ _ _ j hj, rfl⟩

theorem leaf9_leaf (hs : PlainD sp) {k : Nat} {st : St} {H : Hp} {id c : Nat} (hd : Dice H id c) (hid : id < 4096) (hc : c < 1000000) (hn' : st.1.n = 48) (hH : st.2 = H)
    (h0 : st.1.tm.get 0 = some (.ptr id 0)) (h4 : st.1.tm.get 4 = some (.lptr 0 0)) (hl0 : st.1.lv.get 0 = some [.int .i64 0, .int .i64 0, .str ⟨#[]⟩, .nilslice]) :
    Ev (env sp) (evalCall (env sp) (k + 3)) false 9 (.seq r9_2 .ret) st fun ex s =>
      ex = .ret ∧ s.2.next = H.next ∧ (∃ c' ≤ c + 3, Dice s.2 id c') ∧ (∀ j, j ≠ id → s.2.get j = H.get j) ∧ s.1.tm.get 4 = some (.lptr 0 0) ∧ ∃ a b x, s.1.lv.get 0 = some [.int .i64 a, .int .i64 b, .str x, .nilslice] := by
  obtain ⟨x, H1, e1, -, -, g1, ⟨c1, hc1, hd1⟩, f1⟩ := dice25 hs (k := k + 1) (n := 3) hd hid (by omega) (by omega) (by omega)
  obtain ⟨y, H2, e2, -, -, g2, ⟨c2, hc2, hd2⟩, f2⟩ := dice25 hs (k := k + 1) (n := 2) hd1 hid (by omega) (by omega) (by omega)
  obtain ⟨z, H3, e3, hz0, hz1, g3, ⟨c3, hc3, hd3⟩, f3⟩ := dice25 hs (k := k + 1) (n := 3) hd2 hid (by omega) (by omega) (by omega)
  rw [nc3] at e1 e3 hz1
  rw [nc2] at e2
  have fin : ∀ a b x, Ev (env sp) (evalCall (env sp) (k + 3)) false 9 (.seq r9_2 .ret) st (fun ex s => ex = .ret ∧ s.2 = H3 ∧ s.1.tm.get 4 = some (.lptr 0 0) ∧ s.1.lv.get 0 = some [.int .i64 a, .int .i64 b, .str x, .nilslice]) → Ev (env sp) (evalCall (env sp) (k + 3)) false 9 (.seq r9_2 .ret) st fun ex s =>
      ex = .ret ∧ s.2.next = H.next ∧ (∃ c' ≤ c + 3, Dice s.2 id c') ∧ (∀ j, j ≠ id → s.2.get j = H.get j) ∧ s.1.tm.get 4 = some (.lptr 0 0) ∧ ∃ a b x, s.1.lv.get 0 = some [.int .i64 a, .int .i64 b, .str x, .nilslice] := by
    intro a b x h
    refine h.mono fun ex s hh => ⟨hh.1, by rw [hh.2.1]; omega, ⟨c3, by omega, by rw [hh.2.1]; exact hd3⟩, fun j hj => by rw [hh.2.1, f3 j hj, f2 j hj, f1 j hj], hh.2.2.1, a, b, x, hh.2.2.2⟩
  obtain rfl | rfl | rfl : z = 0 ∨ z = 1 ∨ z = 2 := by omega
  · refine fin 2 (IntKind.i64.wrap (x - 1)) ⟨#[]⟩ ?_
    simp only [Ev, o9_2, hn', hH, h0, h4, hl0, e1, e2, e3, evalCode, runOps, runD, runDraw, askOf, askRecs, askAll, isEff, muteOp, stepA, wantedA, isCall, target, evalOp, opMove, opPick, opAlloc, opBox, opBuild, opBuildSlice, opLoad, opStore, opNilCheck, opBinOp, opUnOp, opConvert, opMakeFunc, opMakeMap, opSlice, opFieldAddr, opField, opIndexAddr, opLookup, opExtract, opAppendB, opLenB, wrOf, newA, eqlA, keepA, newV, evT, toA, putA, loadA, storeA, takeCells, setCells, isAgg, binA, unA, convA, arith, addOff, dstLen, nilNil, isConst, sameTy, strOp, params, results, packA, AExit.leaves, maxTmp, memN, askIn, fillA, repl, groups, Option.getD, Option.map, List.length, List.all, Int.reduceBEq, Int.reduceBNe, Int.reduceEq, Int.reduceGT, Int.reduceGE, Int.reduceNeg, Int.reduceAdd, Int.reduceSub, Int.reduceLT, Int.reduceLE, Int.reduceToNat, Nat.reduceLT, Nat.reducePow, Nat.reduceAdd, Nat.reduceMul, Nat.reduceLeDiff, Nat.reduceEqDiff, Nat.reduceBEq, reduceIte, ↓reduceIte, reduceCtorEq, syT, tyT, Rg.regF, Rg.findR, pickOps, fT9, Tryz.f9]
  · refine fin 3 y ⟨#[]⟩ ?_
    simp only [Ev, o9_2, hn', hH, h0, h4, hl0, e1, e2, e3, evalCode, runOps, runD, runDraw, askOf, askRecs, askAll, isEff, muteOp, stepA, wantedA, isCall, target, evalOp, opMove, opPick, opAlloc, opBox, opBuild, opBuildSlice, opLoad, opStore, opNilCheck, opBinOp, opUnOp, opConvert, opMakeFunc, opMakeMap, opSlice, opFieldAddr, opField, opIndexAddr, opLookup, opExtract, opAppendB, opLenB, wrOf, newA, eqlA, keepA, newV, evT, toA, putA, loadA, storeA, takeCells, setCells, isAgg, binA, unA, convA, arith, addOff, dstLen, nilNil, isConst, sameTy, strOp, params, results, packA, AExit.leaves, maxTmp, memN, askIn, fillA, repl, groups, Option.getD, Option.map, List.length, List.all, Int.reduceBEq, Int.reduceBNe, Int.reduceEq, Int.reduceGT, Int.reduceGE, Int.reduceNeg, Int.reduceAdd, Int.reduceSub, Int.reduceLT, Int.reduceLE, Int.reduceToNat, Nat.reduceLT, Nat.reducePow, Nat.reduceAdd, Nat.reduceMul, Nat.reduceLeDiff, Nat.reduceEqDiff, Nat.reduceBEq, reduceIte, ↓reduceIte, reduceCtorEq, syT, tyT, Rg.regF, Rg.findR, pickOps, fT9, Tryz.f9]
  · refine fin 5 0 ⟨#[78]⟩ ?_
    simp only [Ev, o9_2, hn', hH, h0, h4, hl0, e1, e2, e3, evalCode, runOps, runD, runDraw, askOf, askRecs, askAll, isEff, muteOp, stepA, wantedA, isCall, target, evalOp, opMove, opPick, opAlloc, opBox, opBuild, opBuildSlice, opLoad, opStore, opNilCheck, opBinOp, opUnOp, opConvert, opMakeFunc, opMakeMap, opSlice, opFieldAddr, opField, opIndexAddr, opLookup, opExtract, opAppendB, opLenB, wrOf, newA, eqlA, keepA, newV, evT, toA, putA, loadA, storeA, takeCells, setCells, isAgg, binA, unA, convA, arith, addOff, dstLen, nilNil, isConst, sameTy, strOp, params, results, packA, AExit.leaves, maxTmp, memN, askIn, fillA, repl, groups, Option.getD, Option.map, List.length, List.all, Int.reduceBEq, Int.reduceBNe, Int.reduceEq, Int.reduceGT, Int.reduceGE, Int.reduceNeg, Int.reduceAdd, Int.reduceSub, Int.reduceLT, Int.reduceLE, Int.reduceToNat, Nat.reduceLT, Nat.reducePow, Nat.reduceAdd, Nat.reduceMul, Nat.reduceLeDiff, Nat.reduceEqDiff, Nat.reduceBEq, reduceIte, ↓reduceIte, reduceCtorEq, syT, tyT, Rg.regF, Rg.findR, pickOps, fT9, Tryz.f9]

theorem leaf9_at (hs : PlainD sp) (d : Nat) (ih : ∀ d', d = d' + 1 → LeafOk sp d') : LeafOk sp d := by
  intro k hk id c H hd hid hc hH
  obtain ⟨k', rfl⟩ : ∃ k', k = k' + 3 + 1 := ⟨k - 4, by omega⟩
  have hszp := szD_ge d
  have hid' : id < 4096 := by omega
  have key : ∃ r, evalCall (env sp) (k' + 3 + 1) false 9 [.ptr id 0, .int .i64 d] H = some r ∧ (∃ p, IsN p r.1 ∧ p.size ≤ szD d ∧ H.next ≤ r.2.next ∧ r.2.next ≤ H.next + 3 * szD d ∧ (∃ c' ≤ c + 4 * szD d, Dice r.2 id c') ∧ ∀ j < H.next, j ≠ id → r.2.get j = H.get j) := by
    refine enter9 (Post := fun v H' => ∃ p, IsN p v ∧ p.size ≤ szD d ∧ H.next ≤ H'.next ∧ H'.next ≤ H.next + 3 * szD d ∧ (∃ c' ≤ c + 4 * szD d, Dice H' id c') ∧ ∀ j < H.next, j ≠ id → H'.get j = H.get j) hs.h9 rfl ?_
    unfold c9
    refine Ev.seqN (Q := fun s => s.1.n = 48 ∧ s.2 = H ∧ s.1.tm.get 0 = some (.ptr id 0) ∧ s.1.tm.get 1 = some (.int .i64 d) ∧ s.1.tm.get 4 = some (.lptr 0 0) ∧ s.1.lv.next = 1 ∧ s.1.lv.get 0 = some [.int .i64 0, .int .i64 0, .str ⟨#[]⟩, .nilslice]) ?_ ?_
    · simp only [Ev, o9_0, evalCode, runOps, runD, runDraw, askOf, askRecs, askAll, isEff, muteOp, stepA, wantedA, isCall, target, evalOp, opMove, opPick, opAlloc, opBox, opBuild, opBuildSlice, opLoad, opStore, opNilCheck, opBinOp, opUnOp, opConvert, opMakeFunc, opMakeMap, opSlice, opFieldAddr, opField, opIndexAddr, opLookup, opExtract, opAppendB, opLenB, wrOf, newA, eqlA, keepA, newV, evT, toA, putA, loadA, storeA, takeCells, setCells, isAgg, binA, unA, convA, arith, addOff, dstLen, nilNil, isConst, sameTy, strOp, params, results, packA, AExit.leaves, maxTmp, memN, askIn, fillA, repl, groups, Option.getD, Option.map, List.length, List.all, Int.reduceBEq, Int.reduceBNe, Int.reduceEq, Int.reduceGT, Int.reduceGE, Int.reduceNeg, Int.reduceAdd, Int.reduceSub, Int.reduceLT, Int.reduceLE, Int.reduceToNat, Nat.reduceLT, Nat.reducePow, Nat.reduceAdd, Nat.reduceMul, Nat.reduceLeDiff, Nat.reduceEqDiff, Nat.reduceBEq, reduceIte, ↓reduceIte, reduceCtorEq, syT, tyT, Rg.regF, Rg.findR, pickOps, fT9, Tryz.f9]
    rintro s ⟨a1, a2, a3, a4, a5, a6, a7⟩
    refine Ev.seq (Q := fun ex s =>
      (ex = .ret ∧ s.2.next = H.next ∧ (∃ c' ≤ c + 4, Dice s.2 id c') ∧ (∀ j, j ≠ id → s.2.get j = H.get j) ∧ s.1.tm.get 4 = some (.lptr 0 0) ∧ ∃ a b x, s.1.lv.get 0 = some [.int .i64 a, .int .i64 b, .str x, .nilslice]) ∨
      (ex = .normal ∧ s.1.n = 48 ∧ s.2.next = H.next ∧ (∃ c' ≤ c + 1, Dice s.2 id c') ∧ (∀ j, j ≠ id → s.2.get j = H.get j) ∧ s.1.tm.get 0 = some (.ptr id 0) ∧ s.1.tm.get 1 = some (.int .i64 d) ∧ s.1.tm.get 4 = some (.lptr 0 0) ∧ s.1.lv.next = 1 ∧ s.1.lv.get 0 = some [.int .i64 0, .int .i64 0, .str ⟨#[]⟩, .nilslice] ∧ 0 < d)) ?_ ?_ ?_
    · refine Ev.seqN (Q := fun s => ∃ b, s.1.n = 48 ∧ s.2.next = H.next ∧ (∃ c' ≤ c + 1, Dice s.2 id c') ∧ (∀ j, j ≠ id → s.2.get j = H.get j) ∧ s.1.tm.get 0 = some (.ptr id 0) ∧ s.1.tm.get 1 = some (.int .i64 d) ∧ s.1.tm.get 4 = some (.lptr 0 0) ∧ s.1.tm.get 12 = some (.bool b) ∧ s.1.lv.next = 1 ∧ s.1.lv.get 0 = some [.int .i64 0, .int .i64 0, .str ⟨#[]⟩, .nilslice] ∧ (b = false → 0 < d)) ?_ ?_
      · cases d with
        | zero =>
          refine Ev.mono (Q := fun ex s => ex = .normal ∧ s.1.n = 48 ∧ s.2 = H ∧ s.1.tm.get 0 = some (.ptr id 0) ∧ s.1.tm.get 1 = some (.int .i64 (0 : Nat)) ∧ s.1.tm.get 4 = some (.lptr 0 0) ∧ s.1.tm.get 12 = some (.bool true) ∧ s.1.lv.next = 1 ∧ s.1.lv.get 0 = some [.int .i64 0, .int .i64 0, .str ⟨#[]⟩, .nilslice]) ?_ fun ex s h => ?_
          · rw [nc0] at a4 ⊢
            simp only [Ev, o9_1, a1, a2, a3, a4, a5, a6, a7, evalCode, runOps, runD, runDraw, askOf, askRecs, askAll, isEff, muteOp, stepA, wantedA, isCall, target, evalOp, opMove, opPick, opAlloc, opBox, opBuild, opBuildSlice, opLoad, opStore, opNilCheck, opBinOp, opUnOp, opConvert, opMakeFunc, opMakeMap, opSlice, opFieldAddr, opField, opIndexAddr, opLookup, opExtract, opAppendB, opLenB, wrOf, newA, eqlA, keepA, newV, evT, toA, putA, loadA, storeA, takeCells, setCells, isAgg, binA, unA, convA, arith, addOff, dstLen, nilNil, isConst, sameTy, strOp, params, results, packA, AExit.leaves, maxTmp, memN, askIn, fillA, repl, groups, Option.getD, Option.map, List.length, List.all, Int.reduceBEq, Int.reduceBNe, Int.reduceEq, Int.reduceGT, Int.reduceGE, Int.reduceNeg, Int.reduceAdd, Int.reduceSub, Int.reduceLT, Int.reduceLE, Int.reduceToNat, Nat.reduceLT, Nat.reducePow, Nat.reduceAdd, Nat.reduceMul, Nat.reduceLeDiff, Nat.reduceEqDiff, Nat.reduceBEq, reduceIte, ↓reduceIte, reduceCtorEq, syT, tyT, Rg.regF, Rg.findR, pickOps, fT9, Tryz.f9]
          · obtain ⟨b1, b2, b3, b4, b5, b6, b7, b8, b9⟩ := h
            exact ⟨b1, true, b2, by rw [b3], ⟨c, by omega, by rw [b3]; exact hd⟩, fun j _ => by rw [b3], b4, b5, b6, b7, b8, b9, fun h => by cases h⟩
        | succ d =>
          obtain ⟨r, H1, e25, hr0, hr1, hn1, ⟨c1, hc1, hd1⟩, hfr1⟩ := dice25 hs (k := k' + 1) (n := 3) hd hid' (by omega) (by omega) (by omega)
          rw [nc3] at e25
          have hlt : (((d + 1 : Nat) : Int) < 1) = False := by simp; omega
          refine Ev.mono (Q := fun ex s => ex = .normal ∧ s.1.n = 48 ∧ s.2 = H1 ∧ s.1.tm.get 0 = some (.ptr id 0) ∧ s.1.tm.get 1 = some (.int .i64 (d + 1 : Nat)) ∧ s.1.tm.get 4 = some (.lptr 0 0) ∧ s.1.tm.get 12 = some (.bool (r == 0)) ∧ s.1.lv.next = 1 ∧ s.1.lv.get 0 = some [.int .i64 0, .int .i64 0, .str ⟨#[]⟩, .nilslice]) ?_ fun ex s h => ?_
          · simp only [Ev, o9_1, a1, a2, a3, a4, a5, a6, a7, hlt, e25, evalCode, runOps, runD, runDraw, askOf, askRecs, askAll, isEff, muteOp, stepA, wantedA, isCall, target, evalOp, opMove, opPick, opAlloc, opBox, opBuild, opBuildSlice, opLoad, opStore, opNilCheck, opBinOp, opUnOp, opConvert, opMakeFunc, opMakeMap, opSlice, opFieldAddr, opField, opIndexAddr, opLookup, opExtract, opAppendB, opLenB, wrOf, newA, eqlA, keepA, newV, evT, toA, putA, loadA, storeA, takeCells, setCells, isAgg, binA, unA, convA, arith, addOff, dstLen, nilNil, isConst, sameTy, strOp, params, results, packA, AExit.leaves, maxTmp, memN, askIn, fillA, repl, groups, Option.getD, Option.map, List.length, List.all, Int.reduceBEq, Int.reduceBNe, Int.reduceEq, Int.reduceGT, Int.reduceGE, Int.reduceNeg, Int.reduceAdd, Int.reduceSub, Int.reduceLT, Int.reduceLE, Int.reduceToNat, Nat.reduceLT, Nat.reducePow, Nat.reduceAdd, Nat.reduceMul, Nat.reduceLeDiff, Nat.reduceEqDiff, Nat.reduceBEq, reduceIte, ↓reduceIte, reduceCtorEq, syT, tyT, Rg.regF, Rg.findR, pickOps, fT9, Tryz.f9]
          · obtain ⟨b1, b2, b3, b4, b5, b6, b7, b8, b9⟩ := h
            exact ⟨b1, _, b2, by rw [b3]; exact hn1, ⟨c1, hc1, by rw [b3]; exact hd1⟩, fun j hj => by rw [b3]; exact hfr1 j hj, b4, b5, b6, b7, b8, b9, fun _ => by omega⟩
      · clear a1 a2 a3 a4 a5 a6 a7
        rintro s ⟨b, a1, hn1, ⟨c1, hc1, hd1⟩, hfr1, a3, a4, a5, a12, a6, a7, hb⟩
        cases b with
        | true =>
          refine Ev.condT (by simp only [evT, a12, Option.getD]) ?_
          refine (leaf9_leaf hs (k := k') hd1 hid' (by omega) a1 rfl a3 a5 a7).mono fun ex s h => ?_
          obtain ⟨h1, h2, ⟨c2, hc2, hd2⟩, h3, h4⟩ := h
          exact .inl ⟨h1, by omega, ⟨c2, by omega, hd2⟩, fun j hj => by rw [h3 j hj, hfr1 j hj], h4⟩
        | false =>
          refine Ev.condF (by simp only [evT, a12, Option.getD]) (Ev.skip ?_)
          exact .inr ⟨rfl, a1, hn1, ⟨c1, hc1, hd1⟩, hfr1, a3, a4, a5, a6, a7, hb rfl⟩
    · clear a1 a2 a3 a4 a5 a6 a7
      rintro s (⟨h, -⟩ | ⟨-, a1, hn1, ⟨c1, hc1, hd1⟩, hfr1, a3, a4, a5, a6, a7, hdp⟩)
      · cases h
      obtain ⟨d, rfl⟩ : ∃ d', d = d' + 1 := ⟨d - 1, by omega⟩
      obtain ⟨x, H2, e27, hx, hn2, ⟨c2, hc2, hd2⟩, hfr2⟩ := of27 hs (k := k') (H := s.2) (ss := [⟨#[78]⟩, ⟨#[65]⟩, ⟨#[66]⟩, ⟨#[81]⟩]) (tok := .full) hd1 hid' (by omega) (by simp) (by simp)
      simp only [List.map_cons, List.map_nil] at e27
      have hfr12 : ∀ j, j ≠ id → H2.get j = H.get j := fun j hj => by rw [hfr2 j hj, hfr1 j hj]
      refine Ev.seqN (Q := fun s => s.1.n = 48 ∧ s.2 = H2 ∧ s.1.tm.get 0 = some (.ptr id 0) ∧ s.1.tm.get 1 = some (.int .i64 (d + 1 : Nat)) ∧ s.1.tm.get 4 = some (.lptr 0 0) ∧ s.1.tm.get 5 = some (.lptr 1 0) ∧ s.1.lv.get 0 = some [.int .i64 0, .int .i64 0, .str ⟨#[]⟩, .nilslice] ∧ s.1.lv.get 1 = some [.int .i64 5, .int .i64 0, .str x, .nilslice]) ?_ ?_
      · simp only [Ev, o9_3, a1, a3, a4, a5, a6, a7, e27, evalCode, runOps, runD, runDraw, askOf, askRecs, askAll, isEff, muteOp, stepA, wantedA, isCall, target, evalOp, opMove, opPick, opAlloc, opBox, opBuild, opBuildSlice, opLoad, opStore, opNilCheck, opBinOp, opUnOp, opConvert, opMakeFunc, opMakeMap, opSlice, opFieldAddr, opField, opIndexAddr, opLookup, opExtract, opAppendB, opLenB, wrOf, newA, eqlA, keepA, newV, evT, toA, putA, loadA, storeA, takeCells, setCells, isAgg, binA, unA, convA, arith, addOff, dstLen, nilNil, isConst, sameTy, strOp, params, results, packA, AExit.leaves, maxTmp, memN, askIn, fillA, repl, groups, Option.getD, Option.map, List.length, List.all, Int.reduceBEq, Int.reduceBNe, Int.reduceEq, Int.reduceGT, Int.reduceGE, Int.reduceNeg, Int.reduceAdd, Int.reduceSub, Int.reduceLT, Int.reduceLE, Int.reduceToNat, Nat.reduceLT, Nat.reducePow, Nat.reduceAdd, Nat.reduceMul, Nat.reduceLeDiff, Nat.reduceEqDiff, Nat.reduceBEq, reduceIte, ↓reduceIte, reduceCtorEq, syT, tyT, Rg.regF, Rg.findR, pickOps, fT9, Tryz.f9]
      clear hfr1 hfr2 hd1
      have hn2' : H2.next = H.next := by omega
      clear a1 a3 a4 a5 a6 a7 e27 hn1 hn2
      rintro s ⟨a1, a2, a3, a4, a5, a6, a7, a8⟩
      have hle := cntN_le x
      have hle0 := hle
      have hdge := szD_ge d
      have hz1 : cntN x * (4 * szD d) ≤ 2 * (4 * szD d) := Nat.mul_le_mul_right _ hle
      have hz2 : cntN x * (3 * szD d + 1) ≤ 2 * (3 * szD d + 1) := Nat.mul_le_mul_right _ hle
      have hz3 : cntN x * szD d ≤ 2 * szD d := Nat.mul_le_mul_right _ hle
      have hsz : szD (d + 1) = 1 + 2 * szD d := rfl
      refine Ev.seqN (Q := fun s => ∃ H3, H3.next = H.next + 1 ∧ (∀ j < H.next, j ≠ id → H3.get j = H.get j) ∧ Inv9 id c2 (d + 1) (szD d) (cntN x) x H3 (cntN x) s) ?_ ?_
      · refine Ev.seqN (leaf9_map hx a1 a2 (by omega) a3 a4 a5 a6 a7 a8) ?_
        clear a1 a3 a4 a5 a6 a7 a8
        rintro s ⟨a1, hn3, hfr3, a3, a4, a5, a6, a34, a35, a7, a8⟩
        have hd3 : Dice s.2 id c2 := by
          obtain ⟨la, l', bb, q1, q2, q3⟩ := hd2
          exact ⟨la, l', bb, by rw [hfr3 id (by omega)]; exact q1, q2, q3⟩
        have h0 : Inv9 id c2 (d + 1) (szD d) (cntN x) x s.2 0 s := ⟨a1, a3, a4, a5, a6, a34, a35, a7, Nat.le_refl _, by omega, ⟨c2, by omega, hd3⟩, fun _ _ _ => rfl, .nilslice, a8, [], .inl ⟨rfl, rfl⟩, .nil, by simp [Nd.sizes], rfl⟩
        have hfr4 : ∀ j < H.next, j ≠ id → s.2.get j = H.get j := fun j hj hne => by rw [hfr3 j (by omega), hfr12 j hne]
        have hn3' : s.2.next = H.next + 1 := by omega
        generalize s.2 = H3 at h0 hfr4 hn3'
        refine Ev.mono (Q := fun ex s' => ex = .normal ∧ Inv9 id c2 (d + 1) (szD d) (cntN x) x H3 (cntN x) s') ?_ fun ex s' h => ⟨h.1, H3, hn3', hfr4, h.2⟩
        refine Ev.block (Ev.loop (Inv := fun i s => Inv9 id c2 (d + 1) (szD d) (cntN x) x H3 i s) (cntN x) (by omega) h0 fun i st hi hle => ?_)
        by_cases hlt : i < cntN x
        · exact (leaf9_step (ih d rfl) (by omega) (by omega) (by omega) (by omega) hlt hle0 (by omega) hi).mono fun ex s hs => .inl ⟨hs.1, hlt, hs.2⟩
        · have : i = cntN x := by omega
          subst this
          exact (leaf9_end hi).mono fun ex s hs => .inr ⟨by rw [hs.1]; simp, by rw [hs.1]; rfl, hs.2⟩
      · clear a1 a3 a4 a5 a6 a7 a8
        rintro s ⟨H3, hn3, hfr4, a1, a3, a4, a5, a6, a42, a43, a7, hHn, hHs, ⟨c3, hc3, hd4⟩, hfr5, o, a8, l, ho, hgo, hls, hll⟩
        have hoo := ho.one
        simp only [Ev, o9_8, a1, a3, a4, a5, a6, a7, a8, hoo, evalCode, runOps, runD, runDraw, askOf, askRecs, askAll, isEff, muteOp, stepA, wantedA, isCall, target, evalOp, opMove, opPick, opAlloc, opBox, opBuild, opBuildSlice, opLoad, opStore, opNilCheck, opBinOp, opUnOp, opConvert, opMakeFunc, opMakeMap, opSlice, opFieldAddr, opField, opIndexAddr, opLookup, opExtract, opAppendB, opLenB, wrOf, newA, eqlA, keepA, newV, evT, toA, putA, loadA, storeA, takeCells, setCells, isAgg, binA, unA, convA, arith, addOff, dstLen, nilNil, isConst, sameTy, strOp, params, results, packA, AExit.leaves, maxTmp, memN, askIn, fillA, repl, groups, Option.getD, Option.map, List.length, List.all, Int.reduceBEq, Int.reduceBNe, Int.reduceEq, Int.reduceGT, Int.reduceGE, Int.reduceNeg, Int.reduceAdd, Int.reduceSub, Int.reduceLT, Int.reduceLE, Int.reduceToNat, Nat.reduceLT, Nat.reducePow, Nat.reduceAdd, Nat.reduceMul, Nat.reduceLeDiff, Nat.reduceEqDiff, Nat.reduceBEq, reduceIte, ↓reduceIte, reduceCtorEq, syT, tyT, Rg.regF, Rg.findR, pickOps, fT9, Tryz.f9]
        refine ⟨.mk 5 0 x l, IsN_mk.2 ⟨o, rfl, ho⟩, by simp only [Nd.size]; omega, by omega, by omega, ⟨c3, by omega, hd4⟩, fun j hj hne => by rw [hfr5 j (by omega) hne, hfr4 j hj hne]⟩
    · rintro ex s hne (⟨rfl, hn3, ⟨c2, hc2, hd2⟩, hfr2, t4, a, b, x, hl⟩ | ⟨h, -⟩)
      · simp only [hl, t4, evalCode, runOps, runD, runDraw, askOf, askRecs, askAll, isEff, muteOp, stepA, wantedA, isCall, target, evalOp, opMove, opPick, opAlloc, opBox, opBuild, opBuildSlice, opLoad, opStore, opNilCheck, opBinOp, opUnOp, opConvert, opMakeFunc, opMakeMap, opSlice, opFieldAddr, opField, opIndexAddr, opLookup, opExtract, opAppendB, opLenB, wrOf, newA, eqlA, keepA, newV, evT, toA, putA, loadA, storeA, takeCells, setCells, isAgg, binA, unA, convA, arith, addOff, dstLen, nilNil, isConst, sameTy, strOp, params, results, packA, AExit.leaves, maxTmp, memN, askIn, fillA, repl, groups, Option.getD, Option.map, List.length, List.all, Int.reduceBEq, Int.reduceBNe, Int.reduceEq, Int.reduceGT, Int.reduceGE, Int.reduceNeg, Int.reduceAdd, Int.reduceSub, Int.reduceLT, Int.reduceLE, Int.reduceToNat, Nat.reduceLT, Nat.reducePow, Nat.reduceAdd, Nat.reduceMul, Nat.reduceLeDiff, Nat.reduceEqDiff, Nat.reduceBEq, reduceIte, ↓reduceIte, reduceCtorEq, syT, tyT, Rg.regF, Rg.findR, pickOps, fT9, Tryz.f9]
        refine ⟨.mk a b x [], IsN_mk.2 ⟨.nilslice, rfl, .inl ⟨rfl, rfl⟩⟩, by simp [Nd.size, Nd.sizes]; omega, by omega, by omega, ⟨c2, by omega, hd2⟩, fun j hj hne => by rw [hfr2 j hne]⟩
      · exact absurd h hne
  obtain ⟨⟨v, H'⟩, h1, p, h2⟩ := key
  exact ⟨v, p, H', h1, h2⟩

theorem leaf9 (hs : PlainD sp) : ∀ d, LeafOk sp d := by
  intro d
  induction d with
  | zero => exact leaf9_at hs 0 (fun d' h => by cases h)
  | succ d ih => exact leaf9_at hs (d + 1) (fun d' h => by injection h with h; subst h; exact ih)
end
end Go.Rs.Seat
end
/- The dice: patterns. -/
section
namespace Go.Rs.Seat
open Go.Proofs Rg
set_option maxRecDepth 100000
set_option maxHeartbeats 16000000

section
variable {sp : Bool → FuncId → Option (List AVal → Hp → Option (AVal × Hp))}

def Inv8 (id n : Nat) (H0 : Hp) (i : Nat) (st : St) : Prop :=
  st.1.n = 20 ∧ st.1.tm.get 3 = some (.ptr id 0) ∧ st.1.tm.get 10 = some (.int .i64 n) ∧ st.1.tm.get 11 = some (.int .i64 i) ∧
    H0.next ≤ st.2.next ∧ st.2.next ≤ H0.next + i * 46 ∧ (∃ c' ≤ 1 + i * 45, Dice st.2 id c') ∧ (∀ j < H0.next, j ≠ id → st.2.get j = H0.get j) ∧
    ∃ o, st.1.tm.get 4 = some o ∧ ∃ l, IsL o l ∧ Gr H0.next 4 o st.2 ∧ Nd.sizes l ≤ i * 15 ∧ l.length = i ∧ WfPs l

theorem pats8_step (hs : PlainD sp) {k : Nat} {st : St} {H0 : Hp} {id n i : Nat} (hk : 8 ≤ k) (hid : id < H0.next) (hH : H0.next ≤ 3000) (hin : i < n) (hn6 : n ≤ 6) (h : Inv8 id n H0 i st) :
    Ev (env sp) (evalCall (env sp) k) false 8 b8_0 st fun ex s => ex = .normal ∧ Inv8 id n H0 (i + 1) s := by
  obtain ⟨hn', h3, h10, h11, hHn, hHs, ⟨c', hc', hd⟩, hfr, o, h4, l, ho, hgo, hls, hll, hwl⟩ := h
  have hsz3 : szD 3 = 15 := rfl
  obtain ⟨v, p, H1, e26, hp, hwp, hps, hm1, hm2, ⟨c2, hc2, hd2⟩, hfr1⟩ := pat26 hs 3 k (by omega) id c' st.2 hd (by omega) (by omega) (by omega)
  have nc3' : ((3 : Nat) : Int) = 3 := rfl
  rw [nc3'] at e26
  rw [hsz3] at hps hm2 hc2
  have hgo1 : Gr H0.next 4 o H1 := hgo.keep' hm1 fun j hj1 hj2 => hfr1 j hj2 (by omega)
  obtain ⟨b, rfl, hb⟩ := hp.cells
  obtain ⟨o', H2, eap, ho', hgo', hx1, htok, hf1⟩ := app_gr' (P := fun v x => IsN x v) (E := env sp) (T := 25) (e := 36) (sz := 4) (tk := .full) (m := [p]) (ys := [.agg [.int .i64 p.k, .int .i64 p.n, .str p.s, b]]) (by rw [ty25]) (by rw [ty36]; decide) (by rw [ty36]) hgo1 ho (AllP.cons (isN_of hb) AllP.nil) (by simp) (by omega) (by omega) (by
    rw [hll]; simp; omega)
  have hob := hb.one
  have hoo := hgo.one
  have hoo' := hgo'.one
  have hi' : ((i : Int) < (n : Int)) = True := by simp [hin]
  have hw : IntKind.i64.wrap ((i : Int) + 1) = ((i + 1 : Nat) : Int) := wrap_nat (by omega)
  simp only [Ev, Inv8, b8_0, o8_4, o8_5, o8_6, hn', h3, h4, h10, h11, hi', e26, eap, hw, hob, hoo, hoo', evalCode, runOps, runD, runDraw, askOf, askRecs, askAll, isEff, muteOp, stepA, wantedA, isCall, target, evalOp, opMove, opPick, opAlloc, opBox, opBuild, opBuildSlice, opLoad, opStore, opNilCheck, opBinOp, opUnOp, opConvert, opMakeFunc, opMakeMap, opSlice, opFieldAddr, opField, opIndexAddr, opLookup, opExtract, opAppendB, opLenB, wrOf, newA, eqlA, keepA, newV, evT, toA, putA, loadA, storeA, takeCells, setCells, isAgg, binA, unA, convA, arith, addOff, dstLen, nilNil, isConst, sameTy, strOp, params, results, packA, AExit.leaves, maxTmp, memN, askIn, fillA, repl, groups, Option.getD, Option.map, List.length, List.all, Int.reduceBEq, Int.reduceBNe, Int.reduceEq, Int.reduceGT, Int.reduceGE, Int.reduceNeg, Int.reduceAdd, Int.reduceSub, Int.reduceLT, Int.reduceLE, Int.reduceToNat, Nat.reduceLT, Nat.reducePow, Nat.reduceAdd, Nat.reduceMul, Nat.reduceLeDiff, Nat.reduceEqDiff, Nat.reduceBEq, reduceIte, ↓reduceIte, reduceCtorEq, syT, tyT, Rg.regF, Rg.findR, pickOps, fT8, Tryz.f8]
  refine ⟨by omega, by omega, ⟨c2, by omega, ?_⟩, fun j hj hne => ?_, l ++ [p], ho', hgo', ?_, by simp [hll], WfPs_append.2 ⟨hwl, hwp, trivial⟩⟩
  · obtain ⟨la, l', bb, q1, q2, q3⟩ := hd2
    refine ⟨la, l', bb, ?_, q2, q3⟩
    rw [hf1 id (by omega) (fun hh => ?_)]
    · exact q1
    · rcases hgo with rfl | ⟨ws, u, rfl, k1, k2, k3⟩
      · cases hh
      · injection hh with hh; omega
  · rw [hf1 j (by omega) (fun hh => ?_), hfr1 j (by omega) hne, hfr j hj hne]
    rcases hgo with rfl | ⟨ws, u, rfl, k1, k2, k3⟩
    · cases hh
    · injection hh with hh; omega
  · rw [sizes_append]; simp [Nd.sizes]; omega

theorem pats8_end {call : CallF} {st : St} {H0 : Hp} {id n : Nat} (h : Inv8 id n H0 n st) :
    Ev (env sp) call false 8 b8_0 st fun ex s => ex = .exit 0 ∧ Inv8 id n H0 n s := by
  obtain ⟨hn', h3, h10, h11, hHn, hHs, hd, hfr, o, h4, l, ho, hgo, hls, hll, hwl⟩ := h
  have hi' : ((n : Int) < (n : Int)) = False := by simp
  simp only [Ev, Inv8, b8_0, o8_4, hn', h3, h4, h10, h11, hi', evalCode, runOps, runD, runDraw, askOf, askRecs, askAll, isEff, muteOp, stepA, wantedA, isCall, target, evalOp, opMove, opPick, opAlloc, opBox, opBuild, opBuildSlice, opLoad, opStore, opNilCheck, opBinOp, opUnOp, opConvert, opMakeFunc, opMakeMap, opSlice, opFieldAddr, opField, opIndexAddr, opLookup, opExtract, opAppendB, opLenB, wrOf, newA, eqlA, keepA, newV, evT, toA, putA, loadA, storeA, takeCells, setCells, isAgg, binA, unA, convA, arith, addOff, dstLen, nilNil, isConst, sameTy, strOp, params, results, packA, AExit.leaves, maxTmp, memN, askIn, fillA, repl, groups, Option.getD, Option.map, List.length, List.all, Int.reduceBEq, Int.reduceBNe, Int.reduceEq, Int.reduceGT, Int.reduceGE, Int.reduceNeg, Int.reduceAdd, Int.reduceSub, Int.reduceLT, Int.reduceLE, Int.reduceToNat, Nat.reduceLT, Nat.reducePow, Nat.reduceAdd, Nat.reduceMul, Nat.reduceLeDiff, Nat.reduceEqDiff, Nat.reduceBEq, reduceIte, ↓reduceIte, reduceCtorEq, syT, tyT, Rg.regF, Rg.findR, pickOps, fT8, Tryz.f8]
  exact ⟨hHn, hHs, hd, hfr, l, ho, hgo, hls, hll, hwl⟩

/-- the patterns of numbers -/
theorem pats8 (hs : PlainD sp) {k : Nat} {a : AVal} {l : List Int} {H : Hp} (ha : IsI a l) (hl : l.length ≤ 300) (hk : 8 ≤ k) (hH : H.next ≤ 2000) :
    ∃ v ps H', evalCall (env sp) (k + 1) false 8 [a] H = some (v, H') ∧ IsL v ps ∧ WfPs ps ∧ Nd.sizes ps ≤ 90 ∧ ps.length ≤ 6 ∧ H.next ≤ H'.next ∧ H'.next ≤ H.next + 300 ∧ ∀ j < H.next, H'.get j = H.get j := by
  have hoa := ha.one
  obtain ⟨k', rfl⟩ : ∃ k', k = k' + 2 := ⟨k - 2, by omega⟩
  have hH1 : H.next < 4096 := by omega
  have hH1' : (H.next < 4096) = True := by simp [hH1]
  have key : ∃ r, evalCall (env sp) (k' + 2 + 1) false 8 [a] H = some r ∧ (∃ ps, IsL r.1 ps ∧ WfPs ps ∧ Nd.sizes ps ≤ 90 ∧ ps.length ≤ 6 ∧ H.next ≤ r.2.next ∧ r.2.next ≤ H.next + 300 ∧ ∀ j < H.next, r.2.get j = H.get j) := by
    refine enter8 (Post := fun v H' => ∃ ps, IsL v ps ∧ WfPs ps ∧ Nd.sizes ps ≤ 90 ∧ ps.length ≤ 6 ∧ H.next ≤ H'.next ∧ H'.next ≤ H.next + 300 ∧ ∀ j < H.next, H'.get j = H.get j) hs.h8 rfl ?_
    unfold c8
    refine Ev.seqN (Q := fun s => s.1.n = 20 ∧ s.2 = H ∧ s.1.tm.get 0 = some a) ?_ ?_
    · simp only [Ev, o8_0, hoa, evalCode, runOps, runD, runDraw, askOf, askRecs, askAll, isEff, muteOp, stepA, wantedA, isCall, target, evalOp, opMove, opPick, opAlloc, opBox, opBuild, opBuildSlice, opLoad, opStore, opNilCheck, opBinOp, opUnOp, opConvert, opMakeFunc, opMakeMap, opSlice, opFieldAddr, opField, opIndexAddr, opLookup, opExtract, opAppendB, opLenB, wrOf, newA, eqlA, keepA, newV, evT, toA, putA, loadA, storeA, takeCells, setCells, isAgg, binA, unA, convA, arith, addOff, dstLen, nilNil, isConst, sameTy, strOp, params, results, packA, AExit.leaves, maxTmp, memN, askIn, fillA, repl, groups, Option.getD, Option.map, List.length, List.all, Int.reduceBEq, Int.reduceBNe, Int.reduceEq, Int.reduceGT, Int.reduceGE, Int.reduceNeg, Int.reduceAdd, Int.reduceSub, Int.reduceLT, Int.reduceLE, Int.reduceToNat, Nat.reduceLT, Nat.reducePow, Nat.reduceAdd, Nat.reduceMul, Nat.reduceLeDiff, Nat.reduceEqDiff, Nat.reduceBEq, reduceIte, ↓reduceIte, reduceCtorEq, syT, tyT, Rg.regF, Rg.findR, pickOps, fT8, Tryz.f8]
    rintro s ⟨a1, a2, a3⟩
    have hst : ∃ b, a.strip = b ∧ IsI b l ∧ b.oneCell = true := by
      rcases ha with ⟨rfl, h⟩ | ⟨t, rfl⟩
      · exact ⟨_, rfl, .inl ⟨rfl, h⟩, rfl⟩
      · exact ⟨_, rfl, .inr ⟨.none, rfl⟩, rfl⟩
    obtain ⟨b, hst, hb, hob⟩ := hst
    refine Ev.seqN (Q := fun s => s.1.n = 20 ∧ s.2 = (H.alloc (.cells [b, .int .i64 0, .bool false])).2 ∧ s.1.tm.get 3 = some (.ptr H.next 0)) ?_ ?_
    · simp only [Ev, o8_1, a1, a2, a3, hoa, hst, hob, hH1', evalCode, runOps, runD, runDraw, askOf, askRecs, askAll, isEff, muteOp, stepA, wantedA, isCall, target, evalOp, opMove, opPick, opAlloc, opBox, opBuild, opBuildSlice, opLoad, opStore, opNilCheck, opBinOp, opUnOp, opConvert, opMakeFunc, opMakeMap, opSlice, opFieldAddr, opField, opIndexAddr, opLookup, opExtract, opAppendB, opLenB, wrOf, newA, eqlA, keepA, newV, evT, toA, putA, loadA, storeA, takeCells, setCells, isAgg, binA, unA, convA, arith, addOff, dstLen, nilNil, isConst, sameTy, strOp, params, results, packA, AExit.leaves, maxTmp, memN, askIn, fillA, repl, groups, Option.getD, Option.map, List.length, List.all, Int.reduceBEq, Int.reduceBNe, Int.reduceEq, Int.reduceGT, Int.reduceGE, Int.reduceNeg, Int.reduceAdd, Int.reduceSub, Int.reduceLT, Int.reduceLE, Int.reduceToNat, Nat.reduceLT, Nat.reducePow, Nat.reduceAdd, Nat.reduceMul, Nat.reduceLeDiff, Nat.reduceEqDiff, Nat.reduceBEq, reduceIte, ↓reduceIte, reduceCtorEq, syT, tyT, Rg.regF, Rg.findR, pickOps, fT8, Tryz.f8]
    clear a1 a2 a3
    rintro s ⟨a1, a2, a3⟩
    have hK : ∃ K, K = (H.alloc (.cells [b, .int .i64 0, .bool false])).2 ∧ K.next = H.next + 1 ∧ Dice K H.next 0 ∧ ∀ j < H.next, K.get j = H.get j :=
      ⟨_, rfl, rfl, ⟨b, l, false, by rw [hnew hH1, if_pos rfl]; rfl, hb, hl⟩, fun j hj => by rw [hnew hH1, if_neg (by omega)]⟩
    obtain ⟨K, hKe, hKn, hKd, hKf⟩ := hK
    rw [← hKe] at a2
    refine Ev.seqN (Q := fun s => s.1.n = 20 ∧ s.2 = K ∧ s.1.tm.get 3 = some (.ptr H.next 0) ∧ s.1.tm.get 4 = some .nilslice) ?_ ?_
    · simp only [Ev, o8_2, a1, a2, a3, evalCode, runOps, runD, runDraw, askOf, askRecs, askAll, isEff, muteOp, stepA, wantedA, isCall, target, evalOp, opMove, opPick, opAlloc, opBox, opBuild, opBuildSlice, opLoad, opStore, opNilCheck, opBinOp, opUnOp, opConvert, opMakeFunc, opMakeMap, opSlice, opFieldAddr, opField, opIndexAddr, opLookup, opExtract, opAppendB, opLenB, wrOf, newA, eqlA, keepA, newV, evT, toA, putA, loadA, storeA, takeCells, setCells, isAgg, binA, unA, convA, arith, addOff, dstLen, nilNil, isConst, sameTy, strOp, params, results, packA, AExit.leaves, maxTmp, memN, askIn, fillA, repl, groups, Option.getD, Option.map, List.length, List.all, Int.reduceBEq, Int.reduceBNe, Int.reduceEq, Int.reduceGT, Int.reduceGE, Int.reduceNeg, Int.reduceAdd, Int.reduceSub, Int.reduceLT, Int.reduceLE, Int.reduceToNat, Nat.reduceLT, Nat.reducePow, Nat.reduceAdd, Nat.reduceMul, Nat.reduceLeDiff, Nat.reduceEqDiff, Nat.reduceBEq, reduceIte, ↓reduceIte, reduceCtorEq, syT, tyT, Rg.regF, Rg.findR, pickOps, fT8, Tryz.f8]
    clear a1 a2 a3
    rintro s ⟨a1, a2, a3, a4⟩
    obtain ⟨r, H1, e25, hr0, hr1, hn1, ⟨c1, hc1, hd1⟩, hfr1⟩ := dice25 hs (k := k') (n := 6) hKd hH1 (by omega) (by omega) (by omega)
    have nc6 : ((6 : Nat) : Int) = 6 := rfl
    rw [nc6] at e25 hr1
    have hw : IntKind.i64.wrap (1 + r) = ((r.toNat + 1 : Nat) : Int) := by rw [IntKind.wrap_i64]; omega
    refine Ev.seqN (Q := fun s => Inv8 H.next (r.toNat + 1) H1 (r.toNat + 1) s) ?_ ?_
    · refine Ev.seqN (Q := fun s => Inv8 H.next (r.toNat + 1) H1 0 s) ?_ ?_
      · simp only [Ev, Inv8, o8_3, a1, a2, a3, a4, e25, hw, evalCode, runOps, runD, runDraw, askOf, askRecs, askAll, isEff, muteOp, stepA, wantedA, isCall, target, evalOp, opMove, opPick, opAlloc, opBox, opBuild, opBuildSlice, opLoad, opStore, opNilCheck, opBinOp, opUnOp, opConvert, opMakeFunc, opMakeMap, opSlice, opFieldAddr, opField, opIndexAddr, opLookup, opExtract, opAppendB, opLenB, wrOf, newA, eqlA, keepA, newV, evT, toA, putA, loadA, storeA, takeCells, setCells, isAgg, binA, unA, convA, arith, addOff, dstLen, nilNil, isConst, sameTy, strOp, params, results, packA, AExit.leaves, maxTmp, memN, askIn, fillA, repl, groups, Option.getD, Option.map, List.length, List.all, Int.reduceBEq, Int.reduceBNe, Int.reduceEq, Int.reduceGT, Int.reduceGE, Int.reduceNeg, Int.reduceAdd, Int.reduceSub, Int.reduceLT, Int.reduceLE, Int.reduceToNat, Nat.reduceLT, Nat.reducePow, Nat.reduceAdd, Nat.reduceMul, Nat.reduceLeDiff, Nat.reduceEqDiff, Nat.reduceBEq, reduceIte, ↓reduceIte, reduceCtorEq, syT, tyT, Rg.regF, Rg.findR, pickOps, fT8, Tryz.f8]
        refine ⟨by omega, ⟨c1, by omega, hd1⟩, ?_, [], .inl ⟨rfl, rfl⟩, .nil, by simp [Nd.sizes], rfl, trivial⟩
        exact fun _ _ _ => trivial
      intro s hs'
      refine Ev.block (Ev.loop (Inv := fun i s => Inv8 H.next (r.toNat + 1) H1 i s) (r.toNat + 1) (by omega) hs' fun i st hi hle => ?_)
      by_cases hlt : i < r.toNat + 1
      · exact (pats8_step hs (by omega) (by omega) (by omega) hlt (by omega) hi).mono fun ex s hs => .inl ⟨hs.1, hlt, hs.2⟩
      · have : i = r.toNat + 1 := by omega
        rw [this] at hi
        exact (pats8_end hi).mono fun ex s hs => .inr ⟨by rw [hs.1]; simp, by rw [hs.1]; rfl, hs.2⟩
    clear a1 a2 a3 a4
    rintro s ⟨hn', h3, h10, h11, hHn, hHs, hd, hfr, o, h4, ps, ho, hgo, hls, hll, hwl⟩
    have hoo := ho.one
    simp only [Ev, o8_7, hn', h4, hoo, evalCode, runOps, runD, runDraw, askOf, askRecs, askAll, isEff, muteOp, stepA, wantedA, isCall, target, evalOp, opMove, opPick, opAlloc, opBox, opBuild, opBuildSlice, opLoad, opStore, opNilCheck, opBinOp, opUnOp, opConvert, opMakeFunc, opMakeMap, opSlice, opFieldAddr, opField, opIndexAddr, opLookup, opExtract, opAppendB, opLenB, wrOf, newA, eqlA, keepA, newV, evT, toA, putA, loadA, storeA, takeCells, setCells, isAgg, binA, unA, convA, arith, addOff, dstLen, nilNil, isConst, sameTy, strOp, params, results, packA, AExit.leaves, maxTmp, memN, askIn, fillA, repl, groups, Option.getD, Option.map, List.length, List.all, Int.reduceBEq, Int.reduceBNe, Int.reduceEq, Int.reduceGT, Int.reduceGE, Int.reduceNeg, Int.reduceAdd, Int.reduceSub, Int.reduceLT, Int.reduceLE, Int.reduceToNat, Nat.reduceLT, Nat.reducePow, Nat.reduceAdd, Nat.reduceMul, Nat.reduceLeDiff, Nat.reduceEqDiff, Nat.reduceBEq, reduceIte, ↓reduceIte, reduceCtorEq, syT, tyT, Rg.regF, Rg.findR, pickOps, fT8, Tryz.f8]
    exact ⟨ps, ho, hwl, by omega, by omega, by omega, by omega, fun j hj => by rw [hfr j (by omega) (by omega), hfr1 j (by omega), hKf j hj]⟩
  obtain ⟨⟨v, H'⟩, h1, ps, h2⟩ := key
  exact ⟨v, ps, H', h1, h2⟩
end
end Go.Rs.Seat
end
