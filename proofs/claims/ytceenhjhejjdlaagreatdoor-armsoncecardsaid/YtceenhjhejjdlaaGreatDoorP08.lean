/- slices.SortFunc at pairs of integers: the contract at this dump (written by the tool lay-plain.mjs). -/
import Derived.Test.YtceenhjhejjdlaaGreatDoorP06
import Derived.Shelf.SlSortCmp.WholeK
import Derived.Ground.SlsfProg
import Derived.Test.YtceenhjhejjdlaaGreatDoorProg
import Derived.WalkKit
import Derived.WalkSpells
import Derived.Sort.Grow
import Derived.LoopN
import Derived.Shelf.SlSortCmp.InsertionK
import Derived.Maps.RangeRun
set_option linter.unusedSimpArgs false
set_option linter.unusedVariables false
section
namespace Go.Proofs
open Go.Shelf
def Tryz.sortPairs_ren : Go.Shelf.Ren := ⟨fun | 6 => 176 | 15 => 221 | 14 => 220 | 28 => 255 | 29 => 256 | 20 => 247 | 21 => 248 | 22 => 249 | 23 => 250 | 24 => 251 | 25 => 252 | 26 => 253 | 27 => 254 | 46 => 269 | 47 => 270 | 48 => 271 | 49 => 272 | 50 => 273 | 57 => 295 | n => n, fun | 22 => 271 | 24 => 273 | 25 => 338 | 3 => 3 | 39 => 113 | 0 => 0 | 53 => 407 | 55 => 396 | 4 => 4 | 46 => 401 | 45 => 400 | 50 => 143 | 5 => 5 | 9 => 9 | 66 => 421 | 70 => 297 | 76 => 440 | 77 => 49 | n => n, fun | n => n⟩
theorem Tryz.sortPairs : Go.Proofs.SlLaysF0.n6 Tryz.prog Tryz.sortPairs_ren := {
  mixed := by kernel_rfl
  f6 := ⟨Tryz.f176.name, by decide, Tryz.func176.trans (congrArg some (by kernel_rfl))⟩
  f14 := ⟨Tryz.f220.name, by decide, Tryz.func220.trans (congrArg some (by kernel_rfl))⟩
  f15 := Tryz.func221.trans (congrArg some (by kernel_rfl))
  f20 := ⟨Tryz.f247.name, by decide, Tryz.func247.trans (congrArg some (by kernel_rfl))⟩
  f21 := ⟨Tryz.f248.name, by decide, Tryz.func248.trans (congrArg some (by kernel_rfl))⟩
  f22 := ⟨Tryz.f249.name, by decide, Tryz.func249.trans (congrArg some (by kernel_rfl))⟩
  f23 := ⟨Tryz.f250.name, by decide, Tryz.func250.trans (congrArg some (by kernel_rfl))⟩
  f24 := ⟨Tryz.f251.name, by decide, Tryz.func251.trans (congrArg some (by kernel_rfl))⟩
  f25 := ⟨Tryz.f252.name, by decide, Tryz.func252.trans (congrArg some (by kernel_rfl))⟩
  f26 := ⟨Tryz.f253.name, by decide, Tryz.func253.trans (congrArg some (by kernel_rfl))⟩
  f27 := ⟨Tryz.f254.name, by decide, Tryz.func254.trans (congrArg some (by kernel_rfl))⟩
  f28 := Tryz.func255.trans (congrArg some (by kernel_rfl))
  f29 := Tryz.func256.trans (congrArg some (by kernel_rfl))
  f46 := ⟨Tryz.f269.name, by decide, Tryz.func269.trans (congrArg some (by kernel_rfl))⟩
  f47 := Tryz.func270.trans (congrArg some (by kernel_rfl))
  f48 := Tryz.func271.trans (congrArg some (by kernel_rfl))
  f49 := ⟨Tryz.f272.name, by decide, Tryz.func272.trans (congrArg some (by kernel_rfl))⟩
  f50 := ⟨Tryz.f273.name, by decide, Tryz.func273.trans (congrArg some (by kernel_rfl))⟩
  f57 := ⟨Tryz.f295.name, by decide, Tryz.func295.trans (congrArg some (by kernel_rfl))⟩
  t0 := Tryz.underlying0
  a0 := Tryz.isAgg0
  z0 := Tryz.sizeOf0
  v0 := Tryz.zeroValue0
  t3 := Tryz.underlying3
  a3 := Tryz.isAgg3
  z3 := Tryz.sizeOf3
  v3 := Tryz.zeroValue3
  t4 := Tryz.underlying4
  a4 := Tryz.isAgg4
  z4 := Tryz.sizeOf4
  v4 := Tryz.zeroValue4
  t5 := Tryz.underlying5
  a5 := Tryz.isAgg5
  z5 := Tryz.sizeOf5
  v5 := Tryz.zeroValue5
  t9 := Tryz.underlying9
  a9 := Tryz.isAgg9
  z9 := Tryz.sizeOf9
  v9 := Tryz.zeroValue9
  t22 := Tryz.underlying271
  a22 := Tryz.isAgg271
  z22 := Tryz.sizeOf271
  v22 := Tryz.zeroValue271
  t25 := Tryz.underlying338
  a25 := Tryz.isAgg338
  z25 := Tryz.sizeOf338
  v25 := Tryz.zeroValue338
  t39 := Tryz.underlying113
  a39 := Tryz.isAgg113
  z39 := Tryz.sizeOf113
  v39 := Tryz.zeroValue113
  t45 := Tryz.underlying400
  a45 := Tryz.isAgg400
  z45 := Tryz.sizeOf400
  v45 := Tryz.zeroValue400
  t46 := Tryz.underlying401
  a46 := Tryz.isAgg401
  z46 := Tryz.sizeOf401
  v46 := Tryz.zeroValue401
  t50 := Tryz.underlying143
  a50 := Tryz.isAgg143
  z50 := Tryz.sizeOf143
  v50 := Tryz.zeroValue143
  t53 := Tryz.underlying407
  a53 := Tryz.isAgg407
  z53 := Tryz.sizeOf407
  v53 := Tryz.zeroValue407
  t55 := Tryz.underlying396
  a55 := Tryz.isAgg396
  z55 := Tryz.sizeOf396
  v55 := Tryz.zeroValue396
  t66 := Tryz.underlying421
  a66 := Tryz.isAgg421
  z66 := Tryz.sizeOf421
  v66 := Tryz.zeroValue421
  t70 := Tryz.underlying297
  a70 := Tryz.isAgg297
  z70 := Tryz.sizeOf297
  v70 := Tryz.zeroValue297
  t76 := Tryz.underlying440
  a76 := Tryz.isAgg440
  z76 := Tryz.sizeOf440
  v76 := Tryz.zeroValue440
  t77 := Tryz.underlying49
  a77 := Tryz.isAgg49
  z77 := Tryz.sizeOf49
  v77 := Tryz.zeroValue49 }
end Go.Proofs
end
/- The comparison by which regs.Clash sorts its pairs. -/
section
namespace Go.Proofs
open Go.RowKit Go.Lib Go.Sort

set_option maxHeartbeats 1000000 in
theorem or178_0 (b : Int) (bk : Nat) (W : World) (ha : W.cell? ⟨bk, 0, none⟩ = some (.int .i64 0)) (hb : W.cell? ⟨bk, 1, none⟩ = some (.int .i64 b)) :
    Calls Tryz.prog 178 #[.slice (some ⟨bk, 0, none⟩) 2 2] W fun e w' => e = .returned (.int .i64 b) ∧ w' = W := by
  by_cases h2 : b = 0
  · subst h2
    go_enter Tryz.func178, Tryz.ntmps178
    go_wp2
    refine wp_loop_rounds 3 ?_
    rw [rounds_succ]
    go_wp2
    rw [rounds_succ]
    go_wp2
    rw [rounds_succ]
    go_wp2
    go_ret
    exact ⟨rfl, rfl⟩
  · have h2' : (b != 0) = true := by simp [h2]
    go_enter Tryz.func178, Tryz.ntmps178
    go_wp2
    refine wp_loop_rounds 3 ?_
    rw [rounds_succ]
    go_wp2
    rw [rounds_succ]
    go_wp2
    go_ret
    exact ⟨rfl, rfl⟩

set_option maxHeartbeats 1000000 in
theorem or178_1 (a b : Int) (h1 : (a != 0) = true) (bk : Nat) (W : World) (ha : W.cell? ⟨bk, 0, none⟩ = some (.int .i64 a)) (hb : W.cell? ⟨bk, 1, none⟩ = some (.int .i64 b)) :
    Calls Tryz.prog 178 #[.slice (some ⟨bk, 0, none⟩) 2 2] W fun e w' => e = .returned (.int .i64 a) ∧ w' = W := by
  go_enter Tryz.func178, Tryz.ntmps178
  go_wp2
  refine wp_loop_rounds 3 ?_
  rw [rounds_succ]
  go_wp2
  go_ret
  exact ⟨rfl, rfl⟩

/-- first by one, then by the other -/
def orI (a b : Int) : Int := if a = 0 then b else a

theorem or178 (a b : Int) (bk : Nat) (W : World) (ha : W.cell? ⟨bk, 0, none⟩ = some (.int .i64 a)) (hb : W.cell? ⟨bk, 1, none⟩ = some (.int .i64 b)) :
    Calls Tryz.prog 178 #[.slice (some ⟨bk, 0, none⟩) 2 2] W fun e w' => e = .returned (.int .i64 (orI a b)) ∧ w' = W := by
  unfold orI
  by_cases h : a = 0
  · subst h; exact or178_0 b bk W ha hb
  · rw [if_neg h]; exact or178_1 a b (by simp [h]) bk W ha hb

def subI (a b : Int) : Int := wrap64 (a - b)

theorem cells_new (V : World) (n : Nat) (hn : n = V.heap.size) (u v : Value) (t : TypeId) : (V.alloc (.cells #[u, v] t)).cell? ⟨n, 0, none⟩ = some u ∧ (V.alloc (.cells #[u, v] t)).cell? ⟨n, 1, none⟩ = some v := by
  subst hn
  have : (V.alloc (.cells #[u, v] t)).heap[V.heap.size]? = some (.cells #[u, v] t) := by
    unfold World.alloc
    simp
  constructor
  · unfold World.cell?; simp only [this]; rfl
  · unfold World.cell?; simp only [this]; rfl

set_option maxHeartbeats 1000000 in
theorem closure177 (x y : Int × Int) (W : World) :
    Calls Tryz.prog 177 #[.agg #[.int .i64 x.1, .int .i64 x.2], .agg #[.int .i64 y.1, .int .i64 y.2]] W fun e w' => e = .returned (.int .i64 (orI (subI x.1 y.1) (subI x.2 y.2))) ∧ ∃ q os', w' = grow (W.drewN q) os' := by
  have hcon := fun bk W ha hb => or178 (wrap64 (x.1 - y.1)) (wrap64 (x.2 - y.2)) bk W ha hb
  unfold subI
  generalize orI (wrap64 (x.1 - y.1)) (wrap64 (x.2 - y.2)) = r at hcon ⊢
  go_enter Tryz.func177, Tryz.ntmps177
  go_wp2_with fail
  refine (hcon _ _ ?_ ?_).mono ?_
  · exact (cells_new _ _ (by simp) _ _ _).1
  · exact (cells_new _ _ (by simp) _ _ _).2
  · rintro e w' ⟨rfl, rfl⟩
    go_wp2
    go_ret
    exact ⟨rfl, 0, _, by rw [alloc_eq_grow, alloc_eq_grow, alloc_eq_grow, grow_grow, grow_grow]; rfl⟩
end Go.Proofs
end
/- slices.SortFunc at pairs of integers. -/
section
namespace Go.Rs
section
variable {P : Program}
/-- a heap that has grown -/
theorem Step.grown {N : Nat} {g : Gh} {H : Hp} {w w' : World} (h : HRel g H w) (hsz : w.heap.size ≤ w'.heap.size) (hold : ∀ b, b < w.heap.size → w'.heap[b]? = w.heap[b]?) (ho : w'.os = w.os) (hu : w'.output = w.output) : Step N g H w g H w' := by
  have ext : Ext g w g w' := by
    refine ⟨rfl, fun _ _ h => h, fun _ _ _ => rfl, fun _ => Nat.le_refl _, fun b k v hk hc => ?_, fun b => ?_⟩
    · have hb := h.limlt b (by omega)
      rw [cell_of_heap (hold b hb)]; exact hc
    · rcases Nat.lt_or_ge b w.heap.size with hb | hb
      · rw [sizeAt_of_heap (hold b hb)]; exact Nat.le_refl _
      · have : sizeAt w b = 0 := by simp [sizeAt, Array.getElem?_eq_none hb]
        omega
  refine ⟨ext, ⟨fun j c hc => ?_, h.inj, fun j c hc => ?_, h.fresh, fun c hc => ?_⟩, Nat.le_refl _, hsz, fun b _ hb _ => ⟨hold b hb, rfl⟩, fun _ _ h => h, fun _ _ => rfl, fun _ _ _ => rfl,
    ⟨ho, hu, fun b c t fr e => ⟨c, by rw [hold b (Array.getElem?_eq_some_iff.1 e).1]; exact e, rfl⟩⟩⟩
  · exact (h.obj j c hc).mono ext (hold c (h.lt j c hc).2.2) rfl rfl
  · have := h.lt j c hc; exact ⟨this.1, this.2.1, Nat.lt_of_lt_of_le this.2.2 hsz⟩
  · exact Nat.lt_of_lt_of_le (h.limlt c hc) hsz
end

/-! ## Pairs -/
def bigI : Int := 2 ^ 61
def inB (a : Int) : Bool := decide (-bigI ≤ a) && decide (a ≤ bigI)

def pairsOf : List AVal → Option (List (Int × Int))
  | [] => some []
  | .int .i64 a :: .int .i64 b :: rest => if inB a && inB b then (pairsOf rest).map ((a, b) :: ·) else none
  | _ => none

def flatP : List (Int × Int) → List AVal
  | [] => []
  | (a, b) :: r => .int .i64 a :: .int .i64 b :: flatP r

def leP (x y : Int × Int) : Bool := decide (x.1 < y.1) || (decide (x.1 = y.1) && decide (x.2 ≤ y.2))

def insP (x : Int × Int) : List (Int × Int) → List (Int × Int)
  | [] => [x]
  | y :: l => if leP x y then x :: y :: l else y :: insP x l

def sortP : List (Int × Int) → List (Int × Int)
  | [] => []
  | x :: l => insP x (sortP l)

theorem pairsOf_flat : ∀ {cs : List AVal} {ps : List (Int × Int)}, pairsOf cs = some ps → cs = flatP ps ∧ ∀ x ∈ ps, inB x.1 = true ∧ inB x.2 = true := by
  intro cs
  induction cs using pairsOf.induct with
  | case1 => intro ps h; simp [pairsOf] at h; subst h; simp [flatP]
  | case2 a b rest hb ih =>
    intro ps h
    rw [pairsOf, if_pos hb] at h
    cases hr : pairsOf rest with
    | none => rw [hr] at h; cases h
    | some qs =>
      rw [hr] at h
      simp only [Option.map_some, Option.some.injEq] at h
      subst h
      obtain ⟨h1, h2⟩ := ih hr
      simp only [Bool.and_eq_true] at hb
      refine ⟨by rw [flatP, ← h1], fun x hx => ?_⟩
      rcases List.mem_cons.1 hx with rfl | hx
      · exact hb
      · exact h2 x hx
  | case3 a b rest hb => intro ps h; rw [pairsOf, if_neg hb] at h; cases h
  | case4 cs h1 h2 =>
    intro ps h
    unfold pairsOf at h
    split at h
    · exact absurd rfl h1
    · exact absurd rfl (h2 _ _ _)
    · cases h

theorem flatP_len : ∀ ps : List (Int × Int), (flatP ps).length = ps.length * 2
  | [] => rfl
  | (a, b) :: r => by simp only [flatP, List.length_cons, flatP_len r]; omega

theorem flatP_get : ∀ (ps : List (Int × Int)) (i : Nat) (x : Int × Int), ps[i]? = some x → (flatP ps)[2 * i]? = some (.int .i64 x.1) ∧ (flatP ps)[2 * i + 1]? = some (.int .i64 x.2)
  | [], i, x, h => by simp at h
  | (a, b) :: r, 0, x, h => by simp at h; subst h; exact ⟨rfl, rfl⟩
  | (a, b) :: r, i + 1, x, h => by
    have := flatP_get r i x (by simpa using h)
    have e1 : 2 * (i + 1) = 2 * i + 2 := by omega
    rw [e1]
    exact this

theorem leP_iff (x y : Int × Int) : leP x y = true ↔ x.1 < y.1 ∨ x.1 = y.1 ∧ x.2 ≤ y.2 := by simp [leP]

theorem leP_total (x y : Int × Int) : leP x y = true ∨ leP y x = true := by simp only [leP_iff]; omega
theorem leP_trans {x y z : Int × Int} (h1 : leP x y = true) (h2 : leP y z = true) : leP x z = true := by simp only [leP_iff] at *; omega
theorem leP_anti {x y : Int × Int} (h1 : leP x y = true) (h2 : leP y x = true) : x = y := by
  simp only [leP_iff] at *; exact Prod.ext (by omega) (by omega)

theorem insP_perm (x : Int × Int) : ∀ l, (insP x l).Perm (x :: l)
  | [] => .refl _
  | y :: l => by
    unfold insP
    split
    · exact .refl _
    · exact ((insP_perm x l).cons y).trans (.swap x y l)

theorem sortP_perm : ∀ l, (sortP l).Perm l
  | [] => .refl _
  | x :: l => (insP_perm x _).trans ((sortP_perm l).cons x)

theorem insP_sorted (x : Int × Int) : ∀ l : List (Int × Int), l.Pairwise (fun a b => leP a b = true) → (insP x l).Pairwise (fun a b => leP a b = true)
  | [], _ => by simp [insP]
  | y :: l, h => by
    have h' := h
    rw [List.pairwise_cons] at h
    unfold insP
    split
    · rename_i hxy
      refine List.pairwise_cons.2 ⟨fun z hz => ?_, h'⟩
      rcases List.mem_cons.1 hz with rfl | hz
      · exact hxy
      · exact leP_trans hxy (h.1 z hz)
    · rename_i hxy
      have hyx : leP y x = true := (leP_total x y).resolve_left hxy
      refine List.pairwise_cons.2 ⟨fun z hz => ?_, insP_sorted x l h.2⟩
      rcases List.mem_cons.1 ((insP_perm x l).mem_iff.1 hz) with rfl | hz
      · exact hyx
      · exact h.1 z hz

theorem sortP_sorted : ∀ l, (sortP l).Pairwise (fun a b => leP a b = true)
  | [] => List.Pairwise.nil
  | x :: l => insP_sorted x _ (sortP_sorted l)

theorem sortP_unique {l l' : List (Int × Int)} (hp : l'.Perm l) (hs : l'.Pairwise (fun a b => leP a b = true)) : l' = sortP l :=
  List.Perm.eq_of_pairwise (le := fun a b => leP a b = true) (fun _ _ _ _ h1 h2 => leP_anti h1 h2) hs (sortP_sorted l) (hp.trans (sortP_perm l).symm)


/-! ## The contract -/
structure BP where
  a : Int
  b : Int
  ha : inB a = true
  hb : inB b = true

instance : Inhabited BP := ⟨⟨0, 0, by decide, by decide⟩⟩

def toBP (x : Int × Int) : BP := if h : inB x.1 = true ∧ inB x.2 = true then ⟨x.1, x.2, h.1, h.2⟩ else default
def ofBP (x : BP) : Int × Int := (x.a, x.b)
theorem of_toBP {x : Int × Int} (h : inB x.1 = true ∧ inB x.2 = true) : ofBP (toBP x) = x := by unfold toBP; rw [dif_pos h]; rfl

def encBP (x : BP) : List Value := [.int .i64 x.a, .int .i64 x.b]
def cfBP (x y : BP) : Int := Go.Proofs.orI (Go.Proofs.subI x.a y.a) (Go.Proofs.subI x.b y.b)

theorem inB_iff {a : Int} : inB a = true ↔ -2305843009213693952 ≤ a ∧ a ≤ 2305843009213693952 := by
  have : bigI = 2305843009213693952 := by decide
  simp [inB, this]

theorem lt_BP (x y : BP) : Go.Proofs.ltOf cfBP x y = decide (x.a < y.a ∨ x.a = y.a ∧ x.b < y.b) := by
  have h1 := inB_iff.1 x.ha; have h2 := inB_iff.1 x.hb; have h3 := inB_iff.1 y.ha; have h4 := inB_iff.1 y.hb
  unfold Go.Proofs.ltOf cfBP Go.Proofs.orI Go.Proofs.subI
  rw [show Go.RowKit.wrap64 (x.a - y.a) = x.a - y.a from by unfold Go.RowKit.wrap64; omega, show Go.RowKit.wrap64 (x.b - y.b) = x.b - y.b from by unfold Go.RowKit.wrap64; omega]
  split
  · congr 1; apply propext; omega
  · congr 1; apply propext; omega

theorem swo_BP : Go.Sort.SWO (Go.Proofs.ltOf cfBP) where
  irrefl x := by rw [lt_BP]; simp
  trans x y z h1 h2 := by rw [lt_BP] at *; simp at *; omega
  ntrans x y z h1 h2 := by rw [lt_BP] at *; simp at *; omega

namespace Seat
open Go.Proofs

def sortS (args : List AVal) (H : Hp) : Option (AVal × Hp) :=
  match args with
  | [.sl id off len sz, .func (.func cmp) [] []] => match H.get id with
    | .cells cs => match pairsOf cs with
      | some ps => if len = ps.length ∧ 0 < len ∧ len < maxRow ∧ cmp = 177 ∧ off = 0 ∧ sz = 2 then some (.tuple [], H.set id (.cells (flatP (sortP ps)))) else none
      | none => none
    | _ => none
  | _ => none

theorem cmpLays (blk off size : Nat) (w : World) : Go.Proofs.CmpLays Tryz.prog 177 #[] encBP 2 cfBP blk off size w :=
  fun _ _ _ _ x y => closure177 (x.a, x.b) (y.a, y.b) _

set_option maxRecDepth 100000 in
theorem sort_ok : CallAt Tryz.prog (env noSpec) 176 sortS := by
  intro args H r H' h hr g w args' hH hG hK hlen hrel hhand
  unfold sortS at h
  split at h
  case h_2 => cases h
  rename_i id off len sz cmp
  split at h
  case h_2 => cases h
  rename_i cs hcs
  split at h
  case h_2 => cases h
  rename_i ps hps
  split at h
  case isFalse => cases h
  rename_i hc
  obtain ⟨hlen2, hpos, hmaxl, rfl, rfl, rfl⟩ := hc
  simp only [Option.some.injEq, Prod.mk.injEq] at h
  obtain ⟨rfl, rfl⟩ := h
  obtain ⟨hflat, hbd⟩ := pairsOf_flat hps
  match args', hlen with
  | [c0, c1], _ =>
  have v0 := hrel 0 _ _ rfl rfl
  have v1 := hrel 1 _ _ rfl rfl
  have e1 : c1 = .func (.func 177) #[] #[] := by
    cases v1 with
    | @func _ _ _ fs cs h1 h2 _ _ =>
      have : fs = [] := by cases fs with | nil => rfl | cons _ _ => simp at h1
      have h' : cs = [] := by cases cs with | nil => rfl | cons _ _ => simp at h2
      subst this h'; rfl
  subst e1
  cases v0 with
  | sl0 => omega
  | @sl _ b _ _ _ cap hb hcap hrow =>
  have ob := hH.obj id b hb
  rw [hcs] at ob
  obtain ⟨hl0, hone, arr, hra, hle, hvr⟩ := ob
  obtain ⟨el, hbk⟩ := hra
  have hlt := (hH.lt id b hb)
  -- the elements
  let d : Array BP := (ps.map toBP).toArray
  have dsz : d.size = len := by simp [d, hlen2]
  have dget : ∀ i, i < len → ofBP d[i]! = ps[i]! := fun i hi => by
    have hi' : i < ps.length := by omega
    have h1 : d[i]! = toBP ps[i] := by
      rw [getElem!_pos d i (by rw [dsz]; exact hi)]
      simp [d]
    rw [h1, of_toBP (hbd _ (List.getElem_mem hi')), getElem!_pos ps i hi']
  have flen : cs.length = len * 2 := by rw [hflat, flatP_len, hlen2]
  have fget : ∀ j, j < len * 2 → (Go.Sort.flatK encBP 2 d)[j]! = (if j % 2 = 0 then .int .i64 ps[j / 2]!.1 else .int .i64 ps[j / 2]!.2) := fun j hj => by
    rw [Go.Sort.get_flatK _ _ _ _ (by rw [dsz]; exact hj)]
    have := dget (j / 2) (by omega)
    rw [← this]
    rcases Nat.mod_two_eq_zero_or_one j with h | h <;> rw [h] <;> rfl
  have cget : ∀ j, j < len * 2 → cs[j]? = some (if j % 2 = 0 then .int .i64 ps[j / 2]!.1 else .int .i64 ps[j / 2]!.2) := fun j hj => by
    have hi : j / 2 < ps.length := by omega
    have := flatP_get ps (j / 2) ps[j / 2]! (by rw [getElem!_pos ps _ hi]; exact List.getElem?_eq_getElem hi)
    rw [hflat]
    rcases Nat.mod_two_eq_zero_or_one j with h | h <;> rw [h]
    · have e : j = 2 * (j / 2) := by omega
      rw [if_pos rfl, e, show 2 * (j / 2) / 2 = j / 2 from by omega]; exact this.1
    · have e : j = 2 * (j / 2) + 1 := by omega
      rw [if_neg (by omega), e, show (2 * (j / 2) + 1) / 2 = j / 2 from by omega]; exact this.2
  have aget : ∀ j, j < len * 2 → arr[j]? = some (Go.Sort.flatK encBP 2 d)[j]! := fun j hj => by
    have hj' : j < arr.size := by omega
    have := hvr j _ arr[j] (cget j hj) (Array.getElem?_eq_getElem hj')
    rw [Array.getElem?_eq_getElem hj', fget j hj]
    congr 1
    generalize arr[j] = x at this
    split at this <;> rename_i hm
    · rw [if_pos hm]; cases this; rfl
    · rw [if_neg hm]; cases this; rfl
  have hHK : Go.Sort.HoldsK encBP 2 w b 0 d := by
    intro j hj
    have hj' : j < len * 2 := by simpa [dsz] using hj
    rw [Nat.zero_add]
    refine ⟨?_, ?_⟩
    · show w.cell? ⟨b, j, none⟩ = _
      unfold World.cell?
      simp only [hbk]
      exact aget j hj'
    · unfold World.frozen?
      simp [hbk]
  have eg := enters (f := 177) Tryz.func177 (by kernel_rfl) rfl
  have hcon := Go.Proofs.AnyQ.slices_SortFunc Tryz.sortPairs 2 Tryz.isAgg273 Tryz.sizeOf273 encBP (fun _ => rfl) (fun x v hv => by simp [encBP] at hv; rcases hv with rfl | rfl <;> rfl) cfBP swo_BP 177 #[] b 0 cap d w eg (cmpLays b 0 d.size w) hHK hlt.2.2 (by rw [dsz]; unfold maxRow at hmaxl; omega)
  change Calls Tryz.prog 176 _ _ _ at hcon
  unfold Does
  have hent := enters (f := 176) Tryz.func176 (by kernel_rfl) rfl [Value.slice (some ⟨b, 0, none⟩) len cap, .func (.func 177) #[] #[]].toArray w
  rw [hent]
  simp only []
  rw [dsz] at hcon
  refine hcon.mono ?_
  rintro e w' ⟨rfl, d', n, os, hperm, hsort, rfl⟩
  obtain ⟨hd's, _, hpm⟩ := hperm
  have d'sz : d'.size = len := hd's.trans dsz
  -- it is the sorted list
  have hps' : d'.toList.map ofBP = sortP ps := by
    refine sortP_unique ?_ ?_
    · have h1 : (d'.extract 0 len).toList = d'.toList := by simp [← d'sz]
      have h2 : (d.extract 0 len).toList = d.toList := by simp [← dsz]
      rw [h1, h2] at hpm
      have h3 : d.toList.map ofBP = ps := by
        show (ps.map toBP).map ofBP = ps
        rw [List.map_map]
        conv => rhs; rw [← List.map_id ps]
        refine List.map_congr_left fun x hx => ?_
        exact of_toBP (hbd x hx)
      rw [← h3]; exact hpm.map _
    · rw [List.pairwise_map]
      rw [List.pairwise_iff_getElem]
      intro i j hi hj hij
      have hj' : j < len := by rw [← d'sz]; simpa using hj
      have := hsort i j (Nat.zero_le _) hij hj'
      rw [lt_BP] at this
      rw [getElem!_pos d' i (by rw [d'sz]; omega), getElem!_pos d' j (by rw [d'sz]; omega)] at this
      rw [leP_iff]
      simp [ofBP] at this ⊢
      omega
  have F'len : (flatP (sortP ps)).length = len * 2 := by rw [flatP_len, (sortP_perm ps).length_eq, hlen2]
  let F := Go.Sort.flatK encBP 2 d'
  have Fsz : F.size = len * 2 := by simp [F, d'sz]
  let w1 := Go.Sort.putRow _root_.id (Go.Sort.ahead w n) b 0 F
  have w1heap : w1.heap = w.heap.modify b (Go.Sort.onCells (Go.Sort.putCells _root_.id 0 F)) := rfl
  have w1size : w1.heap.size = w.heap.size := by rw [w1heap]; simp
  have w1oth : ∀ c, c ≠ b → w1.heap[c]? = w.heap[c]? := fun c hc => by rw [w1heap, Array.getElem?_modify, if_neg (Ne.symm hc)]
  have w1b : w1.heap[b]? = some (.cells (Go.Sort.putCells _root_.id 0 F arr) el (0, 0)) := by rw [w1heap, Array.getElem?_modify, if_pos rfl, hbk]; rfl
  have psz : (Go.Sort.putCells _root_.id 0 F arr).size = arr.size := by simp [Go.Sort.putCells]
  have pget : ∀ j, j < len * 2 → (Go.Sort.putCells _root_.id 0 F arr)[j]? = some F[j]! := fun j hj => by
    have hj' : j < arr.size := by omega
    simp [Go.Sort.putCells, hj', Fsz, hj]
  have Fget : ∀ j v, (flatP (sortP ps))[j]? = some v → VRel g w1 v F[j]! := fun j v hv => by
    have hj : j < len * 2 := by rw [← F'len]; exact (List.getElem?_eq_some_iff.1 hv).1
    have hj2 : j / 2 < d'.size := by omega
    have h1 : (sortP ps)[j / 2]? = some (ofBP d'[j / 2]!) := by
      rw [← hps', List.getElem?_map, getElem!_pos d' _ hj2]
      simp [hj2]
    have h2 := flatP_get _ _ _ h1
    have h3 : F[j]! = (encBP d'[j / 2]!)[j % 2]! := Go.Sort.get_flatK _ _ _ _ (by rw [d'sz]; exact hj)
    rw [h3]
    rcases Nat.mod_two_eq_zero_or_one j with h | h <;> rw [h]
    · have e : j = 2 * (j / 2) := by omega
      rw [e] at hv
      rw [h2.1] at hv
      injection hv with hv
      subst hv
      exact .int _ _
    · have e : j = 2 * (j / 2) + 1 := by omega
      rw [e] at hv
      rw [h2.2] at hv
      injection hv with hv
      subst hv
      exact .int _ _
  have S1 : Step w.heap.size g H w g (H.set id (.cells (flatP (sortP ps)))) w1 := by
    refine Step.write hH hb (by unfold Alive; rw [hcs]; simp) (by simp) hl0 w1size w1oth ?_ (.others (b := b) rfl rfl (fun c hc _ => w1oth c hc) fun c t fr e => ?_) fun ext => ⟨hl0, ?_, _, ⟨el, w1b⟩, by rw [psz]; omega, ?_⟩
    · simp [sizeAt, hbk, w1b, psz]
    · rw [hbk] at e
      injection e with e
      injection e with e1 e2 e3
      subst e1 e2 e3
      exact ⟨_, w1b, psz⟩
    · intro a ha
      obtain ⟨j, hj⟩ := List.mem_iff_getElem?.1 ha
      have := Fget j a hj
      have key : ∀ (l : List (Int × Int)) a, a ∈ flatP l → a.oneCell = true := by
        intro l
        induction l with
        | nil => intro a ha; simp [flatP] at ha
        | cons x l ih =>
          intro a ha
          obtain ⟨p, q⟩ := x
          simp only [flatP, List.mem_cons] at ha
          rcases ha with rfl | rfl | ha
          · rfl
          · rfl
          · exact ih a ha
      exact key _ a ha
    · intro j a c ha hc
      have hj : j < len * 2 := by rw [← F'len]; exact (List.getElem?_eq_some_iff.1 ha).1
      rw [pget j hj] at hc
      injection hc with hc
      subst hc
      exact Fget j a ha
  have S2 : Step w.heap.size g (H.set id (.cells (flatP (sortP ps)))) w1 g (H.set id (.cells (flatP (sortP ps)))) (Go.Proofs.sortWorldK encBP 2 w b 0 n d' os) := by
    refine Step.grown S1.rel ?_ (fun c hc => ?_) rfl rfl
    · show w1.heap.size ≤ (w1.heap ++ os).size
      simp
    · show (w1.heap ++ os)[c]? = _
      rw [Array.getElem?_append_left hc]
  exact ⟨g, S1.trans S2, .tuple (cs' := []) rfl (by simp)⟩

end Seat
end Go.Rs
end
/- regs.Clash: the pairs of a map's keys, sorted, whatever the order of the range. -/
section
namespace Go.Rs
section
variable {P : Program} {E : Env} {N n : Nat} {g : Gh} {p : Nat → Option Nat} {H : Hp} {w : World} {lv : Lv} {tm : Tr AVal} {a : Act}

/-- heaps that hold the same -/
theorem HRel.same {H1 H2 : Hp} (h : HRel g H1 w) (hg : ∀ i, H1.get i = H2.get i) (hn : H1.next = H2.next) : HRel g H2 w where
  obj i b hb := by rw [← hg]; exact h.obj i b hb
  inj i j b hi hj ai aj := h.inj i j b hi hj (by unfold Alive; rw [hg]; exact ai) (by unfold Alive; rw [hg]; exact aj)
  lt i b hb := by rw [← hn]; exact h.lt i b hb
  fresh i hi := by rw [← hg]; exact h.fresh i (by rw [hn]; exact hi)
  limlt := h.limlt

theorem Step.same {g' : Gh} {H1 H2 : Hp} {w' : World} (h : Step N g H w g' H1 w') (hg : ∀ i, H1.get i = H2.get i) (hn : H1.next = H2.next) : Step N g H w g' H2 w' where
  ext := h.ext
  rel := h.rel.same hg hn
  next := by rw [← hn]; exact h.next
  size := h.size
  keep := h.keep
  img b hb hh := h.img b hb (let ⟨i, hi, ha⟩ := hh; ⟨i, hi, by unfold Alive; rw [hg]; exact ha⟩)
  old := h.old
  pend i hi hm := by rw [← hg]; exact h.pend i hi hm
  kw := h.kw

/-- less is known of the frame -/
theorem Good.forget {M : Nat} {tm' : Tr AVal} {lv' : Lv} (h : Good P E N n g p H w lv tm a) (hM : M ≤ w.heap.size) (ht : ∀ t v, tm'.get t = some v → tm.get t = some v ∧ ∀ i off, v ≠ .lptr i off) : Good P E M n g (fun _ => none) H w lv' tm' a where
  hH := h.hH
  hL := ⟨fun t b h => (by cases h), fun t u b h => (by cases h), fun t b h => (by cases h), fun t b h => (by cases h), fun t b h => (by cases h)⟩
  hN := hM
  hK := h.hK
  hG := h.hG
  hF := ⟨fun t v hv => by
    obtain ⟨h1, h2⟩ := ht t v hv
    have := h.hF.tm t v h1
    exact ⟨this.1, .of (this.2.val h2)⟩, h.hF.size⟩
  hD := h.hD

/-- the first operations of a region -/
theorem runOps_pre {call : CallF} {md : Bool} {f : FuncId} (hE : EnvOk P E) (hC : CallsOk P E call) {ops : Array Oper} {Q : Exit → Act → World → Prop} : ∀ (pre post : List Oper) (k : Nat) (g : Gh) (p : Nat → Option Nat) (H : Hp) (w : World) (lv : Lv) (tm : Tr AVal) (a : Act) (tm' : Tr AVal) (lv' : Lv) (H' : Hp),
    ops.toList.drop k = pre ++ post → Good P E N n g p H w lv tm a → runOps E call md f ops.toList n pre tm lv H = some (tm', lv', H') →
    (∀ g' p' w' a', Step N g H w g' H' w' → Good P E N n g' p' H' w' lv' tm' a' → wpOps P ops Q (List.range' (k + pre.length) post.length) a' w') → wpOps P ops Q (List.range' k (pre ++ post).length) a w
  | [], post, k, g, p, H, w, lv, tm, a, tm', lv', H', _, hg, hr, hq => by
    simp only [runOps, Option.some.injEq, Prod.mk.injEq] at hr
    obtain ⟨rfl, rfl, rfl⟩ := hr
    exact hq g p w a (.refl hg.hH) hg
  | o :: pre, post, k, g, p, H, w, lv, tm, a, tm', lv', H', hd, hg, hr, hq => by
    have hk : ops[k]? = some o := by
      have : (ops.toList.drop k)[0]? = some o := by rw [hd]; rfl
      rw [List.getElem?_drop] at this
      simpa using this
    have hd' : ops.toList.drop (k + 1) = pre ++ post := by
      have : (ops.toList.drop k).drop 1 = pre ++ post := by rw [hd]; rfl
      rwa [List.drop_drop] at this
    have hq' : ∀ g' p' w' a', Step N g H w g' H' w' → Good P E N n g' p' H' w' lv' tm' a' → wpOps P ops Q (List.range' (k + 1 + pre.length) post.length) a' w' := fun g' p' w' a' h1 h2 => by
      have := hq g' p' w' a' h1 h2
      rw [List.length_cons] at this
      rw [show k + 1 + pre.length = k + (pre.length + 1) from by omega]; exact this
    simp only [List.cons_append, List.length_cons, List.range'_succ, wpOps, hk]
    simp only [runOps] at hr
    split at hr
    · rename_i hm
      obtain ⟨h1, d, h2, h3, h4⟩ := mute_ok hE hg hm
      have hw : Region.wanted o (yielded ops a.tmps) = true := by simp [Region.wanted, h1]
      rw [if_pos hw]
      refine .inl ?_
      show o.upon P a _ Q ((execOp a.eval o).run P w)
      rw [h2]
      simp only [Oper.upon, h3, Act.put]
      refine runOps_pre hE hC pre post (k + 1) g p H w lv tm _ tm' lv' H' hd' ?_ hr hq'
      refine ⟨hg.hH, hg.hL, hg.hN, hg.hK, hg.hG, ⟨hg.hF.tm, hg.hF.size⟩, fun d' hd' => ?_⟩
      rcases List.mem_cons.1 hd' with rfl | hd'
      · exact h4
      · exact hg.hD d' hd'
    · split at hr
      · rename_i r lv1 H1 hs
        split at hr
        · rename_i tm1 hp
          refine stepA_ok hE hC hg hs fun c g1 p1 w1 ho => ?_
          refine runOps_pre hE hC pre post (k + 1) g1 p1 H1 w1 lv1 tm1 _ tm' lv' H' hd' (hg.out ho hp) hr fun g' p' w' a' hst hgd => hq' g' p' w' a' (ho.step.trans hst) hgd
        · cases hr
      · cases hr

end

/-! ## What is left -/
theorem perm_take {e : MapEntry} : ∀ {L : List MapEntry}, (L.map (·.born)).Nodup → e ∈ L → L.Perm (e :: L.filter (fun x => !(x.born == e.born)))
  | [], _, h => by simp at h
  | x :: L, hn, h => by
    simp only [List.map_cons, List.nodup_cons] at hn
    by_cases hx : x.born = e.born
    · have hxe : x = e := by
        rcases List.mem_cons.1 h with h | h
        · exact h.symm
        · exact absurd (List.mem_map.2 ⟨e, h, hx.symm⟩) hn.1
      subst hxe
      have : L.filter (fun y => !(y.born == x.born)) = L := by
        rw [List.filter_eq_self]
        intro y hy
        have : y.born ≠ x.born := fun e => hn.1 (List.mem_map.2 ⟨y, hy, e⟩)
        simpa using this
      simp only [List.filter_cons, beq_self_eq_true, Bool.not_true, Bool.false_eq_true, if_false, this]
      exact .refl _
    · have he : e ∈ L := by
        rcases List.mem_cons.1 h with h | h
        · exact absurd (by rw [h]) hx
        · exact h
      have : (!(x.born == e.born)) = true := by simpa using hx
      simp only [List.filter_cons, this, if_true]
      exact ((perm_take hn.2 he).cons x).trans (.swap e x _)

end Go.Rs
end
/- regs.Clash: the loop's body, read by the interpreter. -/
section
namespace Go.Rs.Seat.Clash
open Go.Proofs Go.Rs.Seat
noncomputable section
set_option maxRecDepth 100000

def ops0 : Array Oper := #[{ dst := some 1, op := Op.box 125 (Operand.tmp 0), type := 0, pos := "regs.go:68", after := #[], guard := none }, { dst := some 2, op := Op.assign (Operand.const (Value.slice none 0 0)), type := 271, pos := "regs.go:68", after := #[], guard := none }]
def ops1 : Array Oper := #[{ dst := some 5, op := Op.load 125 (Operand.tmp 1), type := 125, pos := "regs.go:69", after := #[], guard := none }, { dst := some 6, op := Op.call { callee := Callee.value (Operand.func 113), args := #[Operand.tmp 5], argTypes := #[125] }, type := 4, pos := "regs.go:69", after := #[{ on := 0, ground := Ground.data }], guard := none }, { dst := some 7, op := Op.unOp UnOp.not 4 (Operand.tmp 6), type := 4, pos := "regs.go:69", after := #[{ on := 1, ground := Ground.data }], guard := none }]
def ops2 : Array Oper := #[{ dst := some 2, op := Op.assign (Operand.const (Value.slice none 0 0)), type := 271, pos := "regs.go:70", after := #[], guard := none }]
def ops3 : Array Oper := #[{ dst := some 3, op := Op.assign (Operand.const (Value.slice none 0 0)), type := 271, pos := "regs.go:72", after := #[], guard := none }]
def ops4 : Array Oper := #[{ dst := some 8, op := Op.load 125 (Operand.tmp 1), type := 125, pos := "regs.go:73", after := #[], guard := none }, { dst := some 9, op := Op.call { callee := Callee.value (Operand.func 175), args := #[Operand.tmp 8], argTypes := #[125] }, type := 334, pos := "regs.go:73", after := #[{ on := 0, ground := Ground.data }], guard := none }, { dst := some 10, op := Op.nilCheck (Operand.tmp 9), type := 0, pos := "regs.go:73", after := #[{ on := 1, ground := Ground.data }], guard := none }, { dst := some 11, op := Op.fieldAddr 333 (Operand.tmp 10) 1, type := 0, pos := "regs.go:73", after := #[{ on := 2, ground := Ground.data }], guard := none }, { dst := some 12, op := Op.load 331 (Operand.tmp 11), type := 331, pos := "regs.go:73", after := #[{ on := 3, ground := Ground.data }], guard := none }, { dst := some 13, op := Op.range 331 (Operand.tmp 12), type := 0, pos := "regs.go:73", after := #[{ on := 4, ground := Ground.data }], guard := none }]
def ops5 : Array Oper := #[{ dst := some 14, op := Op.next (Operand.tmp 13) false, type := 0, pos := "regs.go:73", after := #[], guard := none }, { dst := some 15, op := Op.extract (Operand.tmp 14) 0, type := 4, pos := "regs.go:73", after := #[{ on := 0, ground := Ground.data }], guard := none }]
def ops6 : Array Oper := #[{ dst := some 16, op := Op.entry (Operand.tmp 13), type := 0, pos := "regs.go:73", after := #[], guard := none }, { dst := some 17, op := Op.extract (Operand.tmp 16) 0, type := 273, pos := "regs.go:73", after := #[{ on := 0, ground := Ground.data }], guard := none }, { dst := some 4, op := Op.alloc 273, type := 0, pos := "regs.go:73", after := #[], guard := none }, { dst := none, op := Op.store 273 (Operand.tmp 4) (Operand.tmp 17), type := 0, pos := "regs.go:73", after := #[{ on := 2, ground := Ground.data }, { on := 1, ground := Ground.data }, { on := 0, ground := Ground.phase }, { on := 1, ground := Ground.phase }, { on := 2, ground := Ground.phase }], guard := none }]
def ops7 : Array Oper := #[{ dst := some 18, op := Op.move (Operand.tmp 3), type := 271, pos := "regs.go:74", after := #[], guard := none }, { dst := some 19, op := Op.load 273 (Operand.tmp 4), type := 273, pos := "regs.go:74", after := #[], guard := none }, { dst := some 20, op := Op.buildSlice 271 1 #[(0, Operand.tmp 19)], type := 271, pos := "regs.go:74", after := #[{ on := 1, ground := Ground.data }], guard := none }, { dst := some 21, op := Op.call { callee := Callee.builtin Builtin.append, args := #[Operand.tmp 18, Operand.tmp 20], argTypes := #[271, 271] }, type := 271, pos := "regs.go:74", after := #[{ on := 0, ground := Ground.data }, { on := 2, ground := Ground.data }], guard := none }, { dst := some 3, op := Op.assign (Operand.tmp 21), type := 271, pos := "regs.go:74", after := #[{ on := 3, ground := Ground.data }, { on := 3, ground := Ground.chain }, { on := 0, ground := Ground.phase }, { on := 1, ground := Ground.phase }, { on := 2, ground := Ground.phase }, { on := 3, ground := Ground.phase }], guard := none }]
def ops8 : Array Oper := #[{ dst := some 22, op := Op.move (Operand.tmp 3), type := 271, pos := "regs.go:76", after := #[], guard := none }, { dst := some 23, op := Op.call { callee := Callee.value (Operand.func 176), args := #[Operand.tmp 22, Operand.func 177], argTypes := #[271, 338] }, type := 0, pos := "regs.go:76", after := #[{ on := 0, ground := Ground.data }], guard := none }]
def ops9 : Array Oper := #[{ dst := some 24, op := Op.move (Operand.tmp 3), type := 271, pos := "regs.go:77", after := #[], guard := none }, { dst := some 2, op := Op.assign (Operand.tmp 24), type := 271, pos := "regs.go:77", after := #[{ on := 0, ground := Ground.data }, { on := 0, ground := Ground.phase }], guard := none }]

def body5 : Code := .seq (.region 5 ops5 false) (.seq (.cond (.tmp 15) .skip (.exit 0)) (.block 1 (.seq (.region 6 ops6 false) (.region 7 ops7 false))))
def post : Code := .seq (.region 8 ops8 false) (.seq (.region 9 ops9 false) .ret)
def pre : Code := .seq (.region 1 ops1 false) (.cond (.tmp 7) (.seq (.region 2 ops2 false) .ret) .skip)
def code : Code := .seq (.region 0 ops0 false) (.seq pre (.seq (.region 3 ops3 false) (.seq (.seq (.region 4 ops4 false) (.block 0 (.loop body5))) post)))

theorem body114 : Tryz.f114.body = some code := by kernel_rfl

section
variable (sp : Bool → FuncId → Option (List AVal → Hp → Option (AVal × Hp)))
theorem u273 : ((env sp).ty 273).u = .arr 2 3 := by kernel_rfl
theorem s273 : ((env sp).ty 273).size = 2 := by kernel_rfl
theorem o273 : ((env sp).ty 273).ok = true := by kernel_rfl
theorem zo273 : ((env sp).ty 273).zok = true := by kernel_rfl
theorem z273 : ((env sp).ty 273).zero = [.int .i64 0, .int .i64 0] := by kernel_rfl
theorem b273' : Nat.blt ((env sp).ty 273).bytes 4096 = true := by kernel_rfl
theorem b273 : (((env sp).ty 273).bytes < 4096) = True := by have := b273' sp; simp at this; simp [this]
theorem u271 : ((env sp).ty 271).u = .slice 273 := by kernel_rfl
theorem o271 : ((env sp).ty 271).ok = true := by kernel_rfl
theorem loc4 : (env sp).loc 114 4 = true := by kernel_rfl
theorem wr21 (md : Bool) : (env sp).wr md 114 21 = true := by cases md <;> kernel_rfl
end

theorem tget {t : Tr AVal} {i j : Nat} {a : AVal} (h : i < 4096) : (t.set i a).get j = if i = j then some a else t.get j := Tr.get_set _ _ _ _ h
theorem oget {t : Tr AObj} {i j : Nat} {a : AObj} (h : i < 4096) : (t.set i a).get j = if i = j then some a else t.get j := Tr.get_set _ _ _ _ h

variable {sp : Bool → FuncId → Option (List AVal → Hp → Option (AVal × Hp))}

abbrev pairV (x : Int × Int) : AVal := .agg [.int .i64 x.1, .int .i64 x.2]

/-- one pair more -/
def addK (s : AVal) (H : Hp) (x : Int × Int) : Option (AVal × Hp) := appendA (env noSpec) true 271 271 H s (.list [pairV x] .full 2)

theorem body6 (call md) (tm : Tr AVal) (lv : Lv) (H : Hp) (x : Int × Int) (v : AVal) (hlv : lv.next < 4096) :
    ∃ tm' lv', runOps (env sp) call md 114 ops6.toList 25 (ops6.toList.drop 1) (tm.set 16 (.tuple [pairV x, v])) lv H = some (tm', lv', H) ∧
      tm'.get 4 = some (.lptr lv.next 0) ∧ tm'.get 3 = tm.get 3 ∧ tm'.get 13 = tm.get 13 ∧ lv'.get lv.next = some [.int .i64 x.1, .int .i64 x.2] := by
  have lvp : ∀ cs, (lv.push cs).get lv.next = some cs := fun cs => by rw [Lv.get_push _ _ _ hlv, if_pos rfl]
  simp only [ops6, List.drop_succ_cons, List.drop_zero]
  simp only [runOps, muteOp, stepA, wantedA, actA, isCall, evalOp, opExtract, opAlloc, opStore, keepA, evT, tget, Nat.reduceLT, if_true, Option.getD, List.getElem?_cons_zero, putA, resOk, maxTmp, Nat.reducePow, and_self,
    zo273, z273, loc4, hlv, storeA, o273, s273, AVal.cells, List.length, Nat.reduceAdd, List.all, AVal.oneCell, Bool.and_true, setCells, Bool.not_true, Bool.false_eq_true, if_false, reduceIte, Nat.reduceEqDiff, ↓reduceIte,
    lvp, List.set_cons_zero, List.set_cons_succ]
  refine ⟨_, _, rfl, ?_, ?_, ?_, ?_⟩
  · simp only [tget, Nat.reduceLT, if_true]
  · simp [tget]
  · simp [tget]
  · rw [Lv.get_set _ _ _ _ hlv, if_pos rfl]

def Sl (s : AVal) : Prop := s = .nilslice ∨ ∃ id l, s = .sl id 0 l 2

theorem body7 (call md) (tm : Tr AVal) (lv : Lv) (H : Hp) (x : Int × Int) (s : AVal) (b : Nat) (h4 : tm.get 4 = some (.lptr b 0)) (h3 : tm.get 3 = some s) (hs : Sl s) (hb : lv.get b = some [.int .i64 x.1, .int .i64 x.2])
    (id' l' : Nat) (H' : Hp) (hadd : addK s H x = some (.sl id' 0 l' 2, H')) :
    ∃ tm' lv', runOps (env sp) call md 114 ops7.toList 25 ops7.toList tm lv H = some (tm', lv', H') ∧ tm'.get 3 = some (.sl id' 0 l' 2) ∧ tm'.get 13 = tm.get 13 := by
  have hadd' : appendA (env sp) true 271 271 H s (.list [.agg [.int .i64 x.1, .int .i64 x.2]] .full 2) = some (.sl id' 0 l' 2, H') := hadd
  have hw : ∀ o : Oper, o.dst = some 21 → wrOf (env sp) md 114 o = true := fun o ho => by unfold wrOf; rw [ho]; exact wr21 sp md
  rcases hs with rfl | ⟨id, l, rfl⟩ <;> simp only [ops7] <;>
  simp only [runOps, muteOp, stepA, wantedA, actA, isCall, evalOp, opMove, opLoad, opBuildSlice, opAppendB, loadA, takeCells, keepA, evT, tget, Nat.reduceLT, if_true, Option.getD, List.getElem?_cons_zero, putA, resOk, maxTmp, Nat.reducePow, and_self,
    h3, h4, hb, Bool.true_or, o273, s273, u273, u271, zo273, z273, isAgg, List.drop_zero, List.take_succ_cons, List.take_zero, List.length, Nat.reduceAdd, List.map_cons, List.map_nil, List.toList_toArray, Nat.reduceMul, Nat.reduceLeDiff, decide_true, Bool.and_true,
    repl, fillA, AVal.strip, AVal.cells, AVal.oneCell, List.all, setCells, List.append_nil, List.set_cons_zero, List.set_cons_succ, groups, AVal.handed, hadd', hw, Bool.not_true, Bool.false_eq_true, if_false, reduceIte, Nat.reduceEqDiff, ↓reduceIte, Bool.and_self, Nat.le_refl, Nat.zero_add, Nat.one_mul, Bool.true_and, Bool.true_or, List.getElem?_cons_succ]
  all_goals
    refine ⟨_, _, rfl, ?_, ?_⟩
    · simp only [tget, Nat.reduceLT, if_true]
    · simp [tget]

theorem flatP_snoc : ∀ (l : List (Int × Int)) (x : Int × Int), flatP (l ++ [x]) = flatP l ++ [.int .i64 x.1, .int .i64 x.2]
  | [], x => rfl
  | (a, b) :: l, x => by simp only [List.cons_append, flatP, flatP_snoc l x]

/-- what is collected -/
structure Col (H0 : Hp) (l : List (Int × Int)) (s : AVal) (H : Hp) : Prop where
  s : s = if l = [] then .nilslice else .sl (H0.next + l.length - 1) 0 l.length 2
  next : H.next = H0.next + l.length
  old : ∀ j, j < H0.next → H.get j = H0.get j
  top : l ≠ [] → H.get (H0.next + l.length - 1) = .cells (flatP l)
  dead : ∀ j, H0.next ≤ j → j + 1 ≠ H0.next + l.length → H.get j = .dead

theorem Col.sl {H0 H : Hp} {l s} (h : Col H0 l s H) : Sl s := by
  rw [h.s]
  split
  · exact .inl rfl
  · exact .inr ⟨_, _, rfl⟩

theorem Col.add {H0 H : Hp} {l s} (h : Col H0 l s H) (x : Int × Int) (hm : H0.next + l.length < 4096) :
    ∃ id n H', addK s H x = some (.sl id 0 n 2, H') ∧ Col H0 (l ++ [x]) (.sl id 0 n 2) H' := by
  have hn : H.next < 4096 := by rw [h.next]; exact hm
  have hmx : H.next < maxTmp := hn
  by_cases hl : l = []
  · subst hl
    have hs := h.s
    simp only [if_true] at hs
    subst hs
    have hnx := h.next
    simp only [List.length_nil, Nat.add_zero] at hnx
    refine ⟨H.next, 1, (H.alloc (.cells (flatP [x]))).2, ?_, ?_⟩
    · simp [addK, appendA, u271, appended, elemsOf, s273, o273, zo273, b273, newA, hmx, flat, AVal.cells, flatP, maxRow, Nat.reducePow, Hp.alloc]
    · refine ⟨by simp [hnx], by simp [hnx], fun j hj => ?_, fun _ => ?_, fun j hj hne => ?_⟩
      · rw [Hp.get_alloc _ _ _ hmx, if_neg (by omega)]; exact h.old j hj
      · rw [Hp.get_alloc _ _ _ hmx, if_pos (by simp [hnx])]; rfl
      · rw [Hp.get_alloc _ _ _ hmx, if_neg (by simp at hne; omega)]
        exact h.dead j hj (by simp; omega)
  · have hs := h.s
    rw [if_neg hl] at hs
    subst hs
    have hpos : 0 < l.length := List.length_pos_iff.2 hl
    have ht := h.top hl
    have hid : H0.next + l.length - 1 < maxTmp := by unfold maxTmp; omega
    have hmx' : (H.set (H0.next + l.length - 1) .dead).next < maxTmp := hmx
    refine ⟨H.next, l.length + 1, ((H.set (H0.next + l.length - 1) .dead).alloc (.cells (flatP (l ++ [x])))).2, ?_, ?_⟩
    · have htk : (flatP l).take (l.length * 2) = flatP l := by rw [← flatP_len l]; exact List.take_length
      have hl4 : l.length + 1 < maxRow := by unfold maxRow; omega
      simp [addK, appendA, u271, appended, elemsOf, s273, o273, zo273, b273, newA, ht, flat, AVal.cells, hl4, flatP_len, htk, flatP_snoc, Hp.alloc, hmx, Hp.set]
    · refine ⟨?_, by simp [h.next]; omega, fun j hj => ?_, fun _ => ?_, fun j hj hne => ?_⟩
      · rw [if_neg (by simp)]; simp [h.next]
      · rw [Hp.get_alloc _ _ _ hmx', if_neg (by simp [h.next]; omega), Hp.get_set _ _ _ _ hid, if_neg (by omega)]; exact h.old j hj
      · rw [Hp.get_alloc _ _ _ hmx', if_pos (by simp [h.next])]
      · rw [Hp.get_alloc _ _ _ hmx', if_neg (by simp [h.next] at hne ⊢; omega), Hp.get_set _ _ _ _ hid]
        split
        · rfl
        · exact h.dead j hj (by omega)

end
end Go.Rs.Seat.Clash
end
/- regs.Clash: the loop over the map. -/
section
namespace Go.Rs.Seat.Clash
open Go.Proofs Go.Rs.Seat
set_option maxRecDepth 100000

/-- a key's pair -/
def kp (e : MapEntry) : Int × Int :=
  match e.key with
  | .agg ⟨[.int .i64 a, .int .i64 b]⟩ => (a, b)
  | _ => (0, 0)

def keyV (x : Int × Int) : Value := .agg #[.int .i64 x.1, .int .i64 x.2]

theorem pair_rel (g : Gh) (w : World) (x : Int × Int) : VRel g w (pairV x) (keyV x) :=
  .agg (cs' := [.int .i64 x.1, .int .i64 x.2]) rfl (rel_cons (.int _ _) (rel_cons (.int _ _) (by simp)))

theorem leftOf_push (es : Array MapEntry) (seen : Array Nat) (b : Nat) : (leftOf es (seen.push b)).toList = (leftOf es seen).toList.filter (fun x => !(x.born == b)) := by
  unfold leftOf
  simp only [Array.toList_filter, List.filter_filter]
  congr 1
  funext x
  rw [Bool.eq_iff_iff]
  simp [Array.mem_push]
  constructor
  · rintro ⟨h1, h2⟩; exact ⟨h2, h1⟩
  · rintro ⟨h1, h2⟩; exact ⟨h2, h1⟩

theorem heap_setBlock {w : World} {r : Nat} {O : Obj} : (Go.ChangeMaps.setBlock w r O).heap = w.heap.setIfInBounds r O := rfl

section
variable {sp : Bool → FuncId → Option (List AVal → Hp → Option (AVal × Hp))} {call : CallF}

theorem reg5 {a : Act} {w w1 : World} {b : Bool} {rest : List Value} (hsz : a.tmps.size = 25) (hnext : (Instr.next (a.eval (.tmp 13)) false 0).run Tryz.prog w = .ok (.tuple (.bool b :: rest).toArray) w1) {Q : Exit → Act → World → Prop}
    (h : Q .normal ((a.put (some 14) (.tuple (.bool b :: rest).toArray)).put (some 15) (.bool b)) w1) : (Code.region 5 ops5 false).wp Tryz.prog Q a w := by
  refine wp_region ?_
  show wpOps Tryz.prog ops5 Q [0, 1] a w
  have e0 : ops5[0]? = some ⟨some 14, .next (.tmp 13) false, 0, "regs.go:73", #[], none⟩ := rfl
  have e1 : ops5[1]? = some ⟨some 15, .extract (.tmp 14) 0, 4, "regs.go:73", #[⟨0, .data⟩], none⟩ := rfl
  simp only [wpOps, e0, e1, Region.wanted, if_true]
  refine .inl ?_
  have r0 : (execOp a.eval ⟨some 14, .next (.tmp 13) false, 0, "regs.go:73", #[], none⟩).run Tryz.prog w = .ok (.value (.tuple (.bool b :: rest).toArray)) w1 := by
    simp only [execOp, Sem.run_bind, hnext, Result.andThen_ok, Sem.run_pure]
  unfold Oper.wp
  rw [r0]
  simp only [Oper.upon]
  refine .inl ?_
  have h14 : (a.put (some 14) (.tuple (.bool b :: rest).toArray)).eval (.tmp 14) = .tuple (.bool b :: rest).toArray := by
    show (a.tmps.setIfInBounds 14 _).getD 14 undef = _
    rw [getD_set, if_pos ⟨rfl, by omega⟩]
  have r1 : (execOp (a.put (some 14) (.tuple (.bool b :: rest).toArray)).eval ⟨some 15, .extract (.tmp 14) 0, 4, "regs.go:73", #[⟨0, .data⟩], none⟩).run Tryz.prog w1 = .ok (.value (.bool b)) w1 := by
    simp only [execOp, h14, Instr.extract, Sem.run_bind]
    simp
  rw [r1]
  exact h

theorem ptr13 {N : Nat} {g : Gh} {H : Hp} {w : World} {lv : Lv} {tm : Tr AVal} {a : Act} {rid r : Nat} (hg : Good Tryz.prog (env sp) N 25 g (fun _ => none) H w lv tm a) (h13 : tm.get 13 = some (.ptr rid 0)) (hmu : g.mu rid = some r) : a.eval (.tmp 13) = .pointer (some ⟨r, 0, none⟩) := by
  have hv : VRel g w (.ptr rid 0) (a.tmps.getD 13 undef) := (hg.hF.tm 13 _ h13).2
  show a.tmps.getD 13 undef = _
  generalize a.tmps.getD 13 undef = c at hv
  cases hv with
  | ptr off h => rw [hmu] at h; injection h with h; subst h; rfl

theorem loop_ok (hE : EnvOk Tryz.prog (env sp)) (hC : CallsOk Tryz.prog (env sp) call) {M N bm r rid since clock : Nat} {ents : Array MapEntry} {H0 : Hp} (hold : ∀ x ∈ ents.toList, x.born < since) (hnd : (ents.toList.map (·.born)).Nodup)
    (hkey : ∀ e ∈ ents.toList, e.key = keyV (kp e)) (hNr : N ≤ r) (hrM : r < M) (hbM : bm < M) (hrb : r ≠ bm) {Q : Exit → Act → World → Prop} :
    ∀ (m : Nat) (seen : Array Nat) (c0 : Nat) (l : List (Int × Int)) (s : AVal) (H : Hp) (g : Gh) (w : World) (lv : Lv) (tm : Tr AVal) (a : Act),
      (leftOf ents seen).size = m → Good Tryz.prog (env sp) M 25 g (fun _ => none) H w lv tm a → tm.get 3 = some s → tm.get 13 = some (.ptr rid 0) → g.mu rid = some r → ¬ Held g H r → ¬ Held g H bm →
      w.heap[r]? = some (.mapIter (some bm) since seen c0) → since ≤ c0 → since ≤ clock → w.heap[bm]? = some (.map ents clock) → g.lim r = 0 → lv.next = 0 → Col H0 l s H → H0.next + l.length + m ≤ 4096 →
      (∀ l' s' H' g' w' a' tm' lv', Step N g H w g' H' w' → Good Tryz.prog (env sp) M 25 g' (fun _ => none) H' w' lv' tm' a' → tm'.get 3 = some s' → Col H0 l' s' H' → l'.Perm (l ++ (leftOf ents seen).toList.map kp) → Q (.exit 0) a' w') →
      Code.rounds Tryz.prog body5 Q (m + 1) a w := by
  intro m
  induction m with
  | zero =>
    intro seen c0 l s H g w lv tm a hm hg h3 h13 hmu hnr hnb hhr hsc hsk hhb hlim hlv hcol hmax hq
    rw [rounds_succ]
    have hptr := ptr13 hg h13 hmu
    have hnil : (leftOf ents seen).toList = [] := by
      apply List.eq_nil_of_length_eq_zero; simpa using hm
    have hnext : (Instr.next (a.eval (.tmp 13)) false 0).run Tryz.prog w = .ok (.tuple (Value.bool false :: []).toArray) w := by
      rw [hptr]
      rcases run_next_at (P := Tryz.prog) w 0 r bm since c0 seen ents clock hhr hhb hold hsc with ⟨_, h⟩ | ⟨e, he, _⟩
      · exact h
      · rw [hnil] at he; cases he
    unfold body5
    refine wp_seq (reg5 hg.hF.size hnext ?_)
    have g1 := hg.put (d := some 14) (r := .tuple [.bool false]) (c := .tuple (Value.bool false :: []).toArray) (tm' := tm.set 14 (.tuple [.bool false])) rfl ⟨(fun h => by cases h), .of (.tuple rfl (rel_cons (.bool _) (by simp)))⟩
    have g2 := g1.put (d := some 15) (r := .bool false) (c := .bool false) (tm' := (tm.set 14 (.tuple [.bool false])).set 15 (.bool false)) rfl ⟨(fun h => by cases h), .of (.bool _)⟩
    have ev15 : ((a.put (some 14) (.tuple (Value.bool false :: []).toArray)).put (some 15) (.bool false)).eval (.tmp 15) = .bool false := by
      have hv := (g2.hF.tm 15 (.bool false) (by simp [tget])).2
      exact trel_bool hv
    show Code.wp _ _ _ _ _
    refine wp_seq (wp_cond_false ev15 (wp_exit ?_))
    show Q (.exit 0) _ _
    refine hq l s H g w _ _ lv (.refl hg.hH) g2 ?_ hcol ?_
    · simpa [tget] using h3
    · rw [hnil]; simp
  | succ m ih =>
    intro seen c0 l s H g w lv tm a hm hg h3 h13 hmu hnr hnb hhr hsc hsk hhb hlim hlv hcol hmax hq
    rw [rounds_succ]
    have hptr := ptr13 hg h13 hmu
    rcases run_next_at (P := Tryz.prog) w 0 r bm since c0 seen ents clock hhr hhb hold hsc with ⟨h0, _⟩ | ⟨e, he, w1, hw1, hrun⟩
    · omega
    have hem : e ∈ ents.toList := by
      have : e ∈ (leftOf ents seen).toList := he
      unfold leftOf at this
      simp only [Array.toList_filter, List.mem_filter] at this
      exact this.1
    generalize hwx : Go.ChangeMaps.setBlock w1 r (.mapIter (some bm) since (seen.push e.born) clock) = wx at hrun
    have hnext : (Instr.next (a.eval (.tmp 13)) false 0).run Tryz.prog w = .ok (.tuple (Value.bool true :: [e.key, e.val]).toArray) wx := by
      rw [hptr]; exact hrun
    have hw1h : w1.heap = w.heap := by rcases hw1 with rfl | rfl <;> rfl
    have hxh : wx.heap = w.heap.setIfInBounds r (.mapIter (some bm) since (seen.push e.born) clock) := by rw [← hwx, heap_setBlock, hw1h]
    have hrs : r < w.heap.size := (Array.getElem?_eq_some_iff.1 hhr).1
    have hxsz : wx.heap.size = w.heap.size := by rw [hxh]; simp
    have hxoth : ∀ c, c ≠ r → wx.heap[c]? = w.heap[c]? := fun c hc => by rw [hxh, Array.getElem?_setIfInBounds, if_neg (Ne.symm hc)]
    have hxr : wx.heap[r]? = some (.mapIter (some bm) since (seen.push e.born) clock) := by rw [hxh, Array.getElem?_setIfInBounds, if_pos rfl, if_pos hrs]
    have hxb : wx.heap[bm]? = some (.map ents clock) := by rw [hxoth bm (Ne.symm hrb)]; exact hhb
    have SX : Step r g H w g H wx := Step.own hg.hH (Nat.le_refl _) hrs hnr hlim hxsz hxoth (by simp [sizeAt, hhr, hxr])
      (.others (b := r) (by rw [← hwx]; rcases hw1 with rfl | rfl <;> rfl) (by rw [← hwx]; rcases hw1 with rfl | rfl <;> rfl) (fun c hc _ => hxoth c hc) (fun c t fr e => by rw [hhr] at e; cases e))
    have hgx : Good Tryz.prog (env sp) M 25 g (fun _ => none) H wx lv tm a :=
      ⟨SX.rel, ⟨(fun t b h => by cases h), (fun t u b h => by cases h), (fun t b h => by cases h), (fun t b h => by cases h), (fun t b h => by cases h)⟩, by rw [hxsz]; exact hg.hN, hg.hK, hg.hG, hg.hF.mono SX.ext (fun _ _ h => h), hg.hD⟩
    have hke := hkey e hem
    unfold body5
    refine wp_seq (reg5 hg.hF.size hnext ?_)
    have g1 := hgx.put (d := some 14) (r := .tuple [.bool true, pairV (kp e), .undef]) (c := .tuple (Value.bool true :: [e.key, e.val]).toArray) (tm' := tm.set 14 (.tuple [.bool true, pairV (kp e), .undef])) rfl
      ⟨(fun h => by cases h), .of (.tuple rfl (rel_cons (.bool _) (rel_cons (by rw [hke]; exact pair_rel _ _ _) (rel_cons (.undef _) (by simp)))))⟩
    have g2 := g1.put (d := some 15) (r := .bool true) (c := .bool true) (tm' := (tm.set 14 (.tuple [.bool true, pairV (kp e), .undef])).set 15 (.bool true)) rfl ⟨(fun h => by cases h), .of (.bool _)⟩
    generalize hA : (a.put (some 14) (.tuple (Value.bool true :: [e.key, e.val]).toArray)).put (some 15) (.bool true) = A at g2
    generalize hT : (tm.set 14 (.tuple [.bool true, pairV (kp e), .undef])).set 15 (.bool true) = T at g2
    have T3 : T.get 3 = some s := by rw [← hT]; simpa [tget] using h3
    have T13 : T.get 13 = some (.ptr rid 0) := by rw [← hT]; simpa [tget] using h13
    have ev15 : A.eval (.tmp 15) = .bool true := by
      have hv := (g2.hF.tm 15 (.bool true) (by rw [← hT]; simp [tget])).2
      exact trel_bool hv
    show Code.wp _ _ _ _ _
    refine wp_seq (wp_cond_true ev15 (wp_skip ?_))
    show Code.wp _ _ _ _ _
    refine wp_block (wp_seq (wp_region ?_))
    -- the entry
    show wpOps Tryz.prog ops6 _ (0 :: List.range' 1 (ops6.toList.drop 1).length) A wx
    have e0 : ops6[0]? = some ⟨some 16, .entry (.tmp 13), 0, "regs.go:73", #[], none⟩ := rfl
    simp only [wpOps, e0, Region.wanted, if_true]
    refine .inl ?_
    have r0 : (execOp A.eval ⟨some 16, .entry (.tmp 13), 0, "regs.go:73", #[], none⟩).run Tryz.prog wx = .ok (.value (.tuple #[e.key, e.val])) wx := by
      simp only [execOp, Sem.run_bind, ptr13 g2 T13 hmu, run_entry_at (P := Tryz.prog) wx r bm since seen ents clock e hxr hxb hem hnd, Result.andThen_ok, Sem.run_pure]
    unfold Oper.wp
    rw [r0]
    simp only [Oper.upon]
    have g3 := g2.put (d := some 16) (r := .tuple [pairV (kp e), .undef]) (c := .tuple #[e.key, e.val]) (tm' := T.set 16 (.tuple [pairV (kp e), .undef])) rfl
      ⟨(fun h => by cases h), .of (.tuple (cs' := [e.key, e.val]) rfl (rel_cons (by rw [hke]; exact pair_rel _ _ _) (rel_cons (.undef _) (by simp))))⟩
    obtain ⟨t6, lv6, hr6, a4, a3, a13, alv⟩ := body6 (sp := sp) call false T lv H (kp e) .undef (by omega)
    refine runOps_ok hE hC (f := 114) (md := false) _ 1 g _ H wx lv _ _ t6 lv6 H rfl g3 hr6 fun g' p' w' a' S6 G6 => ?_
    show Code.wp _ _ _ _ _
    obtain ⟨id', n', H', hadd, hcol'⟩ := hcol.add (kp e) (by omega)
    obtain ⟨t7, lv7, hr7, b3, b13⟩ := body7 (sp := sp) call false t6 lv6 H (kp e) s lv.next a4 (a3.trans T3) hcol.sl alv id' n' H' hadd
    refine wp_region ?_
    show wpOps Tryz.prog ops7 _ (List.range' 0 ops7.toList.length) a' w'
    refine runOps_ok hE hC (f := 114) (md := false) _ 0 g' p' H w' lv6 t6 a' t7 lv7 H' rfl G6 hr7 fun g2' p2 w2 a2 S7 G7 => ?_
    show Code.rounds Tryz.prog body5 Q (m + 1) a2 w2
    have S67 := S6.trans S7
    have STOT : Step N g H w g2' H' w2 := (SX.weaken hNr).trans (S67.weaken (by omega))
    have hb13 : t7.get 13 = some (.ptr rid 0) := by rw [b13, a13]; exact T13
    have keepr := S67.keep r hrM (by rw [hxsz]; exact hrs) hnr
    have keepb := S67.keep bm hbM (by rw [hxsz]; exact (Array.getElem?_eq_some_iff.1 hhb).1) hnb
    let T' : Tr AVal := (Tr.nil.set 3 (.sl id' 0 n' 2)).set 13 (.ptr rid 0)
    have GF : Good Tryz.prog (env sp) M 25 g2' (fun _ => none) H' w2 ⟨.nil, 0⟩ T' a2 := G7.forget G7.hN fun t v hv => by
      simp only [T', tget, Nat.reduceLT] at hv
      split at hv
      · rename_i ht; subst ht; injection hv with hv; subst hv; exact ⟨hb13, by simp⟩
      · split at hv
        · rename_i ht; subst ht; injection hv with hv; subst hv; exact ⟨b3, by simp⟩
        · cases hv
    have hnotr : ¬ Held g2' H' r := fun hh => hnr (S67.img r (by rw [hxsz]; exact hrs) hh)
    have hnotb : ¬ Held g2' H' bm := fun hh => hnb (S67.img bm (by rw [hxsz]; exact (Array.getElem?_eq_some_iff.1 hhb).1) hh)
    have hleft := leftOf_push ents seen e.born
    have hperm : (leftOf ents seen).toList.Perm (e :: (leftOf ents (seen.push e.born)).toList) := by
      rw [hleft]
      refine perm_take ?_ he
      have hsub : (leftOf ents seen).toList.Sublist ents.toList := by
        unfold leftOf; simp only [Array.toList_filter]; exact List.filter_sublist
      exact (hsub.map _).nodup hnd
    refine ih (seen.push e.born) clock (l ++ [kp e]) (.sl id' 0 n' 2) H' g2' w2 ⟨.nil, 0⟩ T' a2 ?_ GF (by simp [T', tget]) (by simp [T', tget]) (STOT.ext.mu _ _ hmu) hnotr hnotb (keepr.1.trans hxr) hsk hsk (keepb.1.trans hxb) (by rw [keepr.2]; exact hlim) rfl hcol' (by simp; omega) ?_
    · have := hperm.length_eq
      simp at this
      omega
    · intro l' s' H2 g3' w3 a3' tm' lv' S3 G3 hs' hcol2 hp
      refine hq l' s' H2 g3' w3 a3' tm' lv' (STOT.trans S3) G3 hs' hcol2 (hp.trans ?_)
      have := hperm.map kp
      simp only [List.map_cons] at this
      rw [List.append_assoc]
      exact (List.Perm.append_left l (by simpa using this.symm))

end
end Go.Rs.Seat.Clash
end
/- regs.Clash: the contract. -/
section
namespace Go.Rs.Seat
open Go.Proofs
set_option maxRecDepth 100000

theorem call_spec {L : Sp} {f : Nat} {s : List AVal → Hp → Option (AVal × Hp)} (h : lookSp f L = some s) (k : Nat) (md : Bool) (args : List AVal) (H : Hp) : evalCall (env (ofSp L)) (k + 1) md f args H = s args H := by
  have : (env (ofSp L)).spec md f = some s := h
  simp only [evalCall, this]

/-! ## Sorting, nil included -/
theorem sortnil_eval : pureS 4 (evalCall (env (ofSp [])) 20 false 176) [.nilslice, .func (.func 177) [] []] ⟨.nil, 4⟩ = some (.tuple [], ⟨.nil, 4⟩) := by kernel_rfl

def sortT (args : List AVal) (H : Hp) : Option (AVal × Hp) :=
  match args with
  | [.nilslice, .func (.func cmp) [] []] => if cmp = 177 then some (.tuple [], H) else none
  | _ => sortS args H

theorem sortT_ok : CallAt Tryz.prog (env noSpec) 176 sortT := by
  have h0 : CallAt Tryz.prog (env noSpec) 176 (pureS 4 (evalCall (env (ofSp [])) 20 false 176)) :=
    pureS_ok (globs _) (by decide) (call_ok (toldSp SpOk.nil) 20 false 176)
  intro args H r H' h
  unfold sortT at h
  split at h
  · split at h
    · rename_i hc
      subst hc
      injection h with h
      obtain ⟨rfl, rfl⟩ := Prod.mk.inj h
      exact h0 _ _ _ _ (pure_eval SpOk.nil rfl sortnil_eval H)
    · cases h
  · exact sort_ok _ _ _ _ h

namespace Clash

def keysOf : List (AVal × AVal) → Option (List (Int × Int))
  | [] => some []
  | (.agg [.int .i64 a, .int .i64 b], _) :: rest => if inB a && inB b then (keysOf rest).map ((a, b) :: ·) else none
  | _ => none

noncomputable section
def st0 (args : List AVal) (H : Hp) : St := (⟨params 0 args .nil, ⟨.nil, 0⟩, max 25 args.length⟩, H)

/-- the heap behind the collecting and the sorting -/
def finH (H5 : Hp) (ps : List (Int × Int)) : AVal × Hp :=
  match ps with
  | [] => (.nilslice, H5)
  | _ => (.sl (H5.next + ps.length - 1) 0 ps.length 2, { h := H5.h.set (H5.next + ps.length - 1) (.cells (flatP (sortP ps))), next := H5.next + ps.length })

def clashS (E : Env) (call : CallF) (args : List AVal) (H : Hp) : Option (AVal × Hp) :=
  if args.length = 1 then
    match evalCode E call false 114 (.region 0 ops0 false) (st0 args H) with
    | some (.normal, st1) => match evalCode E call false 114 pre st1 with
      | some (.ret, st) => match results E st.1.tm st.1.lv st.2 [.tmp 2] with
        | some vs => some (packA vs, st.2)
        | none => none
      | some (.normal, st2) => match evalCode E call false 114 (.region 3 ops3 false) st2 with
        | some (.normal, st3) => match runOps E call false 114 ops4.toList 25 (ops4.toList.take 5) st3.1.tm st3.1.lv st3.2 with
          | some (tm, _, H4) => match tm.get 3, tm.get 12 with
            | some .nilslice, some (.map id) => match H4.get id with
              | .map _ es => match keysOf es with
                | some ps => if Nat.ble (H4.next + 1 + ps.length) 4096 && Nat.blt id 4096 && Nat.beq st3.1.n 25 then some (finH ((H4.set id .dead).alloc .dead).2 ps) else none
                | none => none
              | _ => none
            | _, _ => none
          | none => none
        | _ => none
      | _ => none
    | _ => none
  else none
end

theorem keysOf_spec : ∀ {es : List (AVal × AVal)} {ps : List (Int × Int)}, keysOf es = some ps → es.map (·.1) = ps.map pairV ∧ ∀ x ∈ ps, inB x.1 = true ∧ inB x.2 = true := by
  intro es
  induction es using keysOf.induct with
  | case1 => intro ps h; simp [keysOf] at h; subst h; simp
  | case2 a b v rest hb ih =>
    intro ps h
    rw [keysOf, if_pos hb] at h
    cases hr : keysOf rest with
    | none => rw [hr] at h; cases h
    | some qs =>
      rw [hr] at h
      simp only [Option.map_some, Option.some.injEq] at h
      subst h
      obtain ⟨h1, h2⟩ := ih hr
      simp only [Bool.and_eq_true] at hb
      refine ⟨by simp [h1, pairV], fun x hx => ?_⟩
      rcases List.mem_cons.1 hx with rfl | hx
      · exact hb
      · exact h2 x hx
  | case3 a b v rest hb => intro ps h; rw [keysOf, if_neg hb] at h; cases h
  | case4 es h1 h2 =>
    intro ps h
    unfold keysOf at h
    split at h
    · exact absurd rfl h1
    · exact absurd rfl (h2 _ _ _ _)
    · cases h


section
variable {L : Sp}

/-- behind the loop -/
theorem post_eval (hL : lookSp 176 L = some sortT) (k : Nat) (tm : Tr AVal) (lv : Lv) (H : Hp) (s : AVal) (h3 : tm.get 3 = some s) (hs : Sl s) (H' : Hp) (hsort : sortT [s, .func (.func 177) [] []] H = some (.tuple [], H')) :
    ∃ tm' lv', evalCode (env (ofSp L)) (evalCall (env (ofSp L)) (k + 1)) false 114 post (⟨tm, lv, 25⟩, H) = some (.ret, (⟨tm', lv', 25⟩, H')) ∧ tm'.get 2 = some s := by
  have hc : ∀ md, evalCall (env (ofSp L)) (k + 1) md 176 [s, .func (.func 177) [] []] H = some (.tuple [], H') := fun md => by rw [call_spec hL]; exact hsort
  rcases hs with rfl | ⟨id, l, rfl⟩ <;> simp only [post, ops8, ops9] <;>
  simp only [evalCode, regionA, runOps, muteOp, stepA, wantedA, actA, isCall, target, evalOp, opMove, keepA, evT, tget, h3, Nat.reduceLT, if_true, Option.getD, List.map_cons, List.map_nil, List.append_nil, List.nil_append, List.cons_append, AVal.handed, List.all, Bool.and_true, Bool.true_or, hc, putA, resOk, maxTmp, Nat.reducePow, and_self,
    Bool.false_eq_true, if_false, reduceIte, Nat.reduceEqDiff, ↓reduceIte, List.toList_toArray, Bool.and_self]
  all_goals
    refine ⟨_, _, rfl, ?_⟩
    simp only [tget, Nat.reduceLT, if_true]

theorem finH_get {H5 : Hp} {ps : List (Int × Int)} (hp : ps ≠ []) (hm : H5.next + ps.length ≤ 4096) (hfr : ∀ i, H5.next ≤ i → H5.get i = .dead) : (finH H5 ps).1 = .sl (H5.next + ps.length - 1) 0 ps.length 2 ∧ (finH H5 ps).2.next = H5.next + ps.length ∧
    ∀ j, (finH H5 ps).2.get j = if H5.next + ps.length - 1 = j then .cells (flatP (sortP ps)) else H5.get j := by
  cases ps with
  | nil => exact absurd rfl hp
  | cons x l =>
    refine ⟨rfl, rfl, fun j => ?_⟩
    show ((H5.h.set _ _).get j).getD .dead = _
    rw [Tr.get_set _ _ _ _ (by simp at hm ⊢; omega)]
    split <;> rfl

theorem pairsOf_flatP : ∀ {ps : List (Int × Int)}, (∀ x ∈ ps, inB x.1 = true ∧ inB x.2 = true) → pairsOf (flatP ps) = some ps
  | [], _ => rfl
  | (a, b) :: r, h => by
    have h0 := h (a, b) (by simp)
    simp only [flatP, pairsOf]
    rw [if_pos (by simp [h0.1, h0.2]), pairsOf_flatP fun x hx => h x (by simp [hx])]
    rfl

theorem kp_of {e : MapEntry} {x : Int × Int} (h : e.key = concOf (pairV x)) : kp e = x ∧ e.key = keyV x := by
  have : concOf (pairV x) = .agg #[.int .i64 x.1, .int .i64 x.2] := rfl
  rw [this] at h
  exact ⟨by unfold kp; rw [h], h⟩

theorem clash_ok (hL : lookSp 176 L = some sortT) (hOk : SpOk L) (k : Nat) : CallAt Tryz.prog (env noSpec) 114 (clashS (env (ofSp L)) (evalCall (env (ofSp L)) (k + 1))) := by
  intro args H r H' h hr g w args' hH hG hK hlen hrel hhand
  have hT := toldSp hOk
  have hE := hT.ok
  have hC := call_ok hT (k + 1)
  unfold clashS at h
  split at h
  case isFalse => cases h
  rename_i hla
  -- the call
  have hent := enters (f := 114) Tryz.func114 (by kernel_rfl) body114 args'.toArray w
  unfold Does
  rw [hent]
  simp only []
  have hnt : Tryz.f114.ntmps = 25 := rfl
  have hmx : max 25 args.length = 25 := by omega
  have hgood : Good Tryz.prog (env (ofSp L)) w.heap.size (max 25 args.length) g (fun _ => none) H w ⟨.nil, 0⟩ (params 0 args .nil) { tmps := args'.toArray ++ Array.replicate (Tryz.f114.ntmps - args'.toArray.size) undef, defers := [] } := by
    refine ⟨hH, ⟨fun t b h => (by cases h), fun t u b h => (by cases h), fun t b h => (by cases h), fun t b h => (by cases h), fun t b h => (by cases h)⟩, Nat.le_refl _, hK, hG, ⟨fun t v ht => ?_, ?_⟩, fun d hd => by cases hd⟩
    · rw [params_get args 0 .nil t (by rw [hla]; decide)] at ht
      split at ht
      · rename_i hlt
        simp only [Nat.sub_zero] at ht
        have hlt' : t < args'.length := by omega
        have e1 : args'[t]? = some args'[t] := List.getElem?_eq_getElem hlt'
        have hv := hrel t v _ ht e1
        have e2 : (args'.toArray ++ Array.replicate (Tryz.f114.ntmps - args'.toArray.size) undef).getD t undef = args'[t] := by
          rw [Array.getD_eq_getD_getElem?, Array.getElem?_append_left (by simpa using hlt')]
          simp [hlt']
        rw [e2]
        refine ⟨fun e => ?_, .of hv⟩
        have := List.all_eq_true.1 hhand v (List.mem_of_getElem? ht)
        rw [e] at this; cases this
      · rw [Tr.get_nil] at ht; cases ht
    · simp; omega
  refine calls_of_wp_defers Tryz.func114 body114 ?_
  -- what a leave is
  have leave : ∀ {ex : AExit} {st : St} {vs : List AVal} {H2 : Hp}, ex.leaves = true → ex ≠ .normal ∨ True → results (env (ofSp L)) st.1.tm st.1.lv st.2 [.tmp 2] = some vs → (∀ i, st.2.get i = H2.get i) → st.2.next = H2.next → r = packA vs → H' = H2 →
      ∀ M g' p' w' a', Step w.heap.size g H w g' st.2 w' → Good Tryz.prog (env (ofSp L)) M st.1.n g' p' st.2 w' st.1.lv st.1.tm a' →
        bodyPostD Tryz.prog Tryz.f114 (fun | .returned v, w'' => ∃ g', Step w.heap.size g H w g' H' w'' ∧ VRel g' w'' r v | _, _ => False) .ret a' w' := by
    intro ex st vs H2 _ _ hres hget hnx hrr hHH M g' p' w' a' hst hg'
    obtain ⟨cs, r1, r2⟩ := run_results hE (fn := Tryz.f114) hg' hres
    refine leaves_mute ⟨_, r1, ?_⟩ _ hg'.hD
    subst hHH
    exact ⟨g', hst.same hget hnx, by rw [hrr]; exact pack_rel r2⟩
  split at h
  case h_2 => cases h
  rename_i st1 hev1
  unfold code
  refine wp_seq (code_ok hE hC _ rfl _ _ _ hev1 g _ w _ hgood _ fun g1 p1 w1 a1 S1 G1 => ?_)
  show Code.wp _ _ _ _ _
  split at h
  · -- not sound
    rename_i st hev2
    split at h
    case h_2 => cases h
    rename_i vs hres
    simp only [Option.some.injEq, Prod.mk.injEq] at h
    refine wp_seq (code_ok hE hC _ rfl _ _ _ hev2 g1 p1 w1 a1 G1 _ fun g2 p2 w2 a2 S2 G2 => ?_)
    exact leave (ex := .ret) (st := st) (vs := vs) rfl (.inr trivial) hres (fun _ => rfl) rfl h.1.symm h.2.symm _ g2 p2 w2 a2 (S1.trans S2) G2
  · rename_i st2 hev2
    refine wp_seq (code_ok hE hC _ rfl _ _ _ hev2 g1 p1 w1 a1 G1 _ fun g2 p2 w2 a2 S2 G2 => ?_)
    show Code.wp _ _ _ _ _
    split at h
    case h_2 => cases h
    rename_i st3 hev3
    refine wp_seq (code_ok hE hC _ rfl _ _ _ hev3 g2 p2 w2 a2 G2 _ fun g3 p3 w3 a3 S3 G3 => ?_)
    show Code.wp _ _ _ _ _
    split at h
    case h_2 => cases h
    rename_i tm4 lv4 H4 hev4
    split at h
    case h_2 => cases h
    rename_i id h3 h12
    split at h
    case h_2 => cases h
    rename_i kt es hes
    split at h
    case h_2 => cases h
    rename_i ps hps
    split at h
    case isFalse => cases h
    rename_i hcnd
    simp only [Bool.and_eq_true, Nat.ble_eq, Nat.blt_eq, Nat.beq_eq] at hcnd
    obtain ⟨⟨hmax, hidm⟩, hn25⟩ := hcnd
    injection h with h
    refine wp_seq (wp_seq (wp_region ?_))
    show wpOps Tryz.prog ops4 _ (List.range' 0 (ops4.toList.take 5 ++ ops4.toList.drop 5).length) a3 w3
    rw [hn25] at G3
    refine runOps_pre hE hC (f := 114) (md := false) _ _ 0 g3 p3 st3.2 w3 st3.1.lv st3.1.tm a3 tm4 lv4 H4 rfl G3 hev4 fun g4 p4 w4 a4 S4 G4 => ?_
    -- the range
    have hmapv : VRel g4 w4 (.map id) (a4.tmps.getD 12 undef) := (G4.hF.tm 12 _ h12).2
    have hev12 : ∃ bm, a4.eval (.tmp 12) = .map (some bm) ∧ g4.mu id = some bm := by
      show ∃ bm, a4.tmps.getD 12 undef = _ ∧ _
      generalize a4.tmps.getD 12 undef = c at hmapv
      cases hmapv with
      | @map _ b hb => exact ⟨b, rfl, hb⟩
    obtain ⟨bm, hev12, hmu⟩ := hev12
    have ob := G4.hH.obj id bm hmu
    rw [hes] at ob
    obtain ⟨_, ents, clock, hhb, hlen', _, hmok, hall⟩ := ob
    obtain ⟨hk1, hk2⟩ := keysOf_spec hps
    have hbml := (G4.hH.lt id bm hmu).2.2
    have entk : ∀ (i : Nat) e, ents[i]? = some e → ∃ x, ps[i]? = some x ∧ kp e = x ∧ e.key = keyV x := by
      intro i e he
      have hi : i < es.length := by have := (Array.getElem?_eq_some_iff.1 he).1; omega
      have h0 : (es.map (·.1))[i]? = some es[i].1 := by simp [hi]
      rw [hk1, List.getElem?_map] at h0
      cases hx : ps[i]? with
      | none => rw [hx] at h0; cases h0
      | some x =>
        rw [hx] at h0
        simp only [Option.map_some, Option.some.injEq] at h0
        have := (hall i es[i].1 es[i].2 e (by simp [hi]) he).2.1
        rw [← h0] at this
        have := kp_of this
        exact ⟨x, rfl, this.1, this.2⟩
    have entps : ents.toList.map kp = ps := by
      apply List.ext_getElem?
      intro i
      rw [List.getElem?_map, Array.getElem?_toList]
      have hpl : ps.length = ents.size := by
        have := congrArg List.length hk1
        simp at this; omega
      cases he : ents[i]? with
      | none =>
        have : ents.size ≤ i := by simpa using he
        rw [List.getElem?_eq_none (by omega)]; rfl
      | some e =>
        obtain ⟨x, h1, h2, _⟩ := entk i e he
        rw [h1]; simp [h2]
    have hrange : (Instr.range 331 (a4.eval (.tmp 12))).run Tryz.prog w4 = .ok (.pointer (some ⟨w4.heap.size, 0, none⟩)) (w4.alloc (.mapIter (some bm) clock #[] clock)) := by
      rw [hev12]; exact run_range_map w4 331 _ _ bm ents clock Tryz.underlying331 hhb
    have e5 : ops4[5]? = some ⟨some 13, .range 331 (.tmp 12), 0, "regs.go:73", #[⟨4, .data⟩], none⟩ := rfl
    show wpOps Tryz.prog ops4 _ [5] a4 w4
    simp only [wpOps, e5, Region.wanted, if_true]
    refine .inl ?_
    have r5 : (execOp a4.eval ⟨some 13, .range 331 (.tmp 12), 0, "regs.go:73", #[⟨4, .data⟩], none⟩).run Tryz.prog w4 = .ok (.value (.pointer (some ⟨w4.heap.size, 0, none⟩))) (w4.alloc (.mapIter (some bm) clock #[] clock)) := by
      simp only [execOp, Sem.run_bind, hrange, Result.andThen_ok, Sem.run_pure]
    unfold Oper.wp
    rw [r5]
    simp only [Oper.upon]
    show Code.wp _ _ _ _ _
    -- the ghost
    generalize hw5 : w4.alloc (.mapIter (some bm) clock #[] clock) = w5
    have hidm' : id < maxTmp := hidm
    have hnx4 : H4.next < maxTmp := by unfold maxTmp; omega
    have SK : Step w4.heap.size g4 H4 w4 g4 (H4.set id .dead) w4 := Step.kill G4.hH hmu
    have SN : Step w4.heap.size g4 (H4.set id .dead) w4 (g4.upd H4.next w4.heap.size 0 0) ((H4.set id .dead).alloc .dead).2 w5 := by
      have := Step.newObj (N := w4.heap.size) SK.rel .dead (.mapIter (some bm) clock #[] clock) 0 0 hnx4 trivial
      rw [hw5] at this; exact this
    have w5sz : w5.heap.size = w4.heap.size + 1 := by rw [← hw5, size_alloc']
    generalize hg5 : g4.upd H4.next w4.heap.size 0 0 = g5 at SN
    have mu5 : g5.mu H4.next = some w4.heap.size := by rw [← hg5]; exact if_pos rfl
    have lim5 : g5.lim w4.heap.size = 0 := by rw [← hg5]; exact if_pos rfl
    generalize hH5 : ((H4.set id .dead).alloc .dead).2 = H5 at SN h
    have n5 : H5.next = H4.next + 1 := by rw [← hH5]; simp
    have G5 : Good Tryz.prog (env (ofSp L)) w5.heap.size 25 g5 (fun _ => none) H5 w5 ⟨.nil, 0⟩ ((Tr.nil.set 3 .nilslice).set 13 (.ptr H4.next 0)) (a4.put (some 13) (.pointer (some ⟨w4.heap.size, 0, none⟩))) := by
      have GF := G4.forget (M := w4.heap.size) (tm' := Tr.nil.set 3 .nilslice) (lv' := ⟨.nil, 0⟩) (Nat.le_refl _) (fun t v hv => by
        simp only [tget, Nat.reduceLT] at hv
        split at hv
        · rename_i ht; subst ht; injection hv with hv; subst hv; exact ⟨h3, by simp⟩
        · cases hv)
      have ext := SK.ext.trans SN.ext
      have G' : Good Tryz.prog (env (ofSp L)) w5.heap.size 25 g5 (fun _ => none) H5 w5 ⟨.nil, 0⟩ (Tr.nil.set 3 .nilslice) a4 :=
        ⟨SN.rel, ⟨(fun t b h => by cases h), (fun t u b h => by cases h), (fun t b h => by cases h), (fun t b h => by cases h), (fun t b h => by cases h)⟩, Nat.le_refl _, GF.hK.ext ext, GF.hG.ext ext, GF.hF.mono ext (fun _ _ h => h), GF.hD⟩
      exact G'.put (d := some 13) (r := .ptr H4.next 0) rfl ⟨(fun h => by cases h), .of (.ptr 0 mu5)⟩
    have nheldr : ¬ Held g5 H5 w4.heap.size := by
      rintro ⟨i, hi, ha⟩
      have hii : i = H4.next := by
        rw [← hg5] at hi
        have hi : (if i = H4.next then some w4.heap.size else g4.mu i) = some w4.heap.size := hi
        split at hi
        · assumption
        · exact absurd (G4.hH.lt i _ hi).2.2 (by omega)
      subst hii
      apply ha
      rw [← hH5, Hp.get_alloc _ _ _ (by simpa using hnx4), if_pos (by simp)]
    have nheldb : ¬ Held g5 H5 bm := by
      intro hh
      have h1 := SN.img bm hbml hh
      obtain ⟨i, hi, ha⟩ := h1
      unfold Alive at ha
      rw [Hp.get_set _ _ _ _ hidm'] at ha
      split at ha
      · exact ha rfl
      · rename_i hne
        exact hne (G4.hH.inj id i bm hmu hi (by unfold Alive; rw [hes]; simp) ha)
    have hr5 : w5.heap[w4.heap.size]? = some (.mapIter (some bm) clock #[] clock) := by rw [← hw5]; exact heap_alloc_new' _ _
    have hb5 : w5.heap[bm]? = some (.map ents clock) := by rw [← hw5, heap_alloc_old _ _ hbml]; exact hhb
    have hleft0 : (leftOf ents #[]).toList = ents.toList := by unfold leftOf; simp
    have hNr : w.heap.size ≤ w4.heap.size := Nat.le_trans S1.size (Nat.le_trans S2.size (Nat.le_trans S3.size S4.size))
    have S5 : Step w.heap.size g H w g5 H5 w5 := (((S1.trans S2).trans S3).trans S4).trans ((SK.weaken hNr).trans (SN.weaken hNr))
    have fr5 : ∀ i, H5.next ≤ i → H5.get i = .dead := SN.rel.fresh
    have hpslen : ps.length = ents.size := by
      have := congrArg List.length hk1
      simp at this; omega
    refine wp_block (wp_loop_rounds ((leftOf ents #[]).size + 1) ?_)
    refine loop_ok hE hC (H0 := H5) (N := w.heap.size) (M := w5.heap.size) (bm := bm) (r := w4.heap.size) (rid := H4.next) (since := clock) (clock := clock) (ents := ents) ?_ ?_ ?_ hNr (by omega) (by omega) (by omega) _ #[] clock [] .nilslice H5 g5 w5 ⟨.nil, 0⟩ _ _ rfl G5 (by simp [tget]) (by simp [tget]) mu5 nheldr nheldb hr5 (Nat.le_refl _) (Nat.le_refl _) hb5 lim5 rfl ?_ ?_ ?_
    · intro x hx
      obtain ⟨i, hi⟩ := List.mem_iff_getElem?.1 hx
      exact hmok.old i x (by simpa using hi)
    · show List.Pairwise (· ≠ ·) _
      rw [List.pairwise_iff_getElem]
      intro i j hi hj hij he
      simp only [List.length_map, Array.length_toList] at hi hj
      simp only [List.getElem_map, Array.getElem_toList] at he
      have := hmok.born i j _ _ (Array.getElem?_eq_getElem hi) (Array.getElem?_eq_getElem hj) he
      omega
    · intro e he
      obtain ⟨i, hi⟩ := List.mem_iff_getElem?.1 he
      obtain ⟨x, _, h2, h3'⟩ := entk i e (by simpa using hi)
      rw [h2]; exact h3'
    · exact ⟨by simp, by simp, fun _ _ => rfl, fun h => absurd rfl h, fun j hj _ => fr5 j hj⟩
    · have : (leftOf ents #[]).size = ents.size := by
        have := congrArg List.length hleft0; simpa using this
      rw [this, n5]; simp; omega
    · intro l' s' H6 g6 w6 a6 tm6 lv6 S6 G6 hs6 hcol hperm
      rw [hleft0, entps, List.nil_append] at hperm
      show Code.wp _ _ _ _ _
      have hbd' : ∀ x ∈ l', inB x.1 = true ∧ inB x.2 = true := fun x hx => hk2 x (hperm.mem_iff.1 hx)
      have hsl : sortP l' = sortP ps := sortP_unique ((sortP_perm l').trans hperm) (sortP_sorted l')
      have hll : l'.length = ps.length := hperm.length_eq
      have fin : ∃ H7, sortT [s', .func (.func 177) [] []] H6 = some (.tuple [], H7) ∧ s' = (finH H5 ps).1 ∧ H7.next = (finH H5 ps).2.next ∧ (∀ i, H7.get i = (finH H5 ps).2.get i) ∧ s'.handed = true := by
        by_cases hnil : l' = []
        · have hp0 : ps = [] := List.eq_nil_of_length_eq_zero (by rw [← hll, hnil]; rfl)
          subst hnil hp0
          have hss := hcol.s
          simp only [if_true] at hss
          subst hss
          refine ⟨H6, rfl, rfl, hcol.next, fun i => ?_, rfl⟩
          by_cases hi : i < H5.next
          · exact hcol.old i hi
          · rw [hcol.dead i (by omega) (by simp; omega)]
            exact (fr5 i (by omega)).symm
        · have hp0 : ps ≠ [] := fun e => hnil (List.eq_nil_of_length_eq_zero (by rw [hll, e]; rfl))
          have hpos : 0 < l'.length := List.length_pos_iff.2 hnil
          obtain ⟨f1, f2, f3⟩ := finH_get hp0 (by rw [n5]; omega) fr5
          have hss := hcol.s
          rw [if_neg hnil] at hss
          subst hss
          have htop := hcol.top hnil
          refine ⟨H6.set (H5.next + l'.length - 1) (.cells (flatP (sortP l'))), ?_, by rw [f1, hll], ?_, fun i => ?_, rfl⟩
          · have e1 : ∀ (i l z : Nat) (f : AVal), sortT [.sl i 0 l z, f] H6 = sortS [.sl i 0 l z, f] H6 := fun i l z f => by unfold sortT; simp
            rw [e1]
            unfold sortS
            simp only [htop, pairsOf_flatP hbd']
            have hmr : l'.length < maxRow := by unfold maxRow; omega
            simp [hpos, hmr]
          · rw [f2, Hp.next_set, hcol.next, hll]
          · rw [f3, Hp.get_set _ _ _ _ (by unfold maxTmp; omega), hll, hsl]
            split
            · rfl
            · rename_i hne
              by_cases hi : i < H5.next
              · exact hcol.old i hi
              · rw [hcol.dead i (by omega) (by omega)]
                exact (fr5 i (by omega)).symm
      obtain ⟨H7, hsort, hs', hnx7, hget7, hhd⟩ := fin
      obtain ⟨tm7, lv7, hev7, hres7⟩ := post_eval hL k tm6 lv6 H6 s' hs6 hcol.sl H7 hsort
      refine code_ok hE hC _ rfl _ _ _ hev7 g6 _ w6 a6 G6 _ fun g7 p7 w7 a7 S7 G7 => ?_
      have hS := (S5.trans S6).trans (S7.weaken (by omega))
      have hr1 : r = s' := by rw [hs', h]
      have hH1 : H' = (finH H5 ps).2 := by rw [h]
      exact leave (ex := .ret) (st := (⟨tm7, lv7, 25⟩, H7)) (vs := [s']) rfl (.inr trivial) (by simp [Rs.results, hres7, hhd]) hget7 hnx7 hr1 hH1 _ g7 p7 w7 a7 hS G7
  · cases h
end

end Clash
end Go.Rs.Seat
end
