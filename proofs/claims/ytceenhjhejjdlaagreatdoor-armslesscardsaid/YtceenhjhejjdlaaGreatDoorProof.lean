/- ArmsLess: whatever the patterns and the value (made of any two slices of ints) and whatever the number of patterns that are kept, patterns behind the first one that fits change nothing; the law answers true, and its arguments read as before. Condition: the listed tables of Go's library lie as the program's text lays them (the card ties them). -/
import Derived.Test.YtceenhjhejjdlaaGreatDoorP14
import Derived.Test.YtceenhjhejjdlaaGreatDoorP16
import Derived.Test.YtceenhjhejjdlaaGreatDoorTie
import Derived.Test.YtceenhjhejjdlaaGreatDoorCards
import Derived.SevenTiedAt
import Derived.Test.YtceenhjhejjdlaaGreatDoorP18
import Derived.Test.YtceenhjhejjdlaaGreatDoorP19
import Derived.Test.YtceenhjhejjdlaaGreatDoorP20
set_option linter.unusedSimpArgs false
set_option linter.unusedVariables false
namespace Go.Proofs.YtceenhjhejjdlaaGreatDoor
open Go Go.Rs Go.Rs.Seat Go.ChangeShapes Go.WideShapes Go.ChangeAt Go.RowKit
set_option maxRecDepth 100000

theorem less_call : CallAt Tryz.prog (env noSpec) 4 (pureG hpT (evalCall (env (ofSp spL)) 401 false 4)) :=
  pureG_ok (K := hpT) (globs _) (by decide) hpT_dead (call_ok (toldSp spL_ok) 401 false 4)

theorem less_true {a b : AVal} {la lb : List Int} (ha : IsI a la) (hb : IsI b lb) (z : Int) : pureG hpT (evalCall (env (ofSp spL)) 401 false 4) [a, b, .int .i64 z] hpT = some (.bool true, hpT) := by
  obtain ⟨a', ha1, ha2⟩ := IsI.ren _ _ ha
  obtain ⟨b', hb1, hb2⟩ := IsI.ren _ _ hb
  obtain ⟨⟨v, H'⟩, h1, h2, h3⟩ := law4_walk (K := 400) (Nat.le_refl _) ha2 hb2 z
  simp only [] at h2 h3
  subst h2
  exact pureG_at (by simp only [renAs, renA, ha1, hb1]) h1 h3

theorem less_lifted (os : Os) (started : os.Started) (H : Type) (enc : TypeId × Value → H) :
    ReturnsInHanded {} Tryz.checked os 4 .any (fun w args => (Rows.armsLessSpec.pre enc Tryz.prog Tryz.f4 [] false w args ∧ laidMetH Tryz.prog Rows.armsLessRow.laid w) ∧ sizedMet enc Tryz.prog Tryz.f4 (OpenSpec.ofChange Rows.armsLessSpec) false w args)
      (Rows.armsLessSpec.post enc Tryz.prog Tryz.f4 false true false false) := by
  refine returns_shaped (C := Tryz.checked) (X := fun w _ => laidMetH Tryz.prog Rows.armsLessRow.laid w) (fun _ _ _ hh h => h.of_heap hh) own started (by kernel_rfl) Tryz.func4
    (ChangeSpec.witness_shaped (enc := enc) (C := Tryz.checked) (os := os) (X := fun w _ => laidMetH Tryz.prog Rows.armsLessRow.laid w) false (World.laidAll Tryz.prog os Rows.armsLessRow.laid) #[.slice none 0 0, .slice none 0 0, .int .i64 0] 8 (World.laidAll_os _ _ _)
      (World.shaped_of_ZipB (by kernel_rfl) (by kernel_rfl)) (by kernel_rfl) (by kernel_rfl) (by kernel_rfl)
      (by rw [MakeChecks.laidMetH_plain _ _ _ (by kernel_rfl)]; exact laidMet_laidAll _ (by kernel_rfl) (by kernel_rfl))) ?_
  intro W base args ds gs before hsh hval0 hW hL
  have hval : ∀ (j : Nat) t v, Tryz.f4.params[j]? = some t → args[j]? = some v → Value.okWide Tryz.prog W .any base t v := hval0
  have hT : TabW W := tabW_of hsh hL
  have hW' := hW
  obtain ⟨p, q, hA0, hV, rfl, -, -⟩ := hW
  have hA : DataW.TrodAll enc Tryz.prog W 0 (fun _ => true) true Tryz.f4.params.toList args.toList ds p := hA0
  rw [Tryz.params4] at hA hval
  obtain ⟨v0, v1, v2, d0, d1, d2, p0, p1, p2, rfl, rfl, rfl, h0, h1, h2⟩ := trodAll_three hA
  obtain ⟨rfl, rfl⟩ := trodVars_none hV
  obtain ⟨a, la, ha, hra, hsa⟩ := arg_slice hT (hval 0 22 v0 rfl rfl) h0
  obtain ⟨b, lb, hb, hrb, hsb⟩ := arg_slice hT (hval 1 22 v1 rfl rfl) h1
  obtain ⟨z, rfl, rfl, rfl, wz⟩ := open_int und3 (hval 2 3 v2 rfl rfl) h2
  have hc := law_calls (args := [a, b, .int .i64 z]) (args' := [v0, v1, .int .i64 z]) Tryz.func4 (by kernel_rfl) Go.Rs.Seat.Rg.body4 less_call (less_true ha hb z) hT rfl
    (rel_cons hra (rel_cons hrb (rel_cons (.int _ _) (by simp)))) (by have h3 : (AVal.int .i64 z).handed = true := rfl; simp [ha.handed, hb.handed, h3])
  refine hc.mono fun e W' ⟨he, hk, _, hh⟩ => ?_
  obtain ⟨pa, hpa⟩ := hsa W' hh
  obtain ⟨pb, hpb⟩ := hsb W' hh
  refine ⟨_, he, post_of (ds := [d0, d1, .lit (.int .i64 z)]) (pa := pa ++ (pb ++ [])) rfl (by kernel_rfl) (by kernel_rfl) hW' rfl rfl ?_ hk hh⟩
  rw [Tryz.params4]
  exact trodAll_mk3 hpa hpb (shut_int und3 wz)

theorem less_holds : Rows.ArmsLessSaid :=
  OpenClaim.holds_of_wide 4 Tryz.f4 rfl rfl rfl rfl rfl rfl rfl ⟨rfl, rfl, rfl, rfl, rfl⟩ rfl rfl rfl rfl rfl factName4 Tryz.func4 facts4
    (of_decide_eq_true (by kernel_rfl)) (by unfold Func.isWrapper; first | (rw [if_pos (by decide +kernel)]; kernel_rfl) | (rw [if_neg (by decide +kernel)]; exact ⟨rfl, rfl⟩))
    (fun os started H enc _ => less_lifted os started H enc)

theorem less_card : Rows.ArmsLessCardSaid :=
  Claim7.holds_tied_plain_at .later [] [.data, .data, .pinned] true (true, "b74d4d9d1d995c863f11cf3d532cd9b2d0aa130be9a10a285f1d89abb5c707df") false less_holds (fun _ h => by cases h) factText4 (fun _ h => by cases h) armsLess_row_tie rfl ⟨rfl, rfl⟩ factMain rfl
    (fun f fn hf hfn => by
      obtain rfl : f = 4 := Option.some.inj (factName4.symm.trans hf) |>.symm
      obtain rfl : fn = Tryz.f4 := (Option.some.inj (Tryz.func4.symm.trans hfn)).symm
      exact ⟨factLooks, fun j t ht => by
        rw [Tryz.params4] at ht
        have hm : t ∈ [3, 22] := by
          have : t ∈ [22, 22, 3] := by simpa using Array.mem_of_getElem? ht
          have h22 : t = 22 ∨ t = 3 := by simpa using this
          rcases h22 with h22 | h22 <;> rw [h22] <;> simp
        exact (show Tryz.prog.wantsStandIn t = false by simpa using List.all_eq_true.1 factWants t hm)⟩)
    factGoes4
#print axioms less_card
end Go.Proofs.YtceenhjhejjdlaaGreatDoor
