/- ArmsOnce: whatever the patterns and the value (made of any two slices of ints), no test comes twice on the way to a leaf, and none more than the patterns have; the law answers true, and its arguments read as before. Condition: the listed tables of Go's library lie as the program's text lays them (the card ties them). -/
import Derived.Test.YtceenhjhejjdlaaGreatDoorP14
import Derived.Test.YtceenhjhejjdlaaGreatDoorP16
import Derived.Test.YtceenhjhejjdlaaGreatDoorTie
import Derived.Test.YtceenhjhejjdlaaGreatDoorCards
import Derived.SevenTiedAt
import Derived.Test.YtceenhjhejjdlaaGreatDoorP18
import Derived.Test.YtceenhjhejjdlaaGreatDoorP19
import Derived.Test.YtceenhjhejjdlaaGreatDoorP20
set_option linter.unusedSimpArgs false
set_option linter.unusedVariables false
namespace Go.Proofs.YtceenhjhejjdlaaGreatDoor
open Go Go.Rs Go.Rs.Seat Go.ChangeShapes Go.WideShapes Go.ChangeAt Go.RowKit
set_option maxRecDepth 100000

theorem once_call : CallAt Tryz.prog (env noSpec) 3 (pureG hpT (evalCall (env (ofSp spL)) 401 false 3)) :=
  pureG_ok (K := hpT) (globs _) (by decide) hpT_dead (call_ok (toldSp spL_ok) 401 false 3)

theorem once_true {a b : AVal} {la lb : List Int} (ha : IsI a la) (hb : IsI b lb) : pureG hpT (evalCall (env (ofSp spL)) 401 false 3) [a, b] hpT = some (.bool true, hpT) := by
  obtain ⟨a', ha1, ha2⟩ := IsI.ren _ _ ha
  obtain ⟨b', hb1, hb2⟩ := IsI.ren _ _ hb
  obtain ⟨⟨v, H'⟩, h1, h2, h3⟩ := law3_walk (K := 400) (Nat.le_refl _) ha2 hb2
  simp only [] at h2 h3
  subst h2
  exact pureG_at (by simp only [renAs, ha1, hb1]) h1 h3

theorem once_lifted (os : Os) (started : os.Started) (H : Type) (enc : TypeId × Value → H) :
    ReturnsInHanded {} Tryz.checked os 3 .any (fun w args => (Rows.armsOnceSpec.pre enc Tryz.prog Tryz.f3 [] false w args ∧ laidMetH Tryz.prog Rows.armsOnceRow.laid w) ∧ sizedMet enc Tryz.prog Tryz.f3 (OpenSpec.ofChange Rows.armsOnceSpec) false w args)
      (Rows.armsOnceSpec.post enc Tryz.prog Tryz.f3 false true false false) := by
  refine returns_shaped (C := Tryz.checked) (X := fun w _ => laidMetH Tryz.prog Rows.armsOnceRow.laid w) (fun _ _ _ hh h => h.of_heap hh) own started (by kernel_rfl) Tryz.func3
    (ChangeSpec.witness_shaped (enc := enc) (C := Tryz.checked) (os := os) (X := fun w _ => laidMetH Tryz.prog Rows.armsOnceRow.laid w) false (World.laidAll Tryz.prog os Rows.armsOnceRow.laid) #[.slice none 0 0, .slice none 0 0] 8 (World.laidAll_os _ _ _)
      (World.shaped_of_ZipB (by kernel_rfl) (by kernel_rfl)) (by kernel_rfl) (by kernel_rfl) (by kernel_rfl)
      (by rw [MakeChecks.laidMetH_plain _ _ _ (by kernel_rfl)]; exact laidMet_laidAll _ (by kernel_rfl) (by kernel_rfl))) ?_
  intro W base args ds gs before hsh hval0 hW hL
  have hval : ∀ (j : Nat) t v, Tryz.f3.params[j]? = some t → args[j]? = some v → Value.okWide Tryz.prog W .any base t v := hval0
  have hT : TabW W := tabW_of hsh hL
  have hW' := hW
  obtain ⟨p, q, hA0, hV, rfl, -, -⟩ := hW
  have hA : DataW.TrodAll enc Tryz.prog W 0 (fun _ => true) true Tryz.f3.params.toList args.toList ds p := hA0
  rw [Tryz.params3] at hA hval
  obtain ⟨v0, v1, d0, d1, p0, p1, rfl, rfl, rfl, h0, h1⟩ := trodAll_two hA
  obtain ⟨rfl, rfl⟩ := trodVars_none hV
  obtain ⟨a, la, ha, hra, hsa⟩ := arg_slice hT (hval 0 22 v0 rfl rfl) h0
  obtain ⟨b, lb, hb, hrb, hsb⟩ := arg_slice hT (hval 1 22 v1 rfl rfl) h1
  have hc := law_calls (args := [a, b]) (args' := [v0, v1]) Tryz.func3 (by kernel_rfl) Go.Rs.Seat.Rg.body3 once_call (once_true ha hb) hT rfl
    (rel_cons hra (rel_cons hrb (by simp))) (by simp [ha.handed, hb.handed])
  refine hc.mono fun e W' ⟨he, hk, _, hh⟩ => ?_
  obtain ⟨pa, hpa⟩ := hsa W' hh
  obtain ⟨pb, hpb⟩ := hsb W' hh
  refine ⟨_, he, post_of (ds := [d0, d1]) (pa := pa ++ pb) rfl (by kernel_rfl) (by kernel_rfl) hW' rfl rfl ?_ hk hh⟩
  rw [Tryz.params3]
  exact trodAll_mk2 hpa hpb

theorem once_holds : Rows.ArmsOnceSaid :=
  OpenClaim.holds_of_wide 3 Tryz.f3 rfl rfl rfl rfl rfl rfl rfl ⟨rfl, rfl, rfl, rfl, rfl⟩ rfl rfl rfl rfl rfl factName3 Tryz.func3 facts3
    (of_decide_eq_true (by kernel_rfl)) (by unfold Func.isWrapper; first | (rw [if_pos (by decide +kernel)]; kernel_rfl) | (rw [if_neg (by decide +kernel)]; exact ⟨rfl, rfl⟩))
    (fun os started H enc _ => once_lifted os started H enc)

theorem once_card : Rows.ArmsOnceCardSaid :=
  Claim7.holds_tied_plain_at .later [] [.data, .data, .pinned] true (true, "b74d4d9d1d995c863f11cf3d532cd9b2d0aa130be9a10a285f1d89abb5c707df") false once_holds (fun _ h => by cases h) factText3 (fun _ h => by cases h) armsOnce_row_tie rfl ⟨rfl, rfl⟩ factMain rfl
    (fun f fn hf hfn => by
      obtain rfl : f = 3 := Option.some.inj (factName3.symm.trans hf) |>.symm
      obtain rfl : fn = Tryz.f3 := (Option.some.inj (Tryz.func3.symm.trans hfn)).symm
      exact ⟨factLooks, fun j t ht => by
        rw [Tryz.params3] at ht
        have hm : t ∈ [3, 22] := by
          have : t ∈ [22, 22] := by simpa using Array.mem_of_getElem? ht
          have h22 : t = 22 := by simpa using this
          rw [h22]
          simp
        exact (show Tryz.prog.wantsStandIn t = false by simpa using List.all_eq_true.1 factWants t hm)⟩)
    factGoes3
#print axioms once_card
end Go.Proofs.YtceenhjhejjdlaaGreatDoor
