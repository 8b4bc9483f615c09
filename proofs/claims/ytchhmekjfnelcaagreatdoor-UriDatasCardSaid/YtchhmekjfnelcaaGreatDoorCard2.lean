/- THE CARD OF UriDatas: the row, then the tied card. -/
import Derived.Test.YtchhmekjfnelcaaGreatDoorLaid
import Derived.Test.YtchhmekjfnelcaaGreatDoorLaw2
import Derived.Test.YtchhmekjfnelcaaGreatDoorCards
import Derived.Test.YtchhmekjfnelcaaGreatDoorTie
import Derived.SevenTiedAt
namespace Go.Proofs.YtchhmekjfnelcaaGreatDoor
open Go.ChangeShapes Go.WideShapes Go.ChangeAt Go.RowKit
open Go.ChangeMaps (open_string shut_string)

set_option maxRecDepth 100000 in
theorem uriDatas_lifted (os : Os) (started : os.Started) (H : Type) (enc : TypeId × Value → H) :
    ReturnsInHanded {} Tryz.checked os 4 .any (fun w args => (Rows.uriDatasSpec.pre enc Tryz.prog Tryz.f4 Rows.uriDatasRow.domain false w args ∧ laidMetH Tryz.prog Rows.uriDatasRow.laid w) ∧ sizedMet enc Tryz.prog Tryz.f4 (OpenSpec.ofChange Rows.uriDatasSpec) false w args)
      (Rows.uriDatasSpec.post enc Tryz.prog Tryz.f4 false true false false) := by
  refine returnsInHanded_of_change_and (C := Tryz.checked) (X := fun w _ => laidMetH Tryz.prog Rows.uriDatasRow.laid w) (fun _ _ _ hh h => h.of_heap hh) ownKnobs started (by kernel_rfl) Tryz.func4
    (ChangeSpec.witness_shaped (enc := enc) (C := Tryz.checked) (os := os) (X := fun w _ => laidMetH Tryz.prog Rows.uriDatasRow.laid w) false (laidWorld os) #[.string ⟨#[]⟩, .string ⟨#[]⟩, .string ⟨#[]⟩] 8 (laidWorld_os os)
      (laidWorld_shaped os _) (by kernel_rfl) (by kernel_rfl) (by kernel_rfl) (laidWorld_met os _)) ?_
  intro W base args ds gs before hval0 hW hc hwt hL _
  have hval : ∀ (j : Nat) t v, Tryz.f4.params[j]? = some t → args[j]? = some v → Value.okWide Tryz.prog W .any base t v := hval0
  have hW' := hW
  obtain ⟨p, q, hA0, hV, rfl, _, _⟩ := hW
  have hA : DataW.TrodAll enc Tryz.prog W 0 (fun _ => true) true Tryz.f4.params.toList args.toList ds p := hA0
  have hwt' : (DataW.weightsEach Tryz.prog (Tryz.f4.params.toList ++ []) (ds ++ gs)).all (· ≤ reachBytes) = true := hwt
  rw [Tryz.params4] at hA hval hwt'
  obtain ⟨v0, vs0, d0, ds0, p0, q0, hargs, rfl, rfl, h0, r0⟩ := trodAll_cons hA
  obtain ⟨v1, vs1, d1, ds1, p1, q1, rfl, rfl, rfl, h1, r1⟩ := trodAll_cons r0
  obtain ⟨v2, vs2, d2, ds2, p2, q2, rfl, rfl, rfl, h2, r2⟩ := trodAll_cons r1
  obtain ⟨rfl, rfl, rfl⟩ := trodAll_nil r2
  obtain rfl : args = #[v0, v1, v2] := by cases args; simp_all
  obtain ⟨rfl, rfl⟩ := trodVars_none hV
  obtain ⟨s, rfl, rfl, rfl, hs⟩ := open_string Tryz.underlying9 (hval 0 9 v0 rfl rfl) h0
  obtain ⟨t, rfl, rfl, rfl, ht⟩ := open_string Tryz.underlying9 (hval 1 9 v1 rfl rfl) h1
  obtain ⟨u, rfl, rfl, rfl, hu⟩ := open_string Tryz.underlying9 (hval 2 9 v2 rfl rfl) h2
  simp only [List.append_nil] at hW'
  have hsz : s.size ≤ 1152921504606846976 ∧ t.size ≤ 1152921504606846976 ∧ u.size ≤ 1152921504606846976 := by
    simp [DataW.weightsEach, DataW.weights, reachBytes] at hwt'
    have e1 := of_decide_eq_true hwt'.1
    have e2 := of_decide_eq_true hwt'.2.1
    have e3 := of_decide_eq_true hwt'.2.2
    omega
  refine (uri_any s t u W hsz.1 hsz.2.1 hsz.2.2 (laid_of hL)).mono fun e W' ⟨he, hb⟩ => ?_
  subst he
  exact ⟨_, rfl, _, _, _, [], [], [], hW', trodAll_mk1 (shut_bool Tryz.underlying4 true), trodAll_cons_mk (shut_string Tryz.underlying9 hs) (trodAll_cons_mk (shut_string Tryz.underlying9 ht) (trodAll_cons_mk (shut_string Tryz.underlying9 hu) trodAll_mk0)), rfl, hb.frame _, fun h => by cases h⟩

theorem uriDatas_said : Rows.UriDatasSaid :=
  OpenClaim.holds_of_wide 4 Tryz.f4 rfl rfl rfl rfl rfl rfl rfl ⟨rfl, rfl, rfl, rfl, rfl⟩ rfl rfl rfl rfl rfl (by kernel_rfl) Tryz.func4 (by kernel_rfl)
    (of_decide_eq_true (by kernel_rfl)) (by unfold Func.isWrapper; first | (rw [if_pos (by decide +kernel)]; kernel_rfl) | (rw [if_neg (by decide +kernel)]; exact ⟨rfl, rfl⟩))
    (fun os started H enc _ => uriDatas_lifted os started H enc)

theorem uriDatas_plain (f : FuncId) (fn : Func) (hf : Tryz.pinned.checked.prog.funcNamed "visitingcard/visitingcardlaw.UriDatas" = some f) (hfn : Tryz.pinned.checked.prog.funcs[f]? = some fn) :
    true = Tryz.pinned.checked.prog.looks [] ∧ ∀ (j : Nat) t, fn.params[j]? = some t → Tryz.pinned.checked.prog.wantsStandIn t = false := by
  obtain rfl : f = 4 := Option.some.inj ((show Tryz.prog.funcNamed "visitingcard/visitingcardlaw.UriDatas" = some 4 by kernel_rfl).symm.trans hf) |>.symm
  obtain rfl : fn = Tryz.f4 := (Option.some.inj (Tryz.func4.symm.trans hfn)).symm
  refine ⟨by kernel_rfl, fun j t ht => ?_⟩
  rw [Tryz.params4] at ht
  obtain rfl : t = 9 := by simpa using Array.mem_of_getElem? ht
  exact (show Tryz.prog.wantsStandIn 9 = false by kernel_rfl)

theorem uriDatas_card : Rows.UriDatasCardSaid :=
  Claim7.holds_tied_plain_at .later [] _ _ _ _ uriDatas_said (fun _ h => by cases h) (by kernel_rfl) (fun _ h => by cases h) uriDatas_row_tie rfl ⟨rfl, rfl⟩ (by kernel_rfl) rfl uriDatas_plain (by kernel_rfl)
#print axioms uriDatas_card
end Go.Proofs.YtchhmekjfnelcaaGreatDoor
