/- The reference's Undata walked. -/
import Derived.Test.YtchhmekjfnelcaaGreatDoorCut
namespace Go.Proofs.YtchhmekjfnelcaaGreatDoor
open Go.RowKit
theorem index19 (l : List UInt8) (w : World) : Calls Tryz.prog 19 #[.string ⟨l.toArray⟩, .int .u8 44] w fun e w' => e = .returned (.int .i64 (Lib.indexByte l 44)) ∧ w = w' :=
  (Tryz.strings_IndexByte _ 44 w).mono fun e w' h => ⟨h.1, h.2.symm⟩
abbrev undErr (c p : Int) : Value := .tuple #[.string ⟨#[]⟩, .string ⟨#[]⟩, .agg #[.int .i64 c, .int .i64 p]]
set_option maxRecDepth 100000 in
theorem undR_short (l : List UInt8) (w : World) (hi : Lib.indexByte l 44 < 12) :
    Calls Tryz.prog 12 #[.string ⟨l.toArray⟩] w fun e w' => e = .returned (undErr 3 (-1)) ∧ Below w.heap.size w w' := by
  obtain ⟨i, hi2⟩ : ∃ i, i = Lib.indexByte l 44 := ⟨_, rfl⟩
  rw [← hi2] at hi
  have HI := hid hi2
  clear hi2
  go_enter Tryz.func12, Tryz.ntmps12
  go_wp2_with fail
  refine (index19 l _).mono ?_
  rintro e w1 ⟨rfl, rfl⟩
  rw [← HI.out]
  go_wp2_with fail
  refine (bare3_any _).mono ?_
  rintro e w1 ⟨rfl, rfl⟩
  go_wp2_with fail
  exact bodyPost_ret (v := undErr 3 (-1)) (by simp [results, Tryz.results12, go_sem, *]) rfl ⟨rfl, ((Below.refl _ w).alloc (Nat.le_refl _) _).alloc (by simp) _⟩
set_option maxHeartbeats 1000000 in
set_option maxRecDepth 100000 in
theorem undR_bad (l A B M : List UInt8) (k : Nat) (w : World) (hs : l.length ≤ 800) (hi : Lib.indexByte l 44 = k) (hk : k < l.length) (h12 : 12 ≤ k) (hM : M.length ≤ 800)
    (e1 : (⟨l.toArray⟩ : ByteArray).extract 0 5 = ⟨A.toArray⟩) (e2 : (⟨l.toArray⟩ : ByteArray).extract (k - 7) k = ⟨B.toArray⟩) (e3 : (⟨l.toArray⟩ : ByteArray).extract 5 (k - 7) = ⟨M.toArray⟩)
    (hbad : ¬ ((A == [100, 97, 116, 97, 58]) = true ∧ (B == [59, 98, 97, 115, 101, 54, 52]) = true ∧ medB M = true)) :
    Calls Tryz.prog 12 #[.string ⟨l.toArray⟩] w fun e w' => e = .returned (undErr 3 (-1)) ∧ Below w.heap.size w w' := by
  have HI := hid hi
  clear hi
  have hd : (decide ((k : Int) < 12)) = false := by simp; omega
  cases hA : (A == [100, 97, 116, 97, 58])
  · clear hbad
    go_enter Tryz.func12, Tryz.ntmps12
    go_wp2_with fail
    refine (index19 l _).mono ?_
    rintro e w1 ⟨rfl, rfl⟩
    rw [HI.out]
    go_wp2_with fail
    refine (bare3_any _).mono ?_
    rintro e w1 ⟨rfl, rfl⟩
    go_wp2_with fail
    exact bodyPost_ret (v := undErr 3 (-1)) (by simp [results, Tryz.results12, go_sem, *]) rfl ⟨rfl, ((Below.refl _ w).alloc (Nat.le_refl _) _).alloc (by simp) _⟩
  · cases hB : (B == [59, 98, 97, 115, 101, 54, 52])
    · clear hbad
      go_enter Tryz.func12, Tryz.ntmps12
      go_wp2_with fail
      refine (index19 l _).mono ?_
      rintro e w1 ⟨rfl, rfl⟩
      rw [HI.out]
      go_wp2_with fail
      refine (bare3_any _).mono ?_
      rintro e w1 ⟨rfl, rfl⟩
      go_wp2_with fail
      exact bodyPost_ret (v := undErr 3 (-1)) (by simp [results, Tryz.results12, go_sem, *]) rfl ⟨rfl, ((Below.refl _ w).alloc (Nat.le_refl _) _).alloc (by simp) _⟩
    · have hm : medB M = false := by simpa [hA, hB] using hbad
      clear hbad
      have Hm := hid hm
      clear hm
      go_enter Tryz.func12, Tryz.ntmps12
      go_wp2_with fail
      refine (index19 l _).mono ?_
      rintro e w1 ⟨rfl, rfl⟩
      rw [HI.out]
      go_wp2_with fail
      refine (mediaR_any M _ (by omega)).mono ?_
      rintro e w1 ⟨rfl, hb1⟩
      rw [Hm.out]
      have hSl := (Slot.new w).below (by simp) hb1
      have hbw : Below w.heap.size w w1 := ((Below.refl _ w).alloc (Nat.le_refl _) _).trans (hb1.mono (by simp))
      obtain ⟨s0, s1, s2, s3, s4⟩ := hSl
      go_wp2_with fail
      refine (bare3_any _).mono ?_
      rintro e w2 ⟨rfl, rfl⟩
      go_wp2_with fail
      exact bodyPost_ret (v := undErr 3 (-1)) (by simp [results, Tryz.results12, go_sem, *]) rfl ⟨rfl, below_end hbw _ _ _⟩
set_option maxHeartbeats 1000000 in
set_option maxRecDepth 100000 in
theorem undR_err (l A B M R : List UInt8) (k : Nat) (a b : Int) (w : World) (hs : l.length ≤ 800) (hi : Lib.indexByte l 44 = k) (hk : k < l.length) (h12 : 12 ≤ k) (hM : M.length ≤ 800) (hR : R.length ≤ 800)
    (e1 : (⟨l.toArray⟩ : ByteArray).extract 0 5 = ⟨A.toArray⟩) (e2 : (⟨l.toArray⟩ : ByteArray).extract (k - 7) k = ⟨B.toArray⟩) (e3 : (⟨l.toArray⟩ : ByteArray).extract 5 (k - 7) = ⟨M.toArray⟩) (e4 : (⟨l.toArray⟩ : ByteArray).extract (k + 1) l.length = ⟨R.toArray⟩)
    (hA : (A == [100, 97, 116, 97, 58]) = true) (hB : (B == [59, 98, 97, 115, 101, 54, 52]) = true) (hm : medB M = true)
    (hu : unB R = .error (a, b)) (ha : (a == 0) = false) (hb1 : -1 ≤ b) (hb2 : b ≤ 800) (hL : Laid w) :
    Calls Tryz.prog 12 #[.string ⟨l.toArray⟩] w fun e w' => e = .returned (undErr a (b + (k + 1))) ∧ Below w.heap.size w w' := by
  have HI := hid hi
  clear hi
  have hd : (decide ((k : Int) < 12)) = false := by simp; omega
  have Hm := hid hm
  clear hm
  go_enter Tryz.func12, Tryz.ntmps12
  go_wp2_with fail
  refine (index19 l _).mono ?_
  rintro e w1 ⟨rfl, rfl⟩
  rw [HI.out]
  go_wp2_with fail
  refine (mediaR_any M _ (by omega)).mono ?_
  rintro e w1 ⟨rfl, hbb⟩
  rw [Hm.out]
  have hSl := (Slot.new w).below (by simp) hbb
  have hbw : Below w.heap.size w w1 := ((Below.refl _ w).alloc (Nat.le_refl _) _).trans (hbb.mono (by simp))
  have hL1 := hL.below hL.sz hbw
  go_wp2_with fail
  refine (unb64_any R _ (by omega) hL1).mono ?_
  rintro e w2 ⟨hu1, _, hbu⟩
  have he := hu1 _ hu
  subst he
  clear hu1
  have hSl2 := hSl.below (by exact hSl.lt) hbu
  have hbw2 : Below w.heap.size w w2 := hbw.trans (hbu.mono hbw.size)
  obtain ⟨s0, s1, s2, s3, s4⟩ := hSl2
  go_wp2_with fail
  refine (is_any a b _).mono ?_
  rintro e w3 ⟨rfl, rfl⟩
  rw [ha]
  go_wp2_with fail
  go_region
  all_goals (go_wp2_with fail)
  all_goals exact bodyPost_ret (v := undErr a (b + (k + 1))) (by simp [results, Tryz.results12, go_sem, *]) rfl ⟨rfl, Below.drew ((below_end hbw2 _ _ _).alloc (below_end hbw2 _ _ _).size _)⟩
set_option maxHeartbeats 1000000 in
set_option maxRecDepth 100000 in
theorem undR_ok (l A B M R : List UInt8) (k : Nat) (o : List UInt8) (w : World) (hs : l.length ≤ 800) (hi : Lib.indexByte l 44 = k) (hk : k < l.length) (h12 : 12 ≤ k) (hM : M.length ≤ 800) (hR : R.length ≤ 800)
    (e1 : (⟨l.toArray⟩ : ByteArray).extract 0 5 = ⟨A.toArray⟩) (e2 : (⟨l.toArray⟩ : ByteArray).extract (k - 7) k = ⟨B.toArray⟩) (e3 : (⟨l.toArray⟩ : ByteArray).extract 5 (k - 7) = ⟨M.toArray⟩) (e4 : (⟨l.toArray⟩ : ByteArray).extract (k + 1) l.length = ⟨R.toArray⟩)
    (hA : (A == [100, 97, 116, 97, 58]) = true) (hB : (B == [59, 98, 97, 115, 101, 54, 52]) = true) (hm : medB M = true)
    (hu : unB R = .ok o) (hL : Laid w) :
    Calls Tryz.prog 12 #[.string ⟨l.toArray⟩] w fun e w' => e = .returned (.tuple #[.string ⟨M.toArray⟩, .string ⟨o.toArray⟩, .agg #[.int .i64 0, .int .i64 (-1)]]) ∧ Below w.heap.size w w' := by
  have HI := hid hi
  clear hi
  have hd : (decide ((k : Int) < 12)) = false := by simp; omega
  have Hm := hid hm
  clear hm
  go_enter Tryz.func12, Tryz.ntmps12
  go_wp2_with fail
  refine (index19 l _).mono ?_
  rintro e w1 ⟨rfl, rfl⟩
  rw [HI.out]
  go_wp2_with fail
  refine (mediaR_any M _ (by omega)).mono ?_
  rintro e w1 ⟨rfl, hbb⟩
  rw [Hm.out]
  have hSl := (Slot.new w).below (by simp) hbb
  have hbw : Below w.heap.size w w1 := ((Below.refl _ w).alloc (Nat.le_refl _) _).trans (hbb.mono (by simp))
  have hL1 := hL.below hL.sz hbw
  go_wp2_with fail
  refine (unb64_any R _ (by omega) hL1).mono ?_
  rintro e w2 ⟨_, hu1, hbu⟩
  have he := hu1 _ hu
  subst he
  clear hu1
  have hSl2 := hSl.below (by exact hSl.lt) hbu
  have hbw2 : Below w.heap.size w w2 := hbw.trans (hbu.mono hbw.size)
  obtain ⟨s0, s1, s2, s3, s4⟩ := hSl2
  go_wp2_with fail
  refine (is_any 0 (-1) _).mono ?_
  rintro e w3 ⟨rfl, rfl⟩
  go_wp2_with fail
  go_region
  all_goals (go_wp2_with fail)
  all_goals exact bodyPost_ret (v := .tuple #[.string ⟨M.toArray⟩, .string ⟨o.toArray⟩, .agg #[.int .i64 0, .int .i64 (-1)]]) (by simp [results, Tryz.results12, go_sem, *]) rfl ⟨rfl, Below.drew ((below_end hbw2 _ _ _).alloc (below_end hbw2 _ _ _).size _)⟩
end Go.Proofs.YtchhmekjfnelcaaGreatDoor
