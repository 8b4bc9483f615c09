/- Plain laws for UriDatas: where the comma stands, what stands ahead of it, what the decoder's errors may be. No program in sight. -/
import Derived.Test.YtchhmekjfnelcaaGreatDoorUnu
import Derived.Test.YtchhmekjfnelcaaGreatDoorUnr
namespace Go.Proofs.YtchhmekjfnelcaaGreatDoor
theorem idx_cases (c : UInt8) : ∀ l : List UInt8, Lib.indexByte l c = -1 ∨ ∃ k : Nat, Lib.indexByte l c = k ∧ k < l.length
  | [] => .inl rfl
  | b :: l => by
    unfold Lib.indexByte
    by_cases h : b = c
    · exact .inr ⟨0, by simp [h], by simp⟩
    · rcases idx_cases c l with h1 | ⟨k, h1, h2⟩
      · exact .inl (by simp [h, h1])
      · refine .inr ⟨k + 1, ?_, by simpa using h2⟩
        rw [if_neg (by simpa using h), h1, if_neg (by simp <;> omega)]
        simp
theorem pre_iff (H : List UInt8) : Lib.hasPrefix H preD = true ↔ H.take 5 = preD := by
  unfold Lib.hasPrefix
  rw [List.isPrefixOf_iff_prefix, List.prefix_iff_eq_take]
  exact ⟨fun h => h.symm, fun h => h.symm⟩
theorem suf_iff (K : List UInt8) : Lib.hasSuffix K sufS = true ↔ 7 ≤ K.length ∧ K.drop (K.length - 7) = sufS := by
  unfold Lib.hasSuffix
  rw [List.isSuffixOf_iff_suffix, List.suffix_iff_eq_drop]
  constructor
  · intro h
    have hl := congrArg List.length h
    simp only [List.length_drop, List.length_cons, List.length_nil] at hl
    exact ⟨by omega, h.symm⟩
  · exact fun h => h.2.symm
theorem uri_good {l : List UInt8} {k : Nat} (hk : k < l.length) :
    (12 ≤ k ∧ l.take 5 = preD ∧ (l.drop (k - 7)).take 7 = sufS) ↔ (Lib.hasPrefix (l.take k) preD = true ∧ Lib.hasSuffix (Lib.trimPrefix (l.take k) preD) sufS = true) := by
  have hlen : (l.take k).length = k := by rw [List.length_take]; omega
  constructor
  · rintro ⟨h12, hA, hB⟩
    have hp : Lib.hasPrefix (l.take k) preD = true := by
      rw [pre_iff, List.take_take, Nat.min_eq_left (by omega)]; exact hA
    refine ⟨hp, ?_⟩
    unfold Lib.trimPrefix
    rw [if_pos hp, suf_iff]
    refine ⟨by rw [List.length_drop, hlen]; simp; omega, ?_⟩
    rw [List.length_drop, hlen, List.drop_drop, ← hB, List.drop_take]
    congr 1
    · simp; omega
    · congr 1; simp; omega
  · rintro ⟨hp, hq⟩
    unfold Lib.trimPrefix at hq
    rw [if_pos hp, suf_iff] at hq
    rw [pre_iff] at hp
    have h5 : 5 ≤ k := by
      have := congrArg List.length hp
      rw [List.length_take, hlen] at this
      simp at this
      omega
    obtain ⟨q1, q2⟩ := hq
    rw [List.length_drop, hlen] at q1 q2
    simp only [List.length_cons, List.length_nil] at q1 q2
    refine ⟨by omega, ?_, ?_⟩
    · rw [← hp, List.take_take, Nat.min_eq_left (by omega)]
    · rw [← q2, List.drop_drop, List.drop_take]
      congr 1
      · omega
      · congr 1; omega
theorem uri_media {l : List UInt8} {k : Nat} (hk : k < l.length) (hp : Lib.hasPrefix (l.take k) preD = true) (hq : Lib.hasSuffix (Lib.trimPrefix (l.take k) preD) sufS = true) :
    Lib.trimSuffix (Lib.trimPrefix (l.take k) preD) sufS = (l.drop 5).take (k - 7 - 5) := by
  have hlen : (l.take k).length = k := by rw [List.length_take]; omega
  have h12 := ((uri_good hk).2 ⟨hp, hq⟩).1
  unfold Lib.trimSuffix
  rw [if_pos hq]
  unfold Lib.trimPrefix
  rw [if_pos hp, List.length_drop, hlen, List.drop_take, List.take_take]
  congr 1
  simp
  omega
theorem firstBad_lt : ∀ (l : List UInt8) (i j : Nat), firstBad i l = some j → j < i + l.length
  | [], _, _, h => by cases h
  | c :: r, i, j, h => by
    unfold firstBad at h
    split at h
    · cases h; simp
    · have := firstBad_lt r (i + 1) j h
      simp; omega
theorem bodyOf_len (l : List UInt8) : (bodyOf l).length ≤ l.length := by
  unfold bodyOf
  split
  · exact Nat.le_refl _
  · exact Nat.le_trans (trim_len _ _) (trim_len _ _)
theorem unB_bounds {l : List UInt8} {a b : Int} (h : unB l = .error (a, b)) : (a == 0) = false ∧ -1 ≤ b ∧ b ≤ l.length := by
  have hbl := bodyOf_len l
  unfold unB at h
  split at h
  · split at h
    · rename_i i hi
      have := firstBad_lt _ _ _ hi
      cases h
      exact ⟨rfl, by omega, by omega⟩
    · split at h
      · cases h
        exact ⟨rfl, by omega, by omega⟩
      · cases h
  · cases h
    exact ⟨rfl, by omega, by omega⟩
end Go.Proofs.YtchhmekjfnelcaaGreatDoor
