/- The law UriDatas walked: at every three texts, each of at most 2^60 bytes, it returns true. -/
import Derived.Test.YtchhmekjfnelcaaGreatDoorUndEq
import Derived.Test.YtchhmekjfnelcaaGreatDoorDecEq
namespace Go.Proofs.YtchhmekjfnelcaaGreatDoor
open Go.RowKit
/-- Both sides of Data say the same, and the law's 'bare' finds it so. -/
theorem data_both (k b : List UInt8) (hk : k.length ≤ 800) (hb : b.length ≤ 800) : ∃ (D : List UInt8) (c : Int) (v : Value),
    (∀ w, Laid w → Calls Tryz.prog 10 #[.string ⟨k.toArray⟩, .string ⟨b.toArray⟩] w fun e w' => e = .returned (.tuple #[.string ⟨D.toArray⟩, .int .i64 c]) ∧ Below w.heap.size w w') ∧
    (∀ w, Calls Tryz.prog 11 #[.string ⟨k.toArray⟩, .string ⟨b.toArray⟩] w fun e w' => e = .returned (.tuple #[.string ⟨D.toArray⟩, v]) ∧ Below w.heap.size w w') ∧
    (∀ w, Laid w → Calls Tryz.prog 14 #[v, .int .i64 c] w fun e w' => e = .returned (.bool true) ∧ Below w.heap.size w w') := by
  by_cases hm : medB k = true
  · refine ⟨(dataS k (encL b)).data.toList, 0, .nilIface, ?_, ?_, ?_⟩
    · intro w hL
      refine (dataR_yes k b w hk hb hm hL).mono ?_
      rintro e w' ⟨rfl, h⟩
      rw [enc_eq]
      exact ⟨rfl, h⟩
    · exact fun w => data_yes k b w hk hb hm
    · intro w _
      refine (bare_nil w).mono ?_
      rintro e w' ⟨rfl, rfl⟩
      exact ⟨rfl, Below.refl _ _⟩
  · have hm' : medB k = false := by simpa using hm
    refine ⟨[], 3, .iface 22 (.int .i64 3), ?_, ?_, ?_⟩
    · exact fun w _ => dataR_no k b w hk hm'
    · intro w
      refine (data_no k b w hk hm').mono ?_
      rintro e w' ⟨rfl, rfl⟩
      exact ⟨rfl, Below.refl _ _⟩
    · exact fun w hL => bare_ern 3 w hL.e4 (by have := hL.sz; omega)
/-- The law's 'placed' finds this error and this fault the same, whatever is done behind. -/
def Found (w' : World) (v : Value) (a b : Int) : Prop := ∀ w2, Below w'.heap.size w' w2 → Laid w2 → Calls Tryz.prog 9 #[v, .agg #[.int .i64 a, .int .i64 b]] w2 fun e w3 => e = .returned (.bool true) ∧ Below w2.heap.size w2 w3
theorem found_ern (w' : World) (c : Int) : Found w' (.iface 22 (.int .i64 c)) c (-1) := fun w2 _ hL => placed_ern c w2 hL.e4 (by have := hL.sz; omega)
theorem found_nil (w' : World) : Found w' .nilIface 0 (-1) := fun w2 _ _ => placed_nil w2
theorem found_at {w w' : World} {v : Value} {a b : Int} (h : ErrAt w w' v a b) : Found w' v a b := by
  obtain ⟨bk, rfl, h0, h1, hl⟩ := errAt_parts h
  intro w2 hb hL
  exact placed_ptr bk a b w2 hL.e4 (by have := hL.sz; omega) (by rw [hb.cell (p := ⟨bk, 0, none⟩) hl]; exact h0) (by rw [hb.cell (p := ⟨bk, 1, none⟩) hl]; exact h1) (Nat.lt_of_lt_of_le hl hb.size)
/-- Both sides of Undata say the same. -/
theorem und_both (l : List UInt8) (hs : l.length ≤ 800) : ∃ (x y : List UInt8) (a b : Int),
    (∀ w, Laid w → Calls Tryz.prog 12 #[.string ⟨l.toArray⟩] w fun e w' => e = .returned (.tuple #[.string ⟨x.toArray⟩, .string ⟨y.toArray⟩, .agg #[.int .i64 a, .int .i64 b]]) ∧ Below w.heap.size w w') ∧
    (∀ w, Calls Tryz.prog 13 #[.string ⟨l.toArray⟩] w fun e w' => (∃ v, e = .returned (.tuple #[.string ⟨x.toArray⟩, .string ⟨y.toArray⟩, v]) ∧ Found w' v a b) ∧ Below w.heap.size w w') := by
  rcases idx_cases 44 l with hi | ⟨k, hi, hk⟩
  · refine ⟨[], [], 3, -1, fun w _ => undR_short l w (by omega), fun w => ?_⟩
    refine (undU_none l w hi).mono ?_
    rintro e w' ⟨rfl, h⟩
    exact ⟨⟨_, rfl, found_ern _ _⟩, h⟩
  · have hgood := uri_good hk
    obtain ⟨H, hH⟩ : ∃ H, l.take k = H := ⟨_, rfl⟩
    obtain ⟨R, hR⟩ : ∃ R, l.drop (k + 1) = R := ⟨_, rfl⟩
    obtain ⟨K, hK⟩ : ∃ K, Lib.trimPrefix H preD = K := ⟨_, rfl⟩
    obtain ⟨M, hM⟩ : ∃ M, Lib.trimSuffix K sufS = M := ⟨_, rfl⟩
    have hHl : H.length = k := by rw [← hH, List.length_take]; omega
    have hRl : R.length ≤ 800 := by rw [← hR, List.length_drop]; omega
    have hKl : K.length ≤ 800 := by
      rw [← hK]
      unfold Lib.trimPrefix
      split
      · rw [List.length_drop]; omega
      · omega
    have hMl : M.length ≤ 800 := by rw [← hM]; exact Nat.le_trans (trim_len _ _) hKl
    by_cases hall : Lib.hasPrefix H preD = true ∧ Lib.hasSuffix K sufS = true ∧ medB M = true
    · obtain ⟨hp, hq, hm⟩ := hall
      have hg := hgood.2 (by rw [hH, hK]; exact ⟨hp, hq⟩)
      have hmm := uri_media hk (by rw [hH]; exact hp) (by rw [hH, hK]; exact hq)
      rw [hH, hK, hM] at hmm
      have e1 : (⟨l.toArray⟩ : ByteArray).extract 0 5 = ⟨(l.take 5).toArray⟩ := by rw [ba_cut]; simp
      have e2 : (⟨l.toArray⟩ : ByteArray).extract (k - 7) k = ⟨((l.drop (k - 7)).take 7).toArray⟩ := by rw [ba_cut, show k - (k - 7) = 7 by omega]
      have e3 : (⟨l.toArray⟩ : ByteArray).extract 5 (k - 7) = ⟨M.toArray⟩ := by rw [ba_cut, hmm]
      have e4 : (⟨l.toArray⟩ : ByteArray).extract (k + 1) l.length = ⟨R.toArray⟩ := by rw [ba_cut, hR, List.take_of_length_le (by rw [← hR, List.length_drop]; omega)]
      have hA : (l.take 5 == [100, 97, 116, 97, 58]) = true := by rw [hg.2.1]; decide
      have hB : ((l.drop (k - 7)).take 7 == [59, 98, 97, 115, 101, 54, 52]) = true := by rw [hg.2.2]; decide
      rcases hd : decB R with ⟨a, b⟩ | o
      · have hu : unB R = .error (a, b) := by rw [← dec_law]; exact hd
        obtain ⟨u1, u2, u3⟩ := unB_bounds hu
        refine ⟨[], [], a, b + (k + 1), fun w hL => undR_err l _ _ M R k a b w hs hi hk hg.1 hMl hRl e1 e2 e3 e4 hA hB hm hu u1 u2 (by omega) hL, fun w => ?_⟩
        refine (undU_err l H R K M a b k w hs hi hk hH hHl hR hK hM hKl hMl hRl hp hq hm hd u2 (by omega)).mono ?_
        rintro e w' ⟨⟨v, rfl, hv⟩, h⟩
        exact ⟨⟨v, rfl, found_at hv⟩, h⟩
      · have hu : unB R = .ok o := by rw [← dec_law]; exact hd
        refine ⟨M, o, 0, -1, fun w hL => undR_ok l _ _ M R k o w hs hi hk hg.1 hMl hRl e1 e2 e3 e4 hA hB hm hu hL, fun w => ?_⟩
        refine (undU_ok l H R K M o k w hs hi hk hH hR hK hM hKl hMl hRl hp hq hm hd).mono ?_
        rintro e w' ⟨rfl, h⟩
        exact ⟨⟨_, rfl, found_nil _⟩, h⟩
    · refine ⟨[], [], 3, -1, fun w hL => ?_, fun w => ?_⟩
      · by_cases h12 : 12 ≤ k
        · refine undR_bad l (l.take 5) ((l.drop (k - 7)).take 7) ((l.drop 5).take (k - 7 - 5)) k w hs hi hk h12 (by rw [List.length_take, List.length_drop]; omega) (by rw [ba_cut]; simp) (by rw [ba_cut, show k - (k - 7) = 7 by omega]) (by rw [ba_cut]) ?_
          rintro ⟨x1, x2, x3⟩
          have hg := hgood.1 ⟨h12, by simpa using x1, by simpa using x2⟩
          have hmm := uri_media hk hg.1 hg.2
          rw [hH, hK, hM] at hmm
          rw [hH, hK] at hg
          exact hall ⟨hg.1, hg.2, by rw [hmm]; exact x3⟩
        · exact undR_short l w (by omega)
      · refine (undU_bad l H R K M k w hs hi hk hH hR hK hM hKl hMl hall).mono ?_
        rintro e w' ⟨rfl, h⟩
        exact ⟨⟨_, rfl, found_ern _ _⟩, h⟩
set_option maxHeartbeats 1000000 in
set_option maxRecDepth 100000 in
theorem uri_short (k b l : List UInt8) (w : World) (hs : k.length + b.length + l.length ≤ 800) (hL : Laid w) :
    Calls Tryz.prog 4 #[.string ⟨k.toArray⟩, .string ⟨b.toArray⟩, .string ⟨l.toArray⟩] w fun e w' => e = .returned (.bool true) ∧ Below w.heap.size w w' := by
  obtain ⟨D, c, v, d1, d2, d3⟩ := data_both k b (by omega) (by omega)
  obtain ⟨x, y, a, p, u1, u2⟩ := und_both l (by omega)
  have hDD : (D == D) = true := by simp
  have hxx : (x == x) = true := by simp
  have hyy : (y == y) = true := by simp
  have T1 := hid d1
  have T2 := hid d2
  have T3 := hid d3
  have T4 := hid u1
  have T5 := hid u2
  clear d1 d2 d3 u1 u2
  go_enter Tryz.func4, Tryz.ntmps4
  go_wp2_with fail
  refine (T1.out _ hL).mono ?_
  rintro e w1 ⟨rfl, hb1⟩
  have hL1 := hL.below hL.sz hb1
  go_wp2_with fail
  refine (T2.out _).mono ?_
  rintro e w2 ⟨rfl, hb2⟩
  have hb12 := hb1.trans (hb2.mono hb1.size)
  have hL2 := hL.below hL.sz hb12
  go_wp2_with fail
  refine (T4.out _ hL2).mono ?_
  rintro e w3 ⟨rfl, hb3⟩
  have hb13 := hb12.trans (hb3.mono hb12.size)
  have hL3 := hL.below hL.sz hb13
  go_wp2_with fail
  refine (T5.out _).mono ?_
  rintro e w4 ⟨⟨z, rfl, hz⟩, hb4⟩
  have hx0 : w4.cell? ⟨w3.heap.size, 0, none⟩ = some (.int .i64 a) := by rw [hb4.cell (p := ⟨w3.heap.size, 0, none⟩) (by simp)]; simp
  have hx1 : w4.cell? ⟨w3.heap.size, 1, none⟩ = some (.int .i64 p) := by rw [hb4.cell (p := ⟨w3.heap.size, 1, none⟩) (by simp)]; simp
  have hb14 : Below w.heap.size w w4 := (hb13.alloc hb13.size _).trans (hb4.mono (by simp; exact Nat.le_succ_of_le hb13.size))
  have hl3 : w3.heap.size < w4.heap.size := by have := hb4.size; simp at this; omega
  have hL4 := hL.below hL.sz hb14
  go_wp2_with fail
  refine (T3.out _ hL4).mono ?_
  rintro e w5 ⟨rfl, hb5⟩
  have hy0 : w5.cell? ⟨w3.heap.size, 0, none⟩ = some (.int .i64 a) := by rw [hb5.cell (p := ⟨w3.heap.size, 0, none⟩) hl3]; exact hx0
  have hy1 : w5.cell? ⟨w3.heap.size, 1, none⟩ = some (.int .i64 p) := by rw [hb5.cell (p := ⟨w3.heap.size, 1, none⟩) hl3]; exact hx1
  have hb15 := hb14.trans (hb5.mono hb14.size)
  have hL5 := hL.below hL.sz hb15
  have HF := hid hz
  clear hz
  go_wp2_with fail
  refine (HF.out _ hb5 hL5).mono ?_
  rintro e w6 ⟨rfl, hb6⟩
  go_wp2_with fail
  go_ret
  exact ⟨rfl, hb15.trans (hb6.mono hb15.size)⟩
set_option maxRecDepth 100000 in
theorem uri_any (s t u : ByteArray) (w : World) (h1 : s.size ≤ 1152921504606846976) (h2 : t.size ≤ 1152921504606846976) (h3 : u.size ≤ 1152921504606846976) (hL : Laid w) : Calls Tryz.prog 4 #[.string s, .string t, .string u] w fun e w' => e = .returned (.bool true) ∧ Below w.heap.size w w' := by
  by_cases hs : s.size + t.size + u.size ≤ 800
  · have h := uri_short s.data.toList t.data.toList u.data.toList w (by simpa using hs) hL
    simpa using h
  · have hs' : (800 : Int) < (s.size : Int) + t.size + u.size := by omega
    go_enter Tryz.func4, Tryz.ntmps4
    go_wp2_with fail
    go_ret
    exact ⟨rfl, Below.refl _ _⟩
end Go.Proofs.YtchhmekjfnelcaaGreatDoor
