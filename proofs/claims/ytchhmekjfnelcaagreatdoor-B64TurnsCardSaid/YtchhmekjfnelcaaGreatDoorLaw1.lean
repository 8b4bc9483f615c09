/- The law B64Turns walked: at every text it returns true. -/
import Derived.Test.YtchhmekjfnelcaaGreatDoorDecEq
import Derived.Test.YtchhmekjfnelcaaGreatDoorPlac
namespace Go.Proofs.YtchhmekjfnelcaaGreatDoor
open Go.RowKit
theorem ErrAt.cells {w w' : World} {v : Value} {c p : Int} (h : ErrAt w w' v c p) : ∃ b, v = .iface 52 (.pointer (some ⟨b, 0, none⟩)) ∧ w'.cell? ⟨b, 0, none⟩ = some (.int .i64 c) ∧ w'.cell? ⟨b, 1, none⟩ = some (.int .i64 p) ∧ b < w'.heap.size := by
  obtain ⟨b, rfl, _, hb⟩ := h
  refine ⟨b, rfl, ?_, ?_, (Array.getElem?_eq_some_iff.1 hb).1⟩
  · simp [World.cell?, hb]
  · simp [World.cell?, hb]
set_option maxHeartbeats 1000000 in
set_option maxRecDepth 100000 in
theorem law_short (l : List UInt8) (w : World) (hs : l.length ≤ 500) (hL : Laid w) :
    Calls Tryz.prog 3 #[.string ⟨l.toArray⟩] w fun e w' => e = .returned (.bool true) ∧ Below w.heap.size w w' := by
  have henc : (encL l == encL l) = true := by simp
  go_enter Tryz.func3, Tryz.ntmps3
  go_wp2_with fail
  refine (unb64_any l _ (by omega) hL).mono ?_
  rintro e w1 ⟨hu1, hu2, hb1⟩
  have hL1 := hL.below hL.sz hb1
  rw [← dec_law] at hu1 hu2
  rcases hdec : decB l with ⟨a, b⟩ | o
  · have he := hu1 _ hdec
    subst he
    clear hu1 hu2
    have HD := hid hdec
    clear hdec
    go_wp2_with fail
    refine (decode_any l _ (by omega)).mono ?_
    rintro e w2 ⟨h1, h2, hb2⟩
    obtain ⟨v, rfl, hv⟩ := h1 _ HD.out
    clear h1 h2
    obtain ⟨bk, rfl, hc0, hc1, hbl⟩ := hv.cells
    clear hv
    simp only at hc0 hc1
    have hx0 : w2.cell? ⟨w1.heap.size, 0, none⟩ = some (.int .i64 a) := by rw [hb2.cell (p := ⟨w1.heap.size, 0, none⟩) (by simp)]; simp
    have hx1 : w2.cell? ⟨w1.heap.size, 1, none⟩ = some (.int .i64 b) := by rw [hb2.cell (p := ⟨w1.heap.size, 1, none⟩) (by simp)]; simp
    have hb12 : Below w.heap.size w w2 := (hb1.alloc hb1.size _).trans (hb2.mono (by simp; exact Nat.le_succ_of_le hb1.size))
    have hl2 : w1.heap.size < w2.heap.size := by have := hb2.size; simp at this; omega
    have hL2 := hL.below hL.sz hb12
    go_wp2_with fail
    refine (encode_any l _ (by omega)).mono ?_
    rintro e w3 ⟨rfl, hb3⟩
    have hb13 := hb12.trans (hb3.mono hb12.size)
    have hL3 := hL.below hL.sz hb13
    go_wp2_with fail
    refine (refB64_any l _ (by omega) hL3).mono ?_
    rintro e w4 ⟨rfl, hb4⟩
    rw [enc_eq]
    have hb14 := hb13.trans (hb4.mono hb13.size)
    have hL4 := hL.below hL.sz hb14
    have hb24 := hb3.trans (hb4.mono hb3.size)
    have hy0 : w4.cell? ⟨w1.heap.size, 0, none⟩ = some (.int .i64 a) := by rw [hb24.cell (p := ⟨w1.heap.size, 0, none⟩) hl2]; exact hx0
    have hy1 : w4.cell? ⟨w1.heap.size, 1, none⟩ = some (.int .i64 b) := by rw [hb24.cell (p := ⟨w1.heap.size, 1, none⟩) hl2]; exact hx1
    have hz0 : w4.cell? ⟨bk, 0, none⟩ = some (.int .i64 a) := by rw [hb24.cell (p := ⟨bk, 0, none⟩) hbl]; exact hc0
    have hz1 : w4.cell? ⟨bk, 1, none⟩ = some (.int .i64 b) := by rw [hb24.cell (p := ⟨bk, 1, none⟩) hbl]; exact hc1
    go_wp2_with fail
    refine (placed_ptr bk a b _ hL4.e4 (by have := hL4.sz; omega) hz0 hz1 (Nat.lt_of_lt_of_le hbl hb24.size)).mono ?_
    rintro e w5 ⟨rfl, hb5⟩
    go_wp2_with fail
    go_ret
    exact ⟨rfl, hb14.trans (hb5.mono hb14.size)⟩
  · have he := hu2 _ hdec
    subst he
    clear hu1 hu2
    have HD := hid hdec
    clear hdec
    have hoo : (o == o) = true := by simp
    go_wp2_with fail
    refine (decode_any l _ (by omega)).mono ?_
    rintro e w2 ⟨h1, h2, hb2⟩
    have he := h2 _ HD.out
    subst he
    clear h1 h2
    have hx0 : w2.cell? ⟨w1.heap.size, 0, none⟩ = some (.int .i64 0) := by rw [hb2.cell (p := ⟨w1.heap.size, 0, none⟩) (by simp)]; simp
    have hx1 : w2.cell? ⟨w1.heap.size, 1, none⟩ = some (.int .i64 (-1)) := by rw [hb2.cell (p := ⟨w1.heap.size, 1, none⟩) (by simp)]; simp
    have hb12 : Below w.heap.size w w2 := (hb1.alloc hb1.size _).trans (hb2.mono (by simp; exact Nat.le_succ_of_le hb1.size))
    have hl2 : w1.heap.size < w2.heap.size := by have := hb2.size; simp at this; omega
    have hL2 := hL.below hL.sz hb12
    go_wp2_with fail
    refine (encode_any l _ (by omega)).mono ?_
    rintro e w3 ⟨rfl, hb3⟩
    have hb13 := hb12.trans (hb3.mono hb12.size)
    have hL3 := hL.below hL.sz hb13
    go_wp2_with fail
    refine (refB64_any l _ (by omega) hL3).mono ?_
    rintro e w4 ⟨rfl, hb4⟩
    rw [enc_eq]
    have hb14 := hb13.trans (hb4.mono hb13.size)
    have hb24 := hb3.trans (hb4.mono hb3.size)
    have hy0 : w4.cell? ⟨w1.heap.size, 0, none⟩ = some (.int .i64 0) := by rw [hb24.cell (p := ⟨w1.heap.size, 0, none⟩) hl2]; exact hx0
    have hy1 : w4.cell? ⟨w1.heap.size, 1, none⟩ = some (.int .i64 (-1)) := by rw [hb24.cell (p := ⟨w1.heap.size, 1, none⟩) hl2]; exact hx1
    go_wp2_with fail
    refine (placed_nil _).mono ?_
    rintro e w5 ⟨rfl, hb5⟩
    go_wp2_with fail
    go_ret
    exact ⟨rfl, hb14.trans (hb5.mono hb14.size)⟩
set_option maxRecDepth 100000 in
theorem law_any (s : ByteArray) (w : World) (hL : Laid w) : Calls Tryz.prog 3 #[.string s] w fun e w' => e = .returned (.bool true) ∧ Below w.heap.size w w' := by
  by_cases hs : s.size ≤ 500
  · have h := law_short s.data.toList w (by simpa using hs) hL
    simpa using h
  · have hs' : (500 : Int) < (s.size : Int) := by omega
    go_enter Tryz.func3, Tryz.ntmps3
    go_wp2_with fail
    go_ret
    exact ⟨rfl, Below.refl _ _⟩
end Go.Proofs.YtchhmekjfnelcaaGreatDoor
