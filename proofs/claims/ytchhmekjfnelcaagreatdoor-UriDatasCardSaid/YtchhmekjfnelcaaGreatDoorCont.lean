/- strings.ContainsRune of the 64 signs, at every byte. -/
import Derived.Test.YtchhmekjfnelcaaGreatDoorShelf
import Derived.Test.YtchhmekjfnelcaaGreatDoorB64Plain
import Derived.BigQuiet
import Derived.Test.YtchhmekjfnelcaaGreatDoorPlac
import Derived.Deep.QuietTactic
import Derived.WalkKit
import Derived.BigCall
import Derived.WalkSpells
import Derived.WalkLawsBesides
namespace Go.Proofs.YtchhmekjfnelcaaGreatDoor
open Go.RowKit
theorem enc2 (n : Nat) (h0 : 128 ≤ n) (h1 : n < 256) : ∃ x y : UInt8, Utf8.encode (n : Int) = ⟨#[x, y]⟩ ∧ 128 ≤ y.toNat := by
  have hv : Utf8.valid (n : Int) = true := by unfold Utf8.valid; simp; omega
  refine ⟨UInt8.ofNat (192 + n / 64), UInt8.ofNat (128 + n % 64), ?_, by simp; omega⟩
  unfold Utf8.encode
  rw [if_pos hv]
  simp only [Int.toNat_natCast]
  rw [if_neg (by omega), if_pos (by omega)]
theorem quiet_add_same {P : Program} {f : FuncId} {args : Array Value} {w : World} {a n : Nat} {v : Value}
    (h : Calls P f args (w.drewN (a + n)) fun e w' => e = .returned v ∧ w' = w.drewN (a + n)) :
    Calls P f args (w.drewN (a + n)) fun e w'' => e = .returned v ∧ ∃ m, w'' = w.drewN (a + m) :=
  h.mono fun _ _ ⟨he, hm⟩ => ⟨he, n, hm⟩
theorem indexByte_none {c : UInt8} : ∀ {l : List UInt8}, (∀ b ∈ l, b ≠ c) → Lib.indexByte l c = -1
  | [], _ => rfl
  | b :: l, h => by
    have h1 : (b == c) = false := by simpa using h b (by simp)
    have h2 : Lib.indexByte l c = -1 := indexByte_none fun x hx => h x (by simp [hx])
    simp [Lib.indexByte, h1, h2]
theorem alpha_low : ∀ b ∈ alphaL, b.toNat < 128 := by decide
theorem cutL (l : List UInt8) (i j : Nat) : ((⟨l.toArray⟩ : ByteArray).extract i j).data.toList = (l.drop i).take (j - i) := by simp
theorem idx_high (x y : UInt8) (hy : 128 ≤ y.toNat) (w : World) : Calls Tryz.prog 19 #[.string ((⟨#[65, 66, 67, 68, 69, 70, 71, 72, 73, 74, 75, 76, 77, 78, 79, 80, 81, 82, 83, 84, 85, 86, 87, 88, 89, 90, 97, 98, 99, 100, 101, 102, 103, 104, 105, 106, 107, 108, 109, 110, 111, 112, 113, 114, 115, 116, 117, 118, 119, 120, 121, 122, 48, 49, 50, 51, 52, 53, 54, 55, 56, 57, 43, 47]⟩ : ByteArray).extract 2 64), .int .u8 (((⟨#[x, y]⟩ : ByteArray)[1]'(by decide : 1 < 2)).toNat : Int)] w fun e w' => e = .returned (.int .i64 (-1)) ∧ w' = w :=
  (Tryz.strings_IndexByte _ _ w).mono fun e w' h => by
    obtain ⟨rfl, rfl⟩ := h
    refine ⟨?_, rfl⟩
    have hc : (((⟨#[x, y]⟩ : ByteArray)[1]'(by decide : 1 < 2)).toNat : Int).toNat.toUInt8 = y := by
      show ((y.toNat : Int)).toNat.toUInt8 = y
      simp
    rw [hc, indexByte_none]
    intro b hb e
    have hm : b ∈ alphaL := by
      rw [show (⟨#[65, 66, 67, 68, 69, 70, 71, 72, 73, 74, 75, 76, 77, 78, 79, 80, 81, 82, 83, 84, 85, 86, 87, 88, 89, 90, 97, 98, 99, 100, 101, 102, 103, 104, 105, 106, 107, 108, 109, 110, 111, 112, 113, 114, 115, 116, 117, 118, 119, 120, 121, 122, 48, 49, 50, 51, 52, 53, 54, 55, 56, 57, 43, 47]⟩ : ByteArray) = ⟨alphaL.toArray⟩ from rfl, cutL] at hb
      exact List.mem_of_mem_drop (List.mem_of_mem_take hb)
    have := alpha_low b hm
    rw [e] at this
    omega
set_option maxHeartbeats 1000000 in
set_option maxRecDepth 1000000 in
theorem irune_high (n : Nat) (h0 : 128 ≤ n) (h1 : n < 256) (w : World) : Calls Tryz.prog 34 #[.string ⟨#[65, 66, 67, 68, 69, 70, 71, 72, 73, 74, 75, 76, 77, 78, 79, 80, 81, 82, 83, 84, 85, 86, 87, 88, 89, 90, 97, 98, 99, 100, 101, 102, 103, 104, 105, 106, 107, 108, 109, 110, 111, 112, 113, 114, 115, 116, 117, 118, 119, 120, 121, 122, 48, 49, 50, 51, 52, 53, 54, 55, 56, 57, 43, 47]⟩, .int .i32 (n : Int)] w fun e w' => e = .returned (.int .i64 (-1)) ∧ ∃ m, w' = w.drewN m := by
  have e1 : ((n : Int) == 65533) = false := by simp; omega
  have hvr : Lib.validRune (n : Int) = true := by unfold Lib.validRune; simp; omega
  obtain ⟨x, y, hen, hy⟩ := enc2 n h0 h1
  have Hen := hid hen
  clear hen
  have hyn : ((((⟨#[65, 66, 67, 68, 69, 70, 71, 72, 73, 74, 75, 76, 77, 78, 79, 80, 81, 82, 83, 84, 85, 86, 87, 88, 89, 90, 97, 98, 99, 100, 101, 102, 103, 104, 105, 106, 107, 108, 109, 110, 111, 112, 113, 114, 115, 116, 117, 118, 119, 120, 121, 122, 48, 49, 50, 51, 52, 53, 54, 55, 56, 57, 43, 47]⟩ : ByteArray)[1]'(by decide)).toNat : Int) != (((⟨#[x, y]⟩ : ByteArray)[1]'(by decide : 1 < 2)).toNat : Int)) = true := by
    show ((66 : Int) != (y.toNat : Int)) = true
    simp; omega
  have Hvr := hid hvr
  clear hvr
  have Hy := hid hy
  have Hyn := hid hyn
  clear hy hyn
  have hg : (128 : Int) ≤ (n : Int) := by omega
  go_enter Tryz.func34, Tryz.ntmps34
  go_wp2_with fail
  refine (Tryz.utf8_ValidRune _ w).mono ?_
  rintro e w1 ⟨rfl, rfl⟩
  rw [Hvr.out]
  have hen := Hen.out
  go_wp2_with fail
  go_step3
  go_wp2_with fail
  refine wp_loop_rounds 1 ?_
  rw [rounds_succ]
  go_wp2_with fail
  go_step3
  go_wp2_with fail
  have hy := Hy.out
  have hyn := Hyn.out
  go_quiet (fail)
  go_wp2_with fail
  go_quiet ((go_at_call 19; exact quiet_add_same (idx_high x y hy _)))
  go_wp2_with fail
  rw [Exit.noGoto_ret]
  go_wp2_with fail
  rw [Exit.noGoto_ret]
  go_wp2_with fail
  go_ret
  exact ⟨rfl, _, rfl⟩
set_option maxHeartbeats 1000000 in
set_option maxRecDepth 1000000 in
/-- strings.ContainsRune of the 64 signs: a byte is one of them, or not. -/
theorem contains_sign (c : UInt8) (w : World) : Calls Tryz.prog 16 #[.string ⟨#[65, 66, 67, 68, 69, 70, 71, 72, 73, 74, 75, 76, 77, 78, 79, 80, 81, 82, 83, 84, 85, 86, 87, 88, 89, 90, 97, 98, 99, 100, 101, 102, 103, 104, 105, 106, 107, 108, 109, 110, 111, 112, 113, 114, 115, 116, 117, 118, 119, 120, 121, 122, 48, 49, 50, 51, 52, 53, 54, 55, 56, 57, 43, 47]⟩, .int .i32 (c.toNat : Int)] w fun e w' => e = .returned (.bool (decide (0 ≤ dgt c))) ∧ Below w.heap.size w w' := by
  by_cases hc : c.toNat < 128
  · refine (Tryz.strings_ContainsRune_ascii _ _ w (by omega) (by omega)).mono fun e w' h => ?_
    obtain ⟨rfl, rfl⟩ := h
    refine ⟨?_, Below.refl _ _⟩
    rw [show ((c.toNat : Int)).toNat.toUInt8 = c from by simp]
    rfl
  · have hd : dgt c = -1 := indexByte_none fun b hb e => by
      have := alpha_low b hb
      rw [e] at this
      omega
    have HD := hid hd
    have h1 : 128 ≤ c.toNat := by omega
    have h2 := c.toNat_lt
    clear hd hc
    go_enter Tryz.func16, Tryz.ntmps16
    go_wp2_with fail
    refine (irune_high c.toNat h1 h2 _).mono ?_
    rintro e w1 ⟨rfl, m, rfl⟩
    go_wp2_with fail
    go_ret
    exact ⟨by rw [HD.out]; rfl, below_drewN' (Below.refl _ _) _⟩
end Go.Proofs.YtchhmekjfnelcaaGreatDoor
