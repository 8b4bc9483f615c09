/- Base64 in plain words: the letters, the encoder's list function, the decoder's, and small facts of arithmetic. No program in sight. -/
import Derived.WalkKit
import Derived.Lib.Bytealg
namespace Go.Proofs.YtchhmekjfnelcaaGreatDoor
open Go.RowKit
def alphaL : List UInt8 := [65, 66, 67, 68, 69, 70, 71, 72, 73, 74, 75, 76, 77, 78, 79, 80, 81, 82, 83, 84, 85, 86, 87, 88, 89, 90, 97, 98, 99, 100, 101, 102, 103, 104, 105, 106, 107, 108, 109, 110, 111, 112, 113, 114, 115, 116, 117, 118, 119, 120, 121, 122, 48, 49, 50, 51, 52, 53, 54, 55, 56, 57, 43, 47]
/-- A letter's number; -1: it is none. -/
def dgt (c : UInt8) : Int := Lib.indexByte alphaL c
theorem dgt_cases_all : ∀ n : Fin 256, dgt (UInt8.ofNat n.val) = -1 ∨ (0 ≤ dgt (UInt8.ofNat n.val) ∧ dgt (UInt8.ofNat n.val) < 64 ∧ n.val ≠ 61) := by decide +kernel
theorem dgt_cases (c : UInt8) : dgt c = -1 ∨ (0 ≤ dgt c ∧ dgt c < 64 ∧ c ≠ 61) := by
  have h := dgt_cases_all ⟨c.toNat, c.toNat_lt⟩
  simp only [UInt8.ofNat_toNat] at h
  rcases h with h | ⟨h1, h2, h3⟩
  · exact .inl h
  · exact .inr ⟨h1, h2, fun e => h3 (by rw [e]; rfl)⟩
theorem dgt_eq61 : dgt 61 = -1 := by decide +kernel
/-- The three bytes of 24 bits. -/
def by0 (n : Nat) : UInt8 := UInt8.ofNat (n / 65536)
def by1 (n : Nat) : UInt8 := UInt8.ofNat (n / 256)
def by2 (n : Nat) : UInt8 := UInt8.ofNat n
def num (a b c d : Nat) : Nat := ((a * 64 + b) * 64 + c) * 64 + d
/-- The decoder from a place on, with what is there already; an error: its place. -/
def decR : Nat → List UInt8 → List UInt8 → Except Nat (List UInt8)
  | i, acc, c0 :: c1 :: c2 :: c3 :: r =>
    if dgt c0 < 0 then .error i else
    if dgt c1 < 0 then .error (i + 1) else
    if r = [] ∧ c3 = 61 ∧ c2 = 61 then
      (if num (dgt c0).toNat (dgt c1).toNat 0 0 % 65536 = 0 then .ok (acc ++ [by0 (num (dgt c0).toNat (dgt c1).toNat 0 0)]) else .error (i + 1))
    else if dgt c2 < 0 then .error (i + 2) else
    if r = [] ∧ c3 = 61 then
      (if num (dgt c0).toNat (dgt c1).toNat (dgt c2).toNat 0 % 256 = 0 then .ok (acc ++ [by0 (num (dgt c0).toNat (dgt c1).toNat (dgt c2).toNat 0), by1 (num (dgt c0).toNat (dgt c1).toNat (dgt c2).toNat 0)]) else .error (i + 2))
    else if dgt c3 < 0 then .error (i + 3) else
    decR (i + 4) (acc ++ [by0 (num (dgt c0).toNat (dgt c1).toNat (dgt c2).toNat (dgt c3).toNat), by1 (num (dgt c0).toNat (dgt c1).toNat (dgt c2).toNat (dgt c3).toNat), by2 (num (dgt c0).toNat (dgt c1).toNat (dgt c2).toNat (dgt c3).toNat)]) r
  | _, acc, _ => .ok acc
/-- Decode, whole: an error is its number and its place. -/
def decB (l : List UInt8) : Except (Int × Int) (List UInt8) :=
  if l.length % 4 = 0 then (match decR 0 [] l with | .ok o => .ok o | .error i => .error (3, (i : Int))) else .error (7, (l.length : Int))

theorem wraps_i64 (n : Int) (h₀ : 0 ≤ n) (h₁ : n < 2 ^ 63) : IntKind.i64.wrap n = n := by rw [IntKind.wrap_i64]; omega
theorem or64 (x y : Int) (h0 : 0 ≤ x) (h1 : x < 2 ^ 40) (h2 : 0 ≤ y) (h3 : y < 64) : bits .or .i64 (x * 64) y = x * 64 + y :=
  bits_join .i64 63 (by decide) wraps_i64 6 (x * 64) y (by omega) (by simp) (by omega) (by omega) (by omega) (by omega)
theorem or64z (y : Int) (h2 : 0 ≤ y) (h3 : y < 64) : bits .or .i64 0 y = y := by
  have := or64 0 y (by omega) (by omega) h2 h3
  simpa using this
theorem and65535 (x : Int) (h0 : 0 ≤ x) (h1 : x < 2 ^ 63) : bits .and .i64 x 65535 = x % 65536 :=
  bits_mask .i64 63 (by decide) wraps_i64 16 (by decide) x h0 h1
theorem and255 (x : Int) (h0 : 0 ≤ x) (h1 : x < 2 ^ 63) : bits .and .i64 x 255 = x % 256 :=
  bits_mask .i64 63 (by decide) wraps_i64 8 (by decide) x h0 h1
theorem by0_nat (n : Nat) : ((by0 n).toNat : Int) = (n / 65536 : Nat) % 256 := by simp [by0]
theorem by1_nat (n : Nat) : ((by1 n).toNat : Int) = (n / 256 : Nat) % 256 := by simp [by1]
theorem by2_nat (n : Nat) : ((by2 n).toNat : Int) = (n : Int) % 256 := by simp [by2]
theorem drop_four {l : List UInt8} {i : Nat} (h : i + 4 ≤ l.length) : ∃ c0 c1 c2 c3, l.drop i = c0 :: c1 :: c2 :: c3 :: l.drop (i + 4) ∧ (∀ h, (⟨l.toArray⟩ : ByteArray)[i]'h = c0) ∧ (∀ h, (⟨l.toArray⟩ : ByteArray)[i + 1]'h = c1) ∧ (∀ h, (⟨l.toArray⟩ : ByteArray)[i + 2]'h = c2) ∧ (∀ h, (⟨l.toArray⟩ : ByteArray)[i + 3]'h = c3) := by
  refine ⟨l[i]'(by omega), l[i+1]'(by omega), l[i+2]'(by omega), l[i+3]'(by omega), ?_, fun _ => rfl, fun _ => rfl, fun _ => rfl, fun _ => rfl⟩
  rw [List.drop_eq_getElem_cons (by omega), List.drop_eq_getElem_cons (by omega), List.drop_eq_getElem_cons (by omega), List.drop_eq_getElem_cons (by omega)]
end Go.Proofs.YtchhmekjfnelcaaGreatDoor
