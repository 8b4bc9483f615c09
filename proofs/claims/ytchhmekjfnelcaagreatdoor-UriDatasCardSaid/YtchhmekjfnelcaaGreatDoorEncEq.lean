/- Plain laws on base64: the encoders agree, the decoders agree. No program in sight. -/
import Derived.Test.YtchhmekjfnelcaaGreatDoorRefB
namespace Go.Proofs.YtchhmekjfnelcaaGreatDoor
theorem binL8 (n : Nat) : binL 8 n = [UInt8.ofNat (48 + n / 128 % 2), UInt8.ofNat (48 + n / 64 % 2), UInt8.ofNat (48 + n / 32 % 2), UInt8.ofNat (48 + n / 16 % 2), UInt8.ofNat (48 + n / 8 % 2), UInt8.ofNat (48 + n / 4 % 2), UInt8.ofNat (48 + n / 2 % 2), UInt8.ofNat (48 + n % 2)] := by
  simp [binL, List.range, List.range.loop]
theorem bit_val (x : Nat) : (UInt8.ofNat (48 + x % 2)).toNat - 48 = x % 2 := by
  rcases Nat.mod_two_eq_zero_or_one x with h | h <;> rw [h] <;> rfl
theorem bval6 (a b c d e f : UInt8) : bval [a, b, c, d, e, f] = (((((a.toNat - 48) * 2 + (b.toNat - 48)) * 2 + (c.toNat - 48)) * 2 + (d.toNat - 48)) * 2 + (e.toNat - 48)) * 2 + (f.toNat - 48) := by
  simp [bval]
theorem bitsOf_cons (a : UInt8) (l : List UInt8) : bitsOf (a :: l) = binL 8 a.toNat ++ bitsOf l := by simp [bitsOf]
theorem padTo_append {m : Nat} {c : UInt8} {A B : List UInt8} (h : A.length % m = 0) : padTo m c (A ++ B) = A ++ padTo m c B := by
  unfold padTo padN
  rw [List.append_assoc, List.length_append, Nat.add_mod, h, Nat.zero_add, Nat.mod_mod]
theorem pad8 (a b c d e f g h : UInt8) : padTo 6 48 [a, b, c, d, e, f, g, h] = [a, b, c, d, e, f, g, h, 48, 48, 48, 48] := by simp [padTo, padN, List.replicate]
theorem pad16 (a b c d e f g h i j k l m n o p : UInt8) : padTo 6 48 [a, b, c, d, e, f, g, h, i, j, k, l, m, n, o, p] = [a, b, c, d, e, f, g, h, i, j, k, l, m, n, o, p, 48, 48] := by simp [padTo, padN, List.replicate]
theorem pad2 (a b : UInt8) : padTo 4 61 [a, b] = [a, b, 61, 61] := rfl
theorem pad3 (a b c : UInt8) : padTo 4 61 [a, b, c] = [a, b, c, 61] := rfl
theorem v48 : (48 : UInt8).toNat - 48 = 0 := rfl
set_option maxHeartbeats 2000000 in
theorem enc_eq : ∀ l : List UInt8, refB l = encL l
  | [] => by simp [refB, encL, bitsOf, padTo, padN, chunks]
  | [a] => by
    have ha := a.toNat_lt
    rw [refB, bitsOf_cons, show bitsOf [] = [] from rfl, List.append_nil, binL8, pad8, chunks, chunks, chunks, pad2, encL, bval6, bval6]
    simp only [bit_val, v48]
    generalize a.toNat = n at ha
    rw [show ((((n / 128 % 2 * 2 + n / 64 % 2) * 2 + n / 32 % 2) * 2 + n / 16 % 2) * 2 + n / 8 % 2) * 2 + n / 4 % 2 = n * 65536 / 262144 % 64 from by omega, show ((((n / 2 % 2 * 2 + n % 2) * 2 + 0) * 2 + 0) * 2 + 0) * 2 + 0 = n * 65536 / 4096 % 64 from by omega]
    all_goals (intro _ _ _ _ _ _ _ h; cases h)
  | [a, b] => by
    have ha := a.toNat_lt
    have hb := b.toNat_lt
    rw [refB, bitsOf_cons, bitsOf_cons, show bitsOf [] = [] from rfl, List.append_nil, binL8, binL8]
    simp only [List.cons_append, List.nil_append]
    rw [pad16, chunks, chunks, chunks, chunks, pad3, encL, bval6, bval6, bval6]
    simp only [bit_val, v48]
    generalize a.toNat = n at ha
    generalize b.toNat = m at hb
    rw [show ((((n / 128 % 2 * 2 + n / 64 % 2) * 2 + n / 32 % 2) * 2 + n / 16 % 2) * 2 + n / 8 % 2) * 2 + n / 4 % 2 = (n * 65536 + m * 256) / 262144 % 64 from by omega, show ((((n / 2 % 2 * 2 + n % 2) * 2 + m / 128 % 2) * 2 + m / 64 % 2) * 2 + m / 32 % 2) * 2 + m / 16 % 2 = (n * 65536 + m * 256) / 4096 % 64 from by omega, show ((((m / 8 % 2 * 2 + m / 4 % 2) * 2 + m / 2 % 2) * 2 + m % 2) * 2 + 0) * 2 + 0 = (n * 65536 + m * 256) / 64 % 64 from by omega]
    all_goals (intro _ _ _ _ _ _ _ h; cases h)
  | a :: b :: c :: r => by
    have ha := a.toNat_lt
    have hb := b.toNat_lt
    have hc := c.toNat_lt
    have ih := enc_eq r
    rw [encL, ← ih, refB, refB, bitsOf_cons, bitsOf_cons, bitsOf_cons]
    rw [← List.append_assoc, ← List.append_assoc, padTo_append (by simp [binL_length]), binL8, binL8, binL8]
    simp only [List.cons_append, List.nil_append]
    rw [chunks, chunks, chunks, chunks]
    rw [show ∀ (x y z u : UInt8) (l : List UInt8), padTo 4 61 (x :: y :: z :: u :: l) = x :: y :: z :: u :: padTo 4 61 l from fun x y z u l => padTo_append (A := [x, y, z, u]) (by simp)]
    rw [bval6, bval6, bval6, bval6]
    simp only [bit_val]
    generalize a.toNat = n at ha
    generalize b.toNat = m at hb
    generalize c.toNat = k at hc
    rw [show ((((n / 128 % 2 * 2 + n / 64 % 2) * 2 + n / 32 % 2) * 2 + n / 16 % 2) * 2 + n / 8 % 2) * 2 + n / 4 % 2 = (n * 65536 + m * 256 + k) / 262144 % 64 from by omega, show ((((n / 2 % 2 * 2 + n % 2) * 2 + m / 128 % 2) * 2 + m / 64 % 2) * 2 + m / 32 % 2) * 2 + m / 16 % 2 = (n * 65536 + m * 256 + k) / 4096 % 64 from by omega, show ((((m / 8 % 2 * 2 + m / 4 % 2) * 2 + m / 2 % 2) * 2 + m % 2) * 2 + k / 128 % 2) * 2 + k / 64 % 2 = (n * 65536 + m * 256 + k) / 64 % 64 from by omega, show ((((k / 32 % 2 * 2 + k / 16 % 2) * 2 + k / 8 % 2) * 2 + k / 4 % 2) * 2 + k / 2 % 2) * 2 + k % 2 = (n * 65536 + m * 256 + k) % 64 from by omega]
end Go.Proofs.YtchhmekjfnelcaaGreatDoor
