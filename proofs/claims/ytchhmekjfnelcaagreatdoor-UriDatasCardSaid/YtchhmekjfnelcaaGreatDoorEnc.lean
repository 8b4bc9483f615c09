/- The program's base64 encoder (b64.Encode) walked: it returns the letters that 'encL' gives, for every text of at most 2^31 bytes. -/
import Derived.Test.YtchhmekjfnelcaaGreatDoorShelf
import Derived.Test.YtchhmekjfnelcaaGreatDoorB64Plain
import Derived.WalkKit
import Derived.BigCall
import Derived.WalkSpells
import Derived.WalkLawsBesides
namespace Go.Proofs.YtchhmekjfnelcaaGreatDoor
open Go.RowKit
theorem ba0 (a : UInt8) (l : List UInt8) (h) : (⟨(a :: l).toArray⟩ : ByteArray)[0]'h = a := rfl
theorem ba1 (a b : UInt8) (l : List UInt8) (h) : (⟨(a :: b :: l).toArray⟩ : ByteArray)[1]'h = b := rfl
theorem ba2 (a b c : UInt8) (l : List UInt8) (h) : (⟨(a :: b :: c :: l).toArray⟩ : ByteArray)[2]'h = c := rfl
theorem ba_cut (l : List UInt8) (i j : Nat) : (⟨l.toArray⟩ : ByteArray).extract i j = ⟨((l.drop i).take (j - i)).toArray⟩ := by
  apply ByteArray.ext
  simp
theorem ext3 (a b c : UInt8) (r : List UInt8) : (⟨(a :: b :: c :: r).toArray⟩ : ByteArray).extract (min 3 ((r.length : Int) + 1 + 1 + 1)).toNat (r.length + 1 + 1 + 1) = ⟨r.toArray⟩ := by
  rw [show (min 3 ((r.length : Int) + 1 + 1 + 1)).toNat = 3 from by omega, ba_cut]
  simp
theorem or256 (x y : Int) (h0 : 0 ≤ x) (h1 : x < 2 ^ 40) (h2 : 0 ≤ y) (h3 : y < 256) : bits .or .i64 (wrap64 (x * 256)) y = x * 256 + y := by
  rw [IntWalk.wrap64_in _ (by omega)]
  exact bits_join .i64 63 (by decide) wraps_i64 8 (x * 256) y (by omega) (by simp) (by omega) (by omega) (by omega) (by omega)
theorem or0 (y : Int) (h2 : 0 ≤ y) (h3 : y < 256) : bits .or .i64 0 y = y := by
  have := bits_join .i64 63 (by decide) wraps_i64 8 0 y (by omega) (by simp) (by omega) (by omega) (by omega) (by omega)
  simpa using this
theorem byte_lt (a : UInt8) : (a.toNat : Int) < 256 := by have := a.toNat_lt; omega
theorem wrap_byte (a : UInt8) : wrap64 (a.toNat : Int) = a.toNat := IntWalk.wrap64_in _ (by have := byte_lt a; omega)
theorem n3 (a b c : UInt8) : bits .or .i64 (wrap64 (bits .or .i64 (wrap64 (bits .or .i64 0 (wrap64 ↑a.toNat) * 256)) (wrap64 ↑b.toNat) * 256)) (wrap64 ↑c.toNat) = (a.toNat : Int) * 65536 + b.toNat * 256 + c.toNat := by
  have ha := byte_lt a; have hb := byte_lt b; have hc := byte_lt c
  rw [wrap_byte, wrap_byte, wrap_byte, or0 _ (by omega) ha, or256 _ _ (by omega) (by omega) (by omega) hb, or256 _ _ (by omega) (by omega) (by omega) hc]; omega
theorem n2 (a b : UInt8) : wrap64 (bits .or .i64 (wrap64 (bits .or .i64 0 (wrap64 ↑a.toNat) * 256)) (wrap64 ↑b.toNat) * 256) = (a.toNat : Int) * 65536 + b.toNat * 256 := by
  have ha := byte_lt a; have hb := byte_lt b
  rw [wrap_byte, wrap_byte, or0 _ (by omega) ha, or256 _ _ (by omega) (by omega) (by omega) hb, IntWalk.wrap64_in _ (by omega)]; omega
theorem n1 (a : UInt8) : wrap64 (wrap64 (bits .or .i64 0 (wrap64 ↑a.toNat) * 256) * 256) = (a.toNat : Int) * 65536 := by
  have ha := byte_lt a
  rw [wrap_byte, or0 _ (by omega) ha, IntWalk.wrap64_in ((a.toNat : Int) * 256) (by omega), IntWalk.wrap64_in _ (by omega)]; omega
theorem and63 (x : Int) (h0 : 0 ≤ x) (h1 : x < 2 ^ 63) : bits .and .i64 x 63 = x % 64 :=
  bits_mask .i64 63 (by decide) wraps_i64 6 (by decide) x h0 h1

def alpha : ByteArray := ⟨#[65, 66, 67, 68, 69, 70, 71, 72, 73, 74, 75, 76, 77, 78, 79, 80, 81, 82, 83, 84, 85, 86, 87, 88, 89, 90, 97, 98, 99, 100, 101, 102, 103, 104, 105, 106, 107, 108, 109, 110, 111, 112, 113, 114, 115, 116, 117, 118, 119, 120, 121, 122, 48, 49, 50, 51, 52, 53, 54, 55, 56, 57, 43, 47]⟩
/-- The letter of a number below 64. -/
def letter (k : Nat) : UInt8 := alpha.data.toList.getD k 0
theorem letter_at (k : Nat) (h : k < (⟨#[65, 66, 67, 68, 69, 70, 71, 72, 73, 74, 75, 76, 77, 78, 79, 80, 81, 82, 83, 84, 85, 86, 87, 88, 89, 90, 97, 98, 99, 100, 101, 102, 103, 104, 105, 106, 107, 108, 109, 110, 111, 112, 113, 114, 115, 116, 117, 118, 119, 120, 121, 122, 48, 49, 50, 51, 52, 53, 54, 55, 56, 57, 43, 47]⟩ : ByteArray).size) :
    (⟨#[65, 66, 67, 68, 69, 70, 71, 72, 73, 74, 75, 76, 77, 78, 79, 80, 81, 82, 83, 84, 85, 86, 87, 88, 89, 90, 97, 98, 99, 100, 101, 102, 103, 104, 105, 106, 107, 108, 109, 110, 111, 112, 113, 114, 115, 116, 117, 118, 119, 120, 121, 122, 48, 49, 50, 51, 52, 53, 54, 55, 56, 57, 43, 47]⟩ : ByteArray)[k]'h = letter k := by
  have h64 : k < 64 := h
  have : ∀ k : Fin 64, alpha[k.val]'(k.isLt) = letter k.val := by decide
  exact this ⟨k, h64⟩
/-- What the encoder gives: four letters for every three bytes; the end with '='. -/
def encL : List UInt8 → List UInt8
  | [] => []
  | [a] => [letter (a.toNat * 65536 / 262144 % 64), letter (a.toNat * 65536 / 4096 % 64), 61, 61]
  | [a, b] => [letter ((a.toNat * 65536 + b.toNat * 256) / 262144 % 64), letter ((a.toNat * 65536 + b.toNat * 256) / 4096 % 64), letter ((a.toNat * 65536 + b.toNat * 256) / 64 % 64), 61]
  | a :: b :: c :: r => letter ((a.toNat * 65536 + b.toNat * 256 + c.toNat) / 262144 % 64) :: letter ((a.toNat * 65536 + b.toNat * 256 + c.toNat) / 4096 % 64) ::
      letter ((a.toNat * 65536 + b.toNat * 256 + c.toNat) / 64 % 64) :: letter ((a.toNat * 65536 + b.toNat * 256 + c.toNat) % 64) :: encL r
theorem bc_snoc (acc : List UInt8) (x : UInt8) : Lib.byteCells acc ++ [Value.int .u8 (x.toNat : Int)] = Lib.byteCells (acc ++ [x]) := by simp [Lib.byteCells]

set_option maxHeartbeats 1000000 in
set_option maxRecDepth 100000 in
theorem encode_any (l : List UInt8) (w : World) (hs : l.length ≤ 2147483648) :
    Calls Tryz.prog 7 #[.string ⟨l.toArray⟩] w fun e w' => e = .returned (.string ⟨(encL l).toArray⟩) ∧ Below w.heap.size w w' := by
  go_enter Tryz.func7, Tryz.ntmps7
  go_wp2
  go_loopw [0, 4, 5, 6, 14, 30] (fun v0 _ _ _ _ _ wr => ∃ (rest acc : List UInt8), v0 = .string ⟨rest.toArray⟩ ∧ rest.length ≤ l.length ∧ acc.length + 4 * rest.length ≤ 4 * l.length + 4 ∧ (rest ≠ [] → acc.length + 4 * rest.length ≤ 4 * l.length) ∧ acc ++ encL rest = encL l ∧ Lib.IsBuilder 58 5 w.heap.size w.heap.size (Lib.byteCells acc) wr ∧ Below w.heap.size w wr) (fun v0 _ _ _ _ _ _ => match v0 with | .string b => b.size | _ => 0)
  case atStart =>
    exact ⟨l, [], rfl, Nat.le_refl _, by simp, by simp, rfl, Lib.fresh_isBuilder 58 5 w, (Below.refl _ w).alloc (Nat.le_refl _) _⟩
  case round =>
    obtain ⟨rest, acc, rfl, hr, hal, hal2, hacc, hI, hb⟩ := hrel
    have hb0 := hb
    have Hacc := hid hacc
    clear hacc
    have h4 : acc.length + 4 ≤ 8589934600 := by omega
    rcases rest with _ | ⟨a, _ | ⟨b, _ | ⟨c, r⟩⟩⟩
    · clear hal2
      go_wp2_with fail
      refine (Tryz.Builder_String_any _ _ acc _ hI hb.size).mono ?_
      rintro e W1 ⟨rfl, b1⟩
      go_wp2
      go_ret
      refine ⟨?_, hb.trans b1⟩
      have := Hacc.out
      simp only [encL, List.append_nil] at this
      rw [this]
      rfl
    · have hq := hal2 (by simp)
      simp only [List.length_cons, List.length_nil] at hq
      clear hal2
      go_wp2
      refine wp_loop_rounds 4 ?_
      rw [rounds_succ]
      go_wp2
      rw [rounds_succ]
      go_wp2
      rw [rounds_succ]
      go_wp2
      rw [rounds_succ]
      go_wp2
      simp only [ba0, n1]
      obtain ⟨N, hN⟩ : ∃ N : Nat, N = a.toNat * 65536 := ⟨_, rfl⟩
      have hN1 : N < 16777216 := by have := a.toNat_lt; omega
      have hNi : ((a.toNat : Int) * 65536 : Int) = (N : Int) := by rw [hN]; simp
      simp only [hNi]
      have HN := hid hN
      clear hN hNi
      have q0 : bits .and .i64 ((N : Int) / 262144) 63 = ((N / 262144 % 64 : Nat) : Int) := by rw [and63 _ (by omega) (by omega)]; omega
      have l0 : N / 262144 % 64 < 64 := by omega
      have q1 : bits .and .i64 ((N : Int) / 4096) 63 = ((N / 4096 % 64 : Nat) : Int) := by rw [and63 _ (by omega) (by omega)]; omega
      have l1 : N / 4096 % 64 < 64 := by omega
      refine wp_loop_rounds 5 ?_
      rw [rounds_succ]
      go_wp2_with fail
      refine (Tryz.Builder_WriteByte _ _ _ _ _ hI (by simp only [Lib.byteCells_length, List.length_append, List.length_cons, List.length_nil]; omega) hb0.size).mono ?_
      rintro e W1 ⟨rfl, h1, b1⟩
      simp only [Int.toNat_natCast, letter_at, bc_snoc] at h1
      have hb1 := hb0.trans b1
      go_wp2_with fail
      rw [rounds_succ]
      go_wp2_with fail
      refine (Tryz.Builder_WriteByte _ _ _ _ _ (.inr h1) (by simp only [Lib.byteCells_length, List.length_append, List.length_cons, List.length_nil]; omega) hb1.size).mono ?_
      rintro e W2 ⟨rfl, h2, b2⟩
      simp only [Int.toNat_natCast, letter_at, bc_snoc] at h2
      have hb2 := hb1.trans b2
      go_wp2_with fail
      rw [rounds_succ]
      go_wp2_with fail
      refine (Tryz.Builder_WriteByte _ _ _ _ _ (.inr h2) (by simp only [Lib.byteCells_length, List.length_append, List.length_cons, List.length_nil]; omega) hb2.size).mono ?_
      rintro e W3 ⟨rfl, h3, b3⟩
      have h3' := bc_snoc ((acc ++ [letter (N / 262144 % 64)]) ++ [letter (N / 4096 % 64)]) 61
      simp only [show ((61 : UInt8).toNat : Int) = 61 from rfl] at h3'
      rw [h3'] at h3
      clear h3'
      have hb3 := hb2.trans b3
      go_wp2_with fail
      rw [rounds_succ]
      go_wp2_with fail
      refine (Tryz.Builder_WriteByte _ _ _ _ _ (.inr h3) (by simp only [Lib.byteCells_length, List.length_append, List.length_cons, List.length_nil]; omega) hb3.size).mono ?_
      rintro e W4 ⟨rfl, h4, b4⟩
      have h4' := bc_snoc (((acc ++ [letter (N / 262144 % 64)]) ++ [letter (N / 4096 % 64)]) ++ [61]) 61
      simp only [show ((61 : UInt8).toNat : Int) = 61 from rfl] at h4'
      rw [h4'] at h4
      clear h4'
      have hb4 := hb3.trans b4
      go_wp2_with fail
      rw [rounds_succ]
      go_wp2
      rw [show (⟨#[a]⟩ : ByteArray).extract (min (3 : Int) 1).toNat 1 = ⟨([] : List UInt8).toArray⟩ from rfl]
      refine ⟨⟨[], ((((acc ++ [letter (N / 262144 % 64)]) ++ [letter (N / 4096 % 64)]) ++ [61]) ++ [61]), rfl, ?_, ?_, ?_, ?_, .inr h4, hb4⟩, ?_⟩
      · simp only [List.length_cons, List.length_nil] at hr ⊢; omega
      · simp only [List.length_append, List.length_cons, List.length_nil]; omega
      · intro h; exact absurd rfl h
      · have h := Hacc.out
        have hN := HN.out
        rw [← h]
        simp only [encL, ← hN, List.append_assoc, List.append_nil, List.cons_append, List.nil_append]
      · show 0 < 1; omega
    · have hq := hal2 (by simp)
      simp only [List.length_cons, List.length_nil] at hq
      clear hal2
      go_wp2
      refine wp_loop_rounds 4 ?_
      rw [rounds_succ]
      go_wp2
      rw [rounds_succ]
      go_wp2
      rw [rounds_succ]
      go_wp2
      rw [rounds_succ]
      go_wp2
      simp only [ba0, ba1, n2]
      obtain ⟨N, hN⟩ : ∃ N : Nat, N = a.toNat * 65536 + b.toNat * 256 := ⟨_, rfl⟩
      have hN1 : N < 16777216 := by have := a.toNat_lt; have := b.toNat_lt; omega
      have hNi : ((a.toNat : Int) * 65536 + b.toNat * 256 : Int) = (N : Int) := by rw [hN]; simp
      simp only [hNi]
      have HN := hid hN
      clear hN hNi
      have q0 : bits .and .i64 ((N : Int) / 262144) 63 = ((N / 262144 % 64 : Nat) : Int) := by rw [and63 _ (by omega) (by omega)]; omega
      have l0 : N / 262144 % 64 < 64 := by omega
      have q1 : bits .and .i64 ((N : Int) / 4096) 63 = ((N / 4096 % 64 : Nat) : Int) := by rw [and63 _ (by omega) (by omega)]; omega
      have l1 : N / 4096 % 64 < 64 := by omega
      have q2 : bits .and .i64 ((N : Int) / 64) 63 = ((N / 64 % 64 : Nat) : Int) := by rw [and63 _ (by omega) (by omega)]; omega
      have l2 : N / 64 % 64 < 64 := by omega
      refine wp_loop_rounds 5 ?_
      rw [rounds_succ]
      go_wp2_with fail
      refine (Tryz.Builder_WriteByte _ _ _ _ _ hI (by simp only [Lib.byteCells_length, List.length_append, List.length_cons, List.length_nil]; omega) hb0.size).mono ?_
      rintro e W1 ⟨rfl, h1, b1⟩
      simp only [Int.toNat_natCast, letter_at, bc_snoc] at h1
      have hb1 := hb0.trans b1
      go_wp2_with fail
      rw [rounds_succ]
      go_wp2_with fail
      refine (Tryz.Builder_WriteByte _ _ _ _ _ (.inr h1) (by simp only [Lib.byteCells_length, List.length_append, List.length_cons, List.length_nil]; omega) hb1.size).mono ?_
      rintro e W2 ⟨rfl, h2, b2⟩
      simp only [Int.toNat_natCast, letter_at, bc_snoc] at h2
      have hb2 := hb1.trans b2
      go_wp2_with fail
      rw [rounds_succ]
      go_wp2_with fail
      refine (Tryz.Builder_WriteByte _ _ _ _ _ (.inr h2) (by simp only [Lib.byteCells_length, List.length_append, List.length_cons, List.length_nil]; omega) hb2.size).mono ?_
      rintro e W3 ⟨rfl, h3, b3⟩
      simp only [Int.toNat_natCast, letter_at, bc_snoc] at h3
      have hb3 := hb2.trans b3
      go_wp2_with fail
      rw [rounds_succ]
      go_wp2_with fail
      refine (Tryz.Builder_WriteByte _ _ _ _ _ (.inr h3) (by simp only [Lib.byteCells_length, List.length_append, List.length_cons, List.length_nil]; omega) hb3.size).mono ?_
      rintro e W4 ⟨rfl, h4, b4⟩
      have h4' := bc_snoc (((acc ++ [letter (N / 262144 % 64)]) ++ [letter (N / 4096 % 64)]) ++ [letter (N / 64 % 64)]) 61
      simp only [show ((61 : UInt8).toNat : Int) = 61 from rfl] at h4'
      rw [h4'] at h4
      clear h4'
      have hb4 := hb3.trans b4
      go_wp2_with fail
      rw [rounds_succ]
      go_wp2
      rw [show (⟨#[a, b]⟩ : ByteArray).extract (min (3 : Int) 2).toNat 2 = ⟨([] : List UInt8).toArray⟩ from rfl]
      refine ⟨⟨[], ((((acc ++ [letter (N / 262144 % 64)]) ++ [letter (N / 4096 % 64)]) ++ [letter (N / 64 % 64)]) ++ [61]), rfl, ?_, ?_, ?_, ?_, .inr h4, hb4⟩, ?_⟩
      · simp only [List.length_cons, List.length_nil] at hr ⊢; omega
      · simp only [List.length_append, List.length_cons, List.length_nil]; omega
      · intro h; exact absurd rfl h
      · have h := Hacc.out
        have hN := HN.out
        rw [← h]
        simp only [encL, ← hN, List.append_assoc, List.append_nil, List.cons_append, List.nil_append]
      · show 0 < 2; omega
    · have hq := hal2 (by simp)
      simp only [List.length_cons, List.length_nil] at hq
      clear hal2
      go_wp2
      refine wp_loop_rounds 4 ?_
      rw [rounds_succ]
      go_wp2
      rw [rounds_succ]
      go_wp2
      rw [rounds_succ]
      go_wp2
      rw [rounds_succ]
      go_wp2
      simp only [ba0, ba1, ba2, n3]
      obtain ⟨N, hN⟩ : ∃ N : Nat, N = a.toNat * 65536 + b.toNat * 256 + c.toNat := ⟨_, rfl⟩
      have hN1 : N < 16777216 := by have := a.toNat_lt; have := b.toNat_lt; have := c.toNat_lt; omega
      have hNi : ((a.toNat : Int) * 65536 + b.toNat * 256 + c.toNat : Int) = (N : Int) := by rw [hN]; simp
      simp only [hNi]
      have HN := hid hN
      clear hN hNi
      have q0 : bits .and .i64 ((N : Int) / 262144) 63 = ((N / 262144 % 64 : Nat) : Int) := by rw [and63 _ (by omega) (by omega)]; omega
      have l0 : N / 262144 % 64 < 64 := by omega
      have q1 : bits .and .i64 ((N : Int) / 4096) 63 = ((N / 4096 % 64 : Nat) : Int) := by rw [and63 _ (by omega) (by omega)]; omega
      have l1 : N / 4096 % 64 < 64 := by omega
      have q2 : bits .and .i64 ((N : Int) / 64) 63 = ((N / 64 % 64 : Nat) : Int) := by rw [and63 _ (by omega) (by omega)]; omega
      have l2 : N / 64 % 64 < 64 := by omega
      have q3 : bits .and .i64 ((N : Int)) 63 = ((N % 64 : Nat) : Int) := by rw [and63 _ (by omega) (by omega)]; omega
      have l3 : N % 64 < 64 := by omega
      refine wp_loop_rounds 5 ?_
      rw [rounds_succ]
      go_wp2_with fail
      refine (Tryz.Builder_WriteByte _ _ _ _ _ hI (by simp only [Lib.byteCells_length, List.length_append, List.length_cons, List.length_nil]; omega) hb0.size).mono ?_
      rintro e W1 ⟨rfl, h1, b1⟩
      simp only [Int.toNat_natCast, letter_at, bc_snoc] at h1
      have hb1 := hb0.trans b1
      go_wp2_with fail
      rw [rounds_succ]
      go_wp2_with fail
      refine (Tryz.Builder_WriteByte _ _ _ _ _ (.inr h1) (by simp only [Lib.byteCells_length, List.length_append, List.length_cons, List.length_nil]; omega) hb1.size).mono ?_
      rintro e W2 ⟨rfl, h2, b2⟩
      simp only [Int.toNat_natCast, letter_at, bc_snoc] at h2
      have hb2 := hb1.trans b2
      go_wp2_with fail
      rw [rounds_succ]
      go_wp2_with fail
      refine (Tryz.Builder_WriteByte _ _ _ _ _ (.inr h2) (by simp only [Lib.byteCells_length, List.length_append, List.length_cons, List.length_nil]; omega) hb2.size).mono ?_
      rintro e W3 ⟨rfl, h3, b3⟩
      simp only [Int.toNat_natCast, letter_at, bc_snoc] at h3
      have hb3 := hb2.trans b3
      go_wp2_with fail
      rw [rounds_succ]
      go_wp2_with fail
      refine (Tryz.Builder_WriteByte _ _ _ _ _ (.inr h3) (by simp only [Lib.byteCells_length, List.length_append, List.length_cons, List.length_nil]; omega) hb3.size).mono ?_
      rintro e W4 ⟨rfl, h4, b4⟩
      simp only [Int.toNat_natCast, letter_at, bc_snoc] at h4
      have hb4 := hb3.trans b4
      go_wp2_with fail
      rw [rounds_succ]
      go_wp2
      rw [ext3]
      refine ⟨⟨r, ((((acc ++ [letter (N / 262144 % 64)]) ++ [letter (N / 4096 % 64)]) ++ [letter (N / 64 % 64)]) ++ [letter (N % 64)]), rfl, ?_, ?_, ?_, ?_, .inr h4, hb4⟩, ?_⟩
      · simp only [List.length_cons, List.length_nil] at hr ⊢; omega
      · simp only [List.length_append, List.length_cons, List.length_nil]; omega
      · intro _; simp only [List.length_append, List.length_cons, List.length_nil]; omega
      · have h := Hacc.out
        have hN := HN.out
        rw [← h]
        simp only [encL, ← hN, List.append_assoc, List.append_nil, List.cons_append, List.nil_append]
      · show r.length < r.length + 1 + 1 + 1; omega
#print axioms encode_any
end Go.Proofs.YtchhmekjfnelcaaGreatDoor
