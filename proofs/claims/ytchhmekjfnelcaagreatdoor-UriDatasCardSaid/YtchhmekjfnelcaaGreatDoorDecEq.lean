/- Plain law on base64: the two decoders agree. No program in sight. -/
import Derived.Test.YtchhmekjfnelcaaGreatDoorEncEq
import Derived.Test.YtchhmekjfnelcaaGreatDoorUnb
namespace Go.Proofs.YtchhmekjfnelcaaGreatDoor
theorem trim_snoc (X : List UInt8) (c : UInt8) : Lib.trimSuffix (X ++ [c]) [61] = if c = 61 then X else X ++ [c] := by
  have h : Lib.hasSuffix (X ++ [c]) [61] = decide (c = 61) := by
    unfold Lib.hasSuffix
    simp only [List.isSuffixOf, List.reverse_append, List.reverse_cons, List.reverse_nil, List.nil_append, List.singleton_append, List.isPrefixOf]
    by_cases e : c = 61
    · simp [e]
    · have : (61 == c) = false := by simpa using fun h => e h.symm
      simp [e, this]
  unfold Lib.trimSuffix
  rw [h]
  by_cases e : c = 61
  · simp [e]
  · simp [e]
theorem body_snoc (Z : List UInt8) (c2 c3 : UInt8) : bodyOf (Z ++ [c2] ++ [c3]) = if c3 = 61 then (if c2 = 61 then Z else Z ++ [c2]) else Z ++ [c2] ++ [c3] := by
  unfold bodyOf
  rw [trim_snoc]
  by_cases e : c3 = 61
  · rw [if_pos e, if_pos e, if_neg (fun h => by have := congrArg List.length h; simp at this), trim_snoc]
  · rw [if_neg e, if_neg e, if_pos rfl]
theorem two_last {r : List UInt8} (h : r.length % 4 = 0) (hn : r ≠ []) : ∃ Z x y, r = Z ++ [x] ++ [y] := by
  have h2 : 2 ≤ r.length := by
    rcases r with _ | ⟨a, _ | ⟨b, r⟩⟩
    · exact absurd rfl hn
    · simp at h
    · simp
  obtain ⟨X, y, rfl⟩ : ∃ X y, r = X ++ [y] := ⟨_, _, (List.dropLast_concat_getLast hn).symm⟩
  have hX : X ≠ [] := by intro e; subst e; simp at h2
  obtain ⟨Z, x, rfl⟩ : ∃ Z x, X = Z ++ [x] := ⟨_, _, (List.dropLast_concat_getLast hX).symm⟩
  exact ⟨Z, x, y, rfl⟩
theorem body_cons4 (a b c d : UInt8) {r : List UInt8} (h : r.length % 4 = 0) (hn : r ≠ []) : bodyOf (a :: b :: c :: d :: r) = a :: b :: c :: d :: bodyOf r := by
  obtain ⟨Z, x, y, rfl⟩ := two_last h hn
  rw [body_snoc, show a :: b :: c :: d :: (Z ++ [x] ++ [y]) = (a :: b :: c :: d :: Z) ++ [x] ++ [y] from by simp, body_snoc]
  by_cases e : y = 61
  · by_cases e2 : x = 61
    · simp [e, e2]
    · simp [e, e2]
  · simp [e]
/-- The reference's way, from a place on, with what is there already. -/
def unR (i : Nat) (acc l : List UInt8) : Except Nat (List UInt8) :=
  match firstBad i (bodyOf l) with
  | some j => .error j
  | none => if 0 ≤ Lib.indexByte (bytes8 (bits6 (bodyOf l))).2 49 ∨ 4 < (bytes8 (bits6 (bodyOf l))).2.length then .error (i + (bodyOf l).length - 1) else .ok (acc ++ (bytes8 (bits6 (bodyOf l))).1)
theorem binL6 (n : Nat) : binL 6 n = [UInt8.ofNat (48 + n / 32 % 2), UInt8.ofNat (48 + n / 16 % 2), UInt8.ofNat (48 + n / 8 % 2), UInt8.ofNat (48 + n / 4 % 2), UInt8.ofNat (48 + n / 2 % 2), UInt8.ofNat (48 + n % 2)] := by
  simp [binL, List.range, List.range.loop]
theorem bval8 (a b c d e f g h : UInt8) : bval [a, b, c, d, e, f, g, h] = (((((((a.toNat - 48) * 2 + (b.toNat - 48)) * 2 + (c.toNat - 48)) * 2 + (d.toNat - 48)) * 2 + (e.toNat - 48)) * 2 + (f.toNat - 48)) * 2 + (g.toNat - 48)) * 2 + (h.toNat - 48) := by
  simp [bval]
theorem bits6_cons (c : UInt8) (l : List UInt8) : bits6 (c :: l) = binL 6 (dgt c).toNat ++ bits6 l := by simp [bits6]
theorem e_0 (n m : Nat) (h : n < 64) (k : m < 64) : ((((((n / 32 % 2 * 2 + n / 16 % 2) * 2 + n / 8 % 2) * 2 + n / 4 % 2) * 2 + n / 2 % 2) * 2 + n % 2) * 2 + m / 32 % 2) * 2 + m / 16 % 2 = n * 4 + m / 16 := by omega
theorem e_1 (n m : Nat) (k : m < 64) : ((((((n / 8 % 2 * 2 + n / 4 % 2) * 2 + n / 2 % 2) * 2 + n % 2) * 2 + m / 32 % 2) * 2 + m / 16 % 2) * 2 + m / 8 % 2) * 2 + m / 4 % 2 = n % 16 * 16 + m / 4 := by omega
theorem e_2 (n m : Nat) (k : m < 64) : ((((((n / 2 % 2 * 2 + n % 2) * 2 + m / 32 % 2) * 2 + m / 16 % 2) * 2 + m / 8 % 2) * 2 + m / 4 % 2) * 2 + m / 2 % 2) * 2 + m % 2 = n % 4 * 64 + m := by omega
theorem n_0 (a b c d : Nat) (hb : b < 64) (hc : c < 64) (hd : d < 64) : num a b c d / 65536 = a * 4 + b / 16 := by unfold num; omega
theorem n_1 (a b c d : Nat) (hc : c < 64) (hd : d < 64) : (num a b c d / 256) % 256 = (b % 16 * 16 + c / 4) % 256 := by unfold num; omega
theorem n_2 (a b c d : Nat) (hd : d < 64) : num a b c d % 256 = (c % 4 * 64 + d) % 256 := by unfold num; omega
theorem ofNat_mod {x y : Nat} (h : x % 256 = y % 256) : UInt8.ofNat x = UInt8.ofNat y := by
  apply UInt8.toNat_inj.1; simpa using h
/-- Four signs are three bytes. -/
theorem four_signs (n0 n1 n2 n3 : Nat) (h0 : n0 < 64) (h1 : n1 < 64) (h2 : n2 < 64) (h3 : n3 < 64) (B : List UInt8) :
    bytes8 (binL 6 n0 ++ (binL 6 n1 ++ (binL 6 n2 ++ (binL 6 n3 ++ B)))) = (by0 (num n0 n1 n2 n3) :: by1 (num n0 n1 n2 n3) :: by2 (num n0 n1 n2 n3) :: (bytes8 B).1, (bytes8 B).2) := by
  rw [binL6, binL6, binL6, binL6]
  simp only [List.cons_append, List.nil_append]
  rw [bytes8, bytes8, bytes8, bval8, bval8, bval8]
  simp only [bit_val]
  rw [e_0 _ _ h0 h1, e_1 _ _ h2, e_2 _ _ h3]
  unfold by0 by1 by2
  rw [n_0 _ _ _ _ h1 h2 h3, ofNat_mod (n_1 n0 n1 n2 n3 h2 h3), ofNat_mod (n_2 n0 n1 n2 n3 h3)]
theorem three_signs (n0 n1 n2 : Nat) (h0 : n0 < 64) (h1 : n1 < 64) (h2 : n2 < 64) :
    bytes8 (binL 6 n0 ++ (binL 6 n1 ++ (binL 6 n2 ++ []))) = ([by0 (num n0 n1 n2 0), by1 (num n0 n1 n2 0)], [UInt8.ofNat (48 + n2 / 2 % 2), UInt8.ofNat (48 + n2 % 2)]) := by
  rw [binL6, binL6, binL6]
  simp only [List.cons_append, List.nil_append]
  rw [bytes8, bytes8, bytes8_short (by simp), bval8, bval8]
  simp only [bit_val]
  rw [e_0 _ _ h0 h1, e_1 _ _ h2]
  unfold by0 by1
  rw [n_0 _ _ _ _ h1 h2 (by omega), ofNat_mod (n_1 n0 n1 n2 0 h2 (by omega))]
theorem two_signs (n0 n1 : Nat) (h0 : n0 < 64) (h1 : n1 < 64) :
    bytes8 (binL 6 n0 ++ (binL 6 n1 ++ [])) = ([by0 (num n0 n1 0 0)], [UInt8.ofNat (48 + n1 / 8 % 2), UInt8.ofNat (48 + n1 / 4 % 2), UInt8.ofNat (48 + n1 / 2 % 2), UInt8.ofNat (48 + n1 % 2)]) := by
  rw [binL6, binL6]
  simp only [List.cons_append, List.nil_append]
  rw [bytes8, bytes8_short (by simp), bval8]
  simp only [bit_val]
  rw [e_0 _ _ h0 h1]
  unfold by0
  rw [n_0 _ _ _ _ h1 (by omega) (by omega)]
theorem index_ge : ∀ (l : List UInt8) (c : UInt8), -1 ≤ Lib.indexByte l c
  | [], _ => by simp [Lib.indexByte]
  | b :: l, c => by
    have := index_ge l c
    rw [Lib.indexByte]
    split
    · omega
    · split <;> omega
theorem index_cons (b c : UInt8) (l : List UInt8) : 0 ≤ Lib.indexByte (b :: l) c ↔ b = c ∨ 0 ≤ Lib.indexByte l c := by
  rw [Lib.indexByte]
  by_cases h : b = c
  · simp [h]
  · have h1 : (b == c) = false := by simpa using h
    rw [h1]
    by_cases h2 : Lib.indexByte l c = -1
    · simp [h, h2]
    · have h3 : (Lib.indexByte l c == -1) = false := by simpa using h2
      simp only [h3, h, false_or, Bool.false_eq_true, if_false]
      have := index_ge l c
      omega
theorem bit_is (x : Nat) : UInt8.ofNat (48 + x % 2) = 49 ↔ x % 2 = 1 := by
  rcases Nat.mod_two_eq_zero_or_one x with h | h <;> rw [h] <;> decide
theorem index_nil (c : UInt8) : ¬ 0 ≤ Lib.indexByte [] c := by simp [Lib.indexByte]
theorem num_256 (a b c : Nat) : num a b c 0 % 256 = 0 ↔ c % 4 = 0 := by unfold num; omega
theorem num_65536 (a b : Nat) : num a b 0 0 % 65536 = 0 ↔ b % 16 = 0 := by unfold num; omega
theorem good_nat {c : UInt8} (h : ¬ dgt c < 0) : (dgt c).toNat < 64 := by rcases dgt_cases c with h' | h' <;> omega
theorem bad61 {c : UInt8} (h : c = 61) : dgt c < 0 := by rw [h, dgt_eq61]; omega
theorem firstBad_cons (i : Nat) (c : UInt8) (l : List UInt8) : firstBad i (c :: l) = if dgt c < 0 then some i else firstBad (i + 1) l := rfl
theorem unR_full {i : Nat} {acc : List UInt8} {c0 c1 c2 c3 : UInt8} {r b : List UInt8} (hb : bodyOf (c0 :: c1 :: c2 :: c3 :: r) = c0 :: c1 :: c2 :: c3 :: b) (hb' : bodyOf r = b) (h0 : ¬ dgt c0 < 0) (h1 : ¬ dgt c1 < 0) (h2 : ¬ dgt c2 < 0) (h3 : ¬ dgt c3 < 0) :
    unR i acc (c0 :: c1 :: c2 :: c3 :: r) = unR (i + 4) (acc ++ [by0 (num (dgt c0).toNat (dgt c1).toNat (dgt c2).toNat (dgt c3).toNat), by1 (num (dgt c0).toNat (dgt c1).toNat (dgt c2).toNat (dgt c3).toNat), by2 (num (dgt c0).toNat (dgt c1).toNat (dgt c2).toNat (dgt c3).toNat)]) r := by
  unfold unR
  rw [hb, hb', firstBad_cons, firstBad_cons, firstBad_cons, firstBad_cons, if_neg h0, if_neg h1, if_neg h2, if_neg h3]
  rw [bits6_cons, bits6_cons, bits6_cons, bits6_cons, four_signs _ _ _ _ (good_nat h0) (good_nat h1) (good_nat h2) (good_nat h3)]
  rw [show i + 1 + 1 + 1 + 1 = i + 4 from by omega]
  cases firstBad (i + 4) b with
  | some j => rfl
  | none =>
    simp only [List.length_cons, List.append_assoc, List.cons_append, List.nil_append]
    rw [show i + (b.length + 1 + 1 + 1 + 1) - 1 = i + 4 + b.length - 1 from by omega]
theorem unR_bad {i j : Nat} {acc l : List UInt8} (h : firstBad i (bodyOf l) = some j) : unR i acc l = .error j := by unfold unR; rw [h]
theorem unR_nil (i : Nat) (acc : List UInt8) : unR i acc [] = .ok acc := by
  have hb : bodyOf [] = [] := by unfold bodyOf; simp [Lib.trimSuffix]
  unfold unR
  rw [hb]
  have : bytes8 (bits6 []) = ([], []) := bytes8_short (by simp [bits6])
  simp only [firstBad, this]
  rw [if_neg (by intro h; rcases h with h | h; exact index_nil _ h; simp at h)]
  simp
theorem dec_eq : ∀ (l : List UInt8) (i : Nat) (acc : List UInt8), l.length % 4 = 0 → decR i acc l = unR i acc l
  | [], i, acc, _ => by rw [decR_nil, unR_nil]
  | [a], _, _, h => by simp at h
  | [a, b], _, _, h => by simp at h
  | [a, b, c], _, _, h => by simp at h
  | c0 :: c1 :: c2 :: c3 :: r, i, acc, h => by
    have hr : r.length % 4 = 0 := by simp only [List.length_cons] at h; omega
    have ih := fun a => dec_eq r (i + 4) a hr
    rw [decR]
    by_cases hn : r = []
    · subst hn
      by_cases e3 : c3 = 61
      · subst e3
        by_cases e2 : c2 = 61
        · subst e2
          have hb : bodyOf [c0, c1, 61, 61] = [c0, c1] := by
            rw [show [c0, c1, 61, 61] = [c0, c1] ++ [61] ++ [61] from rfl, body_snoc]; rfl
          by_cases h0 : dgt c0 < 0
          · rw [if_pos h0, unR_bad (by rw [hb, firstBad_cons, if_pos h0])]
          · by_cases h1 : dgt c1 < 0
            · rw [if_neg h0, if_pos h1, unR_bad (by rw [hb, firstBad_cons, if_neg h0, firstBad_cons, if_pos h1])]
            · rw [if_neg h0, if_neg h1, if_pos ⟨rfl, rfl, rfl⟩]
              unfold unR
              rw [hb, firstBad_cons, firstBad_cons, if_neg h0, if_neg h1]
              rw [bits6_cons, bits6_cons, show bits6 [] = [] from rfl, two_signs _ _ (good_nat h0) (good_nat h1)]
              simp only [firstBad, index_cons, index_nil, or_false, bit_is, List.length_cons, List.length_nil]
              by_cases hz : (dgt c1).toNat % 16 = 0
              · rw [if_pos ((num_65536 _ _).2 hz), if_neg (by omega)]
              · rw [if_neg (fun h => hz ((num_65536 _ _).1 h)), if_pos (by omega), show i + (0 + 1 + 1) - 1 = i + 1 from by omega]
        · have hb : bodyOf [c0, c1, c2, 61] = [c0, c1, c2] := by
            rw [show [c0, c1, c2, 61] = [c0, c1] ++ [c2] ++ [61] from rfl, body_snoc, if_pos rfl, if_neg e2]; rfl
          by_cases h0 : dgt c0 < 0
          · rw [if_pos h0, unR_bad (by rw [hb, firstBad_cons, if_pos h0])]
          · by_cases h1 : dgt c1 < 0
            · rw [if_neg h0, if_pos h1, unR_bad (by rw [hb, firstBad_cons, if_neg h0, firstBad_cons, if_pos h1])]
            · rw [if_neg h0, if_neg h1, if_neg (fun h => e2 h.2.2)]
              by_cases h2 : dgt c2 < 0
              · rw [if_pos h2, unR_bad (by rw [hb, firstBad_cons, if_neg h0, firstBad_cons, if_neg h1, firstBad_cons, if_pos h2])]
              · rw [if_neg h2, if_pos ⟨rfl, rfl⟩]
                unfold unR
                rw [hb, firstBad_cons, firstBad_cons, firstBad_cons, if_neg h0, if_neg h1, if_neg h2]
                rw [bits6_cons, bits6_cons, bits6_cons, show bits6 [] = [] from rfl, three_signs _ _ _ (good_nat h0) (good_nat h1) (good_nat h2)]
                simp only [firstBad, index_cons, index_nil, or_false, bit_is, List.length_cons, List.length_nil]
                by_cases hz : (dgt c2).toNat % 4 = 0
                · rw [if_pos ((num_256 _ _ _).2 hz), if_neg (by omega)]
                · rw [if_neg (fun h => hz ((num_256 _ _ _).1 h)), if_pos (by omega), show i + (0 + 1 + 1 + 1) - 1 = i + 2 from by omega]
      · have hb : bodyOf [c0, c1, c2, c3] = [c0, c1, c2, c3] := by
          rw [show [c0, c1, c2, c3] = [c0, c1] ++ [c2] ++ [c3] from rfl, body_snoc, if_neg e3]
        have hb0 : bodyOf [] = [] := by unfold bodyOf; simp [Lib.trimSuffix]
        by_cases h0 : dgt c0 < 0
        · rw [if_pos h0, unR_bad (by rw [hb, firstBad_cons, if_pos h0])]
        · by_cases h1 : dgt c1 < 0
          · rw [if_neg h0, if_pos h1, unR_bad (by rw [hb, firstBad_cons, if_neg h0, firstBad_cons, if_pos h1])]
          · rw [if_neg h0, if_neg h1, if_neg (fun h => e3 h.2.1)]
            by_cases h2 : dgt c2 < 0
            · rw [if_pos h2, unR_bad (by rw [hb, firstBad_cons, if_neg h0, firstBad_cons, if_neg h1, firstBad_cons, if_pos h2])]
            · rw [if_neg h2, if_neg (fun h => e3 h.2)]
              by_cases h3 : dgt c3 < 0
              · rw [if_pos h3, unR_bad (by rw [hb, firstBad_cons, if_neg h0, firstBad_cons, if_neg h1, firstBad_cons, if_neg h2, firstBad_cons, if_pos h3])]
              · rw [if_neg h3, ih, unR_full hb hb0 h0 h1 h2 h3]
    · have hb := body_cons4 c0 c1 c2 c3 hr hn
      by_cases h0 : dgt c0 < 0
      · rw [if_pos h0, unR_bad (by rw [hb, firstBad_cons, if_pos h0])]
      · by_cases h1 : dgt c1 < 0
        · rw [if_neg h0, if_pos h1, unR_bad (by rw [hb, firstBad_cons, if_neg h0, firstBad_cons, if_pos h1])]
        · rw [if_neg h0, if_neg h1, if_neg (fun h => hn h.1)]
          by_cases h2 : dgt c2 < 0
          · rw [if_pos h2, unR_bad (by rw [hb, firstBad_cons, if_neg h0, firstBad_cons, if_neg h1, firstBad_cons, if_pos h2])]
          · rw [if_neg h2, if_neg (fun h => hn h.1)]
            by_cases h3 : dgt c3 < 0
            · rw [if_pos h3, unR_bad (by rw [hb, firstBad_cons, if_neg h0, firstBad_cons, if_neg h1, firstBad_cons, if_neg h2, firstBad_cons, if_pos h3])]
            · rw [if_neg h3, ih, unR_full hb rfl h0 h1 h2 h3]
/-- The two decoders give one answer. -/
theorem dec_law (l : List UInt8) : decB l = unB l := by
  unfold decB unB
  by_cases hm : l.length % 4 = 0
  · rw [if_pos hm, if_pos hm, dec_eq l 0 [] hm, unR]
    cases hf : firstBad 0 (bodyOf l) with
    | some j => rfl
    | none =>
      simp only [Nat.zero_add, List.nil_append]
      by_cases hc : 0 ≤ Lib.indexByte (bytes8 (bits6 (bodyOf l))).2 49 ∨ 4 < (bytes8 (bits6 (bodyOf l))).2.length
      · rw [if_pos hc, if_pos hc]
        have hp : 1 ≤ (bodyOf l).length := by
          rcases hbo : bodyOf l with _ | ⟨a, t⟩
          · rw [hbo] at hc
            have : bytes8 (bits6 []) = ([], []) := bytes8_short (by simp [bits6])
            rw [this] at hc
            rcases hc with hc | hc
            · exact absurd hc (index_nil _)
            · simp at hc
          · simp
        simp only
        rw [show (((bodyOf l).length - 1 : Nat) : Int) = ((bodyOf l).length : Int) - 1 from by omega]
      · rw [if_neg hc, if_neg hc]
  · rw [if_neg hm, if_neg hm]
end Go.Proofs.YtchhmekjfnelcaaGreatDoor
