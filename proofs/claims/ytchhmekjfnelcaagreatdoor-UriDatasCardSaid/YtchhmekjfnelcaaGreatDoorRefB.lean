/- The reference's base64 encoder walked. -/
import Derived.Test.YtchhmekjfnelcaaGreatDoorDig
import Derived.Test.YtchhmekjfnelcaaGreatDoorPint
import Derived.Test.YtchhmekjfnelcaaGreatDoorEnc
import Derived.Test.YtchhmekjfnelcaaGreatDoorRefl
namespace Go.Proofs.YtchhmekjfnelcaaGreatDoor
open Go.RowKit
/-- What the package-level variables hold that are read. -/
def padN (m n : Nat) : Nat := (m - n % m) % m
def padTo (m : Nat) (c : UInt8) (B : List UInt8) : List UInt8 := B ++ List.replicate (padN m B.length) c
/-- Six binary digits are a letter. -/
def chunks : List UInt8 → List UInt8
  | a :: b :: c :: d :: e :: f :: r => letter (bval [a, b, c, d, e, f]) :: chunks r
  | _ => []
theorem six {a : UInt8} {rest : List UInt8} (h : (a :: rest).length % 6 = 0) : ∃ b c d e f r, rest = b :: c :: d :: e :: f :: r := by
  rcases rest with _ | ⟨b, _ | ⟨c, _ | ⟨d, _ | ⟨e, _ | ⟨f, r⟩⟩⟩⟩⟩
  · simp at h
  · simp at h
  · simp at h
  · simp at h
  · simp at h
  · exact ⟨_, _, _, _, _, _, rfl⟩
structure Laid (w : World) : Prop where
  z9 : w.cell? ⟨9, 1, none⟩ = some (.int .u8 1)
  e4 : w.cell? ⟨4, 0, none⟩ = some (.iface 151 (.agg #[hd 28]))
  sz : 10 ≤ w.heap.size
theorem Laid.below {w w' : World} (h : Laid w) {B : Nat} (hB : 10 ≤ B) (hb : Below B w w') : Laid w' :=
  ⟨by rw [hb.cell (p := ⟨9, 1, none⟩) (show 9 < B by omega)]; exact h.z9, by rw [hb.cell (p := ⟨4, 0, none⟩) (show 4 < B by omega)]; exact h.e4, Nat.le_trans h.sz hb.size⟩
def bitsOf (l : List UInt8) : List UInt8 := l.flatMap fun c => binL 8 c.toNat
theorem bitsOf_step {l : List UInt8} {k : Nat} (h : k < l.length) : bitsOf (l.take (k + 1)) = bitsOf (l.take k) ++ binL 8 l[k].toNat := by
  rw [List.take_succ_eq_append_getElem h, bitsOf, List.flatMap_append]; simp [bitsOf]
theorem bitsOf_len (l : List UInt8) : (bitsOf l).length = 8 * l.length := by
  induction l with
  | nil => rfl
  | cons a l ih => simp only [bitsOf, List.flatMap_cons, List.length_append, binL_length, List.length_cons] at *; omega
theorem bin_bits (L n : Nat) : Bits (binL L n) := by
  intro c hc
  simp only [binL, List.mem_map] at hc
  obtain ⟨j, _, rfl⟩ := hc
  rcases Nat.mod_two_eq_zero_or_one (n / 2 ^ (L - 1 - j)) with h | h <;> rw [h]
  · exact .inl rfl
  · exact .inr rfl
theorem bitsOf_bits (l : List UInt8) : Bits (bitsOf l) := by
  intro c hc
  simp only [bitsOf, List.mem_flatMap] at hc
  obtain ⟨x, _, hx⟩ := hc
  exact bin_bits _ _ c hx
theorem padTo_bits {B : List UInt8} (m : Nat) (h : Bits B) : Bits (padTo m 48 B) := by
  intro c hc
  rw [padTo, List.mem_append] at hc
  rcases hc with hc | hc
  · exact h c hc
  · exact .inl (List.eq_of_mem_replicate hc)
/-- What the reference's encoder gives. -/
def refB (l : List UInt8) : List UInt8 := padTo 4 61 (chunks (padTo 6 48 (bitsOf l)))
theorem ext6 (a b c d e f : UInt8) (r : List UInt8) : (⟨(a :: b :: c :: d :: e :: f :: r).toArray⟩ : ByteArray).extract 6 (r.length + 1 + 1 + 1 + 1 + 1 + 1) = ⟨r.toArray⟩ := by
  rw [ba_cut]; simp
theorem alpha_cut (N : Nat) (h : N < 64) : (⟨#[65, 66, 67, 68, 69, 70, 71, 72, 73, 74, 75, 76, 77, 78, 79, 80, 81, 82, 83, 84, 85, 86, 87, 88, 89, 90, 97, 98, 99, 100, 101, 102, 103, 104, 105, 106, 107, 108, 109, 110, 111, 112, 113, 114, 115, 116, 117, 118, 119, 120, 121, 122, 48, 49, 50, 51, 52, 53, 54, 55, 56, 57, 43, 47]⟩ : ByteArray).extract N (N + 1) = ⟨[letter N].toArray⟩ := by
  have := letter_at N h
  rw [show (⟨#[65, 66, 67, 68, 69, 70, 71, 72, 73, 74, 75, 76, 77, 78, 79, 80, 81, 82, 83, 84, 85, 86, 87, 88, 89, 90, 97, 98, 99, 100, 101, 102, 103, 104, 105, 106, 107, 108, 109, 110, 111, 112, 113, 114, 115, 116, 117, 118, 119, 120, 121, 122, 48, 49, 50, 51, 52, 53, 54, 55, 56, 57, 43, 47]⟩ : ByteArray) = ⟨alpha.data.toList.toArray⟩ from rfl, ba_cut, show N + 1 - N = 1 from by omega]
  have hl : alpha.data.toList.length = 64 := by decide
  rw [List.drop_eq_getElem_cons (by omega), List.take_succ_cons, List.take_zero]
  congr 2
  simp [letter, List.getD, List.getElem?_eq_getElem (show N < alpha.data.toList.length by omega)]
theorem digits8 (c : UInt8) (w : World) (hL : Laid w) : Calls Tryz.prog 18 #[.int .i64 (c.toNat : Int), .int .i64 2, .int .i64 8] w fun e w' => e = .returned (.string ⟨(binL 8 c.toNat).toArray⟩) ∧ Below w.heap.size w w' :=
  digits2 c.toNat 8 w (by omega) (by omega) c.toNat_lt hL.z9 (by have := hL.sz; omega)
set_option maxHeartbeats 400000 in
set_option maxRecDepth 100000 in
theorem refB64_any (l : List UInt8) (w : World) (hs : l.length ≤ 2147483648) (hL : Laid w) :
    Calls Tryz.prog 8 #[.string ⟨l.toArray⟩] w fun e w' => e = .returned (.string ⟨(refB l).toArray⟩) ∧ Below w.heap.size w w' := by
  go_enter Tryz.func8, Tryz.ntmps8
  go_wp2_with fail
  go_loopw [3, 10] (fun v i wr => ∃ (k : Nat) (B : List UInt8), v = .string ⟨B.toArray⟩ ∧ i = .int .i64 k ∧ k ≤ l.length ∧ B.length ≤ 8 * k ∧ Hid (B = bitsOf (l.take k)) ∧ Below w.heap.size w wr) (fun _ i _ => l.length - (intOf i).toNat)
  case atStart => exact ⟨0, [], rfl, rfl, by omega, by simp, hid rfl, Below.refl _ _⟩
  case round =>
    obtain ⟨k, B, rfl, rfl, hk, hBl, HB, hb⟩ := hrel
    have hLr := hL.below hL.sz hb
    by_cases hlt : k < l.length
    · obtain ⟨c, hx, hc⟩ : ∃ c, (∀ h, (⟨l.toArray⟩ : ByteArray)[k]'h = c) ∧ l[k] = c := ⟨l[k], fun _ => rfl, rfl⟩
      have hst := bitsOf_step hlt
      rw [hc] at hst
      have Hst := hid hst
      clear hst hc
      have hwb := wrap_byte c
      have hd8 := fun n : Nat => binL_length 8 n
      go_wp2_with fail
      refine (digits8 c _ hLr).mono ?_
      rintro e w1 ⟨rfl, hb1⟩
      have hb2 := hb.trans (hb1.mono hb.size)
      go_wp2_with fail
      rw [ba_app]
      refine ⟨⟨k + 1, B ++ binL 8 c.toNat, rfl, by go_num, by omega, by rw [List.length_append, binL_length]; omega, hid (by rw [Hst.out, HB.out]), hb2⟩, by simp [intOf]; omega⟩
    · have hkl : k = l.length := by omega
      subst hkl
      rw [List.take_length] at HB
      have hlen := bitsOf_len l
      rw [← HB.out] at hlen
      have Hlen := hid hlen
      clear hlen hBl
      go_wp2_with fail
      go_loop [3] (fun v => ∃ (P : List UInt8) (j : Nat), v = .string ⟨P.toArray⟩ ∧ P.length ≤ 17179869190 ∧ Hid (P = B ++ List.replicate j 48 ∧ j ≤ padN 6 B.length)) (fun v => 17179869200 - (match v with | .string b => b.size | _ => 0))
      case atStart => exact ⟨B, 0, rfl, by have := Hlen.out; omega, hid ⟨by simp, Nat.zero_le _⟩⟩
      case round =>
        obtain ⟨P, j, rfl, hPl, HP⟩ := hrel
        have hPlen : P.length = B.length + j := by rw [HP.out.1]; simp
        by_cases hq : P.length % 6 = 0
        · have hj : j = padN 6 B.length := by have := HP.out.2; unfold padN at *; omega
          have HP2 : Hid (P = padTo 6 48 (bitsOf l)) := hid (by rw [HP.out.1, hj, HB.out]; rfl)
          have hqb : ((P.length : Int) % 6 != 0) = false := by simp; omega
          have HQ := hid hq
          clear hPlen hq hj HP
          have HbP : Hid (Bits P) := hid (by rw [HP2.out]; exact padTo_bits _ (bitsOf_bits l))
          go_wp2_with fail
          go_loopw [3, 5] (fun v o wr => ∃ (rest acc : List UInt8), v = .string ⟨rest.toArray⟩ ∧ o = .string ⟨acc.toArray⟩ ∧ rest.length ≤ 17179869190 ∧ 6 * acc.length + rest.length ≤ 17179869190 ∧ Hid (rest.length % 6 = 0 ∧ Bits rest ∧ acc ++ chunks rest = chunks P) ∧ Below w.heap.size w wr) (fun v _ _ => (match v with | .string b => b.size | _ => 0))
          case atStart => exact ⟨P, [], rfl, rfl, hPl, by simpa using hPl, hid ⟨HQ.out, HbP.out, rfl⟩, hb⟩
          case round =>
            clear hb
            obtain ⟨rest, acc, rfl, rfl, hr, hra, HR, hb⟩ := hrel
            rcases rest with _ | ⟨a, rest⟩
            · have hacc : acc = chunks P := by have h := HR.out.2.2; simpa [chunks] using h
              have Hacc := hid hacc
              have hal : acc.length ≤ 17179869190 := by omega
              clear hacc hra hr
              go_wp2_with fail
              go_loop [5] (fun v => ∃ (O : List UInt8) (j : Nat), v = .string ⟨O.toArray⟩ ∧ O.length ≤ 17179869200 ∧ Hid (O = acc ++ List.replicate j 61 ∧ j ≤ padN 4 acc.length)) (fun v => 17179869210 - (match v with | .string b => b.size | _ => 0))
              case atStart => exact ⟨acc, 0, rfl, by omega, hid ⟨by simp, Nat.zero_le _⟩⟩
              case round =>
                obtain ⟨O, j, rfl, hOl, HO⟩ := hrel
                have hOlen : O.length = acc.length + j := by rw [HO.out.1]; simp
                by_cases hq : O.length % 4 = 0
                · have hj : j = padN 4 acc.length := by have := HO.out.2; unfold padN at *; omega
                  have HO2 : Hid (O = refB l) := hid (by rw [HO.out.1, hj, Hacc.out, HP2.out]; rfl)
                  have hqb : ((O.length : Int) % 4 != 0) = false := by simp; omega
                  clear hOlen hq hj HO
                  go_wp2_with fail
                  go_ret
                  exact ⟨by rw [← HO2.out]; rfl, hb⟩
                · have hj : j + 1 ≤ padN 4 acc.length := by have := HO.out.2; unfold padN at *; omega
                  have hqb : ((O.length : Int) % 4 != 0) = true := by simp; omega
                  have HJ := hid hj
                  have hOl2 : O.length + 1 ≤ 17179869200 := by unfold padN at hj; omega
                  clear hOlen hq hj
                  go_wp2_with fail
                  rw [show (⟨O.toArray⟩ : ByteArray) ++ ⟨#[61]⟩ = ⟨(O ++ [61]).toArray⟩ from ba_app O [61]]
                  refine ⟨⟨O ++ [61], j + 1, rfl, by simpa using hOl2, hid ⟨?_, HJ.out⟩⟩, ?_⟩
                  · rw [HO.out.1, List.replicate_succ', List.append_assoc]
                  · show 17179869210 - (O ++ [61]).length < 17179869210 - O.length
                    rw [List.length_append, List.length_singleton]; omega
            · obtain ⟨b, c, d, e, f, r, rfl⟩ : ∃ b c d e f r, rest = b :: c :: d :: e :: f :: r := six HR.out.1
              go_wp2_with fail
              rw [show (⟨(a :: b :: c :: d :: e :: f :: r).toArray⟩ : ByteArray).extract 0 6 = ⟨[a, b, c, d, e, f].toArray⟩ from by rw [ba_cut]; simp]
              have hb6 : Bits [a, b, c, d, e, f] := fun x hx => HR.out.2.1 x (by simp at hx ⊢; rcases hx with h | h | h | h | h | h <;> simp [h])
              have hN1 : bval [a, b, c, d, e, f] < 64 := bval_lt _ hb6
              refine (pint [a, b, c, d, e, f] _ (by simp) (by simp) hb6).mono ?_
              rintro e1 w1 ⟨rfl, hb1⟩
              have hb2 := hb.trans (hb1.mono hb.size)
              obtain ⟨N, hN⟩ : ∃ N, bval [a, b, c, d, e, f] = N := ⟨_, rfl⟩
              rw [hN]
              rw [hN] at hN1
              have HN := hid hN
              clear hN hb6
              go_wp2_with fail
              rw [ext6, alpha_cut N hN1, ba_app]
              refine ⟨⟨r, acc ++ [letter N], rfl, rfl, ?_, ?_, hid ⟨?_, ?_, ?_⟩, hb2⟩, ?_⟩
              · simp only [List.length_cons] at hr; omega
              · simp only [List.length_cons, List.length_append, List.length_nil] at hra ⊢; omega
              · have h := HR.out.1; simp only [List.length_cons] at h; omega
              · exact fun x hx => HR.out.2.1 x (by simp [hx])
              · rw [← HR.out.2.2, chunks, HN.out, List.append_assoc]; rfl
              · show r.length < r.length + 1 + 1 + 1 + 1 + 1 + 1; omega
        · have hj : j + 1 ≤ padN 6 B.length := by have := HP.out.2; unfold padN at *; omega
          have hqb : ((P.length : Int) % 6 != 0) = true := by simp; omega
          have HJ := hid hj
          have hPl2 : P.length + 1 ≤ 17179869190 := by have := Hlen.out; unfold padN at hj; omega
          clear hPlen hq hj
          go_wp2_with fail
          rw [show (⟨P.toArray⟩ : ByteArray) ++ ⟨#[48]⟩ = ⟨(P ++ [48]).toArray⟩ from ba_app P [48]]
          refine ⟨⟨P ++ [48], j + 1, rfl, by simpa using hPl2, hid ⟨?_, HJ.out⟩⟩, ?_⟩
          · rw [HP.out.1, List.replicate_succ', List.append_assoc]
          · show 17179869200 - (P ++ [48]).length < 17179869200 - P.length
            rw [List.length_append, List.length_singleton]; omega
end Go.Proofs.YtchhmekjfnelcaaGreatDoor
