/- The reference's base64 decoder walked. -/
import Derived.Test.YtchhmekjfnelcaaGreatDoorCont
import Derived.Test.YtchhmekjfnelcaaGreatDoorRefB
import Derived.Test.YtchhmekjfnelcaaGreatDoorDec
import Derived.Lib.Case
import Derived.Deep.RegionWith
namespace Go.Proofs.YtchhmekjfnelcaaGreatDoor
open Go.RowKit
theorem lower_alpha (w : World) : Calls Tryz.prog 17 #[.string ⟨#[65, 66, 67, 68, 69, 70, 71, 72, 73, 74, 75, 76, 77, 78, 79, 80, 81, 82, 83, 84, 85, 86, 87, 88, 89, 90]⟩] w fun e w' => e = .returned (.string ⟨#[97, 98, 99, 100, 101, 102, 103, 104, 105, 106, 107, 108, 109, 110, 111, 112, 113, 114, 115, 116, 117, 118, 119, 120, 121, 122]⟩) ∧ Below w.heap.size w w' :=
  (Tryz.strings_ToLower_ascii _ w (by decide) (by
    have h : ∀ b ∈ ([65, 66, 67, 68, 69, 70, 71, 72, 73, 74, 75, 76, 77, 78, 79, 80, 81, 82, 83, 84, 85, 86, 87, 88, 89, 90] : List UInt8), b.toNat < 128 := by decide
    intro j b hb
    exact h b (List.mem_of_getElem? hb))).mono fun e w' h => by
      obtain ⟨rfl, hb⟩ := h
      exact ⟨rfl, hb⟩
theorem cat1 : (⟨#[65, 66, 67, 68, 69, 70, 71, 72, 73, 74, 75, 76, 77, 78, 79, 80, 81, 82, 83, 84, 85, 86, 87, 88, 89, 90]⟩ : ByteArray) ++ (⟨#[97, 98, 99, 100, 101, 102, 103, 104, 105, 106, 107, 108, 109, 110, 111, 112, 113, 114, 115, 116, 117, 118, 119, 120, 121, 122]⟩ : ByteArray) = ⟨#[65, 66, 67, 68, 69, 70, 71, 72, 73, 74, 75, 76, 77, 78, 79, 80, 81, 82, 83, 84, 85, 86, 87, 88, 89, 90, 97, 98, 99, 100, 101, 102, 103, 104, 105, 106, 107, 108, 109, 110, 111, 112, 113, 114, 115, 116, 117, 118, 119, 120, 121, 122]⟩ := by rfl
theorem cat2 : (⟨#[65, 66, 67, 68, 69, 70, 71, 72, 73, 74, 75, 76, 77, 78, 79, 80, 81, 82, 83, 84, 85, 86, 87, 88, 89, 90, 97, 98, 99, 100, 101, 102, 103, 104, 105, 106, 107, 108, 109, 110, 111, 112, 113, 114, 115, 116, 117, 118, 119, 120, 121, 122]⟩ : ByteArray) ++ (⟨#[48, 49, 50, 51, 52, 53, 54, 55, 56, 57, 43, 47]⟩ : ByteArray) = ⟨#[65, 66, 67, 68, 69, 70, 71, 72, 73, 74, 75, 76, 77, 78, 79, 80, 81, 82, 83, 84, 85, 86, 87, 88, 89, 90, 97, 98, 99, 100, 101, 102, 103, 104, 105, 106, 107, 108, 109, 110, 111, 112, 113, 114, 115, 116, 117, 118, 119, 120, 121, 122, 48, 49, 50, 51, 52, 53, 54, 55, 56, 57, 43, 47]⟩ := by rfl
def bodyOf (l : List UInt8) : List UInt8 := if Lib.trimSuffix l [61] = l then l else Lib.trimSuffix (Lib.trimSuffix l [61]) [61]
/-- The first byte that is no sign. -/
def firstBad : Nat → List UInt8 → Option Nat
  | _, [] => none
  | i, c :: r => if dgt c < 0 then some i else firstBad (i + 1) r
theorem good_of_none : ∀ {l : List UInt8} {i : Nat}, firstBad i l = none → ∀ c ∈ l, 0 ≤ dgt c
  | [], _, _, c, hc => by simp at hc
  | a :: l, i, h, c, hc => by
    unfold firstBad at h
    split at h
    · cases h
    · rcases List.mem_cons.1 hc with rfl | hc
      · omega
      · exact good_of_none h c hc
def bytes8 : List UInt8 → List UInt8 × List UInt8
  | a :: b :: c :: d :: e :: f :: g :: h :: r => (UInt8.ofNat (bval [a, b, c, d, e, f, g, h]) :: (bytes8 r).1, (bytes8 r).2)
  | l => ([], l)
def bits6 (l : List UInt8) : List UInt8 := l.flatMap fun c => binL 6 (dgt c).toNat
theorem bits6_bits (l : List UInt8) : Bits (bits6 l) := by
  intro c hc
  simp only [bits6, List.mem_flatMap] at hc
  obtain ⟨x, _, hx⟩ := hc
  exact bin_bits _ _ c hx
/-- What the reference's decoder gives. -/
def unB (l : List UInt8) : Except (Int × Int) (List UInt8) :=
  if l.length % 4 = 0 then
    match firstBad 0 (bodyOf l) with
    | some i => .error (3, (i : Int))
    | none => if 0 ≤ Lib.indexByte (bytes8 (bits6 (bodyOf l))).2 49 ∨ 4 < (bytes8 (bits6 (bodyOf l))).2.length then .error (3, ((bodyOf l).length : Int) - 1) else .ok (bytes8 (bits6 (bodyOf l))).1
  else .error (7, (l.length : Int))
def UnPost (l : List UInt8) (w : World) (e : Ending) (w' : World) : Prop :=
  (∀ x, unB l = .error x → e = .returned (.tuple #[.string ⟨#[]⟩, .agg #[.int .i64 x.1, .int .i64 x.2]])) ∧ (∀ o, unB l = .ok o → e = .returned (.tuple #[.string ⟨o.toArray⟩, .agg #[.int .i64 0, .int .i64 (-1)]])) ∧ Below w.heap.size w w'
theorem un_err {l : List UInt8} {w w' : World} {a b : Int} (h : unB l = .error (a, b)) (hb : Below w.heap.size w w') : UnPost l w (.returned (.tuple #[.string ⟨#[]⟩, .agg #[.int .i64 a, .int .i64 b]])) w' :=
  ⟨(fun x hx => by rw [h] at hx; cases hx; rfl), (fun o ho => by rw [h] at ho; cases ho), hb⟩
theorem un_ok {l o : List UInt8} {w w' : World} (h : unB l = .ok o) (hb : Below w.heap.size w w') : UnPost l w (.returned (.tuple #[.string ⟨o.toArray⟩, .agg #[.int .i64 0, .int .i64 (-1)]])) w' :=
  ⟨(fun x hx => by rw [h] at hx; cases hx), (fun o' ho => by rw [h] at ho; cases ho; rfl), hb⟩
theorem unB_bad {l : List UInt8} {i : Nat} (hm : l.length % 4 = 0) (h : firstBad 0 (bodyOf l) = some i) : unB l = .error (3, (i : Int)) := by unfold unB; rw [if_pos hm, h]
theorem unB_rest {l bd rest : List UInt8} (hm : l.length % 4 = 0) (hb : bd = bodyOf l) (hf : firstBad 0 bd = none) (h2 : rest = (bytes8 (bits6 bd)).2) (h : 0 ≤ Lib.indexByte rest 49 ∨ 4 < rest.length) : unB l = .error (3, (bd.length : Int) - 1) := by
  unfold unB; rw [if_pos hm, ← hb, hf]; simp only; rw [← h2, if_pos h]
theorem unB_good {l bd rest out : List UInt8} (hm : l.length % 4 = 0) (hb : bd = bodyOf l) (hf : firstBad 0 bd = none) (h1 : out = (bytes8 (bits6 bd)).1) (h2 : rest = (bytes8 (bits6 bd)).2) (h : ¬ (0 ≤ Lib.indexByte rest 49 ∨ 4 < rest.length)) : unB l = .ok out := by
  unfold unB; rw [if_pos hm, ← hb, hf]; simp only; rw [← h2, if_neg h, ← h1]
theorem trim_len (l p : List UInt8) : (Lib.trimSuffix l p).length ≤ l.length := by unfold Lib.trimSuffix; split <;> simp
theorem trim1 (l : List UInt8) (w : World) (hs : l.length ≤ 2147483648) : Calls Tryz.prog 15 #[.string ⟨l.toArray⟩, .string ⟨#[61]⟩] w fun e w' => e = .returned (.string ⟨(Lib.trimSuffix l [61]).toArray⟩) ∧ w = w' :=
  (Tryz.strings_TrimSuffix _ _ w (by show l.length ≤ _; omega)).mono fun e w' h => ⟨by rw [h.1], h.2.symm⟩
theorem digits6 (n : Nat) (w : World) (hn : n < 64) (hL : Laid w) : Calls Tryz.prog 18 #[.int .i64 (n : Int), .int .i64 2, .int .i64 6] w fun e w' => e = .returned (.string ⟨(binL 6 n).toArray⟩) ∧ Below w.heap.size w w' :=
  digits2 n 6 w (by omega) (by omega) hn hL.z9 (by have := hL.sz; omega)
theorem below_set2 {w w3 : World} (h : Below w.heap.size w w3) (u v : Value) : Below w.heap.size w ((w3.setCell ⟨w.heap.size, 0, none⟩ u).setCell ⟨w.heap.size, 1, none⟩ v) :=
  (h.setCell (show w.heap.size ≤ (⟨w.heap.size, 0, none⟩ : Addr).block from Nat.le_refl _) u).setCell (show w.heap.size ≤ (⟨w.heap.size, 1, none⟩ : Addr).block from Nat.le_refl _) v
theorem below_end {w wr : World} (h : Below w.heap.size w wr) (u v : Value) (o : Obj) : Below w.heap.size w (((wr.setCell ⟨w.heap.size, 0, none⟩ u).setCell ⟨w.heap.size, 1, none⟩ v).alloc o) :=
  (below_set2 h u v).alloc (below_set2 h u v).size o
theorem eight {l : List UInt8} (h : 8 ≤ l.length) : ∃ a b c d e f g i r, l = a :: b :: c :: d :: e :: f :: g :: i :: r := by
  rcases l with _ | ⟨a, _ | ⟨b, _ | ⟨c, _ | ⟨d, _ | ⟨e, _ | ⟨f, _ | ⟨g, _ | ⟨i, r⟩⟩⟩⟩⟩⟩⟩⟩
  · simp at h
  · simp at h
  · simp at h
  · simp at h
  · simp at h
  · simp at h
  · simp at h
  · simp at h
  · exact ⟨_, _, _, _, _, _, _, _, _, rfl⟩
theorem ext8 (a b c d e f g i : UInt8) (r : List UInt8) : (⟨(a :: b :: c :: d :: e :: f :: g :: i :: r).toArray⟩ : ByteArray).extract 8 (r.length + 1 + 1 + 1 + 1 + 1 + 1 + 1 + 1) = ⟨r.toArray⟩ := by
  rw [ba_cut]; simp
theorem contains49 (l : List UInt8) (w : World) : Calls Tryz.prog 21 #[.string ⟨l.toArray⟩, .string ⟨#[49]⟩] w fun e w' => e = .returned (.bool (decide (0 ≤ Lib.indexByte l 49))) ∧ w = w' :=
  (Tryz.strings_Contains_one _ _ w).mono fun e w' h => ⟨by rw [h.1], h.2.symm⟩
theorem bytes8_short {l : List UInt8} (h : l.length < 8) : bytes8 l = ([], l) := by
  unfold bytes8
  split
  · simp at h; omega
  · rfl
theorem own_below {B : Nat} {w1 w2 : World} {v : Value} {n : Nat} {xs : List Value} (h : w1.ownsRow B 5 1 v n xs) (hb : Below w1.heap.size w1 w2) : w2.ownsRow B 5 1 v n xs :=
  h.kept (row := some w1.heap.size) ⟨hb.os, hb.tape, hb.output, hb.size, fun i hi _ => hb.block i hi⟩ (.inr fun e => by have := (h.lt _ e).2; omega)
set_option maxRecDepth 100000 in
theorem good_any (w : World) : Calls Tryz.prog 22 #[] w fun e w' => e = .returned (.agg #[.int .i64 0, .int .i64 (-1)]) ∧ w.alloc (.cells #[.int .i64 0, .int .i64 (-1)] 24) = w' := by
  go_enter Tryz.func22, Tryz.ntmps22
  go_wp2
  exact bodyPost_ret (v := .agg #[.int .i64 0, .int .i64 (-1)]) (by simp [results, Tryz.results22, go_sem]) rfl ⟨rfl, rfl⟩
theorem conv_own {B : Nat} {wr : World} {g cap : Nat} {out : List UInt8} (h : wr.ownsRow B 5 1 (.slice (some ⟨g, 0, none⟩) out.length cap) out.length (Lib.byteCells out)) (w9 : World) (hw : ∀ j, w9.cell? ⟨g, j, none⟩ = wr.cell? ⟨g, j, none⟩) :
    (convert 44 9 (.slice (some ⟨g, 0, none⟩) out.length cap)).run Tryz.prog w9 = .ok (.string ⟨out.toArray⟩) w9 := by
  have hc := run_convert_bytes_arg (P := Tryz.prog) w9 44 5 Tryz.underlying44 Tryz.underlying5 g 0 out.length cap (out.map fun b => (b.toNat : Int)) (by simp) (fun i hi => by
    rw [hw, Nat.zero_add, h.cellAt i (by omega)]
    simp [Lib.byteCells, List.getD, List.getElem?_map, List.getElem?_eq_getElem hi]) 9 Tryz.underlying9
  rw [strOf] at hc
  exact hc
theorem cell1_new (w : World) (a : Value) : ∀ j u, ([a] : List Value)[j]? = some u → (w.alloc (.cells #[a] 5)).cell? ((⟨w.heap.size, 0, none⟩ : Addr).add j) = some u := by
  intro j u hu
  rcases j with _ | j
  · simp at hu; subst hu; simp [Addr.add]
  · simp at hu
/-- The result's slot in memory, untouched so far. -/
structure Slot (b : Nat) (w : World) : Prop where
  c0 : w.cell? ⟨b, 0, none⟩ = some (.int .i64 0)
  c1 : w.cell? ⟨b, 1, none⟩ = some (.int .i64 0)
  f0 : w.frozen? ⟨b, 0, none⟩ = false
  f1 : w.frozen? ⟨b, 1, none⟩ = false
  lt : b < w.heap.size
theorem Slot.below {b B : Nat} {w w' : World} (h : Slot b w) (hB : b < B) (hb : Below B w w') : Slot b w' :=
  ⟨by rw [hb.cell (p := ⟨b, 0, none⟩) hB]; exact h.c0, by rw [hb.cell (p := ⟨b, 1, none⟩) hB]; exact h.c1, by rw [hb.frozen (p := ⟨b, 0, none⟩) hB]; exact h.f0, by rw [hb.frozen (p := ⟨b, 1, none⟩) hB]; exact h.f1, Nat.lt_of_lt_of_le h.lt hb.size⟩
theorem Slot.new (w : World) : Slot w.heap.size (w.alloc (.cells #[.int .i64 0, .int .i64 0] 24)) := ⟨by simp, by simp, by simp, by simp, by simp⟩
set_option maxRecDepth 100000 in
set_option maxHeartbeats 1000000 in
theorem unb64_any (l : List UInt8) (w : World) (hs : l.length ≤ 2147483648) (hL : Laid w) :
    Calls Tryz.prog 5 #[.string ⟨l.toArray⟩] w (UnPost l w) := by
  by_cases hm : l.length % 4 = 0
  · have hm' : ((l.length : Int) % 4 != 0) = false := by simp; omega
    have Hm := hid hm
    clear hm
    obtain ⟨i0, hi, hz0, hz1, hz2⟩ := info_parts info5
    go_enter Tryz.func5, Tryz.ntmps5
    go_wp2_with fail
    refine (trim1 l _ hs).mono ?_
    rintro e w1 ⟨rfl, rfl⟩
    obtain ⟨b1, hb1⟩ : ∃ b1, Lib.trimSuffix l [61] = b1 := ⟨_, rfl⟩
    have hb1l : b1.length ≤ l.length := by rw [← hb1]; exact trim_len _ _
    rw [hb1]
    by_cases he : b1 = l
    · subst he
      have HB : Hid (b1 = bodyOf b1) := hid (by unfold bodyOf; rw [if_pos hb1])
      clear hb1 hb1l
      obtain ⟨bd, hbd⟩ : ∃ bd, bd = b1 := ⟨_, rfl⟩
      have HB2 : Hid (bd = bodyOf b1) := hid (by rw [hbd]; exact HB.out)
      clear HB
      have HB := HB2
      clear HB2
      have hbl : bd.length ≤ 2147483648 := by rw [hbd]; exact hs
      subst hbd
      have hcv := Lib.run_convert_string_bytes (P := Tryz.prog) (w.alloc (.cells #[.int .i64 0, .int .i64 0] 24)) 9 44 5 ⟨bd.toArray⟩ (u := .string) Tryz.underlying9 Tryz.underlying44 Tryz.underlying5
      have hB : ∀ j, j < bd.length → (Lib.bytesWorld (w.alloc (.cells #[.int .i64 0, .int .i64 0] 24)) 5 ⟨bd.toArray⟩).cell? ⟨w.heap.size + 1, j, none⟩ = some (.int .u8 (bd.getD j 0).toNat) := fun j hj => by
        have := Lib.bytesWorld_cell (w.alloc (.cells #[.int .i64 0, .int .i64 0] 24)) 5 ⟨bd.toArray⟩ j hj
        simpa using this
      have hb0 : Below (w.heap.size + 1) (w.alloc (.cells #[.int .i64 0, .int .i64 0] 24)) (Lib.bytesWorld (w.alloc (.cells #[.int .i64 0, .int .i64 0] 24)) 5 ⟨bd.toArray⟩) := by
        have := below_bytes (w.alloc (.cells #[.int .i64 0, .int .i64 0] 24)) 5 ⟨bd.toArray⟩
        simpa using this
      have hsz1 : (Lib.bytesWorld (w.alloc (.cells #[.int .i64 0, .int .i64 0] 24)) 5 ⟨bd.toArray⟩).heap.size = w.heap.size + 2 := by rw [Lib.bytesWorld_size]; simp
      obtain ⟨W1, hW1⟩ : ∃ W1, W1 = Lib.bytesWorld (w.alloc (.cells #[.int .i64 0, .int .i64 0] 24)) 5 ⟨bd.toArray⟩ := ⟨_, rfl⟩
      rw [← hW1] at hcv hB hb0 hsz1
      clear hW1
      have hSl1 : Slot w.heap.size W1 := (Slot.new w).below (by omega) hb0
      have hbw1 : Below w.heap.size w W1 := ((Below.refl _ w).alloc (Nat.le_refl _) _).trans (hb0.mono (by omega))
      have Hsz1 : w.heap.size + 2 ≤ W1.heap.size := by omega
      clear hsz1
      have k1 := cat1
      have k2 := cat2
      go_wp2_with fail
      go_loopw [29] (fun i wr => ∃ k : Nat, i = .int .i64 k ∧ k ≤ bd.length ∧ Hid (firstBad k (bd.drop k) = firstBad 0 bd) ∧ Below W1.heap.size W1 wr) (fun i _ => bd.length - (intOf i).toNat)
      case atStart => exact ⟨0, rfl, by omega, hid rfl, Below.refl _ _⟩
      case round =>
        obtain ⟨k, rfl, hk, HF, hbr⟩ := hrel
        have hLr : Laid wr := hL.below hL.sz (hbw1.trans (hbr.mono (by omega)))
        have hSl := hSl1.below (by omega) hbr
        by_cases hlt : k < bd.length
        · have hck := hB k hlt
          rw [← hbr.cell (p := ⟨w.heap.size + 1, k, none⟩) (by show w.heap.size + 1 < _; omega)] at hck
          obtain ⟨c, hc1, hc2⟩ : ∃ c, bd.getD k 0 = c ∧ bd.drop k = c :: bd.drop (k + 1) := ⟨bd[k], by simp [List.getD, List.getElem?_eq_getElem hlt], List.drop_eq_getElem_cons hlt⟩
          rw [hc1] at hck
          have HD := hid hc2
          clear hc1 hc2
          have hw32 : wrap32 (c.toNat : Int) = (c.toNat : Int) := IntWalk.wrap32_in _ (by have := c.toNat_lt; omega)
          go_wp2_with fail
          refine (lower_alpha _).mono ?_
          rintro e2 w2 ⟨rfl, hb2⟩
          have hbr2 := hbr.trans (hb2.mono hbr.size)
          go_wp2_with fail
          refine (contains_sign c _).mono ?_
          rintro e3 w3 ⟨rfl, hb3⟩
          have hbr3 := hbr2.trans (hb3.mono hbr2.size)
          have hSl3 := hSl1.below (by omega) hbr3
          by_cases hg : 0 ≤ dgt c
          · rw [show decide (0 ≤ dgt c) = true from by simpa using hg]
            go_wp2_with fail
            refine ⟨⟨k + 1, by go_num, by omega, hid ?_, hbr3⟩, by simp [intOf]; omega⟩
            rw [← HF.out, HD.out]
            exact (if_neg (by omega)).symm
          · rw [show decide (0 ≤ dgt c) = false from by simpa using hg]
            obtain ⟨s0, s1, s2, s3, s4⟩ := hSl3
            go_wp2_with fail
            exact bodyPost_ret (v := .tuple #[.string ⟨#[]⟩, .agg #[.int .i64 3, .int .i64 k]]) (by simp [results, Tryz.results5, go_sem, *]) rfl (un_err (unB_bad Hm.out (by rw [← HB.out, ← HF.out, HD.out]; exact if_pos (by omega))) (below_set2 (hbw1.trans (hbr3.mono (by omega))) _ _))
        · have hkl : k = bd.length := by omega
          subst hkl
          have HF2 : Hid (firstBad 0 bd = none) := hid (by rw [← HF.out, List.drop_length]; rfl)
          have HG : Hid (∀ c ∈ bd, 0 ≤ dgt c) := hid (good_of_none HF2.out)
          have hbw2 : Below w.heap.size w wr := hbw1.trans (hbr.mono (by omega))
          have hszr : w.heap.size + 2 ≤ wr.heap.size := Nat.le_trans Hsz1 hbr.size
          obtain ⟨W2, hW2⟩ : ∃ W2, W2 = wr := ⟨_, rfl⟩
          rw [← hW2] at hbw2 hszr hSl hLr ⊢
          clear hW2 hbr HF hB hcv hb0 hSl1 hbw1 Hsz1
          go_wp2_with fail
          go_loopw [7, 46] (fun v i wr => ∃ (k : Nat) (B : List UInt8), v = .string ⟨B.toArray⟩ ∧ i = .int .i64 k ∧ k ≤ bd.length ∧ B.length ≤ 6 * k ∧ Hid (B = bits6 (bd.take k)) ∧ Below W2.heap.size W2 wr) (fun _ i _ => bd.length - (intOf i).toNat)
          case atStart => exact ⟨0, [], rfl, rfl, by omega, by simp, hid rfl, Below.refl _ _⟩
          case round =>
            obtain ⟨k, B, rfl, rfl, hk, hBl, HBB, hbr⟩ := hrel
            have hL3 : Laid wr := hLr.below hLr.sz hbr
            by_cases hlt : k < bd.length
            · obtain ⟨c, hx, hc⟩ : ∃ c, (∀ h, (⟨bd.toArray⟩ : ByteArray)[k]'h = c) ∧ bd[k] = c := ⟨bd[k], fun _ => rfl, rfl⟩
              have hg := HG.out bd[k] (List.getElem_mem hlt)
              have hst : bits6 (bd.take (k + 1)) = bits6 (bd.take k) ++ binL 6 (dgt bd[k]).toNat := by
                rw [List.take_succ_eq_append_getElem hlt, bits6, List.flatMap_append]; simp [bits6]
              rw [hc] at hst hg
              obtain ⟨N, hN⟩ := Int.eq_ofNat_of_zero_le hg
              have hN64 : N < 64 := by rcases dgt_cases c with h | h <;> omega
              rw [hN, Int.toNat_natCast] at hst
              have HN := hid hN
              have HS := hid hst
              clear hst hN hg hc
              have hd6 := binL_length 6 N
              go_wp2_with fail
              refine (index_alpha c _).mono ?_
              rintro e4 w4 ⟨rfl, rfl⟩
              rw [HN.out]
              go_wp2_with fail
              refine (digits6 N _ hN64 hL3).mono ?_
              rintro e5 w5 ⟨rfl, hb5⟩
              have hbr5 := hbr.trans (hb5.mono hbr.size)
              go_wp2_with fail
              rw [ba_app]
              refine ⟨⟨k + 1, B ++ binL 6 N, rfl, by go_num, by omega, by rw [List.length_append, binL_length]; omega, hid (by rw [HS.out, HBB.out]), hbr5⟩, by simp [intOf]; omega⟩
            · have hkl : k = bd.length := by omega
              subst hkl
              rw [List.take_length] at HBB
              have hBl2 : B.length ≤ 12884901888 := by omega
              have HbB : Hid (Bits B) := hid (by rw [HBB.out]; exact bits6_bits bd)
              have hbw3 := hbw2.trans (hbr.mono (by omega))
              have hSl3 := hSl.below (by omega) hbr
              have hsz3 : w.heap.size + 2 ≤ wr.heap.size := Nat.le_trans hszr hbr.size
              obtain ⟨W3, hW3⟩ : ∃ W3, W3 = wr := ⟨_, rfl⟩
              rw [← hW3] at hbw3 hSl3 hL3 hsz3 ⊢
              clear hW3 hbr hbw2 hSl hszr hLr
              go_wp2_with fail
              go_loopw [7, 9] (fun v o wr => ∃ (rest out : List UInt8), v = .string ⟨rest.toArray⟩ ∧ rest.length ≤ 12884901888 ∧ out.length + rest.length ≤ 12884901888 ∧ wr.ownsRow W3.heap.size 5 1 o out.length (Lib.byteCells out) ∧ Hid (Bits rest ∧ out ++ (bytes8 rest).1 = (bytes8 B).1 ∧ (bytes8 rest).2 = (bytes8 B).2) ∧ Below W3.heap.size W3 wr) (fun v _ _ => (match v with | .string b => b.size | _ => 0))
              case atStart => exact ⟨B, [], rfl, hBl2, by simpa using hBl2, World.ownsRow_nil _ _ _ _, hid ⟨HbB.out, rfl, rfl⟩, Below.refl _ _⟩
              case round =>
                obtain ⟨rest, out, rfl, hr, hro, hown, HR, hbr⟩ := hrel
                by_cases h8 : 8 ≤ rest.length
                · obtain ⟨a, b, c, d, e, f, g, i, r, rfl⟩ := eight h8
                  go_wp2_with fail
                  rw [show (⟨(a :: b :: c :: d :: e :: f :: g :: i :: r).toArray⟩ : ByteArray).extract 0 8 = ⟨[a, b, c, d, e, f, g, i].toArray⟩ from by rw [ba_cut]; simp]
                  have hb8 : Bits [a, b, c, d, e, f, g, i] := fun x hx => HR.out.1 x (by simp at hx ⊢; rcases hx with h | h | h | h | h | h | h | h <;> simp [h])
                  have hN1 : bval [a, b, c, d, e, f, g, i] < 256 := bval_lt _ hb8
                  refine (pint [a, b, c, d, e, f, g, i] _ (by simp) (by simp) hb8).mono ?_
                  rintro e6 w6 ⟨rfl, hb6⟩
                  have hbr6 := hbr.trans (hb6.mono hbr.size)
                  have hown6 := own_below hown hb6
                  obtain ⟨N, hN⟩ : ∃ N, bval [a, b, c, d, e, f, g, i] = N := ⟨_, rfl⟩
                  rw [hN]
                  rw [hN] at hN1
                  have HN := hid hN
                  clear hN hb8
                  simp only [List.length_cons] at hro hr
                  go_wp2_with
                    (at_builtin
                     refine wpList_append_own _ rfl (.tmp 68) (.tmp 71) _ rfl W3.heap.size 5 i0 (.int .u8 0) 1 1 Tryz.underlying44 hi hz0 hz1 hz2 rfl (by decide) _ out.length _ rfl (hown6.alloc _) ⟨w6.heap.size, 0, none⟩ 1 1 [.int .u8 (N : Int)] ?c1 ?c0 ?c2 ?c3 ?c4 ?c5 ?c6 ?_
                     case c1 => rfl
                     case c0 => rfl
                     case c2 => exact cell1_new w6 _
                     case c3 => intro u hu; simp at hu; subst hu; rfl
                     case c4 => simp only [maxLen]; omega
                     case c5 => omega
                     case c6 => simp; exact Nat.le_succ_of_le hbr6.size
                     intro v7 w7 hown7 hg7 _
                     have hb7 := below_app hbr6 hbr6.size hown6 hg7
                     have hown8 := own_app (bs := [UInt8.ofNat N]) hown7 rfl (by simp [Lib.byteCells]; omega)
                     clear hown7 hg7)
                  rw [ext8]
                  refine ⟨⟨r, out ++ [UInt8.ofNat N], rfl, by omega, by simp; omega, hown8, hid ⟨fun x hx => HR.out.1 x (by simp [hx]), ?_, ?_⟩, hb7⟩, ?_⟩
                  · rw [← HR.out.2.1, bytes8, HN.out, List.append_assoc]; rfl
                  · rw [← HR.out.2.2, bytes8]
                  · show r.length < r.length + 1 + 1 + 1 + 1 + 1 + 1 + 1 + 1; omega
                · have hlt8 : rest.length < 8 := by omega
                  have H1 : Hid (out = (bytes8 (bits6 bd)).1) := hid (by
                    have h : out = (bytes8 B).1 := by
                      have := HR.out.2.1
                      rw [bytes8_short hlt8, List.append_nil] at this
                      exact this
                    rw [h, HBB.out])
                  have H2 : Hid (rest = (bytes8 (bits6 bd)).2) := hid (by
                    have h : rest = (bytes8 B).2 := by
                      have := HR.out.2.2
                      rw [bytes8_short hlt8] at this
                      exact this
                    rw [h, HBB.out])
                  have hSl4 := hSl3.below (by omega) hbr
                  have hbw4 := hbw3.trans (hbr.mono (by omega))
                  have hszw : w.heap.size + 2 ≤ wr.heap.size := Nat.le_trans hsz3 hbr.size
                  clear hlt8
                  go_wp2_with fail
                  refine (contains49 rest _).mono ?_
                  rintro e9 w9 ⟨rfl, rfl⟩
                  by_cases hbad : 0 ≤ Lib.indexByte rest 49 ∨ 4 < rest.length
                  · have hue : unB _ = .error (3, (bd.length : Int) - 1) := unB_rest Hm.out HB.out HF2.out H2.out hbad
                    have HUE := hid hue
                    clear hue
                    obtain ⟨s0, s1, s2, s3, s4⟩ := hSl4
                    rcases Classical.em (0 ≤ Lib.indexByte rest 49) with hi1 | hi1
                    · rw [show decide (0 ≤ Lib.indexByte rest 49) = true from by simpa using hi1]
                      clear hi1 hbad
                      go_wp2_with fail
                      exact bodyPost_ret (v := .tuple #[.string ⟨#[]⟩, .agg #[.int .i64 3, .int .i64 ((bd.length : Int) - 1)]]) (by simp [results, Tryz.results5, go_sem, *]) rfl (un_err HUE.out (below_set2 hbw4 _ _))
                    · rw [show decide (0 ≤ Lib.indexByte rest 49) = false from by simpa using hi1]
                      have h4 : 4 < rest.length := by rcases hbad with h | h; exact absurd h hi1; exact h
                      clear hi1 hbad
                      go_wp2_with fail
                      exact bodyPost_ret (v := .tuple #[.string ⟨#[]⟩, .agg #[.int .i64 3, .int .i64 ((bd.length : Int) - 1)]]) (by simp [results, Tryz.results5, go_sem, *]) rfl (un_err HUE.out (below_set2 hbw4 _ _))
                  · have huo : unB _ = .ok out := unB_good Hm.out HB.out HF2.out H1.out H2.out hbad
                    have HUO := hid huo
                    clear huo
                    rw [show decide (0 ≤ Lib.indexByte rest 49) = false from by have := fun h => hbad (Or.inl h); simp; omega]
                    have h4 : rest.length ≤ 4 := by have := fun h => hbad (Or.inr h); omega
                    clear hbad
                    obtain ⟨s0, s1, s2, s3, s4⟩ := hSl4
                    rcases hown.2 with ⟨rfl, hn⟩ | ⟨g, cap, cur, rfl, hbg, hcur, hle, _, hszc, htake⟩
                    · have hn0 : out = [] := List.eq_nil_of_length_eq_zero hn
                      have hc1 := run_convert_bytes_nil (P := Tryz.prog) wr.drew 44 5 Tryz.underlying44 Tryz.underlying5 0 0 9 Tryz.underlying9
                      have hc2 := run_convert_bytes_nil (P := Tryz.prog) (wr.alloc (.cells #[.int .i64 0, .int .i64 (-1)] 24)).drew 44 5 Tryz.underlying44 Tryz.underlying5 0 0 9 Tryz.underlying9
                      rw [hn0] at HUO
                      clear hn hn0 hown
                      go_wp2_with fail
                      go_region_with (go_at_call 22; refine (good_any _).mono ?_; rintro e9 w9 ⟨rfl, rfl⟩)
                      all_goals
                        go_wp2_with fail
                        refine bodyPost_ret (v := .tuple #[.string ⟨([] : List UInt8).toArray⟩, .agg #[.int .i64 0, .int .i64 (-1)]]) (by simp [results, Tryz.results5, go_sem, *]; rfl) rfl (un_ok HUO.out ?_)
                        exact Below.drew (below_end hbw4 _ _ _)
                    · have hcA := fun (w9 : World) (hw9 : ∀ j, w9.cell? ⟨g, j, none⟩ = wr.cell? ⟨g, j, none⟩) => conv_own hown w9 hw9
                      have hc1 := hcA wr.drew (fun _ => rfl)
                      have hc2 := hcA (wr.alloc (.cells #[.int .i64 0, .int .i64 (-1)] 24)).drew (fun j => by exact World.cell?_alloc_lt _ _ _ (by
                        have := (Array.getElem?_eq_some_iff.1 hcur).1
                        exact this))
                      clear hcA htake hszc hcur hown
                      go_wp2_with fail
                      go_region_with (go_at_call 22; refine (good_any _).mono ?_; rintro e9 w9 ⟨rfl, rfl⟩)
                      all_goals
                        go_wp2_with fail
                        refine bodyPost_ret (v := .tuple #[.string ⟨out.toArray⟩, .agg #[.int .i64 0, .int .i64 (-1)]]) (by simp [results, Tryz.results5, go_sem, *]) rfl (un_ok HUO.out ?_)
                        exact Below.drew (below_end hbw4 _ _ _)
    · have HB : Hid (Lib.trimSuffix b1 [61] = bodyOf l) := hid (by unfold bodyOf; rw [if_neg (by rw [hb1]; exact he), hb1])
      have hneq : (b1 == l) = false := by simpa using he
      clear hb1 he
      go_wp2_with fail
      refine (trim1 b1 _ (by omega)).mono ?_
      rintro e w1 ⟨rfl, rfl⟩
      obtain ⟨bd, hbd⟩ : ∃ bd, bd = Lib.trimSuffix b1 [61] := ⟨_, rfl⟩
      have hbl : bd.length ≤ 2147483648 := by rw [hbd]; exact Nat.le_trans (trim_len _ _) (by omega)
      rw [← hbd] at HB ⊢
      clear hbd
      have hcv := Lib.run_convert_string_bytes (P := Tryz.prog) (w.alloc (.cells #[.int .i64 0, .int .i64 0] 24)) 9 44 5 ⟨bd.toArray⟩ (u := .string) Tryz.underlying9 Tryz.underlying44 Tryz.underlying5
      have hB : ∀ j, j < bd.length → (Lib.bytesWorld (w.alloc (.cells #[.int .i64 0, .int .i64 0] 24)) 5 ⟨bd.toArray⟩).cell? ⟨w.heap.size + 1, j, none⟩ = some (.int .u8 (bd.getD j 0).toNat) := fun j hj => by
        have := Lib.bytesWorld_cell (w.alloc (.cells #[.int .i64 0, .int .i64 0] 24)) 5 ⟨bd.toArray⟩ j hj
        simpa using this
      have hb0 : Below (w.heap.size + 1) (w.alloc (.cells #[.int .i64 0, .int .i64 0] 24)) (Lib.bytesWorld (w.alloc (.cells #[.int .i64 0, .int .i64 0] 24)) 5 ⟨bd.toArray⟩) := by
        have := below_bytes (w.alloc (.cells #[.int .i64 0, .int .i64 0] 24)) 5 ⟨bd.toArray⟩
        simpa using this
      have hsz1 : (Lib.bytesWorld (w.alloc (.cells #[.int .i64 0, .int .i64 0] 24)) 5 ⟨bd.toArray⟩).heap.size = w.heap.size + 2 := by rw [Lib.bytesWorld_size]; simp
      obtain ⟨W1, hW1⟩ : ∃ W1, W1 = Lib.bytesWorld (w.alloc (.cells #[.int .i64 0, .int .i64 0] 24)) 5 ⟨bd.toArray⟩ := ⟨_, rfl⟩
      rw [← hW1] at hcv hB hb0 hsz1
      clear hW1
      have hSl1 : Slot w.heap.size W1 := (Slot.new w).below (by omega) hb0
      have hbw1 : Below w.heap.size w W1 := ((Below.refl _ w).alloc (Nat.le_refl _) _).trans (hb0.mono (by omega))
      have Hsz1 : w.heap.size + 2 ≤ W1.heap.size := by omega
      clear hsz1
      have k1 := cat1
      have k2 := cat2
      go_wp2_with fail
      go_loopw [29] (fun i wr => ∃ k : Nat, i = .int .i64 k ∧ k ≤ bd.length ∧ Hid (firstBad k (bd.drop k) = firstBad 0 bd) ∧ Below W1.heap.size W1 wr) (fun i _ => bd.length - (intOf i).toNat)
      case atStart => exact ⟨0, rfl, by omega, hid rfl, Below.refl _ _⟩
      case round =>
        obtain ⟨k, rfl, hk, HF, hbr⟩ := hrel
        have hLr : Laid wr := hL.below hL.sz (hbw1.trans (hbr.mono (by omega)))
        have hSl := hSl1.below (by omega) hbr
        by_cases hlt : k < bd.length
        · have hck := hB k hlt
          rw [← hbr.cell (p := ⟨w.heap.size + 1, k, none⟩) (by show w.heap.size + 1 < _; omega)] at hck
          obtain ⟨c, hc1, hc2⟩ : ∃ c, bd.getD k 0 = c ∧ bd.drop k = c :: bd.drop (k + 1) := ⟨bd[k], by simp [List.getD, List.getElem?_eq_getElem hlt], List.drop_eq_getElem_cons hlt⟩
          rw [hc1] at hck
          have HD := hid hc2
          clear hc1 hc2
          have hw32 : wrap32 (c.toNat : Int) = (c.toNat : Int) := IntWalk.wrap32_in _ (by have := c.toNat_lt; omega)
          go_wp2_with fail
          refine (lower_alpha _).mono ?_
          rintro e2 w2 ⟨rfl, hb2⟩
          have hbr2 := hbr.trans (hb2.mono hbr.size)
          go_wp2_with fail
          refine (contains_sign c _).mono ?_
          rintro e3 w3 ⟨rfl, hb3⟩
          have hbr3 := hbr2.trans (hb3.mono hbr2.size)
          have hSl3 := hSl1.below (by omega) hbr3
          by_cases hg : 0 ≤ dgt c
          · rw [show decide (0 ≤ dgt c) = true from by simpa using hg]
            go_wp2_with fail
            refine ⟨⟨k + 1, by go_num, by omega, hid ?_, hbr3⟩, by simp [intOf]; omega⟩
            rw [← HF.out, HD.out]
            exact (if_neg (by omega)).symm
          · rw [show decide (0 ≤ dgt c) = false from by simpa using hg]
            obtain ⟨s0, s1, s2, s3, s4⟩ := hSl3
            go_wp2_with fail
            exact bodyPost_ret (v := .tuple #[.string ⟨#[]⟩, .agg #[.int .i64 3, .int .i64 k]]) (by simp [results, Tryz.results5, go_sem, *]) rfl (un_err (unB_bad Hm.out (by rw [← HB.out, ← HF.out, HD.out]; exact if_pos (by omega))) (below_set2 (hbw1.trans (hbr3.mono (by omega))) _ _))
        · have hkl : k = bd.length := by omega
          subst hkl
          have HF2 : Hid (firstBad 0 bd = none) := hid (by rw [← HF.out, List.drop_length]; rfl)
          have HG : Hid (∀ c ∈ bd, 0 ≤ dgt c) := hid (good_of_none HF2.out)
          have hbw2 : Below w.heap.size w wr := hbw1.trans (hbr.mono (by omega))
          have hszr : w.heap.size + 2 ≤ wr.heap.size := Nat.le_trans Hsz1 hbr.size
          obtain ⟨W2, hW2⟩ : ∃ W2, W2 = wr := ⟨_, rfl⟩
          rw [← hW2] at hbw2 hszr hSl hLr ⊢
          clear hW2 hbr HF hB hcv hb0 hSl1 hbw1 Hsz1
          go_wp2_with fail
          go_loopw [7, 46] (fun v i wr => ∃ (k : Nat) (B : List UInt8), v = .string ⟨B.toArray⟩ ∧ i = .int .i64 k ∧ k ≤ bd.length ∧ B.length ≤ 6 * k ∧ Hid (B = bits6 (bd.take k)) ∧ Below W2.heap.size W2 wr) (fun _ i _ => bd.length - (intOf i).toNat)
          case atStart => exact ⟨0, [], rfl, rfl, by omega, by simp, hid rfl, Below.refl _ _⟩
          case round =>
            obtain ⟨k, B, rfl, rfl, hk, hBl, HBB, hbr⟩ := hrel
            have hL3 : Laid wr := hLr.below hLr.sz hbr
            by_cases hlt : k < bd.length
            · obtain ⟨c, hx, hc⟩ : ∃ c, (∀ h, (⟨bd.toArray⟩ : ByteArray)[k]'h = c) ∧ bd[k] = c := ⟨bd[k], fun _ => rfl, rfl⟩
              have hg := HG.out bd[k] (List.getElem_mem hlt)
              have hst : bits6 (bd.take (k + 1)) = bits6 (bd.take k) ++ binL 6 (dgt bd[k]).toNat := by
                rw [List.take_succ_eq_append_getElem hlt, bits6, List.flatMap_append]; simp [bits6]
              rw [hc] at hst hg
              obtain ⟨N, hN⟩ := Int.eq_ofNat_of_zero_le hg
              have hN64 : N < 64 := by rcases dgt_cases c with h | h <;> omega
              rw [hN, Int.toNat_natCast] at hst
              have HN := hid hN
              have HS := hid hst
              clear hst hN hg hc
              have hd6 := binL_length 6 N
              go_wp2_with fail
              refine (index_alpha c _).mono ?_
              rintro e4 w4 ⟨rfl, rfl⟩
              rw [HN.out]
              go_wp2_with fail
              refine (digits6 N _ hN64 hL3).mono ?_
              rintro e5 w5 ⟨rfl, hb5⟩
              have hbr5 := hbr.trans (hb5.mono hbr.size)
              go_wp2_with fail
              rw [ba_app]
              refine ⟨⟨k + 1, B ++ binL 6 N, rfl, by go_num, by omega, by rw [List.length_append, binL_length]; omega, hid (by rw [HS.out, HBB.out]), hbr5⟩, by simp [intOf]; omega⟩
            · have hkl : k = bd.length := by omega
              subst hkl
              rw [List.take_length] at HBB
              have hBl2 : B.length ≤ 12884901888 := by omega
              have HbB : Hid (Bits B) := hid (by rw [HBB.out]; exact bits6_bits bd)
              have hbw3 := hbw2.trans (hbr.mono (by omega))
              have hSl3 := hSl.below (by omega) hbr
              have hsz3 : w.heap.size + 2 ≤ wr.heap.size := Nat.le_trans hszr hbr.size
              obtain ⟨W3, hW3⟩ : ∃ W3, W3 = wr := ⟨_, rfl⟩
              rw [← hW3] at hbw3 hSl3 hL3 hsz3 ⊢
              clear hW3 hbr hbw2 hSl hszr hLr
              go_wp2_with fail
              go_loopw [7, 9] (fun v o wr => ∃ (rest out : List UInt8), v = .string ⟨rest.toArray⟩ ∧ rest.length ≤ 12884901888 ∧ out.length + rest.length ≤ 12884901888 ∧ wr.ownsRow W3.heap.size 5 1 o out.length (Lib.byteCells out) ∧ Hid (Bits rest ∧ out ++ (bytes8 rest).1 = (bytes8 B).1 ∧ (bytes8 rest).2 = (bytes8 B).2) ∧ Below W3.heap.size W3 wr) (fun v _ _ => (match v with | .string b => b.size | _ => 0))
              case atStart => exact ⟨B, [], rfl, hBl2, by simpa using hBl2, World.ownsRow_nil _ _ _ _, hid ⟨HbB.out, rfl, rfl⟩, Below.refl _ _⟩
              case round =>
                obtain ⟨rest, out, rfl, hr, hro, hown, HR, hbr⟩ := hrel
                by_cases h8 : 8 ≤ rest.length
                · obtain ⟨a, b, c, d, e, f, g, i, r, rfl⟩ := eight h8
                  go_wp2_with fail
                  rw [show (⟨(a :: b :: c :: d :: e :: f :: g :: i :: r).toArray⟩ : ByteArray).extract 0 8 = ⟨[a, b, c, d, e, f, g, i].toArray⟩ from by rw [ba_cut]; simp]
                  have hb8 : Bits [a, b, c, d, e, f, g, i] := fun x hx => HR.out.1 x (by simp at hx ⊢; rcases hx with h | h | h | h | h | h | h | h <;> simp [h])
                  have hN1 : bval [a, b, c, d, e, f, g, i] < 256 := bval_lt _ hb8
                  refine (pint [a, b, c, d, e, f, g, i] _ (by simp) (by simp) hb8).mono ?_
                  rintro e6 w6 ⟨rfl, hb6⟩
                  have hbr6 := hbr.trans (hb6.mono hbr.size)
                  have hown6 := own_below hown hb6
                  obtain ⟨N, hN⟩ : ∃ N, bval [a, b, c, d, e, f, g, i] = N := ⟨_, rfl⟩
                  rw [hN]
                  rw [hN] at hN1
                  have HN := hid hN
                  clear hN hb8
                  simp only [List.length_cons] at hro hr
                  go_wp2_with
                    (at_builtin
                     refine wpList_append_own _ rfl (.tmp 68) (.tmp 71) _ rfl W3.heap.size 5 i0 (.int .u8 0) 1 1 Tryz.underlying44 hi hz0 hz1 hz2 rfl (by decide) _ out.length _ rfl (hown6.alloc _) ⟨w6.heap.size, 0, none⟩ 1 1 [.int .u8 (N : Int)] ?c1 ?c0 ?c2 ?c3 ?c4 ?c5 ?c6 ?_
                     case c1 => rfl
                     case c0 => rfl
                     case c2 => exact cell1_new w6 _
                     case c3 => intro u hu; simp at hu; subst hu; rfl
                     case c4 => simp only [maxLen]; omega
                     case c5 => omega
                     case c6 => simp; exact Nat.le_succ_of_le hbr6.size
                     intro v7 w7 hown7 hg7 _
                     have hb7 := below_app hbr6 hbr6.size hown6 hg7
                     have hown8 := own_app (bs := [UInt8.ofNat N]) hown7 rfl (by simp [Lib.byteCells]; omega)
                     clear hown7 hg7)
                  rw [ext8]
                  refine ⟨⟨r, out ++ [UInt8.ofNat N], rfl, by omega, by simp; omega, hown8, hid ⟨fun x hx => HR.out.1 x (by simp [hx]), ?_, ?_⟩, hb7⟩, ?_⟩
                  · rw [← HR.out.2.1, bytes8, HN.out, List.append_assoc]; rfl
                  · rw [← HR.out.2.2, bytes8]
                  · show r.length < r.length + 1 + 1 + 1 + 1 + 1 + 1 + 1 + 1; omega
                · have hlt8 : rest.length < 8 := by omega
                  have H1 : Hid (out = (bytes8 (bits6 bd)).1) := hid (by
                    have h : out = (bytes8 B).1 := by
                      have := HR.out.2.1
                      rw [bytes8_short hlt8, List.append_nil] at this
                      exact this
                    rw [h, HBB.out])
                  have H2 : Hid (rest = (bytes8 (bits6 bd)).2) := hid (by
                    have h : rest = (bytes8 B).2 := by
                      have := HR.out.2.2
                      rw [bytes8_short hlt8] at this
                      exact this
                    rw [h, HBB.out])
                  have hSl4 := hSl3.below (by omega) hbr
                  have hbw4 := hbw3.trans (hbr.mono (by omega))
                  have hszw : w.heap.size + 2 ≤ wr.heap.size := Nat.le_trans hsz3 hbr.size
                  clear hlt8
                  go_wp2_with fail
                  refine (contains49 rest _).mono ?_
                  rintro e9 w9 ⟨rfl, rfl⟩
                  by_cases hbad : 0 ≤ Lib.indexByte rest 49 ∨ 4 < rest.length
                  · have hue : unB _ = .error (3, (bd.length : Int) - 1) := unB_rest Hm.out HB.out HF2.out H2.out hbad
                    have HUE := hid hue
                    clear hue
                    obtain ⟨s0, s1, s2, s3, s4⟩ := hSl4
                    rcases Classical.em (0 ≤ Lib.indexByte rest 49) with hi1 | hi1
                    · rw [show decide (0 ≤ Lib.indexByte rest 49) = true from by simpa using hi1]
                      clear hi1 hbad
                      go_wp2_with fail
                      exact bodyPost_ret (v := .tuple #[.string ⟨#[]⟩, .agg #[.int .i64 3, .int .i64 ((bd.length : Int) - 1)]]) (by simp [results, Tryz.results5, go_sem, *]) rfl (un_err HUE.out (below_set2 hbw4 _ _))
                    · rw [show decide (0 ≤ Lib.indexByte rest 49) = false from by simpa using hi1]
                      have h4 : 4 < rest.length := by rcases hbad with h | h; exact absurd h hi1; exact h
                      clear hi1 hbad
                      go_wp2_with fail
                      exact bodyPost_ret (v := .tuple #[.string ⟨#[]⟩, .agg #[.int .i64 3, .int .i64 ((bd.length : Int) - 1)]]) (by simp [results, Tryz.results5, go_sem, *]) rfl (un_err HUE.out (below_set2 hbw4 _ _))
                  · have huo : unB _ = .ok out := unB_good Hm.out HB.out HF2.out H1.out H2.out hbad
                    have HUO := hid huo
                    clear huo
                    rw [show decide (0 ≤ Lib.indexByte rest 49) = false from by have := fun h => hbad (Or.inl h); simp; omega]
                    have h4 : rest.length ≤ 4 := by have := fun h => hbad (Or.inr h); omega
                    clear hbad
                    obtain ⟨s0, s1, s2, s3, s4⟩ := hSl4
                    rcases hown.2 with ⟨rfl, hn⟩ | ⟨g, cap, cur, rfl, hbg, hcur, hle, _, hszc, htake⟩
                    · have hn0 : out = [] := List.eq_nil_of_length_eq_zero hn
                      have hc1 := run_convert_bytes_nil (P := Tryz.prog) wr.drew 44 5 Tryz.underlying44 Tryz.underlying5 0 0 9 Tryz.underlying9
                      have hc2 := run_convert_bytes_nil (P := Tryz.prog) (wr.alloc (.cells #[.int .i64 0, .int .i64 (-1)] 24)).drew 44 5 Tryz.underlying44 Tryz.underlying5 0 0 9 Tryz.underlying9
                      rw [hn0] at HUO
                      clear hn hn0 hown
                      go_wp2_with fail
                      go_region_with (go_at_call 22; refine (good_any _).mono ?_; rintro e9 w9 ⟨rfl, rfl⟩)
                      all_goals
                        go_wp2_with fail
                        refine bodyPost_ret (v := .tuple #[.string ⟨([] : List UInt8).toArray⟩, .agg #[.int .i64 0, .int .i64 (-1)]]) (by simp [results, Tryz.results5, go_sem, *]; rfl) rfl (un_ok HUO.out ?_)
                        exact Below.drew (below_end hbw4 _ _ _)
                    · have hcA := fun (w9 : World) (hw9 : ∀ j, w9.cell? ⟨g, j, none⟩ = wr.cell? ⟨g, j, none⟩) => conv_own hown w9 hw9
                      have hc1 := hcA wr.drew (fun _ => rfl)
                      have hc2 := hcA (wr.alloc (.cells #[.int .i64 0, .int .i64 (-1)] 24)).drew (fun j => by exact World.cell?_alloc_lt _ _ _ (by
                        have := (Array.getElem?_eq_some_iff.1 hcur).1
                        exact this))
                      clear hcA htake hszc hcur hown
                      go_wp2_with fail
                      go_region_with (go_at_call 22; refine (good_any _).mono ?_; rintro e9 w9 ⟨rfl, rfl⟩)
                      all_goals
                        go_wp2_with fail
                        refine bodyPost_ret (v := .tuple #[.string ⟨out.toArray⟩, .agg #[.int .i64 0, .int .i64 (-1)]]) (by simp [results, Tryz.results5, go_sem, *]) rfl (un_ok HUO.out ?_)
                        exact Below.drew (below_end hbw4 _ _ _)
  · have hm' : ((l.length : Int) % 4 != 0) = true := by simp; omega
    have Hm := hid hm
    clear hm
    go_enter Tryz.func5, Tryz.ntmps5
    go_wp2_with fail
    exact bodyPost_ret (v := .tuple #[.string ⟨#[]⟩, .agg #[.int .i64 7, .int .i64 l.length]]) (by simp [results, Tryz.results5, go_sem]) rfl (un_err (by unfold unB; rw [if_neg Hm.out]) ((Below.refl _ _).alloc (Nat.le_refl _) _))
end Go.Proofs.YtchhmekjfnelcaaGreatDoor
