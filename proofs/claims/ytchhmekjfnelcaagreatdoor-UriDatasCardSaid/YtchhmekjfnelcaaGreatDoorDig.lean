/- strconv.FormatInt at base 2 and the reference digits (base 2, six or eight digits at least): the binary digits of a number below 256. -/
import Derived.Test.YtchhmekjfnelcaaGreatDoorShelf
import Derived.WalkKit
import Derived.BigCall
import Derived.WalkSpells
import Derived.WalkLawsBesides
import Derived.BigQuiet
namespace Go.Proofs.YtchhmekjfnelcaaGreatDoor
open Go.RowKit
set_option maxRecDepth 100000 in
theorem tz2 (w : World) (hg : w.cell? ⟨9, 1, none⟩ = some (.int .u8 1)) : Calls Tryz.prog 99 #[.int .u64 2] w fun e w' => e = .returned (.int .i64 1) ∧ w = w' := by
  have hx : IntKind.u64.wrap (bits BinOp.and IntKind.u64 2 (IntKind.u64.wrap (-2)) * 285870213051353865) = 571740426102707730 := by decide +kernel
  go_enter Tryz.func99, Tryz.ntmps99
  go_wp2
  go_ret
  exact ⟨rfl, rfl⟩
set_option maxRecDepth 100000 in
theorem pow2_2 (w : World) : Calls Tryz.prog 98 #[.int .i64 2] w fun e w' => e = .returned (.bool true) ∧ w = w' := by
  have hx : bits BinOp.and IntKind.i64 2 1 = 0 := by decide +kernel
  go_enter Tryz.func98, Tryz.ntmps98
  go_wp2
  go_ret
  exact ⟨rfl, rfl⟩
theorem wraps_u64 (n : Int) (h₀ : 0 ≤ n) (h₁ : n < 2 ^ 64) : IntKind.u64.wrap n = n := by rw [IntKind.wrap_u64]; omega
theorem and1u (x : Nat) (h1 : x < 256) : bits .and .u64 (x : Int) 1 = ((x % 2 : Nat) : Int) := by
  have := bits_mask .u64 64 (by decide) wraps_u64 1 (by decide) (x : Int) (by omega) (by omega)
  simpa using this
theorem zc_size : Tryz.zeroCells142.size = 65 := by kernel_rfl
/-- The last k cells of the buffer are the last k binary digits. -/
def Tail (n k : Nat) (A : Array Value) : Prop := A.size = 65 ∧ ∀ j, j < k → A[64 - j]? = some (.int .u8 ((48 + n / 2 ^ j % 2 : Nat) : Int))
theorem Tail.put {n k : Nat} {A : Array Value} (h : Tail n k A) (hk : k ≤ 60) (d : Int) (hd : d = ((48 + n / 2 ^ k % 2 : Nat) : Int)) : Tail n (k + 1) (A.setIfInBounds (64 - k) (.int .u8 d)) := by
  refine ⟨by simpa using h.1, fun j hj => ?_⟩
  rw [Array.getElem?_setIfInBounds]
  by_cases e : 64 - k = 64 - j
  · have : j = k := by omega
    subst this
    rw [if_pos rfl, if_pos (by rw [h.1]; omega), hd]
  · rw [if_neg e]; exact h.2 j (by omega)
theorem slice142 (W : World) (b k : Nat) (hk : k ≤ 64) : (Instr.sliceAt 142 (.pointer (some ⟨b, 0, none⟩)) (some (.int .i64 (65 - (k : Int) - 1))) none none).run Tryz.prog W = .ok (.slice (some ⟨b, 64 - k, none⟩) (k + 1) (k + 1)) W := by
  have ht : Tryz.prog.underlying 142 = some (.array (Tryz.prog.arrayLen 142) (Tryz.prog.elem 142)) := by kernel_rfl
  have hal : Tryz.prog.arrayLen 142 = 65 := by kernel_rfl
  have hel : Tryz.prog.elem 142 = 5 := by kernel_rfl
  rw [run_sliceAt_array_l W 142 ⟨b, 0, none⟩ ht .i64 (65 - (k : Int) - 1) (by omega) (by rw [hal]; omega), hal, hel, Tryz.sizeOf5 W]
  simp only [Result.andThen_ok, slicedAt]
  rw [if_neg (by omega), show (65 - (k : Int) - 1).toNat = 64 - k from by omega, show 65 - (64 - k) = k + 1 from by omega]
  simp only [Addr.add]; split <;> simp_all
theorem Tail.put' {n k : Nat} {A : Array Value} (h : Tail n k A) (hk : k ≤ 60) {d : Int} (hd : d = ((48 + n / 2 ^ k % 2 : Nat) : Int)) : Tail n (k + 1) (A.setIfInBounds (65 - k - 1) (.int .u8 d)) := by
  rw [show 65 - k - 1 = 64 - k from by omega]
  exact h.put hk d hd
/-- n in binary, L digits. -/
def binL (L n : Nat) : List UInt8 := (List.range L).map fun j => UInt8.ofNat (48 + n / 2 ^ (L - 1 - j) % 2)
theorem fb_len {n k U : Nat} (hU : U = n / 2 ^ k) (h2 : U < 2) (h : k = 0 ∨ 1 ≤ U) : (k + 1 = 1 ∨ 2 ^ k ≤ n) ∧ n < 2 ^ (k + 1) := by
  have hp : 0 < 2 ^ k := Nat.two_pow_pos k
  refine ⟨?_, ?_⟩
  · rcases h with h | h
    · exact .inl (by omega)
    · rw [hU, Nat.le_div_iff_mul_le hp] at h
      exact .inr (by omega)
  · rw [hU, Nat.div_lt_iff_lt_mul hp] at h2
    rw [Nat.pow_succ]; omega
theorem str_bin (n k : Nat) : strOfNums ((List.range (k + 1)).map fun j => ((48 + n / 2 ^ (k - j) % 2 : Nat) : Int)) = ⟨(binL (k + 1) n).toArray⟩ := by
  apply ByteArray.ext
  simp only [strOfNums, binL, List.map_map]
  rw [show (List.map ((fun n : Int => UInt8.ofNat n.toNat) ∘ fun j => ((48 + n / 2 ^ (k - j) % 2 : Nat) : Int)) (List.range (k + 1))) = List.map (fun j => UInt8.ofNat (48 + n / 2 ^ (k + 1 - 1 - j) % 2)) (List.range (k + 1)) from List.map_congr_left fun j _ => by simp only [Function.comp, Int.toNat_natCast, Nat.add_sub_cancel]]
theorem conv_tail (n k : Nat) (w : World) (A : Array Value) (hk : k ≤ 60) (hT : Tail n (k + 1) A) :
    (convert 44 9 (.slice (some ⟨w.heap.size, 64 - k, none⟩) (k + 1) (k + 1))).run Tryz.prog (w.alloc (.cells A 142)) = .ok (.string ⟨(binL (k + 1) n).toArray⟩) (w.alloc (.cells A 142)) := by
  have h := run_convert_bytes_arg (P := Tryz.prog) (w.alloc (.cells A 142)) 44 5 Tryz.underlying44 Tryz.underlying5 w.heap.size (64 - k) (k + 1) (k + 1) ((List.range (k + 1)).map fun j => ((48 + n / 2 ^ (k - j) % 2 : Nat) : Int)) (by simp) (fun i hi => by
    rw [World.cell?_alloc_new, show 64 - k + i = 64 - (k - i) from by omega, hT.2 (k - i) (by omega)]
    simp [List.getD, List.getElem?_map, List.getElem?_range hi]) 9 Tryz.underlying9
  rw [str_bin] at h
  exact h
set_option maxRecDepth 100000 in
theorem fbits (n : Nat) (w : World) (hn : n < 256) (hg : w.cell? ⟨9, 1, none⟩ = some (.int .u8 1)) (hsz : 9 < w.heap.size) : Calls Tryz.prog 81 #[.slice none 0 0, .int .u64 n, .int .i64 2, .bool false, .bool false] w fun e w' => ∃ m, 1 ≤ m ∧ m ≤ 8 ∧ n < 2 ^ m ∧ (m = 1 ∨ 2 ^ (m - 1) ≤ n) ∧ e = .returned (.tuple #[.slice none 0 0, .string ⟨(binL m n).toArray⟩]) ∧ Below w.heap.size w w' := by
  have hal : Tryz.prog.arrayLen 142 = 65 := by kernel_rfl
  have hzs := zc_size
  have Hzs := hid hzs
  clear hzs
  go_enter Tryz.func81, Tryz.ntmps81
  go_wp2_with fail
  refine (pow2_2 _).mono ?_
  rintro e w1 ⟨rfl, rfl⟩
  go_wp2_with fail
  refine (tz2 _ (by rw [World.cell?_alloc_lt _ _ _ (by exact hsz)]; exact hg)).mono ?_
  rintro e w1 ⟨rfl, rfl⟩
  go_wp2_with fail
  go_loopw [1, 13] (fun u i wr => ∃ (k U : Nat) (A : Array Value), k ≤ 7 ∧ (k = 0 ∨ 1 ≤ U) ∧ U < 256 ∧ Hid (U < 2 ^ (8 - k)) ∧ Hid (U = n / 2 ^ k) ∧ u = .int .u64 U ∧ i = .int .i64 (65 - (k : Int)) ∧ wr = w.alloc (.cells A 142) ∧ Hid (Tail n k A)) (fun u _ _ => (intOf u).toNat)
  case atStart => exact ⟨0, n, Tryz.zeroCells142, by omega, .inl rfl, hn, hid (by omega), hid (by simp), rfl, rfl, rfl, hid ⟨Hzs.out, fun j hj => by omega⟩⟩
  case round =>
    obtain ⟨k, U, A, hk, h7, hU, h8, HU, rfl, rfl, rfl, HT⟩ := hrel
    have q : bits .and .u64 (U : Int) 1 = ((U % 2 : Nat) : Int) := and1u U hU
    obtain ⟨v0, hv0⟩ : ∃ v, A[65 - k - 1]? = some v := by
      have := HT.out.1
      exact ⟨A[65 - k - 1]'(by omega), Array.getElem?_eq_getElem _⟩
    by_cases h2 : 2 ≤ U
    · have hk6 : k ≤ 6 := by
        rcases Nat.lt_or_ge k 7 with h | h
        · omega
        · have h9 := h8.out
          have : 2 ^ (8 - k) ≤ 2 ^ 1 := Nat.pow_le_pow_right (by decide) (by omega)
          omega
      rcases Nat.mod_two_eq_zero_or_one U with hm | hm
      all_goals
        rw [hm] at q
        have Hm := hid hm
        clear hm
        go_wp2
        refine ⟨⟨k + 1, U / 2, _, by omega, .inr (by omega), by omega, hid ?_, hid ?_, by simp, by simp; omega, rfl, hid (HT.out.put' (by omega) ?_)⟩, by simp [intOf]; omega⟩
        · have h9 := h8.out
          rw [show 8 - k = (8 - (k + 1)) + 1 from by omega, Nat.pow_succ] at h9
          omega
        · rw [HU.out, Nat.div_div_eq_div_mul, Nat.pow_succ]
        · rw [← HU.out, Hm.out]; rfl
    · have hsl := fun W : World => slice142 W w.heap.size k (by omega)
      have HM : Hid ((k + 1 = 1 ∨ 2 ^ k ≤ n) ∧ n < 2 ^ (k + 1)) := hid (fb_len HU.out (by omega) h7)
      have hU01 : U = 0 ∨ U = 1 := by omega
      rcases hU01 with rfl | rfl
      · have hT' : Tail n (k + 1) (A.setIfInBounds (65 - k - 1) (.int .u8 ((⟨#[48, 49, 50, 51, 52, 53, 54, 55, 56, 57, 97, 98, 99, 100, 101, 102, 103, 104, 105, 106, 107, 108, 109, 110, 111, 112, 113, 114, 115, 116, 117, 118, 119, 120, 121, 122]⟩ : ByteArray)[0].toNat : Int))) := HT.out.put' (by omega) (by rw [← HU.out]; rfl)
        have hc := conv_tail n k w _ (by omega) hT'
        clear hT'
        go_wp2
        go_ret2
        exact ⟨k + 1, by omega, by omega, HM.out.2, HM.out.1, rfl, (Below.refl _ _).alloc (Nat.le_refl _) _⟩
      · have hT' : Tail n (k + 1) (A.setIfInBounds (65 - k - 1) (.int .u8 ((⟨#[48, 49, 50, 51, 52, 53, 54, 55, 56, 57, 97, 98, 99, 100, 101, 102, 103, 104, 105, 106, 107, 108, 109, 110, 111, 112, 113, 114, 115, 116, 117, 118, 119, 120, 121, 122]⟩ : ByteArray)[1].toNat : Int))) := HT.out.put' (by omega) (by rw [← HU.out]; rfl)
        have hc := conv_tail n k w _ (by omega) hT'
        clear hT'
        go_wp2
        go_ret2
        exact ⟨k + 1, by omega, by omega, HM.out.2, HM.out.1, rfl, (Below.refl _ _).alloc (Nat.le_refl _) _⟩
set_option maxRecDepth 100000 in
theorem fmt2 (n : Nat) (w : World) (hn : n < 256) (hg : w.cell? ⟨9, 1, none⟩ = some (.int .u8 1)) (hsz : 9 < w.heap.size) : Calls Tryz.prog 39 #[.int .i64 n, .int .i64 2] w fun e w' => ∃ m, 1 ≤ m ∧ m ≤ 8 ∧ n < 2 ^ m ∧ (m = 1 ∨ 2 ^ (m - 1) ≤ n) ∧ e = .returned (.string ⟨(binL m n).toArray⟩) ∧ Below w.heap.size w w' := by
  go_enter Tryz.func39, Tryz.ntmps39
  go_wp2_with (go_at_call 62; go_in)
  refine (fbits n _ hn hg hsz).mono ?_
  rintro e w1 ⟨m, h1, h2, h3, h4, rfl, hb⟩
  have H3 := hid h3
  have H4 := hid h4
  clear h3 h4
  go_wp2
  go_ret
  exact ⟨m, h1, h2, H3.out, H4.out, rfl, hb⟩
theorem ba_app (a b : List UInt8) : (⟨a.toArray⟩ : ByteArray) ++ ⟨b.toArray⟩ = ⟨(a ++ b).toArray⟩ := by
  apply ByteArray.ext
  simp
theorem binL_length (L n : Nat) : (binL L n).length = L := by simp [binL]
theorem binL_pad (k n : Nat) (h : n < 2 ^ k) : binL (k + 1) n = 48 :: binL k n := by
  unfold binL
  rw [List.range_succ_eq_map, List.map_cons, List.map_map]
  congr 1
  · rw [show k + 1 - 1 - 0 = k from by omega, Nat.div_eq_of_lt h]; rfl
  · apply List.map_congr_left
    intro j _
    simp only [Function.comp]
    rw [show k + 1 - 1 - Nat.succ j = k - 1 - j from by omega]
set_option maxRecDepth 100000 in
theorem digits2 (n L : Nat) (w : World) (hL : L ≤ 8) (hL1 : 1 ≤ L) (hn : n < 2 ^ L) (hg : w.cell? ⟨9, 1, none⟩ = some (.int .u8 1)) (hsz : 9 < w.heap.size) : Calls Tryz.prog 18 #[.int .i64 n, .int .i64 2, .int .i64 L] w fun e w' => e = .returned (.string ⟨(binL L n).toArray⟩) ∧ Below w.heap.size w w' := by
  have hn8 : n < 256 := by
    have : 2 ^ L ≤ 2 ^ 8 := Nat.pow_le_pow_right (by decide) hL
    omega
  have HN := hid hn
  clear hn
  go_enter Tryz.func18, Tryz.ntmps18
  go_wp2_with fail
  refine (fmt2 n _ hn8 hg hsz).mono ?_
  rintro e w1 ⟨m, h1, h2, h3, h4, rfl, hb⟩
  have hm : m ≤ L := by
    rcases h4 with h4 | h4
    · omega
    · rcases Nat.lt_or_ge L m with h | h
      · have h5 : 2 ^ L ≤ 2 ^ (m - 1) := Nat.pow_le_pow_right (by decide) (by omega)
        have := HN.out
        omega
      · exact h
  have H3 := hid h3
  clear h3 h4
  have hl := binL_length
  go_wp2_with fail
  go_loop [7] (fun v => ∃ k : Nat, m ≤ k ∧ k ≤ L ∧ v = .string ⟨(binL k n).toArray⟩) (fun v => L - (match v with | .string b => b.size | _ => 0))
  case atStart => exact ⟨m, Nat.le_refl _, hm, rfl⟩
  case round =>
    obtain ⟨k, hk1, hk2, rfl⟩ := hrel
    by_cases hlt : k < L
    · have hp : n < 2 ^ k := Nat.lt_of_lt_of_le H3.out (Nat.pow_le_pow_right (by decide) hk1)
      have Hp := hid (binL_pad k n hp)
      clear hp
      go_wp2
      rw [show (⟨#[48]⟩ : ByteArray) ++ ⟨(binL k n).toArray⟩ = ⟨(binL (k + 1) n).toArray⟩ from by rw [Hp.out]; exact ba_app [48] _]
      refine ⟨⟨k + 1, by omega, by omega, rfl⟩, ?_⟩
      show L - (binL (k + 1) n).length < L - (binL k n).length
      rw [binL_length, binL_length]; omega
    · have hkL : k = L := by omega
      subst hkL
      go_wp2
      go_ret
      exact ⟨rfl, hb⟩
end Go.Proofs.YtchhmekjfnelcaaGreatDoor
