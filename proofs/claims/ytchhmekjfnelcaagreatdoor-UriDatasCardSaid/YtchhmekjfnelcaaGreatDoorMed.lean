/- Whether a text may be a kind of media (the program's test and the reference's) walked: both are 'medB', at every text. -/
import Derived.Test.YtchhmekjfnelcaaGreatDoorRefB
namespace Go.Proofs.YtchhmekjfnelcaaGreatDoor
open Go.RowKit
def okM (c : UInt8) : Bool := decide (33 ≤ c.toNat) && decide (c.toNat ≤ 126) && decide (c.toNat ≠ 44) && decide (c.toNat ≠ 59)
def medB (l : List UInt8) : Bool := l.all okM
theorem okM_spec (c : UInt8) : okM c = true ↔ 33 ≤ c.toNat ∧ c.toNat ≤ 126 ∧ c.toNat ≠ 44 ∧ c.toNat ≠ 59 := by
  simp [okM, and_assoc]
def firstNot : Nat → List UInt8 → Int
  | _, [] => -1
  | i, c :: r => if okM c then firstNot (i + 1) r else (i : Int)
theorem firstNot_med : ∀ (l : List UInt8) (i : Nat), decide (firstNot i l < 0) = medB l
  | [], i => by simp [firstNot, medB]
  | c :: r, i => by
    unfold firstNot medB
    by_cases h : okM c = true
    · rw [if_pos h, List.all_cons, h, Bool.true_and]; exact firstNot_med r (i + 1)
    · rw [if_neg h, List.all_cons]
      have : okM c = false := by simpa using h
      rw [this]
      simp
set_option maxRecDepth 100000 in
theorem media_any (l : List UInt8) (w : World) (hs : l.length ≤ 2147483648) :
    Calls Tryz.prog 27 #[.string ⟨l.toArray⟩] w fun e w' => e = .returned (.bool (medB l)) ∧ w = w' := by
  go_enter Tryz.func27, Tryz.ntmps27
  go_wp2_with fail
  go_loop [6] (fun i => ∃ k : Nat, i = .int .i64 k ∧ k ≤ l.length ∧ Hid (medB (l.drop k) = medB l)) (fun i => l.length - (intOf i).toNat)
  case atStart => exact ⟨0, rfl, by omega, hid rfl⟩
  case round =>
    obtain ⟨k, rfl, hk, HF⟩ := hrel
    by_cases hlt : k < l.length
    · obtain ⟨c, hx, hc⟩ : ∃ c, (∀ h, (⟨l.toArray⟩ : ByteArray)[k]'h = c) ∧ l.drop k = c :: l.drop (k + 1) := ⟨l[k], fun _ => rfl, List.drop_eq_getElem_cons hlt⟩
      have HD := hid hc
      clear hc
      have hsp := okM_spec c
      have hm : medB (l.drop k) = (okM c && medB (l.drop (k + 1))) := by rw [HD.out]; rfl
      have HM := hid hm
      clear hm
      by_cases hg : okM c = true
      · have hr := hsp.1 hg
        obtain ⟨h1, h2, h3, h4⟩ := hr
        have HG := hid hg
        have q3 : ((c.toNat : Int) == 44) = false := by simp; omega
        have q4 : ((c.toNat : Int) == 59) = false := by simp; omega
        clear hsp hg h3 h4
        go_wp2_with fail
        refine ⟨⟨k + 1, by go_num, by omega, hid ?_⟩, by simp [intOf]; omega⟩
        rw [← HF.out, HM.out, HG.out, Bool.true_and]
      · have hno : medB l = false := by
          rw [← HF.out, HM.out]
          simp [show okM c = false by simpa using hg]
        have HN := hid hno
        have hr : ¬ (33 ≤ c.toNat ∧ c.toNat ≤ 126 ∧ c.toNat ≠ 44 ∧ c.toNat ≠ 59) := fun h => hg (hsp.2 h)
        clear hsp hg hno
        by_cases h1 : 33 ≤ c.toNat
        · by_cases h2 : c.toNat ≤ 126
          · by_cases h3 : c.toNat = 44
            · have q3 : ((c.toNat : Int) == 44) = true := by simp; omega
              clear hr h3
              go_wp2_with fail
              go_ret
              exact ⟨by rw [HN.out]; rfl, rfl⟩
            · have q3 : ((c.toNat : Int) == 44) = false := by simp; omega
              have q4 : ((c.toNat : Int) == 59) = true := by simp; omega
              clear hr h3
              go_wp2_with fail
              go_ret
              exact ⟨by rw [HN.out]; rfl, rfl⟩
          · clear hr
            go_wp2_with fail
            go_ret
            exact ⟨by rw [HN.out]; rfl, rfl⟩
        · clear hr
          go_wp2_with fail
          go_ret
          exact ⟨by rw [HN.out]; rfl, rfl⟩
    · have hkl : k = l.length := by omega
      subst hkl
      have hyes : medB l = true := by rw [← HF.out, List.drop_length]; rfl
      have HN := hid hyes
      clear hyes
      go_wp2_with fail
      go_ret
      exact ⟨by rw [HN.out]; rfl, rfl⟩
set_option maxRecDepth 100000 in
theorem within_any (n : Int) (w : World) : Calls Tryz.prog 72 #[.int .i64 n, .int .i64 33, .int .i64 126] w fun e w' => e = .returned (.bool (decide (33 ≤ n) && decide (n ≤ 126))) ∧ w = w' := by
  by_cases h1 : 33 ≤ n
  · go_enter Tryz.func72, Tryz.ntmps72
    go_wp2_with fail
    go_ret
    exact ⟨by rw [show decide (33 ≤ n) = true by simpa using h1]; rfl, rfl⟩
  · go_enter Tryz.func72, Tryz.ntmps72
    go_wp2_with fail
    go_ret
    exact ⟨by rw [show decide (33 ≤ n) = false by simpa using h1]; rfl, rfl⟩
theorem grEq (c : UInt8) : (decide ((33 : Int) ≤ c.toNat) && decide ((c.toNat : Int) ≤ 126)) = (decide (33 ≤ c.toNat) && decide (c.toNat ≤ 126)) := by
  rw [Bool.eq_iff_iff, Bool.and_eq_true, Bool.and_eq_true, decide_eq_true_eq, decide_eq_true_eq, decide_eq_true_eq, decide_eq_true_eq]; omega
set_option maxRecDepth 100000 in
theorem graph_any (c : UInt8) (w : World) : Calls Tryz.prog 48 #[.int .u8 c.toNat] w fun e w' => e = .returned (.bool (decide (33 ≤ c.toNat) && decide (c.toNat ≤ 126))) ∧ w = w' := by
  have hwb := wrap_byte c
  go_enter Tryz.func48, Tryz.ntmps48
  go_wp2_with fail
  refine (within_any c.toNat _).mono ?_
  rintro e w1 ⟨rfl, rfl⟩
  go_wp2_with fail
  go_ret
  exact ⟨by rw [← grEq]; rfl, rfl⟩
set_option maxRecDepth 100000 in
theorem bad_any (c : UInt8) (w : World) : Calls Tryz.prog 47 #[.int .u8 c.toNat] w fun e w' => e = .returned (.bool (!okM c)) ∧ w = w' := by
  obtain ⟨g, hg⟩ : ∃ g, g = (decide (33 ≤ c.toNat) && decide (c.toNat ≤ 126)) := ⟨_, rfl⟩
  obtain ⟨x, hx⟩ : ∃ x, x = ((c.toNat : Int) == 44) := ⟨_, rfl⟩
  obtain ⟨y, hy⟩ : ∃ y, y = ((c.toNat : Int) == 59) := ⟨_, rfl⟩
  have hok : (!okM c) = (!g || x || y) := by
    rw [hg, hx, hy, okM]
    have e3 : ((c.toNat : Int) == 44) = decide (c.toNat = 44) := by rw [Bool.eq_iff_iff]; simp; omega
    have e4 : ((c.toNat : Int) == 59) = decide (c.toNat = 59) := by rw [Bool.eq_iff_iff]; simp; omega
    rw [e3, e4]
    by_cases h3 : c.toNat = 44 <;> by_cases h4 : c.toNat = 59 <;> simp [h3, h4]
  rw [hok]
  clear hok
  have hx' := hx.symm
  have hy' := hy.symm
  have Hg := hid hg
  clear hx hy hg
  go_enter Tryz.func47, Tryz.ntmps47
  go_wp2_with fail
  refine (graph_any c _).mono ?_
  rintro e w1 ⟨rfl, rfl⟩
  rw [← Hg.out]
  cases g
  · go_wp2_with fail
    go_ret
    exact ⟨rfl, rfl⟩
  · cases x
    · go_wp2_with fail
      go_ret
      exact ⟨by simp, rfl⟩
    · go_wp2_with fail
      go_ret
      exact ⟨rfl, rfl⟩
set_option maxHeartbeats 1000000 in
set_option maxRecDepth 100000 in
theorem first_any (l : List UInt8) (w : World) (hs : l.length ≤ 2147483648) :
    Calls Tryz.prog 46 #[.string ⟨l.toArray⟩, .func (.func 47) #[] #[]] w fun e w' => e = .returned (.int .i64 (firstNot 0 l)) ∧ Below w.heap.size w w' := by
  have hcv := Lib.run_convert_string_bytes (P := Tryz.prog) w 9 44 5 ⟨l.toArray⟩ (u := .string) Tryz.underlying9 Tryz.underlying44 Tryz.underlying5
  have hB : ∀ j, j < l.length → (Lib.bytesWorld w 5 ⟨l.toArray⟩).cell? ⟨w.heap.size, j, none⟩ = some (.int .u8 (l.getD j 0).toNat) := fun j hj => by
    have := Lib.bytesWorld_cell w 5 ⟨l.toArray⟩ j hj
    simpa using this
  have hb0 := below_bytes w 5 ⟨l.toArray⟩
  obtain ⟨W1, hW1⟩ : ∃ W1, W1 = Lib.bytesWorld w 5 ⟨l.toArray⟩ := ⟨_, rfl⟩
  rw [← hW1] at hcv hB hb0
  clear hW1
  go_enter Tryz.func46, Tryz.ntmps46
  go_wp2_with fail
  go_loop [10] (fun i => ∃ k : Nat, i = .int .i64 k ∧ k ≤ l.length ∧ Hid (firstNot k (l.drop k) = firstNot 0 l)) (fun i => l.length - (intOf i).toNat)
  case atStart => exact ⟨0, rfl, by omega, hid rfl⟩
  case round =>
    obtain ⟨k, rfl, hk, HF⟩ := hrel
    by_cases hlt : k < l.length
    · have hck := hB k hlt
      obtain ⟨c, hc1, hc2⟩ : ∃ c, l.getD k 0 = c ∧ l.drop k = c :: l.drop (k + 1) := ⟨l[k], by simp [List.getD, List.getElem?_eq_getElem hlt], List.drop_eq_getElem_cons hlt⟩
      rw [hc1] at hck
      have HD := hid hc2
      clear hc1 hc2 hB hcv
      go_wp2_with fail
      refine (bad_any c _).mono ?_
      rintro e w1 ⟨rfl, rfl⟩
      by_cases hg : okM c = true
      · rw [hg]
        go_wp2_with fail
        refine ⟨⟨k + 1, by go_num, by omega, hid ?_⟩, by simp [intOf]; omega⟩
        rw [← HF.out, HD.out]
        exact (if_pos hg).symm
      · rw [show okM c = false by simpa using hg]
        go_wp2_with fail
        go_ret
        refine ⟨?_, hb0⟩
        rw [← HF.out, HD.out]
        unfold firstNot
        rw [if_neg hg]
        rfl
    · have hkl : k = l.length := by omega
      subst hkl
      have hz : firstNot 0 l = -1 := by rw [← HF.out, List.drop_length]; rfl
      have HZ := hid hz
      clear hz HF
      go_wp2_with fail
      go_ret
      exact ⟨by rw [HZ.out]; rfl, hb0⟩
set_option maxRecDepth 100000 in
theorem mediaR_any (l : List UInt8) (w : World) (hs : l.length ≤ 2147483648) :
    Calls Tryz.prog 26 #[.string ⟨l.toArray⟩] w fun e w' => e = .returned (.bool (medB l)) ∧ Below w.heap.size w w' := by
  have hm := firstNot_med l 0
  have HM := hid hm
  clear hm
  go_enter Tryz.func26, Tryz.ntmps26
  go_wp2_with fail
  refine (first_any l _ hs).mono ?_
  rintro e w1 ⟨rfl, hb⟩
  go_wp2_with fail
  go_ret
  exact ⟨by rw [← HM.out]; rfl, hb⟩
end Go.Proofs.YtchhmekjfnelcaaGreatDoor
