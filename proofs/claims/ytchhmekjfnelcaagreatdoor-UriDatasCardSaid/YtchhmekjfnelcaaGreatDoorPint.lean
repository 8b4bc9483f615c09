/- strconv.ParseInt at base 2 and 64 bits, of one to eight binary digits: their number, no error. -/
import Derived.Test.YtchhmekjfnelcaaGreatDoorShelf
import Derived.WalkKit
import Derived.BigCall
import Derived.WalkSpells
import Derived.WalkLawsBesides
import Derived.BigQuiet
import Derived.Lib.ConvBytes
namespace Go.Proofs.YtchhmekjfnelcaaGreatDoor
open Go.RowKit
/-- The number that binary digits are. -/
def bval (l : List UInt8) : Nat := l.foldl (fun a c => a * 2 + (c.toNat - 48)) 0
def Bits (l : List UInt8) : Prop := ∀ c ∈ l, c = 48 ∨ c = 49
theorem bval_snoc (l : List UInt8) (c : UInt8) : bval (l ++ [c]) = bval l * 2 + (c.toNat - 48) := by simp [bval]
theorem bval_lt_aux : ∀ (l : List UInt8) (a : Nat), Bits l → l.foldl (fun a c => a * 2 + (c.toNat - 48)) a < (a + 1) * 2 ^ l.length := by
  intro l
  induction l with
  | nil => intro a _; simp
  | cons c l ih =>
    intro a h
    have hc : c.toNat - 48 ≤ 1 := by rcases h c (by simp) with rfl | rfl <;> decide
    have := ih (a * 2 + (c.toNat - 48)) (fun x hx => h x (by simp [hx]))
    rw [List.foldl_cons, List.length_cons, Nat.pow_succ]
    have h2 : (a * 2 + (c.toNat - 48) + 1) * 2 ^ l.length ≤ (a + 1) * 2 * 2 ^ l.length := Nat.mul_le_mul_right _ (by omega)
    have h3 : (a + 1) * (2 ^ l.length * 2) = (a + 1) * 2 * 2 ^ l.length := by rw [Nat.mul_assoc, Nat.mul_comm 2]
    omega
theorem bval_lt (l : List UInt8) (h : Bits l) : bval l < 2 ^ l.length := by
  have := bval_lt_aux l 0 h
  rw [Nat.zero_add, Nat.one_mul] at this
  exact this
theorem bval_small (l : List UInt8) (h : Bits l) (k : Nat) (h8 : l.length ≤ 8) : bval (l.take k) < 256 := by
  have h1 := bval_lt (l.take k) (fun c hc => h c (List.mem_of_mem_take hc))
  have h2 : 2 ^ (l.take k).length ≤ 2 ^ 8 := Nat.pow_le_pow_right (by decide) (by simp; omega)
  omega
theorem bval_step {l : List UInt8} {k : Nat} (h : k < l.length) : bval (l.take (k + 1)) = bval (l.take k) * 2 + (l[k].toNat - 48) := by
  rw [List.take_succ_eq_append_getElem h, bval_snoc]
theorem below_bytes (w : World) (e : TypeId) (s : ByteArray) : Below w.heap.size w (Lib.bytesWorld w e s) :=
  ⟨rfl, rfl, rfl, by rw [Lib.bytesWorld_size]; omega, fun k hk => Lib.bytesWorld_at_old w e s k hk⟩
set_option maxRecDepth 100000 in
set_option maxHeartbeats 1000000 in
theorem puint (l : List UInt8) (w : World) (h1 : 1 ≤ l.length) (h8 : l.length ≤ 8) (hb : Hid (Bits l)) : Calls Tryz.prog 64 #[.string ⟨l.toArray⟩, .int .i64 2, .int .i64 64] w fun e w' => e = .returned (.tuple #[.int .u64 (bval l), .nilIface]) ∧ Below w.heap.size w w' := by
  have he : l.isEmpty = false := by cases l with | nil => simp at h1 | cons => rfl
  have he2 : ¬ l = [] := by cases l with | nil => simp at h1 | cons => simp
  have hcv := Lib.run_convert_string_bytes (P := Tryz.prog) w 9 44 5 ⟨l.toArray⟩ (u := .string) Tryz.underlying9 Tryz.underlying44 Tryz.underlying5
  have hB : ∀ j, j < l.length → (Lib.bytesWorld w 5 ⟨l.toArray⟩).cell? ⟨w.heap.size, j, none⟩ = some (.int .u8 (l.getD j 0).toNat) := fun j hj => Lib.bytesWorld_cell w 5 ⟨l.toArray⟩ j hj
  have HBel := Lib.hid (below_bytes w 5 ⟨l.toArray⟩)
  obtain ⟨W1, hW1⟩ : ∃ W1, W1 = Lib.bytesWorld w 5 ⟨l.toArray⟩ := ⟨_, rfl⟩
  rw [← hW1] at hcv hB HBel
  clear hW1
  have hmv : IntKind.u64.wrap (IntKind.u64.wrap 18446744073709551616 - 1) = 18446744073709551615 := by
    rw [IntKind.wrap_u64, IntKind.wrap_u64]
    decide
  go_enter Tryz.func64, Tryz.ntmps64
  go_wp2
  go_loop [12, 13, 101] (fun vu vn vi => ∃ (k : Nat) (a : Int), vu = .bool false ∧ vn = .int .u64 a ∧ vi = .int .i64 k ∧ k ≤ l.length ∧ 0 ≤ a ∧ a < 256 ∧ Hid (a = (bval (l.take k) : Int)))
    (fun _ _ vi => l.length - (intOf vi).toNat)
  case atStart => exact ⟨0, 0, rfl, rfl, rfl, by omega, by omega, by omega, rfl⟩
  case round =>
    obtain ⟨k, a, rfl, rfl, rfl, hk, ha0, ha1, Ha⟩ := hrel
    by_cases hkn : k < l.length
    · have hc := hB k hkn
      have hget : l.getD k 0 = l[k] := by simp [List.getD, List.getElem?_eq_getElem hkn]
      rw [hget] at hc
      have hs := bval_small l hb.out (k + 1) h8
      have hst := bval_step hkn
      have hcc := hb.out l[k] (List.getElem_mem hkn)
      generalize hx : l[k] = c at hc hst hcc
      clear hx hget hB
      rcases hcc with rfl | rfl
      · have Hs := hid hs
        have Hst := hid hst
        clear hs hst
        have hc' : W1.cell? ⟨w.heap.size, k, none⟩ = some (.int .u8 48) := hc
        clear hc
        have a2 : a * 2 < 512 := by omega
        go_wp2
        refine ⟨⟨k + 1, _, rfl, rfl, by go_num, by omega, ?_, ?_, hid ?_⟩, by simp [intOf]; omega⟩
        all_goals (have h1 := Hs.out; have h2 := Hst.out; have h3 := Ha.out; simp at h2; omega)
      · have Hs := hid hs
        have Hst := hid hst
        have h3 := Ha.out
        have a2 : a * 2 + 1 < 256 := by rw [h3]; have h2 := hst; simp at h2; omega
        clear hs hst h3
        have hc' : W1.cell? ⟨w.heap.size, k, none⟩ = some (.int .u8 49) := hc
        clear hc
        go_wp2
        refine ⟨⟨k + 1, _, rfl, rfl, by go_num, by omega, ?_, ?_, hid ?_⟩, by simp [intOf]; omega⟩
        all_goals (have h1 := Hs.out; have h2 := Hst.out; have h3 := Ha.out; simp at h2; omega)
    · have hkk : k = l.length := by omega
      subst hkk
      have h3 := Ha.out
      rw [List.take_length] at h3
      subst h3
      go_wp2
      go_ret2
      exact ⟨rfl, HBel.out⟩
set_option maxRecDepth 100000 in
set_option maxHeartbeats 1000000 in
theorem pint_in (l : List UInt8) (w : World) (h1 : 1 ≤ l.length) (h8 : l.length ≤ 8) (hb : Bits l) : Calls Tryz.prog 41 #[.string ⟨l.toArray⟩, .int .i64 2, .int .i64 64] w fun e w' => e = .returned (.tuple #[.int .i64 (bval l), .nilIface]) ∧ Below w.heap.size w w' := by
  have he : l.isEmpty = false := by cases l with | nil => simp at h1 | cons => rfl
  have he2 : ¬ l = [] := by cases l with | nil => simp at h1 | cons => simp
  have hlt : bval l < 256 := by
    have h := bval_small l hb l.length h8
    rwa [List.take_length] at h
  obtain ⟨c, r, hl⟩ : ∃ c r, l = c :: r := by cases l with | nil => simp at h1 | cons c r => exact ⟨c, r, rfl⟩
  have h0 : ∀ h, (⟨l.toArray⟩ : ByteArray)[0]'h = c := by subst hl; intro _; rfl
  have hcc := hb c (by rw [hl]; simp)
  have n43 : ((c.toNat : Int) == 43) = false := by rcases hcc with rfl | rfl <;> rfl
  have n45 : ((c.toNat : Int) == 45) = false := by rcases hcc with rfl | rfl <;> rfl
  obtain ⟨V, hV⟩ : ∃ V : Int, V = (bval l : Int) := ⟨_, rfl⟩
  have hV0 : 0 ≤ V := by omega
  have hV1 : V < 256 := by omega
  have HV := hid hV
  have HB := hid hb
  clear hl hcc hV hlt hb
  go_enter Tryz.func41, Tryz.ntmps41
  go_wp2_with fail
  refine (puint l _ h1 h8 HB).mono ?_
  rintro e w1 ⟨rfl, hb1⟩
  rw [← HV.out]
  go_wp2_with fail
  go_ret2
  exact ⟨by rw [← HV.out]; rfl, hb1⟩
set_option maxRecDepth 100000 in
theorem pint (l : List UInt8) (w : World) (h1 : 1 ≤ l.length) (h8 : l.length ≤ 8) (hb : Bits l) : Calls Tryz.prog 20 #[.string ⟨l.toArray⟩, .int .i64 2, .int .i64 64] w fun e w' => e = .returned (.tuple #[.int .i64 (bval l), .nilIface]) ∧ Below w.heap.size w w' := by
  go_enter Tryz.func20, Tryz.ntmps20
  go_wp2_with fail
  refine (pint_in l _ h1 h8 hb).mono ?_
  rintro e w1 ⟨rfl, hb1⟩
  go_wp2_with fail
  go_ret2
  exact ⟨rfl, hb1⟩
end Go.Proofs.YtchhmekjfnelcaaGreatDoor
