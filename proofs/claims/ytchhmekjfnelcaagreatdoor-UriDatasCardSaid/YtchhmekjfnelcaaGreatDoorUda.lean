/- The reference's and the program's 'Data' walked. -/
import Derived.Test.YtchhmekjfnelcaaGreatDoorMed
import Derived.Test.YtchhmekjfnelcaaGreatDoorErn
import Derived.Test.YtchhmekjfnelcaaGreatDoorEncEq
namespace Go.Proofs.YtchhmekjfnelcaaGreatDoor
open Go.RowKit
theorem encL_len : ∀ l : List UInt8, (encL l).length ≤ 4 * l.length
  | [] => by simp [encL]
  | [_] => by simp [encL]
  | [_, _] => by simp [encL]
  | _ :: _ :: _ :: r => by
    have := encL_len r
    simp only [encL, List.length_cons] at this ⊢
    omega
def dataS (k b : List UInt8) : ByteArray := (((⟨#[100, 97, 116, 97, 58]⟩ : ByteArray) ++ ⟨k.toArray⟩) ++ ⟨#[59, 98, 97, 115, 101, 54, 52, 44]⟩) ++ ⟨b.toArray⟩
set_option maxRecDepth 100000 in
theorem dataR_yes (k b : List UInt8) (w : World) (hk : k.length ≤ 800) (hb : b.length ≤ 800) (hm : medB k = true) (hL : Laid w) :
    Calls Tryz.prog 10 #[.string ⟨k.toArray⟩, .string ⟨b.toArray⟩] w fun e w' => e = .returned (.tuple #[.string (dataS k (refB b)), .int .i64 0]) ∧ Below w.heap.size w w' := by
  have hel : (refB b).length ≤ 4 * b.length := by rw [enc_eq]; exact encL_len b
  go_enter Tryz.func10, Tryz.ntmps10
  go_wp2_with fail
  refine (mediaR_any k _ (by omega)).mono ?_
  rintro e w1 ⟨rfl, hb1⟩
  rw [hm]
  go_wp2_with fail
  refine (refB64_any b _ (by omega) (hL.below hL.sz hb1)).mono ?_
  rintro e w2 ⟨rfl, hb2⟩
  go_wp2_with fail
  go_ret2
  exact ⟨rfl, hb1.trans (hb2.mono hb1.size)⟩
set_option maxRecDepth 100000 in
theorem dataR_no (k b : List UInt8) (w : World) (hk : k.length ≤ 800) (hm : medB k = false) :
    Calls Tryz.prog 10 #[.string ⟨k.toArray⟩, .string ⟨b.toArray⟩] w fun e w' => e = .returned (.tuple #[.string ⟨#[]⟩, .int .i64 3]) ∧ Below w.heap.size w w' := by
  go_enter Tryz.func10, Tryz.ntmps10
  go_wp2_with fail
  refine (mediaR_any k _ (by omega)).mono ?_
  rintro e w1 ⟨rfl, hb1⟩
  rw [hm]
  go_wp2_with fail
  go_ret2
  exact ⟨rfl, hb1⟩
set_option maxRecDepth 100000 in
theorem data_yes (k b : List UInt8) (w : World) (hk : k.length ≤ 800) (hb : b.length ≤ 800) (hm : medB k = true) :
    Calls Tryz.prog 11 #[.string ⟨k.toArray⟩, .string ⟨b.toArray⟩] w fun e w' => e = .returned (.tuple #[.string (dataS k (encL b)), .nilIface]) ∧ Below w.heap.size w w' := by
  have hel := encL_len b
  go_enter Tryz.func11, Tryz.ntmps11
  go_wp2_with fail
  refine (media_any k _ (by omega)).mono ?_
  rintro e w1 ⟨rfl, rfl⟩
  rw [hm]
  go_wp2_with fail
  refine (encode_any b _ (by omega)).mono ?_
  rintro e w2 ⟨rfl, hb2⟩
  go_wp2_with fail
  go_ret2
  exact ⟨rfl, hb2⟩
set_option maxRecDepth 100000 in
theorem data_no (k b : List UInt8) (w : World) (hk : k.length ≤ 800) (hm : medB k = false) :
    Calls Tryz.prog 11 #[.string ⟨k.toArray⟩, .string ⟨b.toArray⟩] w fun e w' => e = .returned (.tuple #[.string ⟨#[]⟩, .iface 22 (.int .i64 3)]) ∧ w = w' := by
  go_enter Tryz.func11, Tryz.ntmps11
  go_wp2_with fail
  refine (media_any k _ (by omega)).mono ?_
  rintro e w1 ⟨rfl, rfl⟩
  rw [hm]
  go_wp2_with fail
  go_ret2
  exact ⟨rfl, rfl⟩
end Go.Proofs.YtchhmekjfnelcaaGreatDoor
