/- strings.Cut at one byte, the reference's Bare and Is walked. -/
import Derived.Test.YtchhmekjfnelcaaGreatDoorUda
import Derived.Test.YtchhmekjfnelcaaGreatDoorUnb
import Derived.OwnWalk
namespace Go.Proofs.YtchhmekjfnelcaaGreatDoor
open Go.RowKit
set_option maxRecDepth 100000 in
theorem cut49_no (l : List UInt8) (w : World) (h : Lib.indexByte l 44 = -1) :
    Calls Tryz.prog 49 #[.string ⟨l.toArray⟩, .string ⟨#[44]⟩] w fun e w' => e = .returned (.tuple #[.string ⟨l.toArray⟩, .string ⟨#[]⟩, .bool false]) ∧ Below w.heap.size w w' := by
  go_enter Tryz.func49, Tryz.ntmps49
  go_wp2_with fail
  refine (Tryz.stringslite_Index_one ⟨l.toArray⟩ 44 _).mono ?_
  rintro e w1 ⟨rfl, rfl⟩
  rw [show Lib.indexByte (⟨l.toArray⟩ : ByteArray).data.toList 44 = -1 from h]
  go_wp2_with fail
  go_ret3
  exact ⟨rfl, Below.refl _ _⟩
set_option maxRecDepth 100000 in
theorem cut49_yes (l : List UInt8) (k : Nat) (w : World) (hs : l.length ≤ 2147483648) (h : Lib.indexByte l 44 = k) (hk : k < l.length) :
    Calls Tryz.prog 49 #[.string ⟨l.toArray⟩, .string ⟨#[44]⟩] w fun e w' => e = .returned (.tuple #[.string ⟨(l.take k).toArray⟩, .string ⟨(l.drop (k + 1)).toArray⟩, .bool true]) ∧ Below w.heap.size w w' := by
  have e1 : (⟨l.toArray⟩ : ByteArray).extract 0 k = ⟨(l.take k).toArray⟩ := by rw [ba_cut]; simp
  have e2 : (⟨l.toArray⟩ : ByteArray).extract (k + 1) l.length = ⟨(l.drop (k + 1)).toArray⟩ := by rw [ba_cut, List.take_of_length_le (by rw [List.length_drop]; omega)]
  go_enter Tryz.func49, Tryz.ntmps49
  go_wp2_with fail
  refine (Tryz.stringslite_Index_one ⟨l.toArray⟩ 44 _).mono ?_
  rintro e w1 ⟨rfl, rfl⟩
  rw [show Lib.indexByte (⟨l.toArray⟩ : ByteArray).data.toList 44 = k from h]
  go_wp2_with fail
  go_quiet (fail)
  go_wp2_with fail
  go_ret3
  exact ⟨rfl, below_drewN' (Below.refl _ _) _⟩
set_option maxRecDepth 100000 in
theorem cut_no (l : List UInt8) (w : World) (h : Lib.indexByte l 44 = -1) :
    Calls Tryz.prog 30 #[.string ⟨l.toArray⟩, .string ⟨#[44]⟩] w fun e w' => e = .returned (.tuple #[.string ⟨l.toArray⟩, .string ⟨#[]⟩, .bool false]) ∧ Below w.heap.size w w' := by
  go_enter Tryz.func30, Tryz.ntmps30
  go_wp2_with fail
  refine (cut49_no l _ h).mono ?_
  rintro e w1 ⟨rfl, hb⟩
  go_wp2_with fail
  go_ret3
  exact ⟨rfl, hb⟩
set_option maxRecDepth 100000 in
theorem cut_yes (l : List UInt8) (k : Nat) (w : World) (hs : l.length ≤ 2147483648) (h : Lib.indexByte l 44 = k) (hk : k < l.length) :
    Calls Tryz.prog 30 #[.string ⟨l.toArray⟩, .string ⟨#[44]⟩] w fun e w' => e = .returned (.tuple #[.string ⟨(l.take k).toArray⟩, .string ⟨(l.drop (k + 1)).toArray⟩, .bool true]) ∧ Below w.heap.size w w' := by
  go_enter Tryz.func30, Tryz.ntmps30
  go_wp2_with fail
  refine (cut49_yes l k _ hs h hk).mono ?_
  rintro e w1 ⟨rfl, hb⟩
  go_wp2_with fail
  go_ret3
  exact ⟨rfl, hb⟩
set_option maxRecDepth 100000 in
theorem bare3_any (w : World) : Calls Tryz.prog 28 #[.int .i64 3] w fun e w' => e = .returned (.agg #[.int .i64 3, .int .i64 (-1)]) ∧ w.alloc (.cells #[.int .i64 3, .int .i64 (-1)] 24) = w' := by
  go_enter Tryz.func28, Tryz.ntmps28
  go_wp2
  exact bodyPost_ret (v := .agg #[.int .i64 3, .int .i64 (-1)]) (by simp [results, Tryz.results28, go_sem]) rfl ⟨rfl, rfl⟩
set_option maxRecDepth 100000 in
theorem is_any (c p : Int) (w : World) : Calls Tryz.prog 29 #[.agg #[.int .i64 c, .int .i64 p]] w fun e w' => e = .returned (.bool (c == 0)) ∧ w.alloc (.cells #[.int .i64 c, .int .i64 p] 24) = w' := by
  go_enter Tryz.func29, Tryz.ntmps29
  go_wp2
  go_ret
  exact ⟨rfl, rfl⟩
end Go.Proofs.YtchhmekjfnelcaaGreatDoor
