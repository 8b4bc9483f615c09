/- plain.Place and the law's 'placed', at nil and at an error with a place: what the fault says is what comes back. -/
import Derived.Test.YtchhmekjfnelcaaGreatDoorTell
import Derived.Deep.QuietTactic
import Derived.BigQuiet
namespace Go.Proofs.YtchhmekjfnelcaaGreatDoor
open Go.RowKit
theorem below_drewN' {B : Nat} {a w : World} (h : Below B a w) (n : Nat) : Below B a (w.drewN n) := ⟨h.os, h.tape, h.output, h.size, h.block⟩
theorem ta3 (a : Addr) (w : World) : (Instr.typeAssert (.iface 52 (.pointer (some a))) 28 52 true).run Tryz.prog w = .ok (.tuple #[.pointer (some a), .bool true]) w := by kernel_rfl
set_option maxRecDepth 100000 in
theorem Place_nil (w : World) : Calls Tryz.prog 25 #[.nilIface] w fun e w' => e = .returned (.tuple #[.int .i64 0, .int .i64 (-1)]) ∧ w = w' := by
  go_enter Tryz.func25, Tryz.ntmps25
  go_wp2_with fail
  refine (Tell_nil _).mono ?_
  rintro e w1 ⟨rfl, rfl⟩
  go_wp2_with fail
  refine wp_loop_rounds 1 ?_
  rw [rounds_succ]
  go_wp2_with fail
  go_ret2
  exact ⟨rfl, rfl⟩
set_option maxRecDepth 100000 in
theorem Place_ptr (b : Nat) (c p : Int) (w : World) (hg4 : w.cell? ⟨4, 0, none⟩ = some (.iface 151 (.agg #[hd 28]))) (h4l : 4 < w.heap.size) (hb : w.cell? ⟨b, 0, none⟩ = some (.int .i64 c)) (hb1 : w.cell? ⟨b, 1, none⟩ = some (.int .i64 p)) (hbl : b < w.heap.size) :
    Calls Tryz.prog 25 #[.iface 52 (.pointer (some ⟨b, 0, none⟩))] w fun e w' => e = .returned (.tuple #[.int .i64 c, .int .i64 p]) ∧ Below w.heap.size w w' := by
  have h3 := ta3 ⟨b, 0, none⟩
  go_enter Tryz.func25, Tryz.ntmps25
  go_wp2_with fail
  refine (Tell_ptr b c _ hg4 h4l hb hbl).mono ?_
  rintro e w1 ⟨rfl, hbw⟩
  have hx : w1.cell? ⟨b, 1, none⟩ = some (.int .i64 p) := by rw [hbw.cell (p := ⟨b, 1, none⟩) hbl]; exact hb1
  go_wp2_with fail
  refine wp_loop_rounds 1 ?_
  rw [rounds_succ]
  go_wp2_with fail
  go_quiet (fail)
  go_wp2_with fail
  go_ret2
  exact ⟨rfl, below_drewN' hbw _⟩
set_option maxRecDepth 100000 in
theorem placed_nil (w : World) : Calls Tryz.prog 9 #[.nilIface, .agg #[.int .i64 0, .int .i64 (-1)]] w fun e w' => e = .returned (.bool true) ∧ Below w.heap.size w w' := by
  go_enter Tryz.func9, Tryz.ntmps9
  go_wp2_with fail
  refine (Place_nil _).mono ?_
  rintro e w1 ⟨rfl, rfl⟩
  go_wp2_with fail
  go_ret
  exact ⟨rfl, (Below.refl _ w).alloc (Nat.le_refl _) _⟩
set_option maxRecDepth 100000 in
theorem placed_ptr (b : Nat) (c p : Int) (w : World) (hg4 : w.cell? ⟨4, 0, none⟩ = some (.iface 151 (.agg #[hd 28]))) (h4l : 4 < w.heap.size) (hb : w.cell? ⟨b, 0, none⟩ = some (.int .i64 c)) (hb1 : w.cell? ⟨b, 1, none⟩ = some (.int .i64 p)) (hbl : b < w.heap.size) :
    Calls Tryz.prog 9 #[.iface 52 (.pointer (some ⟨b, 0, none⟩)), .agg #[.int .i64 c, .int .i64 p]] w fun e w' => e = .returned (.bool true) ∧ Below w.heap.size w w' := by
  go_enter Tryz.func9, Tryz.ntmps9
  go_wp2_with fail
  refine (Place_ptr b c p _ ?_ ?_ ?_ ?_ ?_).mono ?_
  · rw [World.cell?_alloc_lt _ _ _ (by exact h4l)]; exact hg4
  · simp; omega
  · rw [World.cell?_alloc_lt _ _ _ (by exact hbl)]; exact hb
  · rw [World.cell?_alloc_lt _ _ _ (by exact hbl)]; exact hb1
  · simp; omega
  rintro e w1 ⟨rfl, hbw⟩
  have hx0 : w1.cell? ⟨w.heap.size, 0, none⟩ = some (.int .i64 c) := by rw [hbw.cell (p := ⟨w.heap.size, 0, none⟩) (by simp)]; simp
  have hx1 : w1.cell? ⟨w.heap.size, 1, none⟩ = some (.int .i64 p) := by rw [hbw.cell (p := ⟨w.heap.size, 1, none⟩) (by simp)]; simp
  have hcc : (c == c) = true := by simp
  have hpp : (p == p) = true := by simp
  go_wp2_with fail
  go_ret
  exact ⟨rfl, ((Below.refl _ w).alloc (Nat.le_refl _) _).trans (hbw.mono (by simp))⟩
end Go.Proofs.YtchhmekjfnelcaaGreatDoor
