/- errors.As, api.Tell, plain.Place and the law's 'placed' and 'bare', at an error that is a plain number (no place): what comes back is that number, and -1. -/
import Derived.Test.YtchhmekjfnelcaaGreatDoorPlac
namespace Go.Proofs.YtchhmekjfnelcaaGreatDoor
open Go.RowKit
theorem ta3e (c : Int) (w : World) : (Instr.typeAssert (.iface 22 (.int .i64 c)) 28 52 true).run Tryz.prog w = .ok (.tuple #[.pointer none, .bool false]) w := by kernel_rfl
theorem ta4e (c : Int) (w : World) : (Instr.typeAssert (.iface 22 (.int .i64 c)) 28 81 true).run Tryz.prog w = .ok (.tuple #[.nilIface, .bool false]) w := run_typeAssert_lacksB Tryz.underlying81 (by kernel_rfl) (by kernel_rfl) _ _ w
set_option maxHeartbeats 1000000 in
set_option maxRecDepth 100000 in
theorem as_ern (t v : Nat) (c : Int) (z : Value) (w : World) (ht : w.cell? ⟨t, 0, none⟩ = some z) (hf : w.frozen? ⟨t, 0, none⟩ = false) (htl : t < w.heap.size) (hv : w.cell? ⟨v, 0, none⟩ = some (.pointer (some ⟨t, 0, none⟩))) (hvl : v < w.heap.size) :
    Calls Tryz.prog 91 #[.iface 22 (.int .i64 c), .iface 104 (.pointer (some ⟨t, 0, none⟩)), .agg #[hd 104, .pointer (some ⟨v, 0, none⟩), .int .u64 150], .iface 151 (.agg #[hd 22])] w fun e w' => e = .returned (.bool true) ∧ w'.cell? ⟨t, 0, none⟩ = some (.int .i64 c) ∧ Below t w w' := by
  have h102e := r102e c
  have h6 := m6
  have h6' := c6
  have h88e := r88e c
  have h103 := r103' ⟨v, 0, none⟩ (w.alloc (.cells #[hd 104, .pointer (some ⟨v, 0, none⟩), .int .u64 150] 123)) ⟨t, 0, none⟩ (by rw [World.cell?_alloc_lt _ _ _ (by exact hvl)]; exact hv)
  have h104 := r104' ⟨t, 0, none⟩ ⟨w.heap.size + 1, 0, none⟩ ((w.alloc (.cells #[hd 104, .pointer (some ⟨v, 0, none⟩), .int .u64 150] 123)).alloc (.cells #[.int .i64 c] 22)) c z (by simp) (by rw [World.cell?_alloc_lt _ _ _ (by simp; omega), World.cell?_alloc_lt _ _ _ (by exact htl)]; exact ht) (by rw [World.frozen?_alloc_past _ _ _ (by simp; omega), World.frozen?_alloc_past _ _ _ (by exact htl)]; exact hf)
  go_enter Tryz.func91, Tryz.ntmps91
  go_wp2_with fail
  refine wp_loop_rounds 1 ?_
  rw [rounds_succ]
  go_wp2_with fail
  go_ret
  refine ⟨rfl, ?_, Below.alloc (Below.alloc (Below.setCell (Below.refl t w) (show t ≤ (⟨t, 0, none⟩ : Addr).block from Nat.le_refl t) _) ?_ _) ?_ _⟩
  rotate_left
  · simp; omega
  · simp; omega
  rw [World.cell?_alloc_lt _ _ _ (by simp; omega), World.cell?_alloc_lt _ _ _ (by simp; omega)]
  exact World.cell?_setCell_same _ _ _ ht
set_option maxHeartbeats 1000000 in
set_option maxRecDepth 100000 in
theorem As_ern (t : Nat) (c : Int) (z : Value) (w : World) (hg4 : w.cell? ⟨4, 0, none⟩ = some (.iface 151 (.agg #[hd 28]))) (h4l : 4 < w.heap.size) (ht : w.cell? ⟨t, 0, none⟩ = some z) (hf : w.frozen? ⟨t, 0, none⟩ = false) (htl : t < w.heap.size) :
    Calls Tryz.prog 71 #[.iface 22 (.int .i64 c), .iface 104 (.pointer (some ⟨t, 0, none⟩))] w fun e w' => e = .returned (.bool true) ∧ w'.cell? ⟨t, 0, none⟩ = some (.int .i64 c) ∧ Below t w w' := by
  have h88 := r88 t
  have h89 := r89
  have h1 := m1
  have h1' := c1
  have h2 := m2
  have h2' := c2
  have h3 := m3
  have h3' := c3
  have h4 := m4
  have h4' := c4
  have h90 := r90' ⟨w.heap.size, 0, none⟩ ((w.alloc (.cells #[.pointer (some ⟨t, 0, none⟩)] 104)).alloc (.cells #[hd 104, .pointer (some ⟨w.heap.size, 0, none⟩), .int .u64 150] 123)) ⟨t, 0, none⟩ (by simp)
  go_enter Tryz.func71, Tryz.ntmps71
  go_wp2_with fail
  refine (as_ern t w.heap.size c z _ ?_ ?_ ?_ ?_ ?_).mono ?_
  · rw [World.cell?_alloc_lt _ _ _ (by simp; omega), World.cell?_alloc_lt _ _ _ (by exact htl)]; exact ht
  · rw [World.frozen?_alloc_past _ _ _ (by simp; omega), World.frozen?_alloc_past _ _ _ (by exact htl)]; exact hf
  · simp; omega
  · simp
  · simp; omega
  rintro e w1 ⟨rfl, hc, hbl1⟩
  go_wp2_with fail
  go_ret
  exact ⟨rfl, hc, (((Below.refl t w).alloc (by omega) _).alloc (by simp; omega) _).trans hbl1⟩
set_option maxRecDepth 100000 in
theorem Tell_ern (c : Int) (w : World) (hg4 : w.cell? ⟨4, 0, none⟩ = some (.iface 151 (.agg #[hd 28]))) (h4l : 4 < w.heap.size) :
    Calls Tryz.prog 45 #[.iface 22 (.int .i64 c)] w fun e w' => e = .returned (.int .i64 c) ∧ Below w.heap.size w w' := by
  go_enter Tryz.func45, Tryz.ntmps45
  go_wp2_with fail
  refine (As_ern w.heap.size c (.int .i64 0) _ ?_ ?_ ?_ ?_ ?_).mono ?_
  · rw [World.cell?_alloc_lt _ _ _ (by exact h4l)]; exact hg4
  · simp; omega
  · simp
  · simp
  · simp
  rintro e w1 ⟨rfl, hc, hbl1⟩
  go_wp2_with fail
  go_ret
  exact ⟨rfl, ((Below.refl _ w).alloc (Nat.le_refl _) _).trans hbl1⟩
set_option maxRecDepth 100000 in
theorem Place_ern (c : Int) (w : World) (hg4 : w.cell? ⟨4, 0, none⟩ = some (.iface 151 (.agg #[hd 28]))) (h4l : 4 < w.heap.size) :
    Calls Tryz.prog 25 #[.iface 22 (.int .i64 c)] w fun e w' => e = .returned (.tuple #[.int .i64 c, .int .i64 (-1)]) ∧ Below w.heap.size w w' := by
  have h3 := ta3e c
  have h4 := ta4e c
  go_enter Tryz.func25, Tryz.ntmps25
  go_wp2_with fail
  refine (Tell_ern c _ hg4 h4l).mono ?_
  rintro e w1 ⟨rfl, hbw⟩
  go_wp2_with fail
  refine wp_loop_rounds 1 ?_
  rw [rounds_succ]
  go_wp2_with fail
  go_ret2
  exact ⟨rfl, hbw⟩
set_option maxRecDepth 100000 in
theorem placed_ern (c : Int) (w : World) (hg4 : w.cell? ⟨4, 0, none⟩ = some (.iface 151 (.agg #[hd 28]))) (h4l : 4 < w.heap.size) :
    Calls Tryz.prog 9 #[.iface 22 (.int .i64 c), .agg #[.int .i64 c, .int .i64 (-1)]] w fun e w' => e = .returned (.bool true) ∧ Below w.heap.size w w' := by
  go_enter Tryz.func9, Tryz.ntmps9
  go_wp2_with fail
  refine (Place_ern c _ ?_ ?_).mono ?_
  · rw [World.cell?_alloc_lt _ _ _ (by exact h4l)]; exact hg4
  · simp; omega
  rintro e w1 ⟨rfl, hbw⟩
  have hx0 : w1.cell? ⟨w.heap.size, 0, none⟩ = some (.int .i64 c) := by rw [hbw.cell (p := ⟨w.heap.size, 0, none⟩) (by simp)]; simp
  have hx1 : w1.cell? ⟨w.heap.size, 1, none⟩ = some (.int .i64 (-1)) := by rw [hbw.cell (p := ⟨w.heap.size, 1, none⟩) (by simp)]; simp
  have hcc : (c == c) = true := by simp
  go_wp2_with fail
  go_ret
  exact ⟨rfl, ((Below.refl _ w).alloc (Nat.le_refl _) _).trans (hbw.mono (by simp))⟩
set_option maxRecDepth 100000 in
theorem bare_ern (c : Int) (w : World) (hg4 : w.cell? ⟨4, 0, none⟩ = some (.iface 151 (.agg #[hd 28]))) (h4l : 4 < w.heap.size) :
    Calls Tryz.prog 14 #[.iface 22 (.int .i64 c), .int .i64 c] w fun e w' => e = .returned (.bool true) ∧ Below w.heap.size w w' := by
  go_enter Tryz.func14, Tryz.ntmps14
  go_wp2_with fail
  refine (Place_ern c _ hg4 h4l).mono ?_
  rintro e w1 ⟨rfl, hbw⟩
  have hcc : (c == c) = true := by simp
  go_wp2_with fail
  go_ret
  exact ⟨rfl, hbw⟩
set_option maxRecDepth 100000 in
theorem bare_nil (w : World) : Calls Tryz.prog 14 #[.nilIface, .int .i64 0] w fun e w' => e = .returned (.bool true) ∧ w = w' := by
  go_enter Tryz.func14, Tryz.ntmps14
  go_wp2_with fail
  refine (Place_nil _).mono ?_
  rintro e w1 ⟨rfl, rfl⟩
  go_wp2_with fail
  go_ret
  exact ⟨rfl, rfl⟩
end Go.Proofs.YtchhmekjfnelcaaGreatDoor
