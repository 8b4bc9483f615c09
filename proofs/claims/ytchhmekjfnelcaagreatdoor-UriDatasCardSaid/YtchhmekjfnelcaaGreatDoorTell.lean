/- Tell walked: what it reports of an At and of an Errno. -/
import Derived.Test.YtchhmekjfnelcaaGreatDoorRefl
namespace Go.Proofs.YtchhmekjfnelcaaGreatDoor
open Go.RowKit
theorem r88 (t : Nat) (w : World) : (callFunc 88 #[.iface 104 (.pointer (some ⟨t, 0, none⟩))]).run Tryz.prog w = .ok (.value (.agg #[hd 104, .pointer (some ⟨w.heap.size, 0, none⟩), .int .u64 150])) (w.alloc (.cells #[.pointer (some ⟨t, 0, none⟩)] 104)) := by kernel_rfl
theorem r89 (a : Addr) (w : World) : (callFunc 89 #[.agg #[hd 104, .pointer (some a), .int .u64 150]]).run Tryz.prog w = .ok (.value (.iface 151 (.agg #[hd 104]))) w := by kernel_rfl
theorem lv104 (a : Addr) (w : World) (x : Value) (h : w.cell? a = some x) : (loadVar 104 a).run Tryz.prog w = .ok x w := by
  simp [loadVar, Tryz.isAgg104 w, run_load, h, go_sem]
theorem lv22 (a : Addr) (w : World) (x : Value) (h : w.cell? a = some x) : (loadVar 22 a).run Tryz.prog w = .ok x w := by
  simp [loadVar, Tryz.isAgg22 w, run_load, h, go_sem]
theorem sv22 (a : Addr) (w : World) (n : Int) (v : Value) (h : w.cell? a = some v) (hf : w.frozen? a = false) : (storeVar 22 a (.int .i64 n)).run Tryz.prog w = .ok () (w.setCell a (.int .i64 n)) := by
  simp [storeVar, Tryz.isAgg22 w, h, hf, go_sem]
theorem r90' (a : Addr) (w : World) (p : Addr) (h : w.cell? a = some (.pointer (some p))) : (callFunc 90 #[.agg #[hd 104, .pointer (some a), .int .u64 150]]).run Tryz.prog w = .ok (.value (.bool false)) w := by
  rw [r90]
  simp [lv104 a w _ h]
theorem mk22 (p : Addr) (w : World) : (Extern.ReflectliteValue.mk 22 p 256).run Tryz.prog w = .ok (.agg #[hd 22, .pointer (some p), .int .u64 386]) w := by kernel_rfl
theorem r103' (a : Addr) (w : World) (p : Addr) (h : w.cell? a = some (.pointer (some p))) : (callFunc 103 #[.agg #[hd 104, .pointer (some a), .int .u64 150]]).run Tryz.prog w = .ok (.value (.agg #[hd 22, .pointer (some p), .int .u64 386])) w := by
  rw [r103]
  simp [lv104 a w _ h, mk22]
theorem r104' (a b : Addr) (w : World) (n : Int) (v : Value) (hb : w.cell? b = some (.int .i64 n)) (ha : w.cell? a = some v) (hf : w.frozen? a = false) : (callFunc 104 #[.agg #[hd 22, .pointer (some a), .int .u64 386], .agg #[hd 22, .pointer (some b), .int .u64 130]]).run Tryz.prog w = .ok (.value (.tuple #[])) (w.setCell a (.int .i64 n)) := by
  rw [r104]
  simp [lv22 b w _ hb, sv22 a w n v ha hf]
set_option maxRecDepth 100000 in
theorem unwrap_at (b : Nat) (c : Int) (w : World) (hb : w.cell? ⟨b, 0, none⟩ = some (.int .i64 c)) : Calls Tryz.prog 126 #[.pointer (some ⟨b, 0, none⟩)] w fun e w' => e = .returned (.iface 22 (.int .i64 c)) ∧ w = w' := by
  go_enter Tryz.func126, Tryz.ntmps126
  go_wp2
  go_ret
  exact ⟨rfl, rfl⟩
set_option maxHeartbeats 1000000 in
set_option maxRecDepth 100000 in
theorem as_ptr (b t v : Nat) (c : Int) (z : Value) (w : World) (hb : w.cell? ⟨b, 0, none⟩ = some (.int .i64 c)) (hbl : b < w.heap.size) (ht : w.cell? ⟨t, 0, none⟩ = some z) (hf : w.frozen? ⟨t, 0, none⟩ = false) (htl : t < w.heap.size) (hv : w.cell? ⟨v, 0, none⟩ = some (.pointer (some ⟨t, 0, none⟩))) (hvl : v < w.heap.size) :
    Calls Tryz.prog 91 #[.iface 52 (.pointer (some ⟨b, 0, none⟩)), .iface 104 (.pointer (some ⟨t, 0, none⟩)), .agg #[hd 104, .pointer (some ⟨v, 0, none⟩), .int .u64 150], .iface 151 (.agg #[hd 22])] w fun e w' => e = .returned (.bool true) ∧ w'.cell? ⟨t, 0, none⟩ = some (.int .i64 c) ∧ Below t w w' := by
  have h102 := r102 ⟨b, 0, none⟩
  have h102e := r102e c
  have h5 := m5
  have h5' := c5
  have h6 := m6
  have h6' := c6
  have hta1 := ta1 ⟨b, 0, none⟩
  have hta2 := ta2 ⟨b, 0, none⟩
  have h7 := m7 ⟨b, 0, none⟩
  have h88e := r88e c
  go_enter Tryz.func91, Tryz.ntmps91
  go_wp2_with fail
  refine wp_loop_rounds 2 ?_
  rw [rounds_succ]
  go_wp2_with fail
  refine (unwrap_at b c _ (by rw [World.cell?_alloc_lt _ _ _ (by exact hbl)]; exact hb)).mono ?_
  rintro e w1 ⟨rfl, rfl⟩
  have h103 := r103' ⟨v, 0, none⟩ (w.alloc (.cells #[hd 104, .pointer (some ⟨v, 0, none⟩), .int .u64 150] 123)) ⟨t, 0, none⟩ (by rw [World.cell?_alloc_lt _ _ _ (by exact hvl)]; exact hv)
  have h104 := r104' ⟨t, 0, none⟩ ⟨w.heap.size + 1, 0, none⟩ ((w.alloc (.cells #[hd 104, .pointer (some ⟨v, 0, none⟩), .int .u64 150] 123)).alloc (.cells #[.int .i64 c] 22)) c z (by simp) (by rw [World.cell?_alloc_lt _ _ _ (by simp; omega), World.cell?_alloc_lt _ _ _ (by exact htl)]; exact ht) (by rw [World.frozen?_alloc_past _ _ _ (by simp; omega), World.frozen?_alloc_past _ _ _ (by exact htl)]; exact hf)
  go_wp2_with fail
  rw [rounds_succ]
  go_wp2_with fail
  go_ret
  refine ⟨rfl, ?_, Below.alloc (Below.alloc (Below.setCell (Below.refl t w) (show t ≤ (⟨t, 0, none⟩ : Addr).block from Nat.le_refl t) _) ?_ _) ?_ _⟩
  rotate_left
  · simp; omega
  · simp; omega
  rw [World.cell?_alloc_lt _ _ _ (by simp; omega), World.cell?_alloc_lt _ _ _ (by simp; omega)]
  exact World.cell?_setCell_same _ _ _ ht
set_option maxHeartbeats 1000000 in
set_option maxRecDepth 100000 in
theorem As_ptr (b t : Nat) (c : Int) (z : Value) (w : World) (hg4 : w.cell? ⟨4, 0, none⟩ = some (.iface 151 (.agg #[hd 28]))) (h4l : 4 < w.heap.size) (hb : w.cell? ⟨b, 0, none⟩ = some (.int .i64 c)) (hbl : b < w.heap.size) (ht : w.cell? ⟨t, 0, none⟩ = some z) (hf : w.frozen? ⟨t, 0, none⟩ = false) (htl : t < w.heap.size) :
    Calls Tryz.prog 71 #[.iface 52 (.pointer (some ⟨b, 0, none⟩)), .iface 104 (.pointer (some ⟨t, 0, none⟩))] w fun e w' => e = .returned (.bool true) ∧ w'.cell? ⟨t, 0, none⟩ = some (.int .i64 c) ∧ Below t w w' := by
  have h88 := r88 t
  have h89 := r89
  have h1 := m1
  have h1' := c1
  have h2 := m2
  have h2' := c2
  have h3 := m3
  have h3' := c3
  have h4 := m4
  have h4' := c4
  have h90 := r90' ⟨w.heap.size, 0, none⟩ ((w.alloc (.cells #[.pointer (some ⟨t, 0, none⟩)] 104)).alloc (.cells #[hd 104, .pointer (some ⟨w.heap.size, 0, none⟩), .int .u64 150] 123)) ⟨t, 0, none⟩ (by simp)
  go_enter Tryz.func71, Tryz.ntmps71
  go_wp2_with fail
  refine (as_ptr b t w.heap.size c z _ ?_ ?_ ?_ ?_ ?_ ?_ ?_).mono ?_
  · rw [World.cell?_alloc_lt _ _ _ (by simp; omega), World.cell?_alloc_lt _ _ _ (by exact hbl)]; exact hb
  · simp; omega
  · rw [World.cell?_alloc_lt _ _ _ (by simp; omega), World.cell?_alloc_lt _ _ _ (by exact htl)]; exact ht
  · rw [World.frozen?_alloc_past _ _ _ (by simp; omega), World.frozen?_alloc_past _ _ _ (by exact htl)]; exact hf
  · simp; omega
  · simp
  · simp; omega
  rintro e w1 ⟨rfl, hc, hbl1⟩
  go_wp2_with fail
  go_ret
  exact ⟨rfl, hc, (((Below.refl t w).alloc (by omega) _).alloc (by simp; omega) _).trans hbl1⟩
set_option maxRecDepth 100000 in
theorem Tell_nil (w : World) : Calls Tryz.prog 45 #[.nilIface] w fun e w' => e = .returned (.int .i64 0) ∧ w = w' := by
  go_enter Tryz.func45, Tryz.ntmps45
  go_wp2
  go_ret
  exact ⟨rfl, rfl⟩
set_option maxRecDepth 100000 in
theorem Tell_ptr (b : Nat) (c : Int) (w : World) (hg4 : w.cell? ⟨4, 0, none⟩ = some (.iface 151 (.agg #[hd 28]))) (h4l : 4 < w.heap.size) (hb : w.cell? ⟨b, 0, none⟩ = some (.int .i64 c)) (hbl : b < w.heap.size) :
    Calls Tryz.prog 45 #[.iface 52 (.pointer (some ⟨b, 0, none⟩))] w fun e w' => e = .returned (.int .i64 c) ∧ Below w.heap.size w w' := by
  go_enter Tryz.func45, Tryz.ntmps45
  go_wp2_with fail
  refine (As_ptr b w.heap.size c (.int .i64 0) _ ?_ ?_ ?_ ?_ ?_ ?_ ?_).mono ?_
  · rw [World.cell?_alloc_lt _ _ _ (by exact h4l)]; exact hg4
  · simp; omega
  · rw [World.cell?_alloc_lt _ _ _ (by exact hbl)]; exact hb
  · simp; omega
  · simp
  · simp
  · simp
  rintro e w1 ⟨rfl, hc, hbl1⟩
  go_wp2_with fail
  go_ret
  exact ⟨rfl, ((Below.refl _ w).alloc (Nat.le_refl _) _).trans hbl1⟩
end Go.Proofs.YtchhmekjfnelcaaGreatDoor
