/- The program's Undata walked. -/
import Derived.Test.YtchhmekjfnelcaaGreatDoorCut
namespace Go.Proofs.YtchhmekjfnelcaaGreatDoor
open Go.RowKit
abbrev preD : List UInt8 := [100, 97, 116, 97, 58]
abbrev sufS : List UInt8 := [59, 98, 97, 115, 101, 54, 52]
theorem pre_any (h : List UInt8) (w : World) : Calls Tryz.prog 31 #[.string ⟨h.toArray⟩, .string ⟨#[100, 97, 116, 97, 58]⟩] w fun e w' => e = .returned (.tuple #[.string ⟨(Lib.trimPrefix h preD).toArray⟩, .bool (Lib.hasPrefix h preD)]) ∧ w = w' :=
  (Tryz.strings_CutPrefix _ _ w).mono fun _ _ h => ⟨h.1, h.2.symm⟩
theorem suf_any (h : List UInt8) (w : World) (hs : h.length ≤ 800) : Calls Tryz.prog 32 #[.string ⟨h.toArray⟩, .string ⟨#[59, 98, 97, 115, 101, 54, 52]⟩] w fun e w' => e = .returned (.tuple #[.string ⟨(Lib.trimSuffix h sufS).toArray⟩, .bool (Lib.hasSuffix h sufS)]) ∧ w = w' :=
  (Tryz.strings_CutSuffix _ _ w (by show h.length ≤ _; omega)).mono fun _ _ h => ⟨h.1, h.2.symm⟩
abbrev uriErr (v : Value) : Value := .tuple #[.string ⟨#[]⟩, .string ⟨#[]⟩, v]
theorem errAt_parts {w w' : World} {v : Value} {c p : Int} (h : ErrAt w w' v c p) : ∃ b, v = .iface 52 (.pointer (some ⟨b, 0, none⟩)) ∧ w'.cell? ⟨b, 0, none⟩ = some (.int .i64 c) ∧ w'.cell? ⟨b, 1, none⟩ = some (.int .i64 p) ∧ b < w'.heap.size := by
  obtain ⟨b, rfl, _, hb⟩ := h
  refine ⟨b, rfl, ?_, ?_, (Array.getElem?_eq_some_iff.1 hb).1⟩
  · simp [World.cell?, hb]
  · simp [World.cell?, hb]
theorem errAt_new {w w2 : World} (c p : Int) (h : w.heap.size ≤ w2.heap.size) : ErrAt w (w2.alloc (.cells #[.int .i64 c, .int .i64 p] 54)).drew (.iface 52 (.pointer (some ⟨w2.heap.size, 0, none⟩))) c p :=
  ⟨w2.heap.size, rfl, h, by show (w2.heap.push _)[w2.heap.size]? = _; exact Array.getElem?_push_size⟩
set_option maxRecDepth 100000 in
theorem undU_none (l : List UInt8) (w : World) (hi : Lib.indexByte l 44 = -1) :
    Calls Tryz.prog 13 #[.string ⟨l.toArray⟩] w fun e w' => e = .returned (uriErr (.iface 22 (.int .i64 3))) ∧ Below w.heap.size w w' := by
  go_enter Tryz.func13, Tryz.ntmps13
  go_wp2_with fail
  refine (cut_no l _ hi).mono ?_
  rintro e w1 ⟨rfl, hb⟩
  go_wp2_with fail
  refine (pre_any l _).mono ?_
  rintro e w2 ⟨rfl, rfl⟩
  go_wp2_with fail
  go_ret3
  exact ⟨rfl, hb⟩
set_option maxHeartbeats 1000000 in
set_option maxRecDepth 100000 in
theorem undU_bad (l H R K M : List UInt8) (k : Nat) (w : World) (hs : l.length ≤ 800) (hi : Lib.indexByte l 44 = k) (hk : k < l.length) (hH : l.take k = H) (hR : l.drop (k + 1) = R) (hK : Lib.trimPrefix H preD = K) (hM : Lib.trimSuffix K sufS = M) (hKl : K.length ≤ 800) (hMl : M.length ≤ 800)
    (hbad : ¬ (Lib.hasPrefix H preD = true ∧ Lib.hasSuffix K sufS = true ∧ medB M = true)) :
    Calls Tryz.prog 13 #[.string ⟨l.toArray⟩] w fun e w' => e = .returned (uriErr (.iface 22 (.int .i64 3))) ∧ Below w.heap.size w w' := by
  obtain ⟨x, hx⟩ : ∃ x, x = Lib.hasPrefix H preD := ⟨_, rfl⟩
  obtain ⟨y, hy⟩ : ∃ y, y = Lib.hasSuffix K sufS := ⟨_, rfl⟩
  obtain ⟨z, hz⟩ : ∃ z, z = medB M := ⟨_, rfl⟩
  rw [← hx, ← hy, ← hz] at hbad
  have HX := hid (And.intro hi (And.intro hH (And.intro hR (And.intro hK (And.intro hM (And.intro hx (And.intro hy hz)))))))
  clear hi hH hR hK hM hx hy hz
  go_enter Tryz.func13, Tryz.ntmps13
  go_wp2_with fail
  refine (cut_yes l k _ (by omega) HX.out.1 hk).mono ?_
  rintro e w1 ⟨rfl, hb⟩
  rw [HX.out.2.1, HX.out.2.2.1]
  go_wp2_with fail
  refine (pre_any H _).mono ?_
  rintro e w2 ⟨rfl, rfl⟩
  rw [HX.out.2.2.2.1, ← HX.out.2.2.2.2.2.1]
  cases x
  · go_wp2_with fail
    go_ret3
    exact ⟨rfl, hb⟩
  · go_wp2_with fail
    refine (suf_any K _ (by omega)).mono ?_
    rintro e w2 ⟨rfl, rfl⟩
    rw [HX.out.2.2.2.2.1, ← HX.out.2.2.2.2.2.2.1]
    cases y
    · go_wp2_with fail
      go_ret3
      exact ⟨rfl, hb⟩
    · have hz : z = false := by simpa using hbad
      subst hz
      go_wp2_with fail
      refine (media_any M _ (by omega)).mono ?_
      rintro e w2 ⟨rfl, rfl⟩
      rw [← HX.out.2.2.2.2.2.2.2]
      go_wp2_with fail
      go_ret3
      exact ⟨rfl, hb⟩
set_option maxHeartbeats 1000000 in
set_option maxRecDepth 100000 in
theorem undU_ok (l H R K M o : List UInt8) (k : Nat) (w : World) (hs : l.length ≤ 800) (hi : Lib.indexByte l 44 = k) (hk : k < l.length) (hH : l.take k = H) (hR : l.drop (k + 1) = R) (hK : Lib.trimPrefix H preD = K) (hM : Lib.trimSuffix K sufS = M) (hKl : K.length ≤ 800) (hMl : M.length ≤ 800) (hRl : R.length ≤ 800)
    (hx : Lib.hasPrefix H preD = true) (hy : Lib.hasSuffix K sufS = true) (hz : medB M = true) (hd : decB R = .ok o) :
    Calls Tryz.prog 13 #[.string ⟨l.toArray⟩] w fun e w' => e = .returned (.tuple #[.string ⟨M.toArray⟩, .string ⟨o.toArray⟩, .nilIface]) ∧ Below w.heap.size w w' := by
  have HX := hid (And.intro hi (And.intro hH (And.intro hR (And.intro hK (And.intro hM (And.intro hx (And.intro hy (And.intro hz hd))))))))
  clear hi hH hR hK hM hx hy hz hd
  go_enter Tryz.func13, Tryz.ntmps13
  go_wp2_with fail
  refine (cut_yes l k _ (by omega) HX.out.1 hk).mono ?_
  rintro e w1 ⟨rfl, hb⟩
  rw [HX.out.2.1, HX.out.2.2.1]
  go_wp2_with fail
  refine (pre_any H _).mono ?_
  rintro e w2 ⟨rfl, rfl⟩
  rw [HX.out.2.2.2.1, HX.out.2.2.2.2.2.1]
  go_wp2_with fail
  refine (suf_any K _ (by omega)).mono ?_
  rintro e w2 ⟨rfl, rfl⟩
  rw [HX.out.2.2.2.2.1, HX.out.2.2.2.2.2.2.1]
  go_wp2_with fail
  refine (media_any M _ (by omega)).mono ?_
  rintro e w2 ⟨rfl, rfl⟩
  rw [HX.out.2.2.2.2.2.2.2.1]
  go_wp2_with fail
  refine (decode_any R _ (by omega)).mono ?_
  rintro e w2 ⟨_, h2, hb2⟩
  have he := h2 _ HX.out.2.2.2.2.2.2.2.2
  subst he
  clear h2
  go_wp2_with fail
  go_ret3
  exact ⟨rfl, hb.trans (hb2.mono hb.size)⟩
set_option maxHeartbeats 1000000 in
set_option maxRecDepth 100000 in
theorem undU_err (l H R K M : List UInt8) (a b : Int) (k : Nat) (w : World) (hs : l.length ≤ 800) (hi : Lib.indexByte l 44 = k) (hk : k < l.length) (hH : l.take k = H) (hHl : H.length = k) (hR : l.drop (k + 1) = R) (hK : Lib.trimPrefix H preD = K) (hM : Lib.trimSuffix K sufS = M) (hKl : K.length ≤ 800) (hMl : M.length ≤ 800) (hRl : R.length ≤ 800)
    (hx : Lib.hasPrefix H preD = true) (hy : Lib.hasSuffix K sufS = true) (hz : medB M = true) (hd : decB R = .error (a, b)) (hb1 : -1 ≤ b) (hb2 : b ≤ 800) :
    Calls Tryz.prog 13 #[.string ⟨l.toArray⟩] w fun e w' => (∃ v, e = .returned (uriErr v) ∧ ErrAt w w' v a (b + (k + 1))) ∧ Below w.heap.size w w' := by
  have HX := hid (And.intro hi (And.intro hH (And.intro hR (And.intro hK (And.intro hM (And.intro hx (And.intro hy (And.intro hz hd))))))))
  clear hi hH hR hK hM hx hy hz hd
  go_enter Tryz.func13, Tryz.ntmps13
  go_wp2_with fail
  refine (cut_yes l k _ (by omega) HX.out.1 hk).mono ?_
  rintro e w1 ⟨rfl, hb⟩
  rw [HX.out.2.1, HX.out.2.2.1]
  go_wp2_with fail
  refine (pre_any H _).mono ?_
  rintro e w2 ⟨rfl, rfl⟩
  rw [HX.out.2.2.2.1, HX.out.2.2.2.2.2.1]
  go_wp2_with fail
  refine (suf_any K _ (by omega)).mono ?_
  rintro e w2 ⟨rfl, rfl⟩
  rw [HX.out.2.2.2.2.1, HX.out.2.2.2.2.2.2.1]
  go_wp2_with fail
  refine (media_any M _ (by omega)).mono ?_
  rintro e w2 ⟨rfl, rfl⟩
  rw [HX.out.2.2.2.2.2.2.2.1]
  go_wp2_with fail
  refine (decode_any R _ (by omega)).mono ?_
  rintro e w2 ⟨h1, _, hbb⟩
  obtain ⟨v, rfl, hv⟩ := h1 _ HX.out.2.2.2.2.2.2.2.2
  clear h1
  obtain ⟨bk, rfl, hc0, hc1, hbl⟩ := errAt_parts hv
  clear hv
  simp only at hc0 hc1
  have h3 := ta3 ⟨bk, 0, none⟩
  have hbw := hb.trans (hbb.mono hb.size)
  go_wp2_with fail
  go_region
  all_goals (go_wp2_with fail)
  all_goals go_ret3
  all_goals exact ⟨⟨_, rfl, by rw [← Int.add_assoc]; exact errAt_new _ _ hbw.size⟩, Below.drew (hbw.alloc hbw.size _)⟩
end Go.Proofs.YtchhmekjfnelcaaGreatDoor
