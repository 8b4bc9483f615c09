/- The program's base64 decoder (b64.Decode) walked: it returns what 'decB' gives, or its error with its place, for every text of at most 2^31 bytes. -/
import Derived.Test.YtchhmekjfnelcaaGreatDoorB64Plain
import Derived.Test.YtchhmekjfnelcaaGreatDoorShelf
import Derived.WalkKit
import Derived.BigCall
import Derived.WalkSpells
import Derived.WalkLawsBesides
import Derived.BigQuiet
import Derived.Deep.DeepFit
namespace Go.Proofs.YtchhmekjfnelcaaGreatDoor
open Go.RowKit
theorem index_alpha (c : UInt8) (w : World) : Calls Tryz.prog 19 #[.string ⟨#[65, 66, 67, 68, 69, 70, 71, 72, 73, 74, 75, 76, 77, 78, 79, 80, 81, 82, 83, 84, 85, 86, 87, 88, 89, 90, 97, 98, 99, 100, 101, 102, 103, 104, 105, 106, 107, 108, 109, 110, 111, 112, 113, 114, 115, 116, 117, 118, 119, 120, 121, 122, 48, 49, 50, 51, 52, 53, 54, 55, 56, 57, 43, 47]⟩, .int .u8 (c.toNat : Int)] w fun e w' => e = .returned (.int .i64 (dgt c)) ∧ w = w' :=
  (Tryz.strings_IndexByte _ _ w).mono fun e w' h => by
    obtain ⟨rfl, rfl⟩ := h
    refine ⟨?_, rfl⟩
    simp [dgt, alphaL]
/-- An error with a place, in new memory. -/
def ErrAt (w w' : World) (v : Value) (code place : Int) : Prop := ∃ b, v = .iface 52 (.pointer (some ⟨b, 0, none⟩)) ∧ w.heap.size ≤ b ∧ w'.heap[b]? = some (.cells #[.int .i64 code, .int .i64 place] 54 (0, 0))
/-- What Decode hands back. -/
def DecPost (l : List UInt8) (w : World) (e : Ending) (w' : World) : Prop :=
  (∀ x, decB l = .error x → ∃ v, e = .returned (.tuple #[.string ⟨#[]⟩, v]) ∧ ErrAt w w' v x.1 x.2) ∧ (∀ o, decB l = .ok o → e = .returned (.tuple #[.string ⟨o.toArray⟩, .nilIface])) ∧ Below w.heap.size w w'

theorem ne61 {c : UInt8} (h : c ≠ 61) : ((c.toNat : Int) == 61) = false := by
  rw [beq_eq_false_iff_ne]
  intro e
  have e' : c.toNat = 61 := by omega
  exact h (UInt8.toNat_inj.1 (by rw [e']; rfl))
theorem news_cells (w : World) (a b c : Value) (m : Nat) : ∀ j u, ([a, b, c].take m)[j]? = some u → (w.alloc (.cells #[a, b, c] 5)).cell? ((⟨w.heap.size, 0, none⟩ : Addr).add j) = some u := by
  intro j u hu
  have hj : [a, b, c][j]? = some u := by
    rw [List.getElem?_take] at hu
    split at hu
    · exact hu
    · cases hu
  rw [show ((⟨w.heap.size, 0, none⟩ : Addr).add j) = ⟨w.heap.size, j, none⟩ from by unfold Addr.add; split <;> simp_all, World.cell?_alloc_new]
  rcases j with _ | _ | _ | j
  · simpa using hj
  · simpa using hj
  · simpa using hj
  · simp at hj
theorem info5 : (Tryz.prog.info? 5).map (fun i => (i.zero, i.size, i.bytes)) = some (some (.int .u8 0), 1, 1) := by kernel_rfl
theorem below_app {B : Nat} {w wr w1 : World} {v : Value} {n : Nat} {xs : List Value} {o : Obj} (hb : Below B w wr) (hB : B ≤ wr.heap.size) (hown : wr.ownsRow B 5 1 v n xs) (hg : (wr.alloc o).grownBy w1 v.ownBlock) : Below B w w1 :=
  (hb.alloc hB o).grown hg (by simp; omega) fun k hk => (hown.lt k hk).1
theorem own_app {B : Nat} {w1 : World} {v : Value} {out bs : List UInt8} {m : Nat} {ys : List Value} (h : w1.ownsRow B 5 1 v (out.length + m) (Lib.byteCells out ++ ys)) (hm : bs.length = m) (hy : ys = Lib.byteCells bs) :
    w1.ownsRow B 5 1 v (out ++ bs).length (Lib.byteCells (out ++ bs)) := by
  rw [List.length_append, hm, show Lib.byteCells (out ++ bs) = Lib.byteCells out ++ ys by rw [hy]; simp [Lib.byteCells]]
  exact h
theorem by0_val {n : Nat} (h : n < 16777216) : (n : Int) / 65536 = ((by0 n).toNat : Int) := by rw [by0_nat]; omega
theorem by1_val {n : Nat} : (n : Int) / 256 % 256 = ((by1 n).toNat : Int) := by rw [by1_nat]; omega
theorem by2_val {n : Nat} : (n : Int) % 256 = ((by2 n).toNat : Int) := by rw [by2_nat]
theorem dR_eqeq (k : Nat) (out : List UInt8) (c0 c1 : UInt8) (k0 k1 N : Nat) (h0 : dgt c0 = (k0 : Int)) (h1 : dgt c1 = (k1 : Int)) (hN : N = num k0 k1 0 0) :
    decR k out [c0, c1, 61, 61] = if N % 65536 = 0 then .ok (out ++ [by0 N]) else .error (k + 1) := by
  unfold decR
  rw [if_neg (by omega), if_neg (by omega), if_pos ⟨rfl, rfl, rfl⟩, h0, h1, Int.toNat_natCast, Int.toNat_natCast, ← hN]
theorem dR_eq (k : Nat) (out : List UInt8) (c0 c1 c2 : UInt8) (k0 k1 k2 N : Nat) (h0 : dgt c0 = (k0 : Int)) (h1 : dgt c1 = (k1 : Int)) (h2 : dgt c2 = (k2 : Int)) (n2 : c2 ≠ 61) (hN : N = num k0 k1 k2 0) :
    decR k out [c0, c1, c2, 61] = if N % 256 = 0 then .ok (out ++ [by0 N, by1 N]) else .error (k + 2) := by
  unfold decR
  rw [if_neg (by omega), if_neg (by omega), if_neg (fun h => n2 h.2.2), if_neg (by omega), if_pos ⟨rfl, rfl⟩, h0, h1, h2, Int.toNat_natCast, Int.toNat_natCast, Int.toNat_natCast, ← hN]
theorem dR_full (k : Nat) (out r : List UInt8) (c0 c1 c2 c3 : UInt8) (k0 k1 k2 k3 N : Nat) (h0 : dgt c0 = (k0 : Int)) (h1 : dgt c1 = (k1 : Int)) (h2 : dgt c2 = (k2 : Int)) (h3 : dgt c3 = (k3 : Int)) (n3 : c3 ≠ 61) (hN : N = num k0 k1 k2 k3) :
    decR k out (c0 :: c1 :: c2 :: c3 :: r) = decR (k + 4) (out ++ [by0 N, by1 N, by2 N]) r := by
  rw [decR]
  rw [if_neg (by omega), if_neg (by omega), if_neg (fun h => n3 h.2.1), if_neg (by omega), if_neg (fun h => n3 h.2), if_neg (by omega), h0, h1, h2, h3, Int.toNat_natCast, Int.toNat_natCast, Int.toNat_natCast, Int.toNat_natCast, ← hN]
theorem decR_nil (k : Nat) (out : List UInt8) : decR k out [] = .ok out := by simp [decR]
theorem strOf (l : List UInt8) : strOfNums (l.map fun b => (b.toNat : Int)) = ⟨l.toArray⟩ := by
  apply ByteArray.ext
  simp only [strOfNums, List.map_map]; rw [show ((fun n : Int => UInt8.ofNat n.toNat) ∘ fun b : UInt8 => (b.toNat : Int)) = id from funext fun b => by simp]; simp
theorem neF {x y : Int} (h : x = 0) (e : y = x) : (y != 0) = false := by rw [e, h]; rfl
theorem neT {x y : Int} (h : x ≠ 0) (e : y = x) : (y != 0) = true := by rw [e, bne_iff_ne]; exact h
theorem dec_ok (l o : List UInt8) (w wr : World) (hm : l.length % 4 = 0) (hb : Below w.heap.size w wr) (hdec : decR 0 [] l = .ok o) : DecPost l w (.returned (.tuple #[.string ⟨o.toArray⟩, .nilIface])) wr := by
  have h : decB l = .ok o := by unfold decB; rw [if_pos hm, hdec]
  refine ⟨fun x hx => ?_, fun o' ho => ?_, hb⟩
  · rw [h] at hx; cases hx
  · rw [h] at ho; cases ho; rfl
theorem dec_err (l : List UInt8) (w wr : World) (p : Nat) (q : Int) (hq : q = (p : Int)) (hm : l.length % 4 = 0) (hb : Below w.heap.size w wr) (hdec : decR 0 [] l = .error p) :
    DecPost l w (.returned (.tuple #[.string ⟨#[]⟩, .iface 52 (.pointer (some ⟨wr.heap.size, 0, none⟩))])) (wr.alloc (.cells #[.int .i64 3, .int .i64 q] 54)) := by
  have h : decB l = .error (3, (p : Int)) := by unfold decB; rw [if_pos hm, hdec]
  refine ⟨fun x hx => ?_, fun o ho => ?_, hb.alloc hb.size _⟩
  · rw [h] at hx; cases hx
    exact ⟨_, rfl, _, rfl, hb.size, by rw [← hq]; exact heap_alloc_new wr _⟩
  · rw [h] at ho; cases ho

set_option maxHeartbeats 4000000 in
set_option maxRecDepth 100000 in
theorem decode_any (l : List UInt8) (w : World) (hs : l.length ≤ 2147483648) :
    Calls Tryz.prog 6 #[.string ⟨l.toArray⟩] w (DecPost l w) := by
  by_cases hm : l.length % 4 = 0
  · have hm' : ((l.length : Int) % 4 != 0) = false := by simp; omega
    have Hm := hid hm
    clear hm
    obtain ⟨i0, hi, hz0, hz1, hz2⟩ := info_parts info5
    go_enter Tryz.func6, Tryz.ntmps6
    go_wp2
    go_loopw [4, 5] (fun v i wr => ∃ (k : Nat) (out : List UInt8), i = .int .i64 k ∧ k ≤ l.length ∧ Hid (k % 4 = 0) ∧ out.length ≤ k ∧ wr.ownsRow w.heap.size 5 1 v out.length (Lib.byteCells out) ∧ Hid (decR k out (l.drop k) = decR 0 [] l) ∧ Below w.heap.size w wr) (fun _ i _ => l.length - (intOf i).toNat)
    case atStart => exact ⟨0, [], rfl, Nat.zero_le _, hid rfl, Nat.zero_le _, World.ownsRow_nil _ _ _ _, hid rfl, Below.refl _ _⟩
    case round =>
      obtain ⟨k, out, rfl, hk, hk4, hol, hown, Hdec, hb⟩ := hrel
      by_cases hlt : k < l.length
      · have hk4' : k + 4 ≤ l.length := by have h1 := hk4.out; have h2 := Hm.out; omega
        obtain ⟨c0, c1, c2, c3, hd, hc0, hc1, hc2, hc3⟩ := drop_four hk4'
        have Hd := hid hd
        clear hd
        by_cases hlast : k + 4 = l.length
        · have hla : ((k : Int) + 4 == (l.length : Int)) = true := by simp; omega
          have HL : Hid (l.drop (k + 4) = []) := hid (by rw [hlast]; simp)
          clear hlast
          go_wp2
          refine wp_loop_rounds 5 ?_
          rcases dgt_cases c0 with hg0 | ⟨hg0, hl0, hn0⟩
          · have H0 := hid hg0
            rw [rounds_succ]
            go_wp2_with fail
            refine (index_alpha c0 _).mono ?_
            rintro e w' ⟨rfl, rfl⟩
            go_wp2
            all_goals
              go_ret2
              exact dec_err l w _ k _ rfl Hm.out hb (by rw [← Hdec.out, Hd.out]; unfold decR; rw [if_pos (show dgt c0 < 0 by have := H0.out; omega)])
          · obtain ⟨k0, hk0⟩ := Int.eq_ofNat_of_zero_le hg0
            have e0 : ((c0.toNat : Int) == 61) = false := ne61 hn0
            have N0 := hid hn0
            have H0 := hid hk0
            clear hn0 hg0
            rw [hk0] at hl0
            clear hk0
            have E0 : bits .or .i64 0 (k0 : Int) = (k0 : Int) := or64z _ (by omega) hl0
            rw [rounds_succ]
            go_wp2_with fail
            refine (index_alpha c0 _).mono ?_
            rintro e w' ⟨rfl, rfl⟩
            rw [H0.out]
            go_wp2
            rcases dgt_cases c1 with hg1 | ⟨hg1, hl1, hn1⟩
            · have H1 := hid hg1
              rw [rounds_succ]
              go_wp2_with fail
              refine (index_alpha c1 _).mono ?_
              rintro e w' ⟨rfl, rfl⟩
              go_wp2
              all_goals
                go_ret2
                exact dec_err l w _ (k + 1) _ (by simp) Hm.out hb (by rw [← Hdec.out, Hd.out]; unfold decR; rw [if_neg (show ¬ dgt c0 < 0 by have := H0.out; omega)]; rw [if_pos (show dgt c1 < 0 by have := H1.out; omega)])
            · obtain ⟨k1, hk1⟩ := Int.eq_ofNat_of_zero_le hg1
              have e1 : ((c1.toNat : Int) == 61) = false := ne61 hn1
              have N1 := hid hn1
              have H1 := hid hk1
              clear hn1 hg1
              rw [hk1] at hl1
              clear hk1
              have E1 : bits .or .i64 (((k0 : Int)) * 64) (k1 : Int) = ((k0 : Int)) * 64 + (k1 : Int) := or64 _ _ (by omega) (by omega) (by omega) hl1
              rw [rounds_succ]
              go_wp2_with fail
              refine (index_alpha c1 _).mono ?_
              rintro e w' ⟨rfl, rfl⟩
              rw [H1.out]
              go_wp2
              rcases dgt_cases c2 with hg2 | ⟨hg2, hl2, hn2⟩
              · have H2 := hid hg2
                by_cases h2 : c2 = 61
                · have e2 : ((c2.toNat : Int) == 61) = true := by rw [h2]; rfl
                  by_cases h3 : c3 = 61
                  · have e3 : ((c3.toNat : Int) == 61) = true := by rw [h3]; rfl
                    have hg3 : dgt c3 = -1 := by rw [h3]; exact dgt_eq61
                    have H2' := hid h2
                    have H3' := hid h3
                    clear h2 h3
                    have m42 : min (4 : Int) 2 = 2 := by decide
                    have m23 : min (2 : Int) 3 = 2 := by decide
                    have m43 : min (4 : Int) 3 = 3 := by decide
                    obtain ⟨N, hN⟩ : ∃ N : Nat, N = num k0 k1 0 0 := ⟨_, rfl⟩
                    have hNl : N < 16777216 := by rw [hN]; unfold num; omega
                    have E2 : bits .or .i64 (((k0 : Int) * 64 + k1) * 64) 0 = ((k0 : Int) * 64 + k1) * 64 := by rw [or64 _ 0 (by omega) (by omega) (by omega) (by omega)]; omega
                    have E3 : bits .or .i64 (((k0 : Int) * 64 + k1) * 64 * 64) 0 = (N : Int) := by rw [or64 _ 0 (by omega) (by omega) (by omega) (by omega), hN]; unfold num; omega
                    have HN := hid hN
                    clear hN
                    by_cases hz : N % 65536 = 0
                    · have hq : (bits .and .i64 (N : Int) 65535 != 0) = false := neF (x := ((N % 65536 : Nat) : Int)) (by omega) (by rw [and65535 _ (by omega) (by omega)]; omega)
                      have HZ := hid hz
                      clear hz
                      rw [rounds_succ]
                      go_wp2_with fail
                      refine (index_alpha c2 _).mono ?_
                      rintro e w' ⟨rfl, rfl⟩
                      rw [H2.out]
                      go_wp2
                      rw [rounds_succ]
                      go_wp2_with fail
                      refine (index_alpha c3 _).mono ?_
                      rintro e w' ⟨rfl, rfl⟩
                      rw [hg3]
                      go_wp2
                      rw [rounds_succ]
                      go_wp2_with
                        (at_builtin
                         go_must (refine wpList_append_own _ rfl (.tmp 99) (.tmp 111) _ rfl w.heap.size 5 i0 (.int .u8 0) 1 1 Tryz.underlying44 hi hz0 hz1 hz2 rfl (by decide) u4 out.length _ rfl (hown.alloc _) ⟨wr.heap.size, 0, none⟩ 1 3 ([.int .u8 ((N : Int) / 65536), .int .u8 ((N : Int) / 256 % 256), .int .u8 ((N : Int) % 256)].take 1) ?c1 ?c0 ?c2 ?c3 ?c4 ?c5 ?c6 ?_)
                         case c1 => rfl
                         case c0 => rfl
                         case c2 => exact news_cells wr _ _ _ 1
                         case c3 => intro u hu; have := List.mem_of_mem_take hu; simp at this; rcases this with rfl | rfl | rfl <;> rfl
                         case c4 => simp only [maxLen]; omega
                         case c5 => omega
                         case c6 => simp; exact Nat.le_succ_of_le hb.size
                         intro v1 w1 hown1 hg1 _
                         have hb1 := below_app hb hb.size hown hg1
                         have hown2 := own_app (bs := [by0 N]) hown1 rfl (by simp [Lib.byteCells, by0_val hNl, by1_val, by2_val])
                         clear hown1 hg1)
                      refine ⟨⟨k + 4, out ++ [by0 N], by go_num, by omega, hid (by have := hk4.out; omega), by simp; omega, hown2, hid ?_, hb1⟩, by simp [intOf]; omega⟩
                      rw [← Hdec.out, Hd.out, HL.out, H2'.out, H3'.out, dR_eqeq k out c0 c1 k0 k1 N H0.out H1.out HN.out]; rw [if_pos HZ.out, decR_nil]
                    · have hq : (bits .and .i64 (N : Int) 65535 != 0) = true := neT (x := ((N % 65536 : Nat) : Int)) (by omega) (by rw [and65535 _ (by omega) (by omega)]; omega)
                      have HZ := hid hz
                      clear hz
                      rw [rounds_succ]
                      go_wp2_with fail
                      refine (index_alpha c2 _).mono ?_
                      rintro e w' ⟨rfl, rfl⟩
                      rw [H2.out]
                      go_wp2
                      rw [rounds_succ]
                      go_wp2_with fail
                      refine (index_alpha c3 _).mono ?_
                      rintro e w' ⟨rfl, rfl⟩
                      rw [hg3]
                      go_wp2
                      rw [rounds_succ]
                      go_wp2
                      go_ret2
                      exact dec_err l w _ (k + 1) _ (by omega) Hm.out hb (by rw [← Hdec.out, Hd.out, HL.out, H2'.out, H3'.out, dR_eqeq k out c0 c1 k0 k1 N H0.out H1.out HN.out]; exact if_neg HZ.out)
                  · have e3 : ((c3.toNat : Int) == 61) = false := ne61 h3
                    have H2' := hid h2
                    have H3' := hid h3
                    clear h2 h3
                    rw [rounds_succ]
                    go_wp2_with fail
                    refine (index_alpha c2 _).mono ?_
                    rintro e w' ⟨rfl, rfl⟩
                    go_wp2
                    all_goals
                      go_ret2
                      exact dec_err l w _ (k + 2) _ (by simp) Hm.out hb (by rw [← Hdec.out, Hd.out]; unfold decR; rw [if_neg (show ¬ dgt c0 < 0 by have := H0.out; omega)]; rw [if_neg (show ¬ dgt c1 < 0 by have := H1.out; omega)]; rw [if_neg (fun h => H3'.out h.2.1), if_pos (show dgt c2 < 0 by have := H2.out; omega)])
                · have e2 : ((c2.toNat : Int) == 61) = false := ne61 h2
                  have H2' := hid h2
                  clear h2
                  rw [rounds_succ]
                  go_wp2_with fail
                  refine (index_alpha c2 _).mono ?_
                  rintro e w' ⟨rfl, rfl⟩
                  go_wp2
                  all_goals
                    go_ret2
                    exact dec_err l w _ (k + 2) _ (by simp) Hm.out hb (by rw [← Hdec.out, Hd.out]; unfold decR; rw [if_neg (show ¬ dgt c0 < 0 by have := H0.out; omega)]; rw [if_neg (show ¬ dgt c1 < 0 by have := H1.out; omega)]; rw [if_neg (fun h => H2'.out h.2.2), if_pos (show dgt c2 < 0 by have := H2.out; omega)])
              · obtain ⟨k2, hk2⟩ := Int.eq_ofNat_of_zero_le hg2
                have e2 : ((c2.toNat : Int) == 61) = false := ne61 hn2
                have N2 := hid hn2
                have H2 := hid hk2
                clear hn2 hg2
                rw [hk2] at hl2
                clear hk2
                have E2 : bits .or .i64 (((k0 : Int) * 64 + k1) * 64) (k2 : Int) = ((k0 : Int) * 64 + k1) * 64 + (k2 : Int) := or64 _ _ (by omega) (by omega) (by omega) hl2
                rw [rounds_succ]
                go_wp2_with fail
                refine (index_alpha c2 _).mono ?_
                rintro e w' ⟨rfl, rfl⟩
                rw [H2.out]
                go_wp2
                rcases dgt_cases c3 with hg3 | ⟨hg3, hl3, hn3⟩
                · have H3 := hid hg3
                  by_cases h3 : c3 = 61
                  · have e3 : ((c3.toNat : Int) == 61) = true := by rw [h3]; rfl
                    have H3' := hid h3
                    clear h3
                    have m42 : min (4 : Int) 2 = 2 := by decide
                    have m23 : min (2 : Int) 3 = 2 := by decide
                    have m43 : min (4 : Int) 3 = 3 := by decide
                    obtain ⟨N, hN⟩ : ∃ N : Nat, N = num k0 k1 k2 0 := ⟨_, rfl⟩
                    have hNl : N < 16777216 := by rw [hN]; unfold num; omega
                    have E3 : bits .or .i64 ((((k0 : Int) * 64 + k1) * 64 + k2) * 64) 0 = (N : Int) := by rw [or64 _ 0 (by omega) (by omega) (by omega) (by omega), hN]; unfold num; omega
                    have HN := hid hN
                    clear hN
                    by_cases hz : N % 256 = 0
                    · have hq : (bits .and .i64 (N : Int) 255 != 0) = false := neF (x := ((N % 256 : Nat) : Int)) (by omega) (by rw [and255 _ (by omega) (by omega)]; omega)
                      have HZ := hid hz
                      clear hz
                      rw [rounds_succ]
                      go_wp2_with fail
                      refine (index_alpha c3 _).mono ?_
                      rintro e w' ⟨rfl, rfl⟩
                      rw [H3.out]
                      go_wp2
                      rw [rounds_succ]
                      go_wp2_with
                        (at_builtin
                         go_must (refine wpList_append_own _ rfl (.tmp 99) (.tmp 111) _ rfl w.heap.size 5 i0 (.int .u8 0) 1 1 Tryz.underlying44 hi hz0 hz1 hz2 rfl (by decide) u4 out.length _ rfl (hown.alloc _) ⟨wr.heap.size, 0, none⟩ 2 3 ([.int .u8 ((N : Int) / 65536), .int .u8 ((N : Int) / 256 % 256), .int .u8 ((N : Int) % 256)].take 2) ?c1 ?c0 ?c2 ?c3 ?c4 ?c5 ?c6 ?_)
                         case c1 => rfl
                         case c0 => rfl
                         case c2 => exact news_cells wr _ _ _ 2
                         case c3 => intro u hu; have := List.mem_of_mem_take hu; simp at this; rcases this with rfl | rfl | rfl <;> rfl
                         case c4 => simp only [maxLen]; omega
                         case c5 => omega
                         case c6 => simp; exact Nat.le_succ_of_le hb.size
                         intro v1 w1 hown1 hg1 _
                         have hb1 := below_app hb hb.size hown hg1
                         have hown2 := own_app (bs := [by0 N, by1 N]) hown1 rfl (by simp [Lib.byteCells, by0_val hNl, by1_val, by2_val])
                         clear hown1 hg1)
                      refine ⟨⟨k + 4, out ++ [by0 N, by1 N], by go_num, by omega, hid (by have := hk4.out; omega), by simp; omega, hown2, hid ?_, hb1⟩, by simp [intOf]; omega⟩
                      rw [← Hdec.out, Hd.out, HL.out, H3'.out, dR_eq k out c0 c1 c2 k0 k1 k2 N H0.out H1.out H2.out N2.out HN.out]; rw [if_pos HZ.out, decR_nil]
                    · have hq : (bits .and .i64 (N : Int) 255 != 0) = true := neT (x := ((N % 256 : Nat) : Int)) (by omega) (by rw [and255 _ (by omega) (by omega)]; omega)
                      have HZ := hid hz
                      clear hz
                      rw [rounds_succ]
                      go_wp2_with fail
                      refine (index_alpha c3 _).mono ?_
                      rintro e w' ⟨rfl, rfl⟩
                      rw [H3.out]
                      go_wp2
                      rw [rounds_succ]
                      go_wp2
                      go_ret2
                      exact dec_err l w _ (k + 2) _ (by omega) Hm.out hb (by rw [← Hdec.out, Hd.out, HL.out, H3'.out, dR_eq k out c0 c1 c2 k0 k1 k2 N H0.out H1.out H2.out N2.out HN.out]; exact if_neg HZ.out)
                  · have e3 : ((c3.toNat : Int) == 61) = false := ne61 h3
                    have H3' := hid h3
                    clear h3
                    rw [rounds_succ]
                    go_wp2_with fail
                    refine (index_alpha c3 _).mono ?_
                    rintro e w' ⟨rfl, rfl⟩
                    go_wp2
                    all_goals
                      go_ret2
                      exact dec_err l w _ (k + 3) _ (by simp) Hm.out hb (by rw [← Hdec.out, Hd.out]; unfold decR; rw [if_neg (show ¬ dgt c0 < 0 by have := H0.out; omega)]; rw [if_neg (show ¬ dgt c1 < 0 by have := H1.out; omega)]; rw [if_neg (fun h => H3'.out h.2.1), if_neg (show ¬ dgt c2 < 0 by have := H2.out; omega), if_neg (fun h => H3'.out h.2), if_pos (show dgt c3 < 0 by have := H3.out; omega)])
                · obtain ⟨k3, hk3⟩ := Int.eq_ofNat_of_zero_le hg3
                  have e3 : ((c3.toNat : Int) == 61) = false := ne61 hn3
                  have N3 := hid hn3
                  have H3 := hid hk3
                  clear hn3 hg3
                  rw [hk3] at hl3
                  clear hk3
                  obtain ⟨N, hN⟩ : ∃ N : Nat, N = num k0 k1 k2 k3 := ⟨_, rfl⟩
                  have hNl : N < 16777216 := by rw [hN]; unfold num; omega
                  have E3 : bits .or .i64 ((((k0 : Int) * 64 + k1) * 64 + k2) * 64) (k3 : Int) = (N : Int) := by rw [or64 _ _ (by omega) (by omega) (by omega) hl3, hN]; simp [num]
                  have HN := hid hN
                  clear hN
                  rw [rounds_succ]
                  go_wp2_with fail
                  refine (index_alpha c3 _).mono ?_
                  rintro e w' ⟨rfl, rfl⟩
                  rw [H3.out]
                  go_wp2
                  rw [rounds_succ]
                  go_wp2_with
                    (at_builtin
                     go_must (refine wpList_append_own _ rfl (.tmp 99) (.tmp 111) _ rfl w.heap.size 5 i0 (.int .u8 0) 1 1 Tryz.underlying44 hi hz0 hz1 hz2 rfl (by decide) u4 out.length _ rfl (hown.alloc _) ⟨wr.heap.size, 0, none⟩ 3 3 ([.int .u8 ((N : Int) / 65536), .int .u8 ((N : Int) / 256 % 256), .int .u8 ((N : Int) % 256)].take 3) ?c1 ?c0 ?c2 ?c3 ?c4 ?c5 ?c6 ?_)
                     case c1 => rfl
                     case c0 => rfl
                     case c2 => exact news_cells wr _ _ _ 3
                     case c3 => intro u hu; have := List.mem_of_mem_take hu; simp at this; rcases this with rfl | rfl | rfl <;> rfl
                     case c4 => simp only [maxLen]; omega
                     case c5 => omega
                     case c6 => simp; exact Nat.le_succ_of_le hb.size
                     intro v1 w1 hown1 hg1 _
                     have hb1 := below_app hb hb.size hown hg1
                     have hown2 := own_app (bs := [by0 N, by1 N, by2 N]) hown1 rfl (by simp [Lib.byteCells, by0_val hNl, by1_val, by2_val])
                     clear hown1 hg1)
                  refine ⟨⟨k + 4, out ++ [by0 N, by1 N, by2 N], by go_num, by omega, hid (by have := hk4.out; omega), by simp; omega, hown2, hid ?_, hb1⟩, by simp [intOf]; omega⟩
                  rw [← Hdec.out, Hd.out]; exact (dR_full k out _ c0 c1 c2 c3 k0 k1 k2 k3 N H0.out H1.out H2.out H3.out N3.out HN.out).symm
        · have hla : ((k : Int) + 4 == (l.length : Int)) = false := by simp; omega
          have HL : Hid (l.drop (k + 4) ≠ []) := hid (by intro h; have := congrArg List.length h; simp at this; omega)
          clear hlast
          go_wp2
          refine wp_loop_rounds 5 ?_
          rcases dgt_cases c0 with hg0 | ⟨hg0, hl0, hn0⟩
          · have H0 := hid hg0
            rw [rounds_succ]
            go_wp2_with fail
            refine (index_alpha c0 _).mono ?_
            rintro e w' ⟨rfl, rfl⟩
            go_wp2
            all_goals
              go_ret2
              exact dec_err l w _ k _ rfl Hm.out hb (by rw [← Hdec.out, Hd.out]; unfold decR; rw [if_pos (show dgt c0 < 0 by have := H0.out; omega)])
          · obtain ⟨k0, hk0⟩ := Int.eq_ofNat_of_zero_le hg0
            have e0 : ((c0.toNat : Int) == 61) = false := ne61 hn0
            have N0 := hid hn0
            have H0 := hid hk0
            clear hn0 hg0
            rw [hk0] at hl0
            clear hk0
            have E0 : bits .or .i64 0 (k0 : Int) = (k0 : Int) := or64z _ (by omega) hl0
            rw [rounds_succ]
            go_wp2_with fail
            refine (index_alpha c0 _).mono ?_
            rintro e w' ⟨rfl, rfl⟩
            rw [H0.out]
            go_wp2
            rcases dgt_cases c1 with hg1 | ⟨hg1, hl1, hn1⟩
            · have H1 := hid hg1
              rw [rounds_succ]
              go_wp2_with fail
              refine (index_alpha c1 _).mono ?_
              rintro e w' ⟨rfl, rfl⟩
              go_wp2
              all_goals
                go_ret2
                exact dec_err l w _ (k + 1) _ (by simp) Hm.out hb (by rw [← Hdec.out, Hd.out]; unfold decR; rw [if_neg (show ¬ dgt c0 < 0 by have := H0.out; omega)]; rw [if_pos (show dgt c1 < 0 by have := H1.out; omega)])
            · obtain ⟨k1, hk1⟩ := Int.eq_ofNat_of_zero_le hg1
              have e1 : ((c1.toNat : Int) == 61) = false := ne61 hn1
              have N1 := hid hn1
              have H1 := hid hk1
              clear hn1 hg1
              rw [hk1] at hl1
              clear hk1
              have E1 : bits .or .i64 (((k0 : Int)) * 64) (k1 : Int) = ((k0 : Int)) * 64 + (k1 : Int) := or64 _ _ (by omega) (by omega) (by omega) hl1
              rw [rounds_succ]
              go_wp2_with fail
              refine (index_alpha c1 _).mono ?_
              rintro e w' ⟨rfl, rfl⟩
              rw [H1.out]
              go_wp2
              rcases dgt_cases c2 with hg2 | ⟨hg2, hl2, hn2⟩
              · have H2 := hid hg2
                by_cases h2 : c2 = 61
                · have e2 : ((c2.toNat : Int) == 61) = true := by rw [h2]; rfl
                  have H2' := hid h2
                  clear h2
                  rw [rounds_succ]
                  go_wp2_with fail
                  refine (index_alpha c2 _).mono ?_
                  rintro e w' ⟨rfl, rfl⟩
                  go_wp2
                  all_goals
                    go_ret2
                    exact dec_err l w _ (k + 2) _ (by simp) Hm.out hb (by rw [← Hdec.out, Hd.out]; unfold decR; rw [if_neg (show ¬ dgt c0 < 0 by have := H0.out; omega)]; rw [if_neg (show ¬ dgt c1 < 0 by have := H1.out; omega)]; rw [if_neg (fun h => HL.out h.1), if_pos (show dgt c2 < 0 by have := H2.out; omega)])
                · have e2 : ((c2.toNat : Int) == 61) = false := ne61 h2
                  have H2' := hid h2
                  clear h2
                  rw [rounds_succ]
                  go_wp2_with fail
                  refine (index_alpha c2 _).mono ?_
                  rintro e w' ⟨rfl, rfl⟩
                  go_wp2
                  all_goals
                    go_ret2
                    exact dec_err l w _ (k + 2) _ (by simp) Hm.out hb (by rw [← Hdec.out, Hd.out]; unfold decR; rw [if_neg (show ¬ dgt c0 < 0 by have := H0.out; omega)]; rw [if_neg (show ¬ dgt c1 < 0 by have := H1.out; omega)]; rw [if_neg (fun h => H2'.out h.2.2), if_pos (show dgt c2 < 0 by have := H2.out; omega)])
              · obtain ⟨k2, hk2⟩ := Int.eq_ofNat_of_zero_le hg2
                have e2 : ((c2.toNat : Int) == 61) = false := ne61 hn2
                have N2 := hid hn2
                have H2 := hid hk2
                clear hn2 hg2
                rw [hk2] at hl2
                clear hk2
                have E2 : bits .or .i64 (((k0 : Int) * 64 + k1) * 64) (k2 : Int) = ((k0 : Int) * 64 + k1) * 64 + (k2 : Int) := or64 _ _ (by omega) (by omega) (by omega) hl2
                rw [rounds_succ]
                go_wp2_with fail
                refine (index_alpha c2 _).mono ?_
                rintro e w' ⟨rfl, rfl⟩
                rw [H2.out]
                go_wp2
                rcases dgt_cases c3 with hg3 | ⟨hg3, hl3, hn3⟩
                · have H3 := hid hg3
                  by_cases h3 : c3 = 61
                  · have e3 : ((c3.toNat : Int) == 61) = true := by rw [h3]; rfl
                    have H3' := hid h3
                    clear h3
                    rw [rounds_succ]
                    go_wp2_with fail
                    refine (index_alpha c3 _).mono ?_
                    rintro e w' ⟨rfl, rfl⟩
                    go_wp2
                    all_goals
                      go_ret2
                      exact dec_err l w _ (k + 3) _ (by simp) Hm.out hb (by rw [← Hdec.out, Hd.out]; unfold decR; rw [if_neg (show ¬ dgt c0 < 0 by have := H0.out; omega)]; rw [if_neg (show ¬ dgt c1 < 0 by have := H1.out; omega)]; rw [if_neg (fun h => HL.out h.1), if_neg (show ¬ dgt c2 < 0 by have := H2.out; omega), if_neg (fun h => HL.out h.1), if_pos (show dgt c3 < 0 by have := H3.out; omega)])
                  · have e3 : ((c3.toNat : Int) == 61) = false := ne61 h3
                    have H3' := hid h3
                    clear h3
                    rw [rounds_succ]
                    go_wp2_with fail
                    refine (index_alpha c3 _).mono ?_
                    rintro e w' ⟨rfl, rfl⟩
                    go_wp2
                    all_goals
                      go_ret2
                      exact dec_err l w _ (k + 3) _ (by simp) Hm.out hb (by rw [← Hdec.out, Hd.out]; unfold decR; rw [if_neg (show ¬ dgt c0 < 0 by have := H0.out; omega)]; rw [if_neg (show ¬ dgt c1 < 0 by have := H1.out; omega)]; rw [if_neg (fun h => H3'.out h.2.1), if_neg (show ¬ dgt c2 < 0 by have := H2.out; omega), if_neg (fun h => H3'.out h.2), if_pos (show dgt c3 < 0 by have := H3.out; omega)])
                · obtain ⟨k3, hk3⟩ := Int.eq_ofNat_of_zero_le hg3
                  have e3 : ((c3.toNat : Int) == 61) = false := ne61 hn3
                  have N3 := hid hn3
                  have H3 := hid hk3
                  clear hn3 hg3
                  rw [hk3] at hl3
                  clear hk3
                  obtain ⟨N, hN⟩ : ∃ N : Nat, N = num k0 k1 k2 k3 := ⟨_, rfl⟩
                  have hNl : N < 16777216 := by rw [hN]; unfold num; omega
                  have E3 : bits .or .i64 ((((k0 : Int) * 64 + k1) * 64 + k2) * 64) (k3 : Int) = (N : Int) := by rw [or64 _ _ (by omega) (by omega) (by omega) hl3, hN]; simp [num]
                  have HN := hid hN
                  clear hN
                  rw [rounds_succ]
                  go_wp2_with fail
                  refine (index_alpha c3 _).mono ?_
                  rintro e w' ⟨rfl, rfl⟩
                  rw [H3.out]
                  go_wp2
                  rw [rounds_succ]
                  go_wp2_with
                    (at_builtin
                     go_must (refine wpList_append_own _ rfl (.tmp 99) (.tmp 111) _ rfl w.heap.size 5 i0 (.int .u8 0) 1 1 Tryz.underlying44 hi hz0 hz1 hz2 rfl (by decide) u4 out.length _ rfl (hown.alloc _) ⟨wr.heap.size, 0, none⟩ 3 3 ([.int .u8 ((N : Int) / 65536), .int .u8 ((N : Int) / 256 % 256), .int .u8 ((N : Int) % 256)].take 3) ?c1 ?c0 ?c2 ?c3 ?c4 ?c5 ?c6 ?_)
                     case c1 => rfl
                     case c0 => rfl
                     case c2 => exact news_cells wr _ _ _ 3
                     case c3 => intro u hu; have := List.mem_of_mem_take hu; simp at this; rcases this with rfl | rfl | rfl <;> rfl
                     case c4 => simp only [maxLen]; omega
                     case c5 => omega
                     case c6 => simp; exact Nat.le_succ_of_le hb.size
                     intro v1 w1 hown1 hg1 _
                     have hb1 := below_app hb hb.size hown hg1
                     have hown2 := own_app (bs := [by0 N, by1 N, by2 N]) hown1 rfl (by simp [Lib.byteCells, by0_val hNl, by1_val, by2_val])
                     clear hown1 hg1)
                  refine ⟨⟨k + 4, out ++ [by0 N, by1 N, by2 N], by go_num, by omega, hid (by have := hk4.out; omega), by simp; omega, hown2, hid ?_, hb1⟩, by simp [intOf]; omega⟩
                  rw [← Hdec.out, Hd.out]; exact (dR_full k out _ c0 c1 c2 c3 k0 k1 k2 k3 N H0.out H1.out H2.out H3.out N3.out HN.out).symm
      · have hkl : k = l.length := by omega
        have hfin : decR 0 [] l = .ok out := by rw [← Hdec.out, hkl, List.drop_length]; exact decR_nil _ _
        have Hfin := hid hfin
        clear hkl hfin
        rcases hown.2 with ⟨rfl, hn⟩ | ⟨g, cap, cur, rfl, hbg, hcur, hle, _, hsz, htake⟩
        · have hc := run_convert_bytes_nil (P := Tryz.prog) wr 44 5 Tryz.underlying44 Tryz.underlying5 0 0 9 Tryz.underlying9
          have ho : out = [] := List.eq_nil_of_length_eq_zero hn
          subst ho
          clear hn
          go_wp2
          go_ret2
          exact dec_ok l [] w wr Hm.out hb Hfin.out
        · have hc := run_convert_bytes_arg (P := Tryz.prog) wr 44 5 Tryz.underlying44 Tryz.underlying5 g 0 out.length cap (out.map fun b => (b.toNat : Int)) (by simp) (fun i hi => by
            have := hown.cellAt i (by omega)
            rw [Nat.zero_add, this]
            simp [Lib.byteCells, List.getD, List.getElem?_map, List.getElem?_eq_getElem hi]) 9 Tryz.underlying9
          rw [strOf] at hc
          clear htake hsz
          go_wp2
          go_ret2
          exact dec_ok l out w wr Hm.out hb Hfin.out
  · have hm' : ((l.length : Int) % 4 != 0) = true := by simp; omega
    have Hm := hid hm
    clear hm
    go_enter Tryz.func6, Tryz.ntmps6
    go_wp2
    go_ret2
    refine ⟨fun x hx => ?_, fun o ho => ?_, (Below.refl _ _).alloc (Nat.le_refl _) _⟩
    · unfold decB at hx; rw [if_neg Hm.out] at hx; cases hx
      exact ⟨_, rfl, _, rfl, Nat.le_refl _, heap_alloc_new w _⟩
    · unfold decB at ho; rw [if_neg Hm.out] at ho; cases ho
end Go.Proofs.YtchhmekjfnelcaaGreatDoor
