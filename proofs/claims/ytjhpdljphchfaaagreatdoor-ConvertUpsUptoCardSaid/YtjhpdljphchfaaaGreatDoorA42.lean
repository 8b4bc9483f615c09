/- A part of the proof of ConvertUps: big of package convert walked: all ways. -/
import Derived.Test.YtjhpdljphchfaaaGreatDoorA38
import Derived.Test.YtjhpdljphchfaaaGreatDoorA39
import Derived.Test.YtjhpdljphchfaaaGreatDoorA40
import Derived.Test.YtjhpdljphchfaaaGreatDoorA35
set_option maxHeartbeats 40000000
set_option maxRecDepth 1000000
set_option linter.all false
namespace Go.Proofs.YtjhpdljphchfaaaGreatDoor
open Go.RowKit
open Go.Proofs.Tryz
section
attribute [local go_sem ↓] zPe zQe
attribute [local go_sem] XR WH XS WI Xm Xp
theorem JY {S:Nat->Prop} (N:Str) (x:It) (A:Option Addr) (c:Nat) (A':Option Addr) (c':Nat) (w:World) (hS:sW S w) (hp:Ah w S (pP A x c) x.ps) (hl:BY w S (lP A' x c') x.val.parts) (hT:Y4 x):
 Calls prog 45 #[Sv N,Yp x (pP A x c) (lP A' x c')] w (BJ S w (BX N x)):=by
 cases hq:x.ps.find? (fun p=>AF p.name AE) with
 |none=>
  by_cases ht:x.val.type=4
  ·exact WK N x A c A' c' w hS hp hl hT hq ht
  ·exact WL N x A c A' c' w hS hp hl hT hq ht
 |some q=>
  obtain ⟨s,r,A9⟩: ∃s r,q.vals=s::r:=List.exists_cons_of_ne_nil (hT.ne q (List.mem_of_find?_eq_some hq));by_cases ht:x.val.type=8
  ·cases hs:AF s kb with
   |false=>exact U5 N x A c A' c' w hS hp hl hT q hq s r A9 ht hs
   |true=>
    cases hu:B.unB x.val.text with
    |error xx=>exact WN N x A c A' c' w hS hp hl hT q hq s r A9 ht hs xx hu
    |ok bytes=>
     cases hm:B.medB (Bb N x.ps) with
     |false=>exact WO N x A c A' c' w hS hp hl hT q hq s r A9 ht hs bytes hu hm
     |true=>exact WP N x A c A' c' w hS hp hl hT q hq s r A9 ht hs bytes hu hm
  ·by_cases h4:x.val.type=4
   ·exact WM N x A c A' c' w hS hp hl hT q hq s r A9 ht h4
   ·exact U4 N x A c A' c' w hS hp hl hT q hq s r A9 ht h4
end
section
attribute [local go_sem ↓] zPe
attribute [local go_sem] XR WH Xm Xp
theorem TV {S:Nat->Prop} (x:It) (A:Option Addr) (c:Nat) (A':Option Addr) (c':Nat) (w:World) (hS:sW S w) (hp:Ah w S (pP A x c) x.ps) (hl:BY w S (lP A' x c') x.val.parts) (hT:Y5 x) (hb:KH (Xs x.name)=true):
 Calls prog 21 #[Yp x (pP A x c) (lP A' x c')] w (BJ S w (Bi x)):=by
 have DA:Xs x.name=BV∨Xs x.name=CN∨Xs x.name=Bn∨Xs x.name=K8:=(by simpa[KH,or_assoc] using hb);have DD:=hid DA;have DT:=hid hb;clear hb DA;refine (Dh (S:=S) x A c A' c' w).pf ?_ hS hp hl hT;intro E1 N E2 HN A5 k5 W3 P AB AL E0 AN AV AW B0 ia ib ic id B1;obtain ⟨c0,c1,c2,c3,c4,c5,c6,c7,c8,c9,c10,c11,c12,c13,c14,E3⟩:=E0.out.c;simp only at c0 c1 c2 c3 c4 c5 c6 c7 c8 c9 c10 c11 c12 c13 c14;rw[HN.out] at DD DT;have B2:=hid (show CE N {x with ps:=P}=BX N {x with ps:=P} by unfold CE;rw[if_pos DT.out]);clear HN;rcases DD.out with rfl|rfl|rfl|rfl
 ·go_wp2_with fail;have A3:=hid (show∀k,(S k∨(w.heap.size+2<=k/\k<W3.heap.size))->k<W3.heap.size from fun k hk=>by
   rcases hk with hk|hk
   ·have:=hS k hk;omega
   ·exact hk.2)
  refine (JY (S:=fun k=>S k∨(w.heap.size+2<=k/\k<W3.heap.size)) BV {x with ps:=P} A5 k5 A' c' W3 A3.out (AW.out.more fun k hk=> .inr hk) (B0.out.more fun k hk=> .inl hk) AL.out).mono ?_;rintro e w4 ⟨y,A6,n6,k6,A7,n7,k7,bb,rfl,A0,A2,A1⟩;have A4:=AN.low A1 (by omega);have B3:=A1.size;have HY:=hid A0;have A8:=hid A2;clear A0 A2 c0 c1 c2 c3 c4 c5 c6 c7 c8 c9 c10 c11 c12 c13 c14;simp only[Yp];go_wp2
  refine bodyPost_ret (AG (x:=y) (pv:= .slice A6 n6 k6) (qv:= .slice A7 n7 k7) (G:=w.heap.size+1) rfl (by first|(simp;done)|rfl|simp[go_sem]) (Yx.row A4 rfl)) rfl ?_;exact Br hS AB.out B2.out AV A1 B1 HY.out A8.out
 ·go_wp2_with fail;have A3:=hid (show∀k,(S k∨(w.heap.size+2<=k/\k<W3.heap.size))->k<W3.heap.size from fun k hk=>by
   rcases hk with hk|hk
   ·have:=hS k hk;omega
   ·exact hk.2)
  refine (JY (S:=fun k=>S k∨(w.heap.size+2<=k/\k<W3.heap.size)) CN {x with ps:=P} A5 k5 A' c' W3 A3.out (AW.out.more fun k hk=> .inr hk) (B0.out.more fun k hk=> .inl hk) AL.out).mono ?_;rintro e w4 ⟨y,A6,n6,k6,A7,n7,k7,bb,rfl,A0,A2,A1⟩;have A4:=AN.low A1 (by omega);have B3:=A1.size;have HY:=hid A0;have A8:=hid A2;clear A0 A2 c0 c1 c2 c3 c4 c5 c6 c7 c8 c9 c10 c11 c12 c13 c14;simp only[Yp];go_wp2
  refine bodyPost_ret (AG (x:=y) (pv:= .slice A6 n6 k6) (qv:= .slice A7 n7 k7) (G:=w.heap.size+1) rfl (by first|(simp;done)|rfl|simp[go_sem]) (Yx.row A4 rfl)) rfl ?_;exact Br hS AB.out B2.out AV A1 B1 HY.out A8.out
 ·go_wp2_with fail;have A3:=hid (show∀k,(S k∨(w.heap.size+2<=k/\k<W3.heap.size))->k<W3.heap.size from fun k hk=>by
   rcases hk with hk|hk
   ·have:=hS k hk;omega
   ·exact hk.2)
  refine (JY (S:=fun k=>S k∨(w.heap.size+2<=k/\k<W3.heap.size)) Bn {x with ps:=P} A5 k5 A' c' W3 A3.out (AW.out.more fun k hk=> .inr hk) (B0.out.more fun k hk=> .inl hk) AL.out).mono ?_;rintro e w4 ⟨y,A6,n6,k6,A7,n7,k7,bb,rfl,A0,A2,A1⟩;have A4:=AN.low A1 (by omega);have B3:=A1.size;have HY:=hid A0;have A8:=hid A2;clear A0 A2 c0 c1 c2 c3 c4 c5 c6 c7 c8 c9 c10 c11 c12 c13 c14;simp only[Yp];go_wp2
  refine bodyPost_ret (AG (x:=y) (pv:= .slice A6 n6 k6) (qv:= .slice A7 n7 k7) (G:=w.heap.size+1) rfl (by first|(simp;done)|rfl|simp[go_sem]) (Yx.row A4 rfl)) rfl ?_;exact Br hS AB.out B2.out AV A1 B1 HY.out A8.out
 ·go_wp2_with fail;have A3:=hid (show∀k,(S k∨(w.heap.size+2<=k/\k<W3.heap.size))->k<W3.heap.size from fun k hk=>by
   rcases hk with hk|hk
   ·have:=hS k hk;omega
   ·exact hk.2)
  refine (JY (S:=fun k=>S k∨(w.heap.size+2<=k/\k<W3.heap.size)) K8 {x with ps:=P} A5 k5 A' c' W3 A3.out (AW.out.more fun k hk=> .inr hk) (B0.out.more fun k hk=> .inl hk) AL.out).mono ?_;rintro e w4 ⟨y,A6,n6,k6,A7,n7,k7,bb,rfl,A0,A2,A1⟩;have A4:=AN.low A1 (by omega);have B3:=A1.size;have HY:=hid A0;have A8:=hid A2;clear A0 A2 c0 c1 c2 c3 c4 c5 c6 c7 c8 c9 c10 c11 c12 c13 c14;simp only[Yp];go_wp2
  refine bodyPost_ret (AG (x:=y) (pv:= .slice A6 n6 k6) (qv:= .slice A7 n7 k7) (G:=w.heap.size+1) rfl (by first|(simp;done)|rfl|simp[go_sem]) (Yx.row A4 rfl)) rfl ?_;exact Br hS AB.out B2.out AV A1 B1 HY.out A8.out
end
end Go.Proofs.YtjhpdljphchfaaaGreatDoor
