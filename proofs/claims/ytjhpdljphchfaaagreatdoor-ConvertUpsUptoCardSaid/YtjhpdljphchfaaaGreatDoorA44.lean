/- A part of the proof of ConvertUps: one of package convert walked: other, its text told. -/
import Derived.Test.YtjhpdljphchfaaaGreatDoorA42
import Derived.Test.YtjhpdljphchfaaaGreatDoorA37
import Derived.Test.YtjhpdljphchfaaaGreatDoorA35
import Derived.Test.YtjhpdljphchfaaaGreatDoorA40
set_option maxHeartbeats 40000000
set_option maxRecDepth 1000000
set_option linter.all false
namespace Go.Proofs.YtjhpdljphchfaaaGreatDoor
open Go.RowKit
open Go.Proofs.Tryz
section
attribute [local go_sem ↓] zPe
attribute [local go_sem] XR WH Xm Xp
theorem TY {S:Nat->Prop} (N:Str) (x:It) (A:Option Addr) (c:Nat) (A':Option Addr) (c':Nat) (T:Str) (A3:(if x.val.type=1 then Cz x.val.text else x.val.text)=T) (w:World) (hS:sW S w) (hx:Ah w S (pP A x c) x.ps) (hN:N.length<=134217728) (hT:x.val.text.length<=134217728) (hw:Yb x.ps<=134217728):
 Calls prog 46 #[Sv N,Yp x (pP A x c) (lP A' x c')] w fun e w'=> ∃pv',e= .returned (Yp ⟨x.group,YY++N,noP AA x.ps,⟨8,T,[],default,0⟩⟩ pv' (.slice none 0 0))/\Ah w' (fun k=>S k∨Cy w w' k) pv' (noP AA x.ps)/\Below w.heap.size w w':=by
 subst A3;exact P5 N x A c A' c' w hS hx hN hT hw
end
section
attribute [local go_sem ↓] zPe
attribute [local go_sem] XR WH Xm Xp
theorem P6 {S:Nat->Prop} {N:Str} {r:Option It} (x:It) (_h:Hid (r=Cx N x)) (A:Option Addr) (c:Nat) (A':Option Addr) (c':Nat) (T:Str) (A3:(if x.val.type=1 then Cz x.val.text else x.val.text)=T) (w:World) (hS:sW S w) (hx:Ah w S (pP A x c) x.ps) (hN:N.length<=134217728) (hT:x.val.text.length<=134217728) (hw:Yb x.ps<=134217728):
 Calls prog 46 #[Sv N,Yp x (pP A x c) (lP A' x c')] w fun e w'=> ∃pv',e= .returned (Yp ⟨x.group,YY++N,noP AA x.ps,⟨8,T,[],default,0⟩⟩ pv' (.slice none 0 0))/\Ah w' (fun k=>S k∨Cy w w' k) pv' (noP AA x.ps)/\Below w.heap.size w w':=
 TY N x A c A' c' T A3 w hS hx hN hT hw
theorem K0 {N:Str} {r:Option It} {y:It} (T:Str) (_h:Hid (r=Cx N y)) {fn:Func} {a b:Nat} (hf:fn.results= #[.cell a 44,.tmp b]) {tmps:Array Value} {w:World} {G:Nat} {pv qv:Value} (ha:tmps.getD a undef= .pointer (some (Ad G 0))) (h:Yx w G ⟨y.group,YY++N,noP AA y.ps,⟨8,T,[],default,0⟩⟩ pv qv):
 (results fn tmps).run prog w= .ok (.tuple #[Yp ⟨y.group,YY++N,noP AA y.ps,⟨8,T,[],default,0⟩⟩ pv qv,tmps.getD b undef]) w:=
 AG hf ha h
theorem ST {N T:Str} {r:Option It} {x:It} (_h:Hid (r=Cx N x)) (ht:x.val.type=1∨x.val.type=8) (hT:Hid ((if x.val.type=1 then Cz x.val.text else x.val.text)=T)):Cx N x=some ⟨x.group,YY++N,noP AA x.ps,⟨8,T,[],default,0⟩⟩:=by unfold Cx;rw[if_pos ht,hT.out]
theorem WQ {N:Str} {r:Option It} {x:It} (_h:Hid (r=Cx N x)) (ht: ¬(x.val.type=1∨x.val.type=8)):Cx N x=none:=by unfold Cx;rw[if_neg ht]
theorem U6 {S:Nat->Prop} (x:It) (A:Option Addr) (c:Nat) (A':Option Addr) (c':Nat) (w:World) (hS:sW S w) (hp:Ah w S (pP A x c) x.ps) (hl:BY w S (lP A' x c') x.val.parts) (hT:Y5 x) (hb:Eu (Xs x.name)=true) (ht:x.val.type=1):
 Calls prog 21 #[Yp x (pP A x c) (lP A' x c')] w (BJ S w (Bi x)):=by
 have A7:Xs x.name=Du∨Xs x.name=Dv∨Xs x.name=Cr∨Xs x.name=Gb∨Xs x.name=Gc∨Xs x.name=AZ:=(by simpa[Eu,or_assoc] using hb);have A4:=hid A7;have A8:=hid hb;have AB:=hid ht;clear hb A7 ht;refine (Dh (S:=S) x A c A' c' w).pf ?_ hS hp hl hT;intro F2 N F3 HN A5 k5 W3 P AW AL B0 B1 B2 B3 F4 ia ib ic id DA;obtain ⟨c0,c1,c2,c3,c4,c5,c6,c7,c8,c9,c10,c11,c12,c13,c14,DD⟩:=B0.out.c;simp only at c0 c1 c2 c3 c4 c5 c6 c7 c8 c9 c10 c11 c12 c13 c14;rw[HN.out] at A4 A8;have A1:=hid (show CE N {x with ps:=P}=Cx N {x with ps:=P} by unfold CE;rw[if_neg,if_pos A8.out];rcases A4.out with rfl|rfl|rfl|rfl|rfl|rfl<;>decide);have DT:=hid (show∀k,(S k∨(w.heap.size+2<=k/\k<W3.heap.size))->k<W3.drew.heap.size from fun k hk=>by
  rcases hk with hk|hk
  ·have:=hS k hk;simp;omega
  ·simp;exact hk.2)
 have E0:=hid (show Ah W3.drew (fun k=>S k∨(w.heap.size+2<=k/\k<W3.heap.size)) (.slice A5 P.length k5) P from B3.out.more fun k hk=> .inr hk);have E1:=hid (Nat.le_trans AL.out.text (by decide:10000<=134217728));have E2:=hid (Nat.le_trans AL.out.ps (by decide:100000<=134217728));obtain ⟨TT,AN⟩: ∃TT,(if x.val.type=1 then Cz x.val.text else x.val.text)=TT:=⟨_,rfl⟩;have AV:=hid AN;clear AN HN;rcases A4.out with rfl|rfl|rfl|rfl|rfl|rfl;all_goals
  have t1:(x.val.type==1)=true:=(by simpa using AB.out);go_wp2_with fail;first
   |(go_region_with (go_at_call 46;refine (P6 (S:=fun k=>S k∨(w.heap.size+2<=k/\k<W3.heap.size)) {x with ps:=P} A1 A5 k5 A' c' TT AV.out W3.drew DT.out E0.out (by decide) E1.out E2.out).mono ?_;rintro e9 w9 ⟨FB,rfl,A6,A2⟩;obtain ⟨A9,c9,rfl⟩:=A6.form;have E3:=hid A2;have E9:=hid A6;have f3:=(A2.cell (p:=(Ad w.heap.size 3)) (show w.heap.size<W3.drew.heap.size from DD)).trans (show W3.drew.cell? (Ad w.heap.size 3)=_ from c3);have F1:=Yt.low (show Yt W3.drew (w.heap.size+1) 15 from B1) A2 (show w.heap.size+1<W3.drew.heap.size from DA);clear A2 A6;simp only[Yp]))
   |fail
  all_goals
   go_wp2
   refine bodyPost_ret (K0 TT A1 (pv:= .slice A9 (noP AA P).length c9) (qv:= .slice none 0 0) (G:=w.heap.size+1) rfl (by first|(simp;done)|rfl|simp[go_sem]) (Yx.row F1 rfl)) rfl ?_;have hu:=ST A1 (.inl AB.out) AV;refine Br hS AW.out A1.out (B2.drew) E3.out (by simp;omega) (fun z A0=> ?_) (fun A0=> ?_)
   ·rw[hu] at A0;cases A0;exact ⟨rfl,rfl,E9.out,BY.nil⟩
   ·rw[hu] at A0;cases A0
end
end Go.Proofs.YtjhpdljphchfaaaGreatDoor
