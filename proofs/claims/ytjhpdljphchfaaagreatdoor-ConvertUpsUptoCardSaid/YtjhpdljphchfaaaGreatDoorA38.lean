/- A part of the proof of ConvertUps: big of package convert walked: what is no letters. -/
import Derived.Test.YtjhpdljphchfaaaGreatDoorA35
import Derived.Test.YtjhpdljphchfaaaGreatDoorA08
set_option maxHeartbeats 40000000
set_option maxRecDepth 1000000
set_option linter.all false
namespace Go.Proofs.YtjhpdljphchfaaaGreatDoor
open Go.RowKit
open Go.Proofs.Tryz
section
attribute [local go_sem ↓] zPe zQe
attribute [local go_sem] XR WH XS WI Xm Xp
theorem WM {S:Nat->Prop} (N:Str) (x:It) (A:Option Addr) (c:Nat) (A':Option Addr) (c':Nat) (w:World) (hS:sW S w) (hp:Ah w S (pP A x c) x.ps) (hl:BY w S (lP A' x c') x.val.parts) (hT:Y4 x) (q:Pm) (hq:x.ps.find? (fun p=>AF p.name AE)=some q) (s:Str) (r:List Str) (A1:q.vals=s::r) (ht:x.val.type≠8) (AL:x.val.type=4):
 Calls prog 45 #[Sv N,Yp x (pP A x c) (lP A' x c')] w (BJ S w (BX N x)):=by
 have A8:=hid (show BX N x=none by unfold BX;rw[hq];simp only[A1,List.headD_cons];rw[if_neg];simp[ht]);have t8:(x.val.type != 8)=true:=(by simpa using ht);have t4:(x.val.type==4)=true:=(by simpa using AL);have HQ:=hid hq;have A9:=hid A1;clear hq A1 ht AL;obtain ⟨b,o,rfl⟩:=EL hS hp HQ.out;refine (EM (S:=S) N x b o c A' c' w q s r).pf ?_ HQ.out A9.out hS hp hl hT;intro HP HL HT E0 E1 ia ib ic id w1 A4 HM hB E2 A5 k hk E3 E9 d0 F1 d b2 o2 d1 AN d2 F2 F3;obtain ⟨c0,c1,c2,c3,c4,c5,c6,c7,c8,c9,c10,c11,c12,c13,c14,A2⟩:=HM.out.c;go_wp2_with fail;refine (Bh s kb w1 (by omega) (by decide)).mono ?_;rintro e w2 ⟨rfl,A0⟩;have F4:=A0.size;have A3:=A4.trans (A0.mono (show w.heap.size<=w1.heap.size by omega));have A6:=hid (HM.out.keep A0 (by omega));have A7:=hB.low A0 (by omega);have AV:=hid (A5.out.move (w':=w2) (S':=S) (fun k hk=>A0.block k (by have:=hS k hk;omega)) fun _ h=>h);clear A0 c0 c1 c2 c3 c4 c5 c6 c7 c8 c9 c10 c11 c12 c13 c14 A2 d0 d1 d2 HM hB A4 A5;obtain ⟨c0,c1,c2,c3,c4,c5,c6,c7,c8,c9,c10,c11,c12,c13,c14,A2⟩:=A6.out.c;cases AF s kb;all_goals
  go_wp2
  refine bodyPost_ret (AG (x:=x) (pv:=(.slice (some (Ad b o)) x.ps.length c)) (qv:=(lP A' x c')) (G:=w.heap.size+1) rfl (by simp) (Yx.row A7 rfl)) rfl ?_;exact Ai A8.out (AC A3 (by omega) _)
theorem U4 {S:Nat->Prop} (N:Str) (x:It) (A:Option Addr) (c:Nat) (A':Option Addr) (c':Nat) (w:World) (hS:sW S w) (hp:Ah w S (pP A x c) x.ps) (hl:BY w S (lP A' x c') x.val.parts) (hT:Y4 x) (q:Pm) (hq:x.ps.find? (fun p=>AF p.name AE)=some q) (s:Str) (r:List Str) (A1:q.vals=s::r) (ht:x.val.type≠8) (AL:x.val.type≠4):
 Calls prog 45 #[Sv N,Yp x (pP A x c) (lP A' x c')] w (BJ S w (BX N x)):=by
 have A8:=hid (show BX N x=none by unfold BX;rw[hq];simp only[A1,List.headD_cons];rw[if_neg];simp[ht]);have t8:(x.val.type != 8)=true:=(by simpa using ht);have t4:(x.val.type==4)=false:=(by simpa using AL);have HQ:=hid hq;have A9:=hid A1;clear hq A1 ht AL;obtain ⟨b,o,rfl⟩:=EL hS hp HQ.out;refine (EM (S:=S) N x b o c A' c' w q s r).pf ?_ HQ.out A9.out hS hp hl hT;intro HP HL HT E0 E1 ia ib ic id w1 A4 HM hB E2 A5 k hk E3 E9 d0 F1 d b2 o2 d1 AN d2 F2 F3;obtain ⟨c0,c1,c2,c3,c4,c5,c6,c7,c8,c9,c10,c11,c12,c13,c14,A2⟩:=HM.out.c;go_wp2_with fail;refine (Bh s kb w1 (by omega) (by decide)).mono ?_;rintro e w2 ⟨rfl,A0⟩;have F4:=A0.size;have A3:=A4.trans (A0.mono (show w.heap.size<=w1.heap.size by omega));have A6:=hid (HM.out.keep A0 (by omega));have A7:=hB.low A0 (by omega);have AV:=hid (A5.out.move (w':=w2) (S':=S) (fun k hk=>A0.block k (by have:=hS k hk;omega)) fun _ h=>h);clear A0 c0 c1 c2 c3 c4 c5 c6 c7 c8 c9 c10 c11 c12 c13 c14 A2 d0 d1 d2 HM hB A4 A5;obtain ⟨c0,c1,c2,c3,c4,c5,c6,c7,c8,c9,c10,c11,c12,c13,c14,A2⟩:=A6.out.c;cases AF s kb;all_goals
  go_wp2
  refine bodyPost_ret (AG (x:=x) (pv:=(.slice (some (Ad b o)) x.ps.length c)) (qv:=(lP A' x c')) (G:=w.heap.size+1) rfl (by simp) (Yx.row A7 rfl)) rfl ?_;exact Ai A8.out (AC A3 (by omega) _)
theorem U5 {S:Nat->Prop} (N:Str) (x:It) (A:Option Addr) (c:Nat) (A':Option Addr) (c':Nat) (w:World) (hS:sW S w) (hp:Ah w S (pP A x c) x.ps) (hl:BY w S (lP A' x c') x.val.parts) (hT:Y4 x) (q:Pm) (hq:x.ps.find? (fun p=>AF p.name AE)=some q) (s:Str) (r:List Str) (A1:q.vals=s::r) (ht:x.val.type=8) (hs:AF s kb=false):
 Calls prog 45 #[Sv N,Yp x (pP A x c) (lP A' x c')] w (BJ S w (BX N x)):=by
 have A8:=hid (show BX N x=none by unfold BX;rw[hq];simp only[A1,List.headD_cons];rw[if_neg];simp[hs]);have t8:(x.val.type != 8)=false:=(by simpa using ht);have t4:(x.val.type==4)=false:=(by simp[ht]);have HQ:=hid hq;have A9:=hid A1;have HS:=hid hs;clear hq A1 ht hs;obtain ⟨b,o,rfl⟩:=EL hS hp HQ.out;refine (EM (S:=S) N x b o c A' c' w q s r).pf ?_ HQ.out A9.out hS hp hl hT;intro HP HL HT E0 E1 ia ib ic id w1 A4 HM hB E2 A5 k hk E3 E9 d0 F1 d b2 o2 d1 AN d2 F2 F3;obtain ⟨c0,c1,c2,c3,c4,c5,c6,c7,c8,c9,c10,c11,c12,c13,c14,A2⟩:=HM.out.c;go_wp2_with fail;refine (Bh s kb w1 (by omega) (by decide)).mono ?_;rintro e w2 ⟨rfl,A0⟩;have F4:=A0.size;have A3:=A4.trans (A0.mono (show w.heap.size<=w1.heap.size by omega));have A6:=hid (HM.out.keep A0 (by omega));have A7:=hB.low A0 (by omega);have AV:=hid (A5.out.move (w':=w2) (S':=S) (fun k hk=>A0.block k (by have:=hS k hk;omega)) fun _ h=>h);clear A0 c0 c1 c2 c3 c4 c5 c6 c7 c8 c9 c10 c11 c12 c13 c14 A2 d0 d1 d2 HM hB A4 A5;obtain ⟨c0,c1,c2,c3,c4,c5,c6,c7,c8,c9,c10,c11,c12,c13,c14,A2⟩:=A6.out.c;rw[HS.out];go_wp2
 refine bodyPost_ret (AG (x:=x) (pv:=(.slice (some (Ad b o)) x.ps.length c)) (qv:=(lP A' x c')) (G:=w.heap.size+1) rfl (by simp) (Yx.row A7 rfl)) rfl ?_;exact Ai A8.out (AC A3 (by omega) _)
end
section
attribute [local go_sem ↓] zPe zQe
attribute [local go_sem] XR WH XS WI Xm Xp
theorem WN {S:Nat->Prop} (N:Str) (x:It) (A:Option Addr) (c:Nat) (A':Option Addr) (c':Nat) (w:World) (hS:sW S w) (hp:Ah w S (pP A x c) x.ps) (hl:BY w S (lP A' x c') x.val.parts) (hT:Y4 x) (q:Pm) (hq:x.ps.find? (fun p=>AF p.name AE)=some q) (s:Str) (r:List Str) (A1:q.vals=s::r) (ht:x.val.type=8) (hs:AF s kb=true) (xx:Int×Int) (hu:B.unB x.val.text= .error xx):
 Calls prog 45 #[Sv N,Yp x (pP A x c) (lP A' x c')] w (BJ S w (BX N x)):=by
 have A8:=hid (show BX N x=none by unfold BX;rw[hq];simp only[A1,List.headD_cons];rw[if_pos (by simp[hs,ht]),hu]);have HU:=hid hu;have t8:(x.val.type != 8)=false:=(by simpa using ht);have t4:(x.val.type==4)=false:=(by simp[ht]);have HQ:=hid hq;have A9:=hid A1;have HS:=hid hs;clear hq A1 ht hs hu;obtain ⟨b,o,rfl⟩:=EL hS hp HQ.out;refine (EM (S:=S) N x b o c A' c' w q s r).pf ?_ HQ.out A9.out hS hp hl hT;intro HP HL HT E0 E1 ia ib ic id w1 A4 HM hB E2 A5 k hk E3 E9 d0 F1 d b2 o2 d1 AN d2 F2 F3;obtain ⟨c0,c1,c2,c3,c4,c5,c6,c7,c8,c9,c10,c11,c12,c13,c14,A2⟩:=HM.out.c;go_wp2_with fail;refine (Bh s kb w1 (by omega) (by decide)).mono ?_;rintro e w2 ⟨rfl,A0⟩;have F4:=A0.size;have A3:=A4.trans (A0.mono (show w.heap.size<=w1.heap.size by omega));have A6:=hid (HM.out.keep A0 (by omega));have A7:=hB.low A0 (by omega);have AV:=hid (A5.out.move (w':=w2) (S':=S) (fun k hk=>A0.block k (by have:=hS k hk;omega)) fun _ h=>h);clear A0 c0 c1 c2 c3 c4 c5 c6 c7 c8 c9 c10 c11 c12 c13 c14 A2 d0 d1 d2 HM hB A4 A5;obtain ⟨c0,c1,c2,c3,c4,c5,c6,c7,c8,c9,c10,c11,c12,c13,c14,A2⟩:=A6.out.c;rw[HS.out];have H8:x.val.text.length<=10000:=HT.out.text;go_wp2_with fail;refine (B.decode_any x.val.text w2 (by omega)).mono ?_;rintro e w3 ⟨AW,B0,AB⟩;rw[B.dec_law] at AW B0;have H9:=AB.size;have H1:=A3.trans (AB.mono (show w.heap.size<=w2.heap.size by omega));have H2:=hid (A6.out.keep AB (by omega));have H3:=A7.low AB (by omega);have HA:=hid (AV.out.move (w':=w3) (S':=S) (fun k hk=>AB.block k (by have:=hS k hk;omega)) fun _ h=>h);clear AB c0 c1 c2 c3 c4 c5 c6 c7 c8 c9 c10 c11 c12 c13 c14 A2 A6 A7 A3 AV;obtain ⟨c0,c1,c2,c3,c4,c5,c6,c7,c8,c9,c10,c11,c12,c13,c14,A2⟩:=H2.out.c;obtain ⟨ev,rfl,H4⟩:=AW xx HU.out;clear AW B0;obtain ⟨eb,rfl,_,_⟩:=H4;go_wp2
 refine bodyPost_ret (AG (x:=x) (pv:=(.slice (some (Ad b o)) x.ps.length c)) (qv:=(lP A' x c')) (G:=w.heap.size+1) rfl (by simp) (Yx.row H3 rfl)) rfl ?_;exact Ai A8.out (AC H1 (by omega) _)
end
section
def NA (W:World) (b o:Nat):Value:= .agg #[(W.cell? (Ad b o)).getD undef,(W.cell? (Ad b (o+1))).getD undef,(W.cell? (Ad b (o+2))).getD undef,(W.cell? (Ad b (o+3))).getD undef,(W.cell? (Ad b (o+4))).getD undef,(W.cell? (Ad b (o+5))).getD undef,(W.cell? (Ad b (o+6))).getD undef,(W.cell? (Ad b (o+7))).getD undef,(W.cell? (Ad b (o+8))).getD undef,(W.cell? (Ad b (o+9))).getD undef,(W.cell? (Ad b (o+10))).getD undef,(W.cell? (Ad b (o+11))).getD undef,(W.cell? (Ad b (o+12))).getD undef,(W.cell? (Ad b (o+13))).getD undef,(W.cell? (Ad b (o+14))).getD undef]
def Ld (W:World) (b o:Nat):Prop:= ∀i,i<15-> ∃v,W.cell? (Ad b (o+i))=some v
def ZD (a:Addr):Sem Value:=Instr.loadAt 44 (.pointer (some a))
def zLd (a:Value):Sem Value:=Instr.loadAt 44 a
theorem zLe (a:Value):Instr.loadAt 44 a=zLd a:=rfl
theorem XU (a:Addr):zLd (.pointer (some a))=ZD a:=rfl
theorem ZE (t:TypeId) (a:Value) (_:(t==44)=false):Instr.loadAt t a=(do loadVar t (<-Instr.sureAddr a)):=rfl
theorem ZF (t:TypeId) (a v:Value) (_:(t==44)=false):Instr.storeAt t a v=(do storeVar t (<-Instr.sureAddr a) v):=rfl
theorem WU (W:World) (b o:Nat) (h:Ld W b o):(ZD (Ad b o)).run prog W= .ok (NA W b o) W:=by obtain ⟨v0,h0⟩:=h 0 (by omega);obtain ⟨v1,h1⟩:=h 1 (by omega);obtain ⟨v2,h2⟩:=h 2 (by omega);obtain ⟨v3,h3⟩:=h 3 (by omega);obtain ⟨v4,h4⟩:=h 4 (by omega);obtain ⟨v5,h5⟩:=h 5 (by omega);obtain ⟨v6,h6⟩:=h 6 (by omega);obtain ⟨v7,h7⟩:=h 7 (by omega);obtain ⟨v8,h8⟩:=h 8 (by omega);obtain ⟨v9,h9⟩:=h 9 (by omega);obtain ⟨FB,B1⟩:=h 10 (by omega);obtain ⟨G1,B2⟩:=h 11 (by omega);obtain ⟨G2,B3⟩:=h 12 (by omega);obtain ⟨G4,DA⟩:=h 13 (by omega);obtain ⟨H0,DD⟩:=h 14 (by omega);rw[Nat.add_zero] at h0;simp[ZD,NA,go_sem,h0,h1,h2,h3,h4,h5,h6,h7,h8,h9,B1,B2,B3,DA,DD]
theorem K1 (W:World) (ob:Obj) (b o:Nat) (h:b≠W.heap.size):(W.alloc ob).cell? (Ad b o)=W.cell? (Ad b o):=by refine World.cell?_of_block (w:=W) (a:=(Ad b o)) ?_;show (W.heap.push ob)[b]? =_;rw[Array.getElem?_push,if_neg h]
theorem P8 (W:World) (G:Nat) (cs:Array Value) (b o:Nat) (h:b≠G):(W.setRow G cs).cell? (Ad b o)=W.cell? (Ad b o):=World.cell?_of_block (w:=W) (a:=(Ad b o)) (AH W G cs h)
section
variable (W:World) (ob:Obj) (cs:Array Value) (b o G n:Nat)
theorem Tw (h:b≠W.heap.size):NA (W.alloc ob) b o=NA W b o:=by unfold NA;simp only[K1 W ob b _ h]
theorem VY (h:b≠G):NA (W.setRow G cs) b o=NA W b o:=by unfold NA;simp only[P8 W G cs b _ h]
theorem VB:NA W.drew b o=NA W b o:=Eq.trans (Eq.refl (NA W b o)) (Eq.refl (NA W b o))
theorem VZ (h:b≠W.heap.size):Ld (W.alloc ob) b o=Ld W b o:=by unfold Ld;simp only[K1 W ob b _ h]
theorem XV (h:b≠G):Ld (W.setRow G cs) b o=Ld W b o:=by unfold Ld;simp only[P8 W G cs b _ h]
theorem WV:Ld W.drew b o=Ld W b o:=propext Iff.rfl
theorem WW (h:G≠W.heap.size):Yt (W.alloc ob) G n=Yt W G n:=by
 have e:(W.alloc ob).heap[G]? =W.heap[G]? :=by show (W.heap.push ob)[G]? =_;rw[Array.getElem?_push,if_neg h]
 unfold Yt;rw[e]
theorem WX (t:TypeId) (h:G=W.heap.size) (hs:cs.size=n):Yt (W.alloc (.cells cs t)) G n=True:=by subst h;exact eq_true ⟨cs,t,heap_alloc_new W _,hs⟩
theorem WY (h:G≠b):Yt (W.setRow b cs) G n=Yt W G n:=by unfold Yt;rw[AH W b cs h]
theorem Va:Yt W.drew G n=Yt W G n:=propext Iff.rfl
end
theorem Jc {W:World} {G G':Nat} {x:It} {p q p' q':Value} {cs cs':Array Value} (h:Yt W G 15) (h':Yt W G' 15) (DT:G≠G') (e:cs=Yv x p q) (e':cs'=Yv x p' q'):
 Yx ((W.setRow G cs).setRow G' cs') G x p q/\Yx ((W.setRow G cs).setRow G' cs') G' x p' q':=
 ⟨(Yx.row h e).same (AH _ _ _ DT),Yx.row (h'.same (AH _ _ _ (Ne.symm DT))) e'⟩
theorem Nq {W:World} {G G':Nat} {x:It} {p q p' q':Value} {cs cs':Array Value} (h:Yt W G 15) (h':Yt W G' 15) (DT:G≠G') (e:cs=Yv x p q) (e':cs'=Yv x p' q'):
 Yx ((W.setRow G' cs').setRow G cs) G x p q/\Yx ((W.setRow G' cs').setRow G cs) G' x p' q':=(Jc h' h (Ne.symm DT) e' e).symm
theorem VD {W:World} {b o:Nat} {v0 v1 v2 v3 v4 v5 v6 v7 v8 v9 FB G1 G2 G4 H0:Value} (h0:W.cell? (Ad b o)=some v0) (h1:W.cell? (Ad b (o+1))=some v1) (h2:W.cell? (Ad b (o+2))=some v2) (h3:W.cell? (Ad b (o+3))=some v3) (h4:W.cell? (Ad b (o+4))=some v4) (h5:W.cell? (Ad b (o+5))=some v5) (h6:W.cell? (Ad b (o+6))=some v6) (h7:W.cell? (Ad b (o+7))=some v7) (h8:W.cell? (Ad b (o+8))=some v8) (h9:W.cell? (Ad b (o+9))=some v9) (B1:W.cell? (Ad b (o+10))=some FB) (B2:W.cell? (Ad b (o+11))=some G1) (B3:W.cell? (Ad b (o+12))=some G2) (DA:W.cell? (Ad b (o+13))=some G4) (DD:W.cell? (Ad b (o+14))=some H0):Ld W b o/\NA W b o= .agg #[v0,v1,v2,v3,v4,v5,v6,v7,v8,v9,FB,G1,G2,G4,H0]:=by
 refine ⟨fun i hi=> ?_,by simp[NA,h0,h1,h2,h3,h4,h5,h6,h7,h8,h9,B1,B2,B3,DA,DD]⟩
 match i,hi with
 |0,_=>exact ⟨_,h0⟩
 |1,_=>exact ⟨_,h1⟩
 |2,_=>exact ⟨_,h2⟩
 |3,_=>exact ⟨_,h3⟩
 |4,_=>exact ⟨_,h4⟩
 |5,_=>exact ⟨_,h5⟩
 |6,_=>exact ⟨_,h6⟩
 |7,_=>exact ⟨_,h7⟩
 |8,_=>exact ⟨_,h8⟩
 |9,_=>exact ⟨_,h9⟩
 |10,_=>exact ⟨_,B1⟩
 |11,_=>exact ⟨_,B2⟩
 |12,_=>exact ⟨_,B3⟩
 |13,_=>exact ⟨_,DA⟩
 |14,_=>exact ⟨_,DD⟩
end
end Go.Proofs.YtjhpdljphchfaaaGreatDoor
