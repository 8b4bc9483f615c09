/- A part of the proof of ConvertUps: place of package convert walked. -/
import Derived.Test.YtjhpdljphchfaaaGreatDoorA35
set_option maxHeartbeats 40000000
set_option maxRecDepth 1000000
set_option linter.all false
namespace Go.Proofs.YtjhpdljphchfaaaGreatDoor
open Go.RowKit
open Go.Proofs.Tryz
section
attribute [local go_sem ↓] zPe zQe
attribute [local go_sem] XR WH XS WI Xm Xp
theorem Ky (l:Str) (w:World) (hs:l.length<=1073741824) (h:DG l=0):Calls prog 50 #[Sv l] w fun e w'=>e= .returned .nilIface/\Below w.heap.size w w':=by
 refine (FJ l w hs).mono ?_;rintro e w' ⟨⟨v,p,rfl,hv⟩,hb⟩;rcases hv with ⟨_,_,rfl⟩|⟨he,_⟩|⟨he,_⟩
 ·exact ⟨rfl,hb⟩
 ·exact absurd h he
 ·exact absurd h he
theorem Kz (l:Str) (w:World) (hs:l.length<=1073741824) (h:DG l≠0):Calls prog 50 #[Sv l] w fun e w'=> ∃t p,e= .returned (.iface t p)/\Below w.heap.size w w':=by
 refine (FJ l w hs).mono ?_;rintro e w' ⟨⟨v,p,rfl,hv⟩,hb⟩;rcases hv with ⟨he,_⟩|⟨_,_,rfl⟩|⟨_,_,b,rfl,_⟩
 ·exact absurd he h
 ·exact ⟨_,_,rfl,hb⟩
 ·exact ⟨_,_,rfl,hb⟩
theorem Ry {S:Nat->Prop} (x:It) (A:Option Addr) (c:Nat) (A':Option Addr) (c':Nat) (w:World) (hl:Xw w w.heap.size (lP A' x c') x.val.parts) (hg:DZ x=none) (h1:x.val.type=3-> ∀a b,x.val.parts≠[[a],[b]]):
 Calls prog 47 #[Yp x (pP A x c) (lP A' x c')] w (BJ S w (DZ x)):=by
 have HG:=hid hg;have HL:=hid hl;have H1:=hid h1;clear hg hl h1;simp only[Yp];go_enter func47,ntmps47;go_upto_region 1 with fail;obtain ⟨W0,A0⟩: ∃W0,(w.alloc (.cells (IA x (pP A x c) (lP A' x c')) 44)).alloc (.cells Z15 44)=W0:=⟨_,rfl⟩;have HD:W0.heap.size=w.heap.size+2:=by rw[<-A0];simp
 have A6:Below w.heap.size w W0:=by rw[<-A0];exact zA.alloc (by simp) _
 have HM:=hid (show Yx W0 w.heap.size x (pP A x c) (lP A' x c') by rw[<-A0];exact (Yx.new w x _ _).same (Below.heap_alloc _ _ _ (by simp)));have hB:Yt W0 (w.heap.size+1) 15:=by rw[<-A0];exact ⟨_,44,heap_alloc2_new w _ _,rfl⟩
 (try rw[A0]);clear A0;have AV:=hid (HL.out.keep A6 zL);obtain ⟨c0,c1,c2,c3,c4,c5,c6,c7,c8,c9,c10,c11,c12,c13,c14,AW⟩:=HM.out.c;by_cases ht:x.val.type=3
 ·have t1:(x.val.type != 3)=false:=(by simpa using ht);obtain ⟨L,hL⟩: ∃L,x.val.parts=L:=⟨_,rfl⟩;have H2:=hid (show∀a b,L≠[[a],[b]] from hL▸H1.out ht);have G1:=hid (show Xw W0 w.heap.size (.slice A' L.length c') L from hL▸AV.out);have DT:=hid hL;clear ht hL;by_cases hn:L.length=2
  ·have t2:((x.val.parts.length:Int) != 2)=false:=by rw[DT.out];simp;omega
   obtain ⟨p,q,rfl⟩: ∃p q,L=[p,q]:=by
    match L,hn with
    |[p,q],_=>exact ⟨p,q,rfl⟩
   have B0:x.val.parts.length=2:=by rw[DT.out];rfl
   obtain ⟨b,o,u1,v1,rfl,HE,e1,d1,s1⟩:=Xw.at_ (k:=0) G1.out (by simp);obtain ⟨b',o',u2,v2,AL,A4,e2,d2,s2⟩:=Xw.at_ (k:=1) G1.out (by simp);simp only[Option.some.injEq,Addr.mk.injEq,and_true] at AL;obtain ⟨rfl,rfl⟩:=AL;have HF:u1=p:=(by simpa using e1.symm);have HH:u2=q:=(by simpa using e2.symm);subst HF HH;obtain ⟨A1,c1',rfl⟩:=s1.form;obtain ⟨A2,c2',rfl⟩:=s2.form;have HI:b<W0.heap.size:=(by omega);rw[Nat.add_zero] at d1;have HJ:(0:Int)<(x.val.parts.length:Int):=(by omega);have HK:(1:Int)<(x.val.parts.length:Int):=(by omega);clear e1 e2 hn;by_cases HN:u1.length=1
   ·have t3:((u1.length:Int) != 1)=false:=by simp;omega
    have G2:u2.length≠1:=fun G2=>by
     match u1,HN,u2,G2 with
     |[a],_,[b],_=>exact H2.out a b rfl
    have t4:((u2.length:Int) != 1)=true:=by simp;omega
    go_wp2
    refine bodyPost_ret (AG (x:=x) (pv:=(pP A x c)) (qv:=(.slice (some (Ad b o)) 2 c')) (G:=w.heap.size+1) rfl (by first|(simp;done)|rfl|simp[go_sem]) (Yx.row hB rfl)) rfl ?_;exact Ai HG.out (AC A6 (by omega) _)
   ·have t3:((u1.length:Int) != 1)=true:=by simp;omega
    go_wp2
    refine bodyPost_ret (AG (x:=x) (pv:=(pP A x c)) (qv:=(.slice (some (Ad b o)) 2 c')) (G:=w.heap.size+1) rfl (by first|(simp;done)|rfl|simp[go_sem]) (Yx.row hB rfl)) rfl ?_;exact Ai HG.out (AC A6 (by omega) _)
  ·have t2:((x.val.parts.length:Int) != 2)=true:=by rw[DT.out];simp;omega
   go_wp2
   refine bodyPost_ret (AG (x:=x) (pv:=(pP A x c)) (qv:=(lP A' x c')) (G:=w.heap.size+1) rfl (by first|(simp;done)|rfl|simp[go_sem]) (Yx.row hB rfl)) rfl ?_;exact Ai HG.out (AC A6 (by omega) _)
 ·have t1:(x.val.type != 3)=true:=(by simpa using ht);go_wp2
  refine bodyPost_ret (AG (x:=x) (pv:=(pP A x c)) (qv:=(lP A' x c')) (G:=w.heap.size+1) rfl (by first|(simp;done)|rfl|simp[go_sem]) (Yx.row hB rfl)) rfl ?_;exact Ai HG.out (AC A6 (by omega) _)
theorem P3 {S:Nat->Prop} (x:It) (A:Option Addr) (c:Nat) (A':Option Addr) (c':Nat) (w:World) (hS:sW S w) (hp:Ah w S (pP A x c) x.ps) (hl:Xw w w.heap.size (lP A' x c') x.val.parts) (hT:Y4 x) (ht:x.val.type=3) (a b:Str) (A3:x.val.parts=[[a],[b]]):
 Calls prog 47 #[Yp x (pP A x c) (lP A' x c')] w (BJ S w (DZ x)):=by
 have HP:=hid hp;have HL:=hid hl;have HT:=hid hT;have I2:a.length<=10000:=by have:=hT.parts;rw[A3] at this;simp[YV,wS] at this;omega
 have I3:b.length<=10000:=by have:=hT.parts;rw[A3] at this;simp[YV,wS] at this;omega
 have G4:=hid A3;have HQ:=hid ht;have t1:(x.val.type != 3)=false:=(by simpa using ht);have B0:x.val.parts.length=2:=by rw[A3];rfl
 have t2:((x.val.parts.length:Int) != 2)=false:=by rw[A3];rfl
 have HR:=hid B0;clear hp hl hT A3 ht B0;simp only[Yp];go_enter func47,ntmps47;go_upto_region 1 with fail;obtain ⟨W0,A0⟩: ∃W0,(w.alloc (.cells (IA x (pP A x c) (lP A' x c')) 44)).alloc (.cells Z15 44)=W0:=⟨_,rfl⟩;have HD:W0.heap.size=w.heap.size+2:=by rw[<-A0];simp
 have A6:Below w.heap.size w W0:=by rw[<-A0];exact zA.alloc (by simp) _
 have HM:=hid (show Yx W0 w.heap.size x (pP A x c) (lP A' x c') by rw[<-A0];exact (Yx.new w x _ _).same (Below.heap_alloc _ _ _ (by simp)));have hB:Yt W0 (w.heap.size+1) 15:=by rw[<-A0];exact ⟨_,44,heap_alloc2_new w _ _,rfl⟩
 (try rw[A0]);clear A0;have B0:=HR.out;have AV:=hid (show Xw W0 w.heap.size (.slice A' [[a],[b]].length c') [[a],[b]] from G4.out▸HL.out.keep A6 zL);obtain ⟨c0,c1,c2,c3,c4,c5,c6,c7,c8,c9,c10,c11,c12,c13,c14,AW⟩:=HM.out.c;obtain ⟨bb,o,u1,v1,rfl,HE,e1,d1,s1⟩:=Xw.at_ (k:=0) AV.out (by simp);obtain ⟨b',o',u2,v2,AL,A4,e2,d2,s2⟩:=Xw.at_ (k:=1) AV.out (by simp);simp only[Option.some.injEq,Addr.mk.injEq,and_true] at AL;obtain ⟨rfl,rfl⟩:=AL;obtain rfl:[a]=u1:=(by simpa using e1);obtain rfl:[b]=u2:=(by simpa using e2);obtain ⟨A1,k1,rfl⟩:=s1.form;obtain ⟨A2,k2,rfl⟩:=s2.form;obtain ⟨b3,o3,s3,rfl,I4,f1,g1⟩:=s1.at_ (k:=0) (by simp);obtain ⟨b4,o4,s4,rfl,I5,f2,g2⟩:=s2.at_ (k:=0) (by simp);obtain rfl:a=s3:=(by simpa using f1);obtain rfl:b=s4:=(by simpa using f2);rw[Nat.add_zero] at d1 g1 g2;have HJ:(0:Int)<(x.val.parts.length:Int):=(by omega);have HK:(1:Int)<(x.val.parts.length:Int):=(by omega);have HI:bb<W0.heap.size:=(by omega);clear e1 e2 f1 f2 s1 s2;go_wp2_with fail;refine (As (S:=S) x.ps AA (pP A x c) W0 (fun k hk=>Nat.lt_of_lt_of_le (hS k hk) A6.size) (HP.out.move (fun k hk=>A6.block k (hS k hk)) fun _ h=>h) (by have:=Bq x.ps;have:=HT.out.ps;omega) (by decide) (fun p hp=>by have:=Bd p;have:=Bp hp;have:=HT.out.ps;omega)).mono ?_;rintro e w2 ⟨v2,L2,rfl,E0,A4⟩;obtain ⟨A5,k5,rfl⟩:=E0.row.form;have HO:=hid (E0.out (S:=S) (w:=w) (by omega) A4.size fun k hk=> .inl hk);have I6:=A4.size;have B1:=HM.out.keep A4 (by omega);have q2:=B1.frozen 2;have k2:=B1.c.c2;have HS:=hid (hB.low A4 (by omega));have E1:=(A4.cell (p:=(Ad bb o)) (by simp;omega)).trans d1;have E2:=(A4.cell (p:=(Ad bb (o+1))) (by simp;omega)).trans d2;have E3:=(A4.cell (p:=(Ad b3 o3)) (by simp;omega)).trans g1;have E9:=(A4.cell (p:=(Ad b4 o4)) (by simp;omega)).trans g2;clear c0 c1 c2 c3 c4 c5 c6 c7 c8 c9 c10 c11 c12 c13 c14 d1 d2 g1 g2;have HU:=A6.trans (A4.mono (show w.heap.size<=W0.heap.size by omega));obtain ⟨W3,A9⟩: ∃W3,w2.setCell (Ad w.heap.size 2) (.slice A5 L2.length k5)=W3:=⟨_,rfl⟩;have F1:=hid (show Yx W3 w.heap.size {x with ps:=noP AA x.ps} (.slice A5 L2.length k5) (.slice (some (Ad bb o)) x.val.parts.length c') from A9▸B1.setP _ _);have H0:Yt W3 (w.heap.size+1) 15:=A9▸HS.out.setCell _ _ (by simp);have A7: ∀k,k≠w.heap.size->W3.heap[k]? =w2.heap[k]? :=fun k hk=>A9▸heap_setCell_other w2 _ k _ hk;have HV:W3.heap.size=w2.heap.size:=by rw[<-A9];simp[World.setCell]
 have H3:Below w.heap.size w W3:=A9▸HU.setCell (p:=(Ad w.heap.size 2)) zL _;replace E1:=(World.cell?_of_block (w:=w2) (a:=(Ad bb o)) (A7 bb (by omega))).trans E1;replace E2:=(World.cell?_of_block (w:=w2) (a:=(Ad bb (o+1))) (A7 bb (by omega))).trans E2;replace E3:=(World.cell?_of_block (w:=w2) (a:=(Ad b3 o3)) (A7 b3 (by omega))).trans E3;replace E9:=(World.cell?_of_block (w:=w2) (a:=(Ad b4 o4)) (A7 b4 (by omega))).trans E9;have HW:=hid A7;clear E0 A7;go_upto_region 5 with fail;(try rw[A9]);clear A9 k2 q2 B1;have HX:Yt W3.drew w.heap.size 15:=F1.out.blk;have H4:=hid (F1.out.drew);go_region;all_goals
  have DD:((⟨#[103,101,111,58]⟩:ByteArray)++⟨a.toArray⟩++⟨#[44]⟩++⟨b.toArray⟩)=⟨(SJ++a++[44]++b).toArray⟩:=by rw[<-AM,<-AM,<-AM];rfl
  rw[DD];clear DD;obtain ⟨TX,B2⟩: ∃TX:Str,SJ++a++[44]++b=TX:=⟨_,rfl⟩;rw[B2];have IB:TX.length<=30000:=by rw[<-B2];simp only[SJ,List.length_append,List.length_cons,List.length_nil];omega
  have B3:=hid (show DZ x=if DG TX=0 then some {x with ps:=noP AA x.ps,val:=⟨4,TX,[],default,0⟩} else none by unfold DZ;rw[if_pos HQ.out,G4.out];simp only[SK,B2]);have AN:Yx (W3.drew.setCells w.heap.size 3 [Iv 4,Sv TX,.slice none 0 0,Iv 0,Iv 0,Iv 0,Iv 0,Iv 0,Iv 0,.bool false,Iv 0,Iv 0]) w.heap.size {x with ps:=noP AA x.ps,val:=⟨4,TX,[],default,0⟩} (.slice A5 L2.length k5) (.slice none 0 0):=H4.out.setV ⟨4,TX,[],default,0⟩ (.slice none 0 0);obtain ⟨W5,AB⟩: ∃W5,W3.drew.setCells w.heap.size 3 [Iv 4,Sv TX,.slice none 0 0,Iv 0,Iv 0,Iv 0,Iv 0,Iv 0,Iv 0,.bool false,Iv 0,Iv 0]=W5:=⟨_,rfl⟩;rw[AB] at AN;have HY:=hid AN;have H8:Yt W5.drew (w.heap.size+1) 15:=H0.same (by rw[heap_drew,<-AB];exact AS _ _ _ _ _ (by omega));have H9:=hid (show∀k,k≠w.heap.size->W5.heap[k]? =w2.heap[k]? from fun k hk=>by rw[<-AB];exact (AS _ _ _ _ k hk).trans (HW.out k hk));have KI:W5.heap.size=w2.heap.size:=by rw[<-AB,Be];exact HV
  have HA:Below w.heap.size w W5:=by rw[<-AB];exact BF zL _ _ H3.drew
  rw[AB];clear AB AN H4 F1 HX H0 E1 E2 E3 E9 B2;have F2:=hid (HY.out.drew);obtain ⟨c0,c1,c2,c3,c4,c5,c6,c7,c8,c9,c10,c11,c12,c13,c14,AW⟩:=F2.out.c;simp only at c0 c1 c2 c3 c4 c5 c6 c7 c8 c9 c10 c11 c12 c13 c14;by_cases hu:DG TX=0
  ·have HZ:=hid (show DZ x=some {x with ps:=noP AA x.ps,val:=⟨4,TX,[],default,0⟩} by rw[B3.out,if_pos hu]);have F3:=hid (Ky TX W5.drew (by omega) hu);clear hu B3;go_wp2_with fail;go_region_with (go_at_call 50;refine F3.out.mono ?_;rintro e9 w9 ⟨rfl,A8⟩;have HB:=A8.size;have DA:=hid A8;have F4:=hid (F2.out.keep A8 AW);have FB:=H8.low A8 (by simp;omega);obtain ⟨n0,n1,n2,n3,n4,n5,n6,n7,n8,n9,n10,n11,n12,n13,n14,nlt⟩:=F4.out.c;simp only at n0 n1 n2 n3 n4 n5 n6 n7 n8 n9 n10 n11 n12 n13 n14);all_goals
    go_wp2
    refine bodyPost_ret (AG (x:={x with ps:=noP AA x.ps,val:=⟨4,TX,[],default,0⟩}) (pv:= .slice A5 L2.length k5) (qv:= .slice none 0 0) (G:=w.heap.size+1) rfl (by first|(simp;done)|rfl|simp[go_sem]) (Yx.row FB rfl)) rfl ?_;have I0:=AC (HA.drew.trans (DA.out.mono (show w.heap.size<=_ by simp;omega))) (show w.heap.size<=w.heap.size+1 by omega) (Yv {x with ps:=noP AA x.ps,val:=⟨4,TX,[],default,0⟩} (.slice A5 L2.length k5) (.slice none 0 0));refine Aq HZ.out ?_ BY.nil I0;have HC: ∀k,(S k∨(w.heap.size+2<=k/\k<w2.heap.size))->k<w2.heap.size/\k≠w.heap.size:=fun k hk=>by
     rcases hk with hk|hk
     ·have:=hS k hk;omega
     ·omega
    exact D2 (w2:=w9) hS (HO.out.move (fun k hk=>(DA.out.block k (by have:=HC k hk;simp;omega)).trans (H9.out k (HC k hk).2)) fun k hk=>by
     rcases hk with hk|hk
     ·exact .inl hk
     ·exact .inr ⟨hk.1,by simp at HB;omega⟩) (fun k h1 h2=>AH _ _ _ h2) (by simp)
  ·have I1:=hid (show DZ x=none by rw[B3.out,if_neg hu]);have F3:=hid (Kz TX W5.drew (by omega) hu);clear hu B3;go_wp2_with fail;go_region_with (go_at_call 50;refine F3.out.mono ?_;rintro e9 w9 ⟨t9,p9,rfl,A8⟩;have HB:=A8.size;have DA:=hid A8;have F4:=hid (F2.out.keep A8 AW);have FB:=H8.low A8 (by simp;omega);obtain ⟨n0,n1,n2,n3,n4,n5,n6,n7,n8,n9,n10,n11,n12,n13,n14,nlt⟩:=F4.out.c;simp only at n0 n1 n2 n3 n4 n5 n6 n7 n8 n9 n10 n11 n12 n13 n14);all_goals
    go_wp2
    refine bodyPost_ret (AG (x:={x with ps:=noP AA x.ps,val:=⟨4,TX,[],default,0⟩}) (pv:= .slice A5 L2.length k5) (qv:= .slice none 0 0) (G:=w.heap.size+1) rfl (by first|(simp;done)|rfl|simp[go_sem]) (Yx.row FB rfl)) rfl ?_;exact Ai I1.out (AC (HA.drew.trans (DA.out.mono (show w.heap.size<=_ by simp;omega))) (show w.heap.size<=w.heap.size+1 by omega) _)
theorem P4 {S:Nat->Prop} (x:It) (A:Option Addr) (c:Nat) (A':Option Addr) (c':Nat) (w:World) (hS:sW S w) (hp:Ah w S (pP A x c) x.ps) (hl:BY w S (lP A' x c') x.val.parts) (hT:Y4 x):
 Calls prog 47 #[Yp x (pP A x c) (lP A' x c')] w (BJ S w (DZ x)):=by
 by_cases h:x.val.type=3/\ ∃a b,x.val.parts=[[a],[b]]
 ·obtain ⟨ht,a,b,A3⟩:=h;exact P3 x A c A' c' w hS hp (hl.lls hS) hT ht a b A3
 ·refine Ry x A c A' c' w (hl.lls hS) ?_ fun ht a b A3=>h ⟨ht,a,b,A3⟩;unfold DZ;by_cases ht:x.val.type=3
  ·rw[if_pos ht];have:SK x.val.parts=none:=by
    unfold SK;split
    ·rename_i a b A3;exact absurd ⟨ht,a,b,A3⟩ h
    ·rfl
   rw[this]
  ·rw[if_neg ht]
end
end Go.Proofs.YtjhpdljphchfaaaGreatDoor
