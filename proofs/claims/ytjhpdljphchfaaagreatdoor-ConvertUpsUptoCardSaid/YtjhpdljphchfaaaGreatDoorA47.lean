/- A part of the proof of ConvertUps: Equal of the reference, and ways of its upItem, walked. -/
import Derived.Test.YtjhpdljphchfaaaGreatDoorA40
import Derived.Test.YtjhpdljphchfaaaGreatDoorA38
set_option maxHeartbeats 40000000
set_option maxRecDepth 1000000
set_option linter.all false
namespace Go.Proofs.YtjhpdljphchfaaaGreatDoor
open Go.RowKit
open Go.Proofs.Tryz
section
attribute [local go_sem ↓] zPe zLe
attribute [local go_sem] XR WH ZF XU WU ZE P8 Tw VY VB VZ XV WV WW WX WY Va
theorem P9 (v:Int) (items:List It) (A:Option Addr) (c:Nat) (A':Option Addr) (c':Nat) (w:World) (h:Its w w.heap.size (.slice A items.length c) items) (h':Its w w.heap.size (.slice A' items.length c') items) (hn:items.length<=1000000) (hB: ∀x∈items,Yq x):
 Calls prog 8 #[.agg #[Iv v,.slice A items.length c],.agg #[Iv v,.slice A' items.length c']] w fun e w'=>e= .returned (.bool true)/\Below w.heap.size w w':=by
 obtain ⟨W0,F3⟩: ∃W0,(w.alloc (.cells #[Iv v,.slice A items.length c] 24)).alloc (.cells #[Iv v,.slice A' items.length c'] 24)=W0:=⟨_,rfl⟩;have ZO:W0.heap.size=w.heap.size+2:=by rw[<-F3];simp
 have A9:Below w.heap.size w W0:=by rw[<-F3];exact zA.alloc (by simp) _
 have a0:W0.cell? (Ad w.heap.size 0)=some (Iv v):=by rw[<-F3];simp
 have a1:W0.cell? (Ad w.heap.size 1)=some (.slice A items.length c):=by rw[<-F3];simp
 have b0:W0.cell? (Ad (w.heap.size+1) 0)=some (Iv v):=by rw[<-F3];simp
 have b1:W0.cell? (Ad (w.heap.size+1) 1)=some (.slice A' items.length c'):=by rw[<-F3];simp
 have H:=hid (h.keep A9 zL);have H':=hid (h'.keep A9 zL);have HB:=hid hB;clear h h' hB;go_enter func8,ntmps8;go_wp2_with fail;(try rw[F3]);go_wp2_with fail;obtain ⟨IB,WA⟩: ∃IB,w.heap.size=IB:=⟨_,rfl⟩;(try rw[WA] at a0 a1 b0 b1 ZO A9 H H'⊢);(try rw[F3]);clear F3;go_loopw [5,6,7,8,9,10,11,29,107,126] (fun _ _ _ _ _ _ _ T5 _ _ wr=> ∃k:Nat,k<=items.length/\T5=Iv k/\Below W0.heap.size W0 wr) (fun _ _ _ _ _ _ _ T5 _ _ _=>items.length-(intOf T5).toNat);case atStart=>exact ⟨0,by omega,rfl,zB⟩
 case round=>
  obtain ⟨k,hk,rfl,hb⟩:=hrel;have ZP:=hb.size;have d0:=(hb.cell (p:=(Ad IB 1)) (show IB<_ by omega)).trans a1;have d1:=(hb.cell (p:=(Ad (IB+1) 1)) (show IB+1<_ by omega)).trans b1;by_cases HK:k<items.length
  ·obtain ⟨bb,o,x,pv,qv,rfl,ZQ,hd,WF,TT,HL⟩:=H.out.at_ HK;obtain ⟨bb',o',x',pv',qv',rfl,b5,V6,R0,I4,I5⟩:=H'.out.at_ HK;rw[hd] at V6;obtain rfl:x=x':=(by simpa using V6);obtain ⟨P1,p1,ZR⟩:=TT.form;obtain ⟨Q1,q1,ZS⟩:=HL.form;obtain ⟨P2,p2,ZT⟩:=I4.form;obtain ⟨Q2,q2,ZU⟩:=I5.form;subst ZR ZS ZT ZU;have HX:=hid (HB.out x (List.mem_of_mem_drop (by rw[hd];simp)));obtain ⟨h0,h1,h2,h3,h4,h5,h6,h7,h8,h9,VC,VX,W1,W2,W3⟩:=WF.keep hb (by omega);obtain ⟨i0,i1,i2,i3,i4,i5,i6,i7,i8,i9,HO,HQ,HR,HS,HW⟩:=R0.keep hb (by omega);have ZV:=hid (TT.keep (hb.mono (show IB<=W0.heap.size by omega)) (B':=W0.heap.size) (by omega));have ZW:=hid (I4.keep (hb.mono (show IB<=W0.heap.size by omega)) (B':=W0.heap.size) (by omega));have ZX:=hid (HL.keep (hb.mono (show IB<=W0.heap.size by omega)) (B':=W0.heap.size) (by omega));have ZY:=hid (I5.keep (hb.mono (show IB<=W0.heap.size by omega)) (B':=W0.heap.size) (by omega));have l1:IB<wr.heap.size:=(by omega);have l2:IB+1<wr.heap.size:=(by omega);have l3:bb<wr.heap.size:=(by omega);have l4:bb'<wr.heap.size:=(by omega);have bH:(k:Int)<(items.length:Int):=(by omega);clear hd V6 WF R0 TT I4 HL I5;go_upto_region 6 with fail;go_cut [6,7] from 32 to 41 (fun s6 s7 wz=> ∃b6 b7:Nat,s6= .pointer (some (Ad b6 0))/\s7= .pointer (some (Ad b7 0))/\Hid (Yx wz b6 x (pP P1 x p1) (lP Q1 x q1)/\Yx wz b7 x (pP P2 x p2) (lP Q2 x q2)/\Below wr.heap.size wr wz));case first=>
    have bI:IB≠wr.heap.size:=(by omega);have bJ:IB≠wr.heap.size+1:=(by omega);have ZZ:IB+1≠wr.heap.size:=(by omega);have a2:IB+1≠wr.heap.size+1:=(by omega);have bK:bb≠wr.heap.size:=(by omega);have bL:bb≠wr.heap.size+1:=(by omega);have bM:bb'≠wr.heap.size:=(by omega);have bN:bb'≠wr.heap.size+1:=(by omega);obtain ⟨bA,bB⟩:=VD h0 h1 h2 h3 h4 h5 h6 h7 h8 h9 VC VX W1 W2 W3;obtain ⟨bC,bD⟩:=VD i0 i1 i2 i3 i4 i5 i6 i7 i8 i9 HO HQ HR HS HW;clear h0 h1 h2 h3 h4 h5 h6 h7 h8 h9 VC VX W1 W2 W3 i0 i1 i2 i3 i4 i5 i6 i7 i8 i9 HO HQ HR HS HW;go_region;all_goals
     go_wp2
     go_meet;first
      |(refine ⟨wr.heap.size,wr.heap.size+1,rfl,rfl,hid ?_⟩;rw[<-and_assoc];exact ⟨Jc (Jb wr _) (Ja wr _) (by omega) rfl rfl,AC (AC (zA.alloc (by simp) _).drew (by omega) _) (by omega) _⟩)
      |(refine ⟨wr.heap.size+1,wr.heap.size,rfl,rfl,hid ?_⟩;rw[<-and_assoc];exact ⟨Jc (Ja wr _) (Jb wr _) (by omega) rfl rfl,AC (AC (zA.alloc (by simp) _).drew (by omega) _) (by omega) _⟩)
      |(refine ⟨wr.heap.size+1,wr.heap.size,rfl,rfl,hid ?_⟩;rw[<-and_assoc];exact ⟨Nq (Ja wr _) (Jb wr _) (by omega) rfl rfl,AC (AC (zA.alloc (by simp) _).drew (by omega) _) (by omega) _⟩)
   rcases hcut with ⟨b6,b7,rfl,rfl,N1⟩;obtain ⟨w6,rfl⟩: ∃w6,w6=wc:=⟨_,rfl⟩;clear h0 h1 h2 h3 h4 h5 h6 h7 h8 h9 VC VX W1 W2 W3 i0 i1 i2 i3 i4 i5 i6 i7 i8 i9 HO HQ HR HS HW l1 l2 l3 l4;have A5:=N1.out.2.2;have I6:=A5.size;have H8:=hid N1.out.1;have HY:=hid N1.out.2.1;obtain ⟨g0,g1,g2,g3,g4,g5,g6,g7,g8,g9,X1,X2,X3,XB,Y1,gl⟩:=H8.out.c;obtain ⟨i0,i1,i2,i3,i4,i5,i6,i7,i8,i9,HO,HQ,HR,HS,HW,il⟩:=HY.out.c;go_upto_region 7 with fail;go_cut [8,9] from 42 to 45 (fun s8 s9 wy=> ∃b8 b9:Nat,s8= .pointer (some (Ad b8 0))/\s9= .pointer (some (Ad b9 0))/\Hid (Yy wy b8 x.val (lP Q1 x q1)/\Yy wy b9 x.val (lP Q2 x q2)/\Below w6.heap.size w6 wy));case first=>
    go_region;all_goals
     go_wp2
     go_meet;first
      |exact ⟨w6.heap.size,w6.heap.size+1,rfl,rfl,hid ⟨⟨42,(Below.heap_alloc (w6.alloc _) _ _ (by simp)).trans (heap_alloc_new w6 _)⟩,⟨42,heap_alloc2_new w6 _ _⟩,(zA.alloc (by simp) _).drew⟩⟩
      |exact ⟨w6.heap.size+1,w6.heap.size,rfl,rfl,hid ⟨⟨42,heap_alloc2_new w6 _ _⟩,⟨42,(Below.heap_alloc (w6.alloc _) _ _ (by simp)).trans (heap_alloc_new w6 _)⟩,(zA.alloc (by simp) _).drew⟩⟩
   rcases hcut with ⟨b8,b9,rfl,rfl,N2⟩;obtain ⟨w7,rfl⟩: ∃w7,w7=wc:=⟨_,rfl⟩;have KI:=N2.out.2.2;have bO:=KI.size;have S1:=A5.trans (KI.mono I6);have Y2:=hb.trans (S1.mono ZP);have L1:=hid (H8.out.keep KI gl);have H9:=hid (HY.out.keep KI il);have Y3:=hid N2.out.1;have YB:=hid N2.out.2.1;have bP: ∀W:World,(binOp .neq 40 (.agg #[Iv x.val.st.y,Iv x.val.st.mo,Iv x.val.st.d,Iv x.val.st.h,Iv x.val.st.mi,Iv x.val.st.s,.bool x.val.st.zoned,Iv x.val.st.zone]) (.agg #[Iv x.val.st.y,Iv x.val.st.mo,Iv x.val.st.d,Iv x.val.st.h,Iv x.val.st.mi,Iv x.val.st.s,.bool x.val.st.zoned,Iv x.val.st.zone])).run prog W= .ok (.bool false) W:=fun W=>by have h:=J4 x.val.st x.val.st W;rw[Lx] at h;exact h
   clear A5 KI N1 N2 g0 g1 g2 g3 g4 g5 g6 g7 g8 g9 X1 X2 X3 XB Y1 gl i0 i1 i2 i3 i4 i5 i6 i7 i8 i9 HO HQ HR HS HW il;obtain ⟨g0,g1,g2,g3,g4,g5,g6,g7,g8,g9,X1,X2,X3,XB,Y1,gl⟩:=L1.out.c;obtain ⟨i0,i1,i2,i3,i4,i5,i6,i7,i8,i9,HO,HQ,HR,HS,HW,il⟩:=H9.out.c;obtain ⟨m0,m1,m2,m3,m4,m5,m6,m7,m8,m9,ZZ,a2⟩:=Y3.out.c;obtain ⟨n0,n1,n2,n3,n4,n5,n6,n7,n8,n9,n10,n11⟩:=YB.out.c;have a3:=hid S1;have a4:=HX.out.parts;have a5:=HX.out.ps;have Z0:=hid (show x.val.parts.length<=1000000000 from Nat.le_trans (GX x.val.parts) (Nat.le_trans a4 (by decide)));have Z1:=hid (show x.ps.length<=1000000000 from Nat.le_trans (Bq x.ps) (Nat.le_trans a5 (by decide)));have a6:=Y3.out.lt;have a7:=YB.out.lt;go_wp2
   go_loopw [10,107] (fun _ L2 wq=> ∃j:Nat,j<=x.val.parts.length/\L2=Iv j/\Below w7.heap.size w7 wq) (fun _ L2 _=>x.val.parts.length-(intOf L2).toNat);case atStart=>exact ⟨0,by omega,rfl,zB⟩
   case round=>
    obtain ⟨j,hj,rfl,hq⟩:=hrel;have bQ:=hq.size;have F1:=Z0.out;have L4:=hid (a3.out.trans (hq.mono (by omega)));by_cases Z2:j<x.val.parts.length
    ·obtain ⟨e1,o1,t,u1,rfl,a8,HA,L5,st1⟩:=ZX.out.at_ Z2;obtain ⟨e2,o2,t',u2,rfl,Z3,HC,L6,st2⟩:=ZY.out.at_ Z2;rw[HA] at HC;obtain rfl:t=t':=(by simpa using HC);obtain ⟨U1,k1,rfl⟩:=st1.form;obtain ⟨U2,k2,rfl⟩:=st2.form;have W4:t.length<=1073741824:=by
      have h1:=GW (List.mem_of_mem_drop (show t∈x.val.parts.drop j by rw[HA];simp));have h2:=C3 t;omega
     have q1:=(L4.out.cell (p:=(Ad e1 (o1+j))) (by show e1<_;omega)).trans L5;have q2:=(L4.out.cell (p:=(Ad e2 (o2+j))) (by show e2<_;omega)).trans L6;have m2q:=(hq.cell (p:=(Ad b8 2)) a6).trans m2;have n2q:=(hq.cell (p:=(Ad b9 2)) a7).trans n2;have W6:=hid (show CD wr wr.heap.size (.slice U1 t.length k1) t from st1.keep (L4.out.mono (show W0.heap.size<=_ by omega)) (by omega));have W7:=hid (show CD wr wr.heap.size (.slice U2 t.length k2) t from st2.keep (L4.out.mono (show W0.heap.size<=_ by omega)) (by omega));have bR:(j:Int)<(x.val.parts.length:Int):=(by omega);clear HA HC L5 L6 st1 st2 m2 n2;go_wp2_with fail
     go_quiet ((go_at_call 23;exact Fh _ U1 k1 U2 k2 W6.out W7.out W4))
     all_goals
      go_wp2
      go_roundw;case rel=>exact ⟨j+1,by omega,by go_num,JZ hq _⟩
      case measure=>simp[intOf];omega
    ·have g2q:=(hq.cell (p:=(Ad b6 2)) gl).trans g2;have i2q:=(hq.cell (p:=(Ad b7 2)) il).trans i2;have a9:=hid (Y2.trans (hq.mono (show W0.heap.size<=w7.heap.size by omega)));have aA:b6<wr.heap.size:=(by omega);have aB:b7<wr.heap.size:=(by omega);obtain ⟨wp,rfl⟩: ∃wp,wp=wr:=⟨_,rfl⟩;clear g2 i2 m2 n2 hq;go_wp2
     go_loopw [11,126] (fun _ L7 wo=> ∃m:Nat,m<=x.ps.length/\L7=Iv m/\Below wp.heap.size wp wo) (fun _ L7 _=>x.ps.length-(intOf L7).toNat);case atStart=>exact ⟨0,by omega,rfl,zB⟩
     case round=>
      obtain ⟨m,hm,rfl,hr⟩:=hrel;have bS:=hr.size;have bT:=Z1.out;have HZ:=hid (L4.out.trans (hr.mono (by omega)));by_cases HL:m<x.ps.length
      ·obtain ⟨e1,o1,p,u1,rfl,a8,HA,Z4,L5,st1⟩:=ZV.out.at_ HL;obtain ⟨e2,o2,p',u2,rfl,Z3,HC,Z5,L6,st2⟩:=ZW.out.at_ HL;rw[HA] at HC;obtain rfl:p=p':=(by simpa using HC);obtain ⟨U1,k1,rfl⟩:=st1.form;obtain ⟨U2,k2,rfl⟩:=st2.form;have W4:p.vals.length<=1073741824:=by
        have h1:=Bp (List.mem_of_mem_drop (show p∈x.ps.drop m by rw[HA];simp));have h2:=C3 p.vals;have h3:=DC p;omega
       have q1:=(HZ.out.cell (p:=(Ad e1 (o1+m*2+1))) (by show e1<_;omega)).trans L5;have q2:=(HZ.out.cell (p:=(Ad e2 (o2+m*2+1))) (by show e2<_;omega)).trans L6;have bU:=(HZ.out.cell (p:=(Ad e1 (o1+m*2))) (by show e1<_;omega)).trans Z4;have bV:=(HZ.out.cell (p:=(Ad e2 (o2+m*2))) (by show e2<_;omega)).trans Z5;have g2r:=(hr.cell (p:=(Ad b6 2)) aA).trans g2q;have i2r:=(hr.cell (p:=(Ad b7 2)) aB).trans i2q;have W6:=hid (show CD wr wr.heap.size (vP U1 p k1) p.vals from st1.keep (HZ.out.mono (show W0.heap.size<=_ by omega)) (by omega));have W7:=hid (show CD wr wr.heap.size (vP U2 p k2) p.vals from st2.keep (HZ.out.mono (show W0.heap.size<=_ by omega)) (by omega));have bW:(m:Int)<(x.ps.length:Int):=(by omega);clear HA HC L5 L6 Z4 Z5 st1 st2 g2q i2q;go_wp2_with fail
       go_quiet ((go_at_call 23;exact Fh _ U1 k1 U2 k2 W6.out W7.out W4))
       all_goals
        go_wp2
        go_roundw;case rel=>exact ⟨m+1,by omega,by go_num,JZ hr _⟩
        case measure=>simp[intOf];omega
      ·go_wp2
       go_roundw;case rel=>exact ⟨k+1,by omega,by go_num,a9.out.trans (hr.mono (by omega))⟩
       case measure=>simp[intOf];omega
  ·go_wp2
   go_ret;exact ⟨rfl,P7 (WA▸A9) hb⟩
end
section
attribute [local go_sem ↓] zPe zQe
attribute [local go_sem] XR WH XS WI We Xm Xp
theorem R8 {S:Nat->Prop} (x:It) (A:Option Addr) (c:Nat) (A':Option Addr) (c':Nat) (w:World) (hL:LD w) (hS:sW S w) (hp:Ah w S (pP A x c) x.ps) (hl:BY w S (lP A' x c') x.val.parts) (hT:Y4 x) (DT: ∀c∈Xs x.name,c≠32) (hb: ∀k∈[BV,CN,Bn,K8,Du,Dv,Cr,Gb,Gc,AZ,II,YX,Ef],Xs x.name≠k):
 Calls prog 17 #[Yp x (pP A x c) (lP A' x c')] w (BJ S w (CE (Xs x.name) x)):=by
 have A4:=hid hb;clear hb;refine (CS (S:=S) x A c A' c' w).pf ?_ hL hS hp hl hT DT;intro HT L8 F1 F4 N L9 E0 HN V5 ia ib ic id w3 E HE A9 HM hB HV HP G2 FB LB B3 E1;obtain ⟨c0,c1,c2,c3,c4,c5,c6,c7,c8,c9,c10,c11,c12,c13,c14,AL⟩:=HM.out.c;obtain ⟨d0,d1,d2,d3,d4,d5,d6,d7,d8,d9,I0,I1⟩:=HV.out.c;rw[HN.out] at A4;have n0:(N==[80,72,79,84,79])=false:=by rw[beq_eq_false_iff_ne];exact A4.out BV (by simp)
 have n1:(N==[76,79,71,79])=false:=by rw[beq_eq_false_iff_ne];exact A4.out CN (by simp)
 have n2:(N==[83,79,85,78,68])=false:=by rw[beq_eq_false_iff_ne];exact A4.out Bn (by simp)
 have n3:(N==[75,69,89])=false:=by rw[beq_eq_false_iff_ne];exact A4.out K8 (by simp)
 have n4:(N==[65,71,69,78,84])=false:=by rw[beq_eq_false_iff_ne];exact A4.out Du (by simp)
 have n5:(N==[67,76,65,83,83])=false:=by rw[beq_eq_false_iff_ne];exact A4.out Dv (by simp)
 have n6:(N==[77,65,73,76,69,82])=false:=by rw[beq_eq_false_iff_ne];exact A4.out Cr (by simp)
 have n7:(N==[78,65,77,69])=false:=by rw[beq_eq_false_iff_ne];exact A4.out Gb (by simp)
 have n8:(N==[83,79,82,84,45,83,84,82,73,78,71])=false:=by rw[beq_eq_false_iff_ne];exact A4.out Gc (by simp)
 have n9:(N==[76,65,66,69,76])=false:=by rw[beq_eq_false_iff_ne];exact A4.out AZ (by simp)
 have n10:(N==[71,69,79])=false:=by rw[beq_eq_false_iff_ne];exact A4.out II (by simp)
 have n11:(N==[84,90])=false:=by rw[beq_eq_false_iff_ne];exact A4.out YX (by simp)
 have n12:(N==[85,73,68])=false:=by rw[beq_eq_false_iff_ne];exact A4.out Ef (by simp)
 have G4:Eu N=false:=by unfold Eu;simp only[Du,Dv,Cr,Gb,Gc,AZ,n4,n5,n6,n7,n8,n9];rfl
 have B0:=hid (show CE (Xs x.name) x=some x by rw[HN.out];unfold CE KH Eu;simp only[BV,CN,Bn,K8,Du,Dv,Cr,Gb,Gc,AZ,II,YX,Ef,n0,n1,n2,n3,n4,n5,n6,n7,n8,n9,n10,n11,n12];rfl);have E2:=hid (B9 N false E0.out G4 w3 E1);have E3:=hid (D4 N);clear HN A4;go_upto_region 18 with fail;clear c0 c1 c2 c3 c4 c5 c6 c7 c8 c9 c10 c11 c12 c13 c14 AL;obtain ⟨c0,c1,c2,c3,c4,c5,c6,c7,c8,c9,c10,c11,c12,c13,c14,AL⟩:=HM.out.c;go_wp2_with fail;rw[E3.out];refine E2.out.mono ?_;rintro e w4 ⟨rfl,rfl⟩;go_wp2
 refine bodyPost_ret (AG (x:=x) (pv:=(pP A x c)) (qv:=(lP A' x c')) (G:=w.heap.size+1) rfl (by first|(simp;done)|rfl|simp[go_sem]) (Yx.row hB rfl)) rfl ?_;have F2:=AC A9 (show w.heap.size<=w.heap.size+1 by omega) (Yv x (pP A x c) (lP A' x c'));refine Aq B0.out ?_ ?_ F2
 ·exact HP.out.move (fun k hk=>AH _ _ _ (by have:=hS k hk;omega)) fun k hk=> .inl hk
 ·exact G2.out.move (fun k hk=>AH _ _ _ (by have:=hS k hk;omega)) fun k hk=> .inl hk
end
section
attribute [local go_sem ↓] zPe zQe
attribute [local go_sem] XR WH XS WI We Xm Xp
theorem Wk {S:Nat->Prop} (x:It) (A:Option Addr) (c:Nat) (A':Option Addr) (c':Nat) (w:World) (hL:LD w) (hS:sW S w) (hp:Ah w S (pP A x c) x.ps) (hl:BY w S (lP A' x c') x.val.parts) (hT:Y4 x) (DT: ∀c∈Xs x.name,c≠32) (hb:Eu (Xs x.name)=true) (ht:x.val.type=1):
 Calls prog 17 #[Yp x (pP A x c) (lP A' x c')] w (BJ S w (CE (Xs x.name) x)):=by
 have A4:=hid hb;have t1:(x.val.type==1)=true:=(by simp[ht]);have t8:(x.val.type==8)=false:=(by simp[ht]);have H0:=hid (show Cx (Xs x.name) x=some ⟨x.group,YY++Xs x.name,noP AA x.ps,⟨8,Cz x.val.text,[],default,0⟩⟩ by unfold Cx;rw[if_pos (.inl ht),if_pos ht]);clear hb ht;refine (CS (S:=S) x A c A' c' w).pf ?_ hL hS hp hl hT DT;intro HT L8 F1 F4 N L9 E0 HN V5 ia ib ic id w3 E HE A9 HM hB HV HP G2 FB LB B3 E1;obtain ⟨c0,c1,c2,c3,c4,c5,c6,c7,c8,c9,c10,c11,c12,c13,c14,AL⟩:=HM.out.c;obtain ⟨d0,d1,d2,d3,d4,d5,d6,d7,d8,d9,I0,I1⟩:=HV.out.c;rw[HN.out] at A4 H0;obtain ⟨n0,n1,n2,n3⟩:=GD A4.out;have B0:=hid (show CE (Xs x.name) x=Cx N x by rw[HN.out];exact Ji A4.out);have E2:=hid (B9 N true E0.out A4.out w3 E1);have E3:=hid (D4 N);have Z6: ¬9223372036854775807<2+N.length:=(by omega);clear HN A4;simp only[BV,CN,Bn,K8] at n0 n1 n2 n3;go_upto_region 18 with fail;clear c0 c1 c2 c3 c4 c5 c6 c7 c8 c9 c10 c11 c12 c13 c14 AL;obtain ⟨c0,c1,c2,c3,c4,c5,c6,c7,c8,c9,c10,c11,c12,c13,c14,AL⟩:=HM.out.c;go_wp2_with fail;rw[E3.out];refine E2.out.mono ?_;rintro e w4 ⟨rfl,G1⟩;obtain rfl:=G1.symm;go_wp2_with fail;refine (DR x.val.text w3 (by have:=HT.out.text;omega)).mono ?_;rintro e w5 ⟨rfl,aC⟩;obtain rfl:=aC;go_upto_region 22 with fail;have HD:=hid (show Ah w3.drew S (pP A x c) x.ps from HP.out);have N3:=hid (HM.out.drew);have AN:Yt w3.drew (w.heap.size+1) 15:=hB;have d0d:w3.drew.cell? (Ad V5 0)=some (Iv x.val.type):=d0;have c0d:w3.drew.cell? (Ad w.heap.size 0)=some (Sv x.group):=c0;have HF:=hid (show∀k,S k->k<w3.drew.heap.size from fun k hk=>by have:=hS k hk;simp;omega);have LL:w.heap.size+3<=w3.drew.heap.size:=FB;have DA:V5<w3.drew.heap.size:=B3;have HH:=hid A9.drew;have HI:=hid F1;have c2d:w3.drew.cell? (Ad w.heap.size 2)=some (pP A x c):=c2;have A7:Below w3.drew.heap.size w3.drew (w3.drew.alloc (.cells #[.string ⟨#[86,65,76,85,69]⟩] 9)):=zA;have B1:w.heap.size<w3.drew.heap.size:=(by omega);have DD:w.heap.size+1<w3.drew.heap.size:=(by omega);have A0:=(A7.cell (p:=(Ad w.heap.size 0)) B1).trans c0d;have A2:=(A7.cell (p:=(Ad w.heap.size 2)) B1).trans c2d;have AV:=(A7.cell (p:=(Ad V5 0)) DA).trans d0d;have AB:=AN.low A7 DD;have E9:=hid (show Below (w.heap.size+1) w3 w3.drew from zB.drew);have AW:=hid (E9.out.trans (A7.mono (show w.heap.size+1<=w3.drew.heap.size by omega)));have H3:V5≠w.heap.size+1:=(by omega);clear A7;refine wp_region_held_drew (S:=(fun w'=>w'.cell? (Ad w.heap.size 0)=some (Sv x.group)/\w'.cell? (Ad w.heap.size 2)=some (pP A x c)/\w'.cell? (Ad V5 0)=some (Iv x.val.type)/\Yt w' (w.heap.size+1) 15/\Below (w.heap.size+1) w3 w')) (by kernel_rfl) ⟨c0d,c2d,d0d,AN,E9.out⟩ (fun A3=> ?_);refine wpAnyH_take (i:=0) (v:= .pointer (some (Ad w.heap.size 0))) rfl (by kernel_rfl) (by kernel_rfl) (by kernel_rfl) (fun _ _ _ h=>h) (.inl ⟨by rfl,fun w' B2=> ?_⟩) A3 ?_
 ·go_split_ands;go_simp
 (try simp only[Act.put,List.getElem_toArray,List.getElem_cons_succ,List.getElem_cons_zero,List.setIfInBounds_toArray,List.set_cons_zero,List.set_cons_succ]);refine wpAnyH_take (i:=1) (v:=Sv x.group) rfl (by kernel_rfl) (by kernel_rfl) (by kernel_rfl) (fun _ _ _ h=>h) (.inl ⟨by rfl,fun w' B2=> ?_⟩) A3 ?_
 ·go_split_ands;go_simp
 (try simp only[Act.put,List.getElem_toArray,List.getElem_cons_succ,List.getElem_cons_zero,List.setIfInBounds_toArray,List.set_cons_zero,List.set_cons_succ]);refine wpAnyH_take (i:=2) (v:=Sv N) rfl (by kernel_rfl) (by kernel_rfl) (by kernel_rfl) (fun _ _ _ h=>h) (.inl ⟨by rfl,fun w' B2=> ?_⟩) A3 ?_
 ·go_split_ands;go_simp
 (try simp only[Act.put,List.getElem_toArray,List.getElem_cons_succ,List.getElem_cons_zero,List.setIfInBounds_toArray,List.set_cons_zero,List.set_cons_succ]);refine wpAnyH_take (i:=3) (v:= .string (⟨#[88,45]⟩++⟨N.toArray⟩)) rfl (by kernel_rfl) (by kernel_rfl) (by kernel_rfl) (fun _ _ _ h=>h) (.inl ⟨by rfl,fun w' B2=> ?_⟩) A3 ?_
 ·go_split_ands;go_simp
 (try simp only[Act.put,List.getElem_toArray,List.getElem_cons_succ,List.getElem_cons_zero,List.setIfInBounds_toArray,List.set_cons_zero,List.set_cons_succ]);refine wpAnyH_take (i:=4) (v:= .pointer (some (Ad w.heap.size 2))) rfl (by kernel_rfl) (by kernel_rfl) (by kernel_rfl) (fun _ _ _ h=>h) (.inl ⟨by rfl,fun w' B2=> ?_⟩) A3 ?_
 ·go_split_ands;go_simp
 (try simp only[Act.put,List.getElem_toArray,List.getElem_cons_succ,List.getElem_cons_zero,List.setIfInBounds_toArray,List.set_cons_zero,List.set_cons_succ]);refine wpAnyH_take (i:=5) (v:=(pP A x c)) rfl (by kernel_rfl) (by kernel_rfl) (by kernel_rfl) (fun _ _ _ h=>h) (.inl ⟨by rfl,fun w' B2=> ?_⟩) A3 ?_
 ·go_split_ands;go_simp
 (try simp only[Act.put,List.getElem_toArray,List.getElem_cons_succ,List.getElem_cons_zero,List.setIfInBounds_toArray,List.set_cons_zero,List.set_cons_succ]);refine wpAnyH_take (i:=8) (v:= .string ⟨(Cz x.val.text).toArray⟩) rfl (by kernel_rfl) (by kernel_rfl) (by kernel_rfl) (fun _ _ _ h=>h) (.inl ⟨by rfl,fun w' B2=> ?_⟩) A3 ?_
 ·go_split_ands;go_simp
 (try simp only[Act.put,List.getElem_toArray,List.getElem_cons_succ,List.getElem_cons_zero,List.setIfInBounds_toArray,List.set_cons_zero,List.set_cons_succ]);refine wpAnyH_take (i:=9) (v:= .agg #[Iv 8,.string ⟨(Cz x.val.text).toArray⟩,.slice none 0 0,Iv 0,Iv 0,Iv 0,Iv 0,Iv 0,Iv 0,.bool false,Iv 0,Iv 0]) rfl (by kernel_rfl) (by kernel_rfl) (by kernel_rfl) (fun _ _ _ h=>h) (.inl ⟨by rfl,fun w' B2=> ?_⟩) A3 ?_
 ·go_split_ands;go_simp
 (try simp only[Act.put,List.getElem_toArray,List.getElem_cons_succ,List.getElem_cons_zero,List.setIfInBounds_toArray,List.set_cons_zero,List.set_cons_succ]);refine wpAnyH_take (i:=11) (v:= .pointer (some (Ad V5 0))) rfl (by kernel_rfl) (by kernel_rfl) (by kernel_rfl) (fun _ _ _ h=>h) (.inl ⟨by rfl,fun w' B2=> ?_⟩) A3 ?_
 ·go_split_ands;go_simp
 (try simp only[Act.put,List.getElem_toArray,List.getElem_cons_succ,List.getElem_cons_zero,List.setIfInBounds_toArray,List.set_cons_zero,List.set_cons_succ]);refine wpAnyH_take (i:=12) (v:=Iv x.val.type) rfl (by kernel_rfl) (by kernel_rfl) (by kernel_rfl) (fun _ _ _ h=>h) (.inl ⟨by rfl,fun w' B2=> ?_⟩) A3 ?_
 ·go_split_ands;go_simp
 (try simp only[Act.put,List.getElem_toArray,List.getElem_cons_succ,List.getElem_cons_zero,List.setIfInBounds_toArray,List.set_cons_zero,List.set_cons_succ]);refine wpAnyH_take (i:=13) (v:= .bool true) rfl (by kernel_rfl) (by kernel_rfl) (by kernel_rfl) (fun _ _ _ h=>h) (.inl ⟨by rfl,fun w' B2=> ?_⟩) A3 ?_
 ·go_split_ands;go_simp
 (try simp only[Act.put,List.getElem_toArray,List.getElem_cons_succ,List.getElem_cons_zero,List.setIfInBounds_toArray,List.set_cons_zero,List.set_cons_succ]);refine wpAnyH_ready (rs:=[6]) (by kernel_rfl) (by simp) ?_;refine AllReadyH.cons rfl (fun K hK=> ?_) AllReadyH.nil;go_simp;refine hK.out _ _ ⟨A0,A2,AV,AB,AW.out⟩ (fun A3=> ?_);clear hK K;(try simp only[Act.put,List.getElem_toArray,List.getElem_cons_succ,List.getElem_cons_zero,List.setIfInBounds_toArray,List.set_cons_zero,List.set_cons_succ]);refine wpAnyH_ready (rs:=[7]) (by kernel_rfl) (by simp) ?_;refine AllReadyH.cons rfl (fun K hK=> ?_) AllReadyH.nil;go_simp;refine (CJ x.ps (pP A x c) w3.drew HF.out HD.out HI.out F4.out).mono ?_;rintro e6 w6 ⟨A6,n6,k6,rfl,H4,A5⟩;dsimp only;refine hK.out _ _ ⟨(A5.cell (p:=(Ad w.heap.size 0)) B1).trans c0d,(A5.cell (p:=(Ad w.heap.size 2)) B1).trans c2d,(A5.cell (p:=(Ad V5 0)) DA).trans d0d,AN.low A5 DD,E9.out.trans (A5.mono (show w.heap.size+1<=w3.drew.heap.size by omega))⟩ (fun A3=> ?_);clear hK K;(try simp only[Act.put,List.getElem_toArray,List.getElem_cons_succ,List.getElem_cons_zero,List.setIfInBounds_toArray,List.set_cons_zero,List.set_cons_succ]);refine wpAnyH_take (i:=10) (v:= .agg #[Sv x.group,.string (⟨#[88,45]⟩++⟨N.toArray⟩),.slice A6 n6 k6,Iv 8,.string ⟨(Cz x.val.text).toArray⟩,.slice none 0 0,Iv 0,Iv 0,Iv 0,Iv 0,Iv 0,Iv 0,.bool false,Iv 0,Iv 0]) rfl (by kernel_rfl) (by kernel_rfl) (by kernel_rfl) (fun _ _ _ h=>h) (.inl ⟨by rfl,fun w' B2=> ?_⟩) A3 ?_
 ·go_split_ands;go_simp
 (try simp only[Act.put,List.getElem_toArray,List.getElem_cons_succ,List.getElem_cons_zero,List.setIfInBounds_toArray,List.set_cons_zero,List.set_cons_succ]);refine wpAnyH_take (i:=14) (v:= .bool true) rfl (by kernel_rfl) (by kernel_rfl) (by kernel_rfl) (fun _ _ _ h=>h) (.inl ⟨by rfl,fun w' B2=> ?_⟩) A3 ?_
 ·go_split_ands;go_simp
 (try simp only[Act.put,List.getElem_toArray,List.getElem_cons_succ,List.getElem_cons_zero,List.setIfInBounds_toArray,List.set_cons_zero,List.set_cons_succ]);refine wpAnyH_take (i:=15) (v:=undef) rfl (by kernel_rfl) (by kernel_rfl) (by kernel_rfl) (fun _ _ _ h=>h) (.inr ⟨by kernel_rfl,rfl⟩) A3 ?_;(try simp only[Act.put,List.getElem_toArray,List.getElem_cons_succ,List.getElem_cons_zero,List.setIfInBounds_toArray,List.set_cons_zero,List.set_cons_succ]);refine wpAnyH_take (i:=16) (v:=undef) rfl (by kernel_rfl) (by kernel_rfl) (by kernel_rfl) (fun _ _ _ h=>h) (.inr ⟨by kernel_rfl,rfl⟩) A3 ?_;(try simp only[Act.put,List.getElem_toArray,List.getElem_cons_succ,List.getElem_cons_zero,List.setIfInBounds_toArray,List.set_cons_zero,List.set_cons_succ]);refine wpAnyH_take (i:=17) (v:=undef) rfl (by kernel_rfl) (by kernel_rfl) (by kernel_rfl) (fun _ _ _ h=>h) (.inr ⟨by kernel_rfl,rfl⟩) A3 ?_;(try simp only[Act.put,List.getElem_toArray,List.getElem_cons_succ,List.getElem_cons_zero,List.setIfInBounds_toArray,List.set_cons_zero,List.set_cons_succ]);refine wpAnyH_take (i:=18) (v:= .bool true) rfl (by kernel_rfl) (by kernel_rfl) (by kernel_rfl) (fun _ _ _ h=>h) (.inl ⟨by rfl,fun w' B2=> ?_⟩) A3 ?_
 ·go_split_ands;go_simp
 (try simp only[Act.put,List.getElem_toArray,List.getElem_cons_succ,List.getElem_cons_zero,List.setIfInBounds_toArray,List.set_cons_zero,List.set_cons_succ]);refine wpAnyH_ready (rs:=[19]) (by kernel_rfl) (by simp) ?_;refine AllReadyH.cons rfl (fun K hK=> ?_) AllReadyH.nil;go_simp;refine hK.out _ _ (by go_split_ands;exact ⟨AO _ ‹_› (by omega),AO _ ‹_› (by omega),AO _ ‹_› H3,Yt.setRow ‹_› _ rfl,AC ‹_› zL _⟩) (fun A3=> ?_);clear hK K;(try simp only[Act.put,List.getElem_toArray,List.getElem_cons_succ,List.getElem_cons_zero,List.setIfInBounds_toArray,List.set_cons_zero,List.set_cons_succ]);refine wpAnyH_take (i:=20) (v:= .bool true) rfl (by kernel_rfl) (by kernel_rfl) (by kernel_rfl) (fun _ _ _ h=>h) (.inl ⟨by rfl,fun w' B2=> ?_⟩) A3 ?_
 ·go_split_ands;go_simp
 (try simp only[Act.put,List.getElem_toArray,List.getElem_cons_succ,List.getElem_cons_zero,List.setIfInBounds_toArray,List.set_cons_zero,List.set_cons_succ]);refine wpAnyH_done (by kernel_rfl) ?_ _;have I2:=hid H4;have A8:=hid A5;have I6:=A8.out.size;have M2:=AN.low A8.out (show w.heap.size+1<_ by omega);all_goals
  go_wp2
  refine bodyPost_ret (AG (x:=⟨x.group,YY++N,noP AA x.ps,⟨8,Cz x.val.text,[],default,0⟩⟩) (pv:= .slice A6 n6 k6) (qv:= .slice none 0 0) (G:=w.heap.size+1) rfl (by first|(simp;done)|rfl|simp[go_sem]) (Yx.row M2 (by rw[MG];rfl))) rfl ?_;have F2:=AC (HH.out.trans (A8.out.mono (show w.heap.size<=_ by omega))) (show w.heap.size<=w.heap.size+1 by omega) (Yv ⟨x.group,YY++N,noP AA x.ps,⟨8,Cz x.val.text,[],default,0⟩⟩ (.slice A6 n6 k6) (.slice none 0 0));refine Aq (by rw[B0.out];exact H0.out) ?_ BY.nil F2;refine I2.out.move (fun k hk=>AH _ _ _ ?_) fun k hk=> ?_
  ·rcases hk with hk|hk
   ·have:=hS k hk;omega
   ·omega
  ·rcases hk with hk|hk
   ·exact .inl hk
   ·exact .inr ⟨by omega,by simp;omega⟩
end
section
attribute [local go_sem ↓] zPe zQe
attribute [local go_sem] XR WH XS WI We Xm Xp
theorem Wl {S:Nat->Prop} (x:It) (A:Option Addr) (c:Nat) (A':Option Addr) (c':Nat) (w:World) (hL:LD w) (hS:sW S w) (hp:Ah w S (pP A x c) x.ps) (hl:BY w S (lP A' x c') x.val.parts) (hT:Y4 x) (DT: ∀c∈Xs x.name,c≠32) (hb:Eu (Xs x.name)=true) (ht:x.val.type=8):
 Calls prog 17 #[Yp x (pP A x c) (lP A' x c')] w (BJ S w (CE (Xs x.name) x)):=by
 have A4:=hid hb;have t1:(x.val.type==1)=false:=(by simp[ht]);have t8:(x.val.type==8)=true:=(by simp[ht]);have H0:=hid (show Cx (Xs x.name) x=some ⟨x.group,YY++Xs x.name,noP AA x.ps,⟨8,x.val.text,[],default,0⟩⟩ by unfold Cx;rw[if_pos (.inr ht),if_neg (by omega)]);clear hb ht;refine (CS (S:=S) x A c A' c' w).pf ?_ hL hS hp hl hT DT;intro HT L8 F1 F4 N L9 E0 HN V5 ia ib ic id w3 E HE A9 HM hB HV HP G2 FB LB B3 E1;obtain ⟨c0,c1,c2,c3,c4,c5,c6,c7,c8,c9,c10,c11,c12,c13,c14,AL⟩:=HM.out.c;obtain ⟨d0,d1,d2,d3,d4,d5,d6,d7,d8,d9,I0,I1⟩:=HV.out.c;rw[HN.out] at A4 H0;obtain ⟨n0,n1,n2,n3⟩:=GD A4.out;have B0:=hid (show CE (Xs x.name) x=Cx N x by rw[HN.out];exact Ji A4.out);have E2:=hid (B9 N true E0.out A4.out w3 E1);have E3:=hid (D4 N);have Z6: ¬9223372036854775807<2+N.length:=(by omega);clear HN A4;simp only[BV,CN,Bn,K8] at n0 n1 n2 n3;go_upto_region 18 with fail;clear c0 c1 c2 c3 c4 c5 c6 c7 c8 c9 c10 c11 c12 c13 c14 AL;obtain ⟨c0,c1,c2,c3,c4,c5,c6,c7,c8,c9,c10,c11,c12,c13,c14,AL⟩:=HM.out.c;go_wp2_with fail;rw[E3.out];refine E2.out.mono ?_;rintro e w4 ⟨rfl,G1⟩;obtain rfl:=G1.symm;go_upto_region 22 with fail;have HD:=hid (show Ah w3.drew S (pP A x c) x.ps from HP.out);have N3:=hid (HM.out.drew);have AN:Yt w3.drew (w.heap.size+1) 15:=hB;have d0d:w3.drew.cell? (Ad V5 0)=some (Iv x.val.type):=d0;have c0d:w3.drew.cell? (Ad w.heap.size 0)=some (Sv x.group):=c0;have HF:=hid (show∀k,S k->k<w3.drew.heap.size from fun k hk=>by have:=hS k hk;simp;omega);have LL:w.heap.size+3<=w3.drew.heap.size:=FB;have DA:V5<w3.drew.heap.size:=B3;have HH:=hid A9.drew;have HI:=hid F1;have c2d:w3.drew.cell? (Ad w.heap.size 2)=some (pP A x c):=c2;have A7:Below w3.drew.heap.size w3.drew (w3.drew.alloc (.cells #[.string ⟨#[86,65,76,85,69]⟩] 9)):=zA;have B1:w.heap.size<w3.drew.heap.size:=(by omega);have DD:w.heap.size+1<w3.drew.heap.size:=(by omega);have A0:=(A7.cell (p:=(Ad w.heap.size 0)) B1).trans c0d;have A2:=(A7.cell (p:=(Ad w.heap.size 2)) B1).trans c2d;have AV:=(A7.cell (p:=(Ad V5 0)) DA).trans d0d;have AB:=AN.low A7 DD;have E9:=hid (show Below (w.heap.size+1) w3 w3.drew from zB.drew);have AW:=hid (E9.out.trans (A7.mono (show w.heap.size+1<=w3.drew.heap.size by omega)));have H3:V5≠w.heap.size+1:=(by omega);clear A7;go_region_held3 (fun w'=>w'.cell? (Ad w.heap.size 0)=some (Sv x.group)/\w'.cell? (Ad w.heap.size 2)=some (pP A x c)/\w'.cell? (Ad V5 0)=some (Iv x.val.type)/\Yt w' (w.heap.size+1) 15/\Below (w.heap.size+1) w3 w')
  (first
    |exact ⟨c0d,c2d,d0d,AN,E9.out⟩
    |exact ⟨A0,A2,AV,AB,AW.out⟩
    |exact ⟨(A5.cell (p:=(Ad w.heap.size 0)) B1).trans c0d,(A5.cell (p:=(Ad w.heap.size 2)) B1).trans c2d,(A5.cell (p:=(Ad V5 0)) DA).trans d0d,AN.low A5 DD,E9.out.trans (A5.mono (show w.heap.size+1<=w3.drew.heap.size by omega))⟩
    |(go_split_ands;exact ⟨AO _ ‹_› (by omega),AO _ ‹_› (by omega),AO _ ‹_› H3,Yt.setRow ‹_› _ rfl,AC ‹_› zL _⟩)
    |assumption)
  (first
    |(go_at_call 30;refine (CJ x.ps (pP A x c) w3.drew HF.out HD.out HI.out F4.out).mono ?_;rintro e6 w6 ⟨A6,n6,k6,rfl,H4,A5⟩))
 have I2:=hid H4;have A8:=hid A5;have I6:=A8.out.size;have M2:=AN.low A8.out (show w.heap.size+1<_ by omega);all_goals
  go_wp2
  refine bodyPost_ret (AG (x:=⟨x.group,YY++N,noP AA x.ps,⟨8,x.val.text,[],default,0⟩⟩) (pv:= .slice A6 n6 k6) (qv:= .slice none 0 0) (G:=w.heap.size+1) rfl (by first|(simp;done)|rfl|simp[go_sem]) (Yx.row M2 (by rw[MG];rfl))) rfl ?_;have F2:=AC (HH.out.trans (A8.out.mono (show w.heap.size<=_ by omega))) (show w.heap.size<=w.heap.size+1 by omega) (Yv ⟨x.group,YY++N,noP AA x.ps,⟨8,x.val.text,[],default,0⟩⟩ (.slice A6 n6 k6) (.slice none 0 0));refine Aq (by rw[B0.out];exact H0.out) ?_ BY.nil F2;refine I2.out.move (fun k hk=>AH _ _ _ ?_) fun k hk=> ?_
  ·rcases hk with hk|hk
   ·have:=hS k hk;omega
   ·omega
  ·rcases hk with hk|hk
   ·exact .inl hk
   ·exact .inr ⟨by omega,by simp;omega⟩
end
section
attribute [local go_sem ↓] zPe zQe
attribute [local go_sem] XR WH XS WI We Xm Xp
theorem Wm {S:Nat->Prop} (x:It) (A:Option Addr) (c:Nat) (A':Option Addr) (c':Nat) (w:World) (hL:LD w) (hS:sW S w) (hp:Ah w S (pP A x c) x.ps) (hl:BY w S (lP A' x c') x.val.parts) (hT:Y4 x) (DT: ∀c∈Xs x.name,c≠32) (hb:Eu (Xs x.name)=true) (ht:x.val.type≠1/\x.val.type≠8):
 Calls prog 17 #[Yp x (pP A x c) (lP A' x c')] w (BJ S w (CE (Xs x.name) x)):=by
 have A4:=hid hb;have t1:(x.val.type==1)=false:=(by simpa using ht.1);have t8:(x.val.type==8)=false:=(by simpa using ht.2);have H0:=hid (show Cx (Xs x.name) x=none by unfold Cx;rw[if_neg (by omega)]);clear hb ht;refine (CS (S:=S) x A c A' c' w).pf ?_ hL hS hp hl hT DT;intro HT L8 F1 F4 N L9 E0 HN V5 ia ib ic id w3 E HE A9 HM hB HV HP G2 FB LB B3 E1;obtain ⟨c0,c1,c2,c3,c4,c5,c6,c7,c8,c9,c10,c11,c12,c13,c14,AL⟩:=HM.out.c;obtain ⟨d0,d1,d2,d3,d4,d5,d6,d7,d8,d9,I0,I1⟩:=HV.out.c;rw[HN.out] at A4 H0;obtain ⟨n0,n1,n2,n3⟩:=GD A4.out;have B0:=hid (show CE (Xs x.name) x=Cx N x by rw[HN.out];exact Ji A4.out);have E2:=hid (B9 N true E0.out A4.out w3 E1);have E3:=hid (D4 N);have Z6: ¬9223372036854775807<2+N.length:=(by omega);clear HN A4;simp only[BV,CN,Bn,K8] at n0 n1 n2 n3;go_upto_region 18 with fail;clear c0 c1 c2 c3 c4 c5 c6 c7 c8 c9 c10 c11 c12 c13 c14 AL;obtain ⟨c0,c1,c2,c3,c4,c5,c6,c7,c8,c9,c10,c11,c12,c13,c14,AL⟩:=HM.out.c;go_wp2_with fail;rw[E3.out];refine E2.out.mono ?_;rintro e w4 ⟨rfl,G1⟩;obtain rfl:=G1.symm;go_upto_region 22 with fail;have HD:=hid (show Ah w3.drew S (pP A x c) x.ps from HP.out);have N3:=hid (HM.out.drew);have AN:Yt w3.drew (w.heap.size+1) 15:=hB;have d0d:w3.drew.cell? (Ad V5 0)=some (Iv x.val.type):=d0;have c0d:w3.drew.cell? (Ad w.heap.size 0)=some (Sv x.group):=c0;have HF:=hid (show∀k,S k->k<w3.drew.heap.size from fun k hk=>by have:=hS k hk;simp;omega);have LL:w.heap.size+3<=w3.drew.heap.size:=FB;have DA:V5<w3.drew.heap.size:=B3;have HH:=hid A9.drew;have HI:=hid F1;have c2d:w3.drew.cell? (Ad w.heap.size 2)=some (pP A x c):=c2;have A7:Below w3.drew.heap.size w3.drew (w3.drew.alloc (.cells #[.string ⟨#[86,65,76,85,69]⟩] 9)):=zA;have B1:w.heap.size<w3.drew.heap.size:=(by omega);have DD:w.heap.size+1<w3.drew.heap.size:=(by omega);have A0:=(A7.cell (p:=(Ad w.heap.size 0)) B1).trans c0d;have A2:=(A7.cell (p:=(Ad w.heap.size 2)) B1).trans c2d;have AV:=(A7.cell (p:=(Ad V5 0)) DA).trans d0d;have AB:=AN.low A7 DD;have E9:=hid (show Below (w.heap.size+1) w3 w3.drew from zB.drew);have AW:=hid (E9.out.trans (A7.mono (show w.heap.size+1<=w3.drew.heap.size by omega)));have H3:V5≠w.heap.size+1:=(by omega);clear A7;go_region_held3 (fun w'=>w'.cell? (Ad w.heap.size 0)=some (Sv x.group)/\w'.cell? (Ad w.heap.size 2)=some (pP A x c)/\w'.cell? (Ad V5 0)=some (Iv x.val.type)/\Yt w' (w.heap.size+1) 15/\Below (w.heap.size+1) w3 w')
  (first
    |exact ⟨c0d,c2d,d0d,AN,E9.out⟩
    |exact ⟨A0,A2,AV,AB,AW.out⟩
    |exact ⟨(A5.cell (p:=(Ad w.heap.size 0)) B1).trans c0d,(A5.cell (p:=(Ad w.heap.size 2)) B1).trans c2d,(A5.cell (p:=(Ad V5 0)) DA).trans d0d,AN.low A5 DD,E9.out.trans (A5.mono (show w.heap.size+1<=w3.drew.heap.size by omega))⟩
    |(go_split_ands;exact ⟨AO _ ‹_› (by omega),AO _ ‹_› (by omega),AO _ ‹_› H3,Yt.setRow ‹_› _ rfl,AC ‹_› zL _⟩)
    |assumption)
  (first
    |(go_at_call 30;refine (CJ x.ps (pP A x c) w3.drew HF.out HD.out HI.out F4.out).mono ?_;rintro e6 w6 ⟨A6,n6,k6,rfl,H4,A5⟩))
 have I2:=hid H4;have A8:=hid A5;have I6:=A8.out.size;have M2:=AN.low A8.out (show w.heap.size+1<_ by omega);all_goals
  go_wp2
  refine bodyPost_ret (AG (x:=⟨x.group,YY++N,noP AA x.ps,⟨8,x.val.text,[],default,0⟩⟩) (pv:= .slice A6 n6 k6) (qv:= .slice none 0 0) (G:=w.heap.size+1) rfl (by first|(simp;done)|rfl|simp[go_sem]) (Yx.row M2 (by rw[MG];rfl))) rfl ?_;have F2:=AC (HH.out.trans (A8.out.mono (show w.heap.size<=_ by omega))) (show w.heap.size<=w.heap.size+1 by omega) (Yv ⟨x.group,YY++N,noP AA x.ps,⟨8,x.val.text,[],default,0⟩⟩ (.slice A6 n6 k6) (.slice none 0 0));exact Ai (by rw[B0.out];exact H0.out) F2
end
section
attribute [local go_sem ↓] zPe zQe
attribute [local go_sem] XR WH XS WI We Xm Xp
theorem SU {S:Nat->Prop} (x:It) (A:Option Addr) (c:Nat) (A':Option Addr) (c':Nat) (w:World) (hL:LD w) (hS:sW S w) (hp:Ah w S (pP A x c) x.ps) (hl:BY w S (lP A' x c') x.val.parts) (hT:Y4 x) (DT: ∀c∈Xs x.name,c≠32) (hb:Xs x.name=II) (hg:DZ x=none) (h1:x.val.type=3-> ∀a b,x.val.parts≠[[a],[b]]):
 Calls prog 17 #[Yp x (pP A x c) (lP A' x c')] w (BJ S w (CE (Xs x.name) x)):=by
 have A4:=hid hb;have HG:=hid hg;have H1:=hid h1;clear hb hg h1;refine (CS (S:=S) x A c A' c' w).pf ?_ hL hS hp hl hT DT;intro HT L8 F1 F4 N L9 E0 HN V5 ia ib ic id w3 E HE A9 HM hB HV HP G2 FB LB B3 E1;obtain ⟨c0,c1,c2,c3,c4,c5,c6,c7,c8,c9,c10,c11,c12,c13,c14,AL⟩:=HM.out.c;obtain ⟨d0,d1,d2,d3,d4,d5,d6,d7,d8,d9,I0,I1⟩:=HV.out.c;rw[HN.out] at A4;obtain rfl:=A4.out;have G4:Eu II=false:=(by decide);have B0:=hid (show CE (Xs x.name) x=DZ x by rw[HN.out];unfold CE;rw[if_neg (by decide),if_neg (by decide),if_pos (by decide)]);have E2:=hid (B9 II false E0.out G4 w3 E1);have E3:=hid (D4 II);clear HN A4;go_upto_region 18 with fail;clear c0 c1 c2 c3 c4 c5 c6 c7 c8 c9 c10 c11 c12 c13 c14 AL;obtain ⟨c0,c1,c2,c3,c4,c5,c6,c7,c8,c9,c10,c11,c12,c13,c14,AL⟩:=HM.out.c;go_wp2_with fail;(try rw[show (⟨#[32]⟩++⟨#[71,69,79]⟩++⟨#[32]⟩:ByteArray)=⟨(YD II).toArray⟩ from rfl]);(try rw[E3.out]);refine E2.out.mono ?_;rintro e w4 ⟨rfl,G1⟩;obtain rfl:=G1.symm;by_cases ht:x.val.type=3
 ·have t1:(x.val.type != 3)=false:=(by simpa using ht);obtain ⟨L,hL⟩: ∃L,x.val.parts=L:=⟨_,rfl⟩;have H2:=hid (show∀a b,L≠[[a],[b]] from hL▸H1.out ht);have Z7:=hid (show Xw w3 w.heap.size (.slice A' L.length c') L from hL▸G2.out.lls hS);have W8:=hid hL;clear ht hL;by_cases hn:L.length=2
  ·have t2:((x.val.parts.length:Int) != 2)=false:=by rw[W8.out];simp;omega
   obtain ⟨p,q,rfl⟩: ∃p q,L=[p,q]:=by
    match L,hn with
    |[p,q],_=>exact ⟨p,q,rfl⟩
   have OV:x.val.parts.length=2:=by rw[W8.out];rfl
   obtain ⟨b,o,u1,v1,rfl,aD,e1,m1,s1⟩:=Xw.at_ (k:=0) Z7.out (by simp);obtain ⟨b',o',u2,v2,MM,aE,e2,m2,s2⟩:=Xw.at_ (k:=1) Z7.out (by simp);simp only[Option.some.injEq,Addr.mk.injEq,and_true] at MM;obtain ⟨rfl,rfl⟩:=MM;have aF:u1=p:=(by simpa using e1.symm);have aG:u2=q:=(by simpa using e2.symm);subst aF aG;obtain ⟨A1,c1',rfl⟩:=s1.form;obtain ⟨A2,c2',rfl⟩:=s2.form;have aH:b<w3.heap.size:=(by omega);rw[Nat.add_zero] at m1;have aI:(0:Int)<(x.val.parts.length:Int):=(by omega);have aJ:(1:Int)<(x.val.parts.length:Int):=(by omega);clear e1 e2 hn;by_cases aK:u1.length=1
   ·have t3:((u1.length:Int) != 1)=false:=by simp;omega
    have Z8:u2.length≠1:=fun Z8=>by
     match u1,aK,u2,Z8 with
     |[a],_,[b],_=>exact H2.out a b rfl
    have t4:((u2.length:Int) != 1)=true:=by simp;omega
    go_wp2
    refine bodyPost_ret (AG (x:=x) (pv:=(pP A x c)) (qv:=(.slice (some (Ad b o)) 2 c')) (G:=w.heap.size+1) rfl (by first|(simp;done)|rfl|simp[go_sem]) (Yx.row hB rfl)) rfl ?_;exact Ai (by rw[B0.out];exact HG.out) (AC A9 (by omega) _)
   ·have t3:((u1.length:Int) != 1)=true:=by simp;omega
    go_wp2
    refine bodyPost_ret (AG (x:=x) (pv:=(pP A x c)) (qv:=(.slice (some (Ad b o)) 2 c')) (G:=w.heap.size+1) rfl (by first|(simp;done)|rfl|simp[go_sem]) (Yx.row hB rfl)) rfl ?_;exact Ai (by rw[B0.out];exact HG.out) (AC A9 (by omega) _)
  ·have t2:((x.val.parts.length:Int) != 2)=true:=by rw[W8.out];simp;omega
   go_wp2
   refine bodyPost_ret (AG (x:=x) (pv:=(pP A x c)) (qv:=(lP A' x c')) (G:=w.heap.size+1) rfl (by first|(simp;done)|rfl|simp[go_sem]) (Yx.row hB rfl)) rfl ?_;exact Ai (by rw[B0.out];exact HG.out) (AC A9 (by omega) _)
 ·have t1:(x.val.type != 3)=true:=(by simpa using ht);go_wp2
  refine bodyPost_ret (AG (x:=x) (pv:=(pP A x c)) (qv:=(lP A' x c')) (G:=w.heap.size+1) rfl (by first|(simp;done)|rfl|simp[go_sem]) (Yx.row hB rfl)) rfl ?_;exact Ai (by rw[B0.out];exact HG.out) (AC A9 (by omega) _)
end
section
attribute [local go_sem ↓] zPe zQe
attribute [local go_sem] XR WH XS WI We Xm Xp
theorem Td {S:Nat->Prop} (x:It) (A:Option Addr) (c:Nat) (A':Option Addr) (c':Nat) (w:World) (hL:LD w) (hS:sW S w) (hp:Ah w S (pP A x c) x.ps) (hl:BY w S (lP A' x c') x.val.parts) (hT:Y4 x) (DT: ∀c∈Xs x.name,c≠32) (hb:Xs x.name=II) (ht:x.val.type=3) (a b:Str) (I3:x.val.parts=[[a],[b]]):
 Calls prog 17 #[Yp x (pP A x c) (lP A' x c')] w (BJ S w (CE (Xs x.name) x)):=by
 have A4:=hid hb;have bX:a.length<=10000:=by have:=hT.parts;rw[I3] at this;simp[YV,wS] at this;omega
 have ZQ:b.length<=10000:=by have:=hT.parts;rw[I3] at this;simp[YV,wS] at this;omega
 have Z9:=hid I3;have aL:=hid ht;have t1:(x.val.type != 3)=false:=(by simpa using ht);have OV:x.val.parts.length=2:=by rw[I3];rfl
 have t2:((x.val.parts.length:Int) != 2)=false:=by rw[I3];rfl
 have aM:=hid OV;clear hb I3 ht OV;refine (CS (S:=S) x A c A' c' w).pf ?_ hL hS hp hl hT DT;intro HT L8 F1 F4 N L9 E0 HN V5 ia ib ic id w3 E HE A9 HM hB HV HP G2 FB LB B3 E1;obtain ⟨c0,c1,c2,c3,c4,c5,c6,c7,c8,c9,c10,c11,c12,c13,c14,AL⟩:=HM.out.c;obtain ⟨d0,d1,d2,d3,d4,d5,d6,d7,d8,d9,I0,I1⟩:=HV.out.c;rw[HN.out] at A4;obtain rfl:=A4.out;have G4:Eu II=false:=(by decide);have B0:=hid (show CE (Xs x.name) x=DZ x by rw[HN.out];unfold CE;rw[if_neg (by decide),if_neg (by decide),if_pos (by decide)]);have E2:=hid (B9 II false E0.out G4 w3 E1);have E3:=hid (D4 II);clear HN A4;go_upto_region 18 with fail;clear c0 c1 c2 c3 c4 c5 c6 c7 c8 c9 c10 c11 c12 c13 c14 AL;obtain ⟨c0,c1,c2,c3,c4,c5,c6,c7,c8,c9,c10,c11,c12,c13,c14,AL⟩:=HM.out.c;go_wp2_with fail;(try rw[show (⟨#[32]⟩++⟨#[71,69,79]⟩++⟨#[32]⟩:ByteArray)=⟨(YD II).toArray⟩ from rfl]);(try rw[E3.out]);refine E2.out.mono ?_;rintro e w4 ⟨rfl,G1⟩;obtain rfl:=G1.symm;have OV:=aM.out;have ZI:=hid (show Xw w3 w.heap.size (.slice A' [[a],[b]].length c') [[a],[b]] from Z9.out▸G2.out.lls hS);obtain ⟨bb,o,u1,v1,rfl,aD,e1,m1,s1⟩:=Xw.at_ (k:=0) ZI.out (by simp);obtain ⟨b',o',u2,v2,MM,aE,e2,m2,s2⟩:=Xw.at_ (k:=1) ZI.out (by simp);simp only[Option.some.injEq,Addr.mk.injEq,and_true] at MM;obtain ⟨rfl,rfl⟩:=MM;obtain rfl:[a]=u1:=(by simpa using e1);obtain rfl:[b]=u2:=(by simpa using e2);obtain ⟨A1,k1,rfl⟩:=s1.form;obtain ⟨A2,k2,rfl⟩:=s2.form;obtain ⟨b3,o3,s3,rfl,bY,f1,g1⟩:=s1.at_ (k:=0) (by simp);obtain ⟨b4,o4,s4,rfl,bZ,f2,g2⟩:=s2.at_ (k:=0) (by simp);obtain rfl:a=s3:=(by simpa using f1);obtain rfl:b=s4:=(by simpa using f2);rw[Nat.add_zero] at m1 g1 g2;have aI:(0:Int)<(x.val.parts.length:Int):=(by omega);have aJ:(1:Int)<(x.val.parts.length:Int):=(by omega);have aH:bb<w3.heap.size:=(by omega);have bE:b3<w3.heap.size:=(by omega);have bF:b4<w3.heap.size:=(by omega);clear e1 e2 f1 f2 s1 s2;go_upto_region 26 with fail;go_region;all_goals
  have SS:((⟨#[103,101,111,58]⟩:ByteArray)++⟨a.toArray⟩++⟨#[44]⟩++⟨b.toArray⟩)=⟨(SJ++a++[44]++b).toArray⟩:=by rw[<-AM,<-AM,<-AM];rfl
  rw[SS];clear SS;obtain ⟨TX,PB⟩: ∃TX:Str,SJ++a++[44]++b=TX:=⟨_,rfl⟩;rw[PB];have cA:TX.length<=30000:=by rw[<-PB];simp only[SJ,List.length_append,List.length_cons,List.length_nil];omega
  have ZJ:=hid (show DZ x=if DG TX=0 then some {x with ps:=noP AA x.ps,val:=⟨4,TX,[],default,0⟩} else none by unfold DZ;rw[if_pos aL.out,Z9.out];simp only[SK,PB]);clear PB;have HD:=hid (show Ah w3.drew S (pP A x c) x.ps from HP.out);have N3:=hid (HM.out.drew);have AN:Yt w3.drew (w.heap.size+1) 15:=hB;have HF:=hid (show∀k,S k->k<w3.drew.heap.size from fun k hk=>by have:=hS k hk;simp;omega);have LL:w.heap.size+3<=w3.drew.heap.size:=FB;have HH:=hid A9.drew;have HI:=hid F1;clear m1 m2 g1 g2 d0 d1 d2 d3 d4 d5 d6 d7 d8 d9 I0 I1;go_wp2_with fail;refine (CJ x.ps (pP A x c) w3.drew HF.out HD.out HI.out F4.out).mono ?_;rintro e6 w6 ⟨A6,n6,k6,rfl,H4,A5⟩;have I2:=hid H4;have A8:=hid A5;have I6:=A5.size;have H8:=N3.out.keep A5 (show w.heap.size<_ by omega);have q6:=H8.frozen 2;have k6c:=H8.c.c2;have aN:=hid (AN.low A5 (show w.heap.size+1<_ by omega));have HY:=H8.setP (noP AA x.ps) (.slice A6 n6 k6);have aO:Yt (w6.setCell (Ad w.heap.size 2) (.slice A6 n6 k6)) w.heap.size 15:=HY.blk;have W9:Yx ((w6.setCell (Ad w.heap.size 2) (.slice A6 n6 k6)).setCells w.heap.size 3 [Iv 4,Sv TX,.slice none 0 0,Iv 0,Iv 0,Iv 0,Iv 0,Iv 0,Iv 0,.bool false,Iv 0,Iv 0]) w.heap.size {x with ps:=noP AA x.ps,val:=⟨4,TX,[],default,0⟩} (.slice A6 n6 k6) (.slice none 0 0):=HY.setV ⟨4,TX,[],default,0⟩ (.slice none 0 0);obtain ⟨W5,HJ⟩: ∃W5,(w6.setCell (Ad w.heap.size 2) (.slice A6 n6 k6)).setCells w.heap.size 3 [Iv 4,Sv TX,.slice none 0 0,Iv 0,Iv 0,Iv 0,Iv 0,Iv 0,Iv 0,.bool false,Iv 0,Iv 0]=W5:=⟨_,rfl⟩;rw[HJ] at W9;have aP:=hid W9;have aQ:Yt W5.drew (w.heap.size+1) 15:=(aN.out.setCell (Ad w.heap.size 2) (.slice A6 n6 k6) (by simp)).same (by rw[heap_drew,<-HJ];exact AS _ _ _ _ _ (by omega));have ZK:=hid (show∀k,k≠w.heap.size->W5.heap[k]? =w6.heap[k]? from fun k hk=>by rw[<-HJ];exact (AS _ _ _ _ k hk).trans (heap_setCell_other w6 _ k _ hk));have aR:W5.heap.size=w6.heap.size:=by rw[<-HJ,Be];simp[World.setCell]
  have aS:Below w.heap.size w W5:=by rw[<-HJ];exact BF zL _ _ ((HH.out.trans (A8.out.mono (show w.heap.size<=_ by omega))).setCell (p:=(Ad w.heap.size 2)) zL _)
  have ZL:=hid HJ;clear HJ W9 HY H4 A5;go_upto_region 28 with fail;(try rw[ZL.out]);clear aO ZL q6 k6c H8;clear c0 c1 c2 c3 c4 c5 c6 c7 c8 c9 c10 c11 c12 c13 c14 AL;have L1:=hid (aP.out.drew);obtain ⟨c0,c1,c2,c3,c4,c5,c6,c7,c8,c9,c10,c11,c12,c13,c14,AL⟩:=L1.out.c;simp only at c0 c1 c2 c3 c4 c5 c6 c7 c8 c9 c10 c11 c12 c13 c14;have bG:W5.drew.heap.size=w6.heap.size:=(by simp[aR]);have ZM:=hid aS.drew;obtain ⟨U,hU⟩: ∃U,(DG TX==0)=U:=⟨_,rfl⟩;have HU:=hid hU;clear hU;go_region_with (first
   |(go_at_call 35;refine (DV TX W5.drew (by omega)).mono ?_;rintro e8 w8 ⟨⟨p8,rfl⟩,PF⟩;have aT:=PF.size;have aU:=hid PF;have H9:=L1.out.keep PF (show w.heap.size<_ by omega);obtain ⟨j0,j1,j2,j3,j4,j5,j6,j7,j8,j9,aV,aW,aX,aY,aZ,jlt⟩:=H9.c;simp only at j0 j1 j2 j3 j4 j5 j6 j7 j8 j9 aV aW aX aY aZ;clear PF H9)
   |(go_at_call 12;refine (CU _ p8 w8).mono ?_;rintro e9 w9 ⟨rfl,ZN⟩;rw[HU.out];have N0:=hid (show Below W5.drew.heap.size W5.drew w9 from ZN▸(aU.out.trans (zA.mono aT)));have cB:=N0.out.size;have b2:=aQ.low N0.out (show w.heap.size+1<_ by omega);have H9:=L1.out.keep N0.out (show w.heap.size<_ by omega);obtain ⟨n0,n1,n2,n3,n4,n5,n6',n7,n8,n9,n10,n11,n12,n13,n14,nlt⟩:=H9.c;simp only at n0 n1 n2 n3 n4 n5 n6' n7 n8 n9 n10 n11 n12 n13 n14;clear H9 ZN))
  all_goals
   go_wp2
   refine bodyPost_ret (AG (x:={x with ps:=noP AA x.ps,val:=⟨4,TX,[],default,0⟩}) (pv:= .slice A6 n6 k6) (qv:= .slice none 0 0) (G:=w.heap.size+1) rfl (by first|(simp;done)|rfl|simp[go_sem]) (Yx.row b2 rfl)) rfl ?_;have F2:=AC (ZM.out.trans (N0.out.mono (show w.heap.size<=_ by omega))) (show w.heap.size<=w.heap.size+1 by omega) (Yv {x with ps:=noP AA x.ps,val:=⟨4,TX,[],default,0⟩} (.slice A6 n6 k6) (.slice none 0 0));cases U with
   |false=>exact Ai (by rw[B0.out,ZJ.out,if_neg (by simpa using HU.out)]) F2
   |true=>
    refine Aq (by rw[B0.out,ZJ.out,if_pos (by simpa using HU.out)]) ?_ BY.nil F2;have HK: ∀k,(S k∨(w3.drew.heap.size<=k/\k<w6.heap.size))->k<w6.heap.size/\k≠w.heap.size/\k≠w.heap.size+1:=fun k hk=>by
     rcases hk with hk|hk
     ·have:=hS k hk;omega
     ·omega
    refine I2.out.move (fun k hk=>(AH _ _ _ (HK k hk).2.2).trans ((N0.out.block k (by have:=(HK k hk).1;omega)).trans (ZK.out k (HK k hk).2.1))) fun k hk=> ?_;rcases hk with hk|hk
    ·exact .inl hk
    ·exact .inr ⟨by omega,by simp;omega⟩
end
end Go.Proofs.YtjhpdljphchfaaaGreatDoor
