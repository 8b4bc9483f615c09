/- A part of the proof of ConvertUps: Helpers. -/
import Derived.Test.YtjhpdljphchfaaaGreatDoorA40
import Derived.Test.YtjhpdljphchfaaaGreatDoorA38
set_option maxHeartbeats 40000000
set_option maxRecDepth 1000000
set_option linter.all false
namespace Go.Proofs.YtjhpdljphchfaaaGreatDoor
open Go.RowKit
open Go.Proofs.Tryz
section
attribute [local go_sem ↓] zPe zLe
attribute [local go_sem] XR WH ZF XU WU ZE P8 Tw VY VB VZ XV WV WW WX WY Va
theorem P9 (v:Int) (items:List It) (A:Option Addr) (c:Nat) (A':Option Addr) (c':Nat) (w:World) (h:Its w w.heap.size (.slice A items.length c) items) (h':Its w w.heap.size (.slice A' items.length c') items) (hn:items.length<=1000000) (hB: ∀x∈items,Yq x):
 Calls prog 8 #[.agg #[Iv v,.slice A items.length c],.agg #[Iv v,.slice A' items.length c']] w fun e w'=>e= .returned (.bool true)/\Below w.heap.size w w':=by
 obtain ⟨W0,HO⟩: ∃W0,(w.alloc (.cells #[Iv v,.slice A items.length c] 24)).alloc (.cells #[Iv v,.slice A' items.length c'] 24)=W0:=⟨_,rfl⟩;have a6:W0.heap.size=w.heap.size+2:=by rw[<-HO];simp
 have AL:Below w.heap.size w W0:=by rw[<-HO];exact zA.alloc (by simp) _
 have a0:W0.cell? (Ad w.heap.size 0)=some (Iv v):=by rw[<-HO];simp
 have a1:W0.cell? (Ad w.heap.size 1)=some (.slice A items.length c):=by rw[<-HO];simp
 have b0:W0.cell? (Ad (w.heap.size+1) 0)=some (Iv v):=by rw[<-HO];simp
 have b1:W0.cell? (Ad (w.heap.size+1) 1)=some (.slice A' items.length c'):=by rw[<-HO];simp
 have H:=hid (h.keep AL zL);have H':=hid (h'.keep AL zL);have HB:=hid hB;clear h h' hB;go_enter func8,ntmps8;go_wp2_with fail;(try rw[HO]);go_wp2_with fail;obtain ⟨IB,Z5⟩: ∃IB,w.heap.size=IB:=⟨_,rfl⟩;(try rw[Z5] at a0 a1 b0 b1 a6 AL H H'⊢);(try rw[HO]);clear HO;go_loopw [5,6,7,8,9,10,11,29,107,126] (fun _ _ _ _ _ _ _ W9 _ _ wr=> ∃k:Nat,k<=items.length/\W9=Iv k/\Below W0.heap.size W0 wr) (fun _ _ _ _ _ _ _ W9 _ _ _=>items.length-(intOf W9).toNat);case atStart=>exact ⟨0,by omega,rfl,zB⟩
 case round=>
  obtain ⟨k,hk,rfl,hb⟩:=hrel;have a7:=hb.size;have d0:=(hb.cell (p:=(Ad IB 1)) (show IB<_ by omega)).trans a1;have d1:=(hb.cell (p:=(Ad (IB+1) 1)) (show IB+1<_ by omega)).trans b1;by_cases I6:k<items.length
  ·obtain ⟨bb,o,x,pv,qv,rfl,a8,hd,Z6,WA,KI⟩:=H.out.at_ I6;obtain ⟨bb',o',x',pv',qv',rfl,bP,WF,W6,LB,LL⟩:=H'.out.at_ I6;rw[hd] at WF;obtain rfl:x=x':=(by simpa using WF);obtain ⟨P1,p1,a9⟩:=WA.form;obtain ⟨Q1,q1,aA⟩:=KI.form;obtain ⟨P2,p2,aB⟩:=LB.form;obtain ⟨Q2,q2,aC⟩:=LL.form;subst a9 aA aB aC;have HX:=hid (HB.out x (List.mem_of_mem_drop (by rw[hd];simp)));obtain ⟨h0,h1,h2,h3,h4,h5,h6,h7,h8,h9,X1,X2,X3,XB,Y1⟩:=Z6.keep hb (by omega);obtain ⟨i0,i1,i2,i3,i4,i5,i6,i7,i8,i9,L1,L2,L4,L5,L6⟩:=W6.keep hb (by omega);have aD:=hid (WA.keep (hb.mono (show IB<=W0.heap.size by omega)) (B':=W0.heap.size) (by omega));have aE:=hid (LB.keep (hb.mono (show IB<=W0.heap.size by omega)) (B':=W0.heap.size) (by omega));have aF:=hid (KI.keep (hb.mono (show IB<=W0.heap.size by omega)) (B':=W0.heap.size) (by omega));have aG:=hid (LL.keep (hb.mono (show IB<=W0.heap.size by omega)) (B':=W0.heap.size) (by omega));have l1:IB<wr.heap.size:=(by omega);have l2:IB+1<wr.heap.size:=(by omega);have l3:bb<wr.heap.size:=(by omega);have l4:bb'<wr.heap.size:=(by omega);have bX:(k:Int)<(items.length:Int):=(by omega);clear hd WF Z6 W6 WA LB KI LL;go_upto_region 6 with fail;go_cut [6,7] from 32 to 41 (fun s6 s7 wz=> ∃b6 b7:Nat,s6= .pointer (some (Ad b6 0))/\s7= .pointer (some (Ad b7 0))/\Hid (Yx wz b6 x (pP P1 x p1) (lP Q1 x q1)/\Yx wz b7 x (pP P2 x p2) (lP Q2 x q2)/\Below wr.heap.size wr wz));case first=>
    have bY:IB≠wr.heap.size:=(by omega);have bZ:IB≠wr.heap.size+1:=(by omega);have aH:IB+1≠wr.heap.size:=(by omega);have aI:IB+1≠wr.heap.size+1:=(by omega);have cA:bb≠wr.heap.size:=(by omega);have cB:bb≠wr.heap.size+1:=(by omega);have cC:bb'≠wr.heap.size:=(by omega);have cD:bb'≠wr.heap.size+1:=(by omega);obtain ⟨bQ,bR⟩:=VD h0 h1 h2 h3 h4 h5 h6 h7 h8 h9 X1 X2 X3 XB Y1;obtain ⟨bS,bT⟩:=VD i0 i1 i2 i3 i4 i5 i6 i7 i8 i9 L1 L2 L4 L5 L6;clear h0 h1 h2 h3 h4 h5 h6 h7 h8 h9 X1 X2 X3 XB Y1 i0 i1 i2 i3 i4 i5 i6 i7 i8 i9 L1 L2 L4 L5 L6;go_region;all_goals
     go_wp2
     go_meet;first
      |(refine ⟨wr.heap.size,wr.heap.size+1,rfl,rfl,hid ?_⟩;rw[<-and_assoc];exact ⟨Jc (Jb wr _) (Ja wr _) (by omega) rfl rfl,AC (AC (zA.alloc (by simp) _).drew (by omega) _) (by omega) _⟩)
      |(refine ⟨wr.heap.size+1,wr.heap.size,rfl,rfl,hid ?_⟩;rw[<-and_assoc];exact ⟨Jc (Ja wr _) (Jb wr _) (by omega) rfl rfl,AC (AC (zA.alloc (by simp) _).drew (by omega) _) (by omega) _⟩)
      |(refine ⟨wr.heap.size+1,wr.heap.size,rfl,rfl,hid ?_⟩;rw[<-and_assoc];exact ⟨Nq (Ja wr _) (Jb wr _) (by omega) rfl rfl,AC (AC (zA.alloc (by simp) _).drew (by omega) _) (by omega) _⟩)
   rcases hcut with ⟨b6,b7,rfl,rfl,VC⟩;obtain ⟨w6,rfl⟩: ∃w6,w6=wc:=⟨_,rfl⟩;clear h0 h1 h2 h3 h4 h5 h6 h7 h8 h9 X1 X2 X3 XB Y1 i0 i1 i2 i3 i4 i5 i6 i7 i8 i9 L1 L2 L4 L5 L6 l1 l2 l3 l4;have A8:=VC.out.2.2;have HQ:=A8.size;have B0:=hid VC.out.1;have HF:=hid VC.out.2.1;obtain ⟨g0,g1,g2,g3,g4,g5,g6,g7,g8,g9,Z7,Z8,Z9,ZI,ZJ,gl⟩:=B0.out.c;obtain ⟨i0,i1,i2,i3,i4,i5,i6,i7,i8,i9,L1,L2,L4,L5,L6,il⟩:=HF.out.c;go_upto_region 7 with fail;go_cut [8,9] from 42 to 45 (fun s8 s9 wy=> ∃b8 b9:Nat,s8= .pointer (some (Ad b8 0))/\s9= .pointer (some (Ad b9 0))/\Hid (Yy wy b8 x.val (lP Q1 x q1)/\Yy wy b9 x.val (lP Q2 x q2)/\Below w6.heap.size w6 wy));case first=>
    go_region;all_goals
     go_wp2
     go_meet;first
      |exact ⟨w6.heap.size,w6.heap.size+1,rfl,rfl,hid ⟨⟨42,(Below.heap_alloc (w6.alloc _) _ _ (by simp)).trans (heap_alloc_new w6 _)⟩,⟨42,heap_alloc2_new w6 _ _⟩,(zA.alloc (by simp) _).drew⟩⟩
      |exact ⟨w6.heap.size+1,w6.heap.size,rfl,rfl,hid ⟨⟨42,heap_alloc2_new w6 _ _⟩,⟨42,(Below.heap_alloc (w6.alloc _) _ _ (by simp)).trans (heap_alloc_new w6 _)⟩,(zA.alloc (by simp) _).drew⟩⟩
   rcases hcut with ⟨b8,b9,rfl,rfl,VX⟩;obtain ⟨w7,rfl⟩: ∃w7,w7=wc:=⟨_,rfl⟩;have H0:=VX.out.2.2;have cE:=H0.size;have W7:=A8.trans (H0.mono HQ);have ZK:=hb.trans (W7.mono a7);have M2:=hid (B0.out.keep H0 gl);have I2:=hid (HF.out.keep H0 il);have ZL:=hid VX.out.1;have ZM:=hid VX.out.2.1;have cF: ∀W:World,(binOp .neq 40 (.agg #[Iv x.val.st.y,Iv x.val.st.mo,Iv x.val.st.d,Iv x.val.st.h,Iv x.val.st.mi,Iv x.val.st.s,.bool x.val.st.zoned,Iv x.val.st.zone]) (.agg #[Iv x.val.st.y,Iv x.val.st.mo,Iv x.val.st.d,Iv x.val.st.h,Iv x.val.st.mi,Iv x.val.st.s,.bool x.val.st.zoned,Iv x.val.st.zone])).run prog W= .ok (.bool false) W:=fun W=>by have h:=J4 x.val.st x.val.st W;rw[Lx] at h;exact h
   clear A8 H0 VC VX g0 g1 g2 g3 g4 g5 g6 g7 g8 g9 Z7 Z8 Z9 ZI ZJ gl i0 i1 i2 i3 i4 i5 i6 i7 i8 i9 L1 L2 L4 L5 L6 il;obtain ⟨g0,g1,g2,g3,g4,g5,g6,g7,g8,g9,Z7,Z8,Z9,ZI,ZJ,gl⟩:=M2.out.c;obtain ⟨i0,i1,i2,i3,i4,i5,i6,i7,i8,i9,L1,L2,L4,L5,L6,il⟩:=I2.out.c;obtain ⟨m0,m1,m2,m3,m4,m5,m6,m7,m8,m9,aH,aI⟩:=ZL.out.c;obtain ⟨n0,n1,n2,n3,n4,n5,n6,n7,n8,n9,n10,n11⟩:=ZM.out.c;have aJ:=hid W7;have aK:=HX.out.parts;have aL:=HX.out.ps;have ZN:=hid (show x.val.parts.length<=1000000000 from Nat.le_trans (GX x.val.parts) (Nat.le_trans aK (by decide)));have ZO:=hid (show x.ps.length<=1000000000 from Nat.le_trans (Bq x.ps) (Nat.le_trans aL (by decide)));have aM:=ZL.out.lt;have aN:=ZM.out.lt;go_wp2
   go_loopw [10,107] (fun _ MM wq=> ∃j:Nat,j<=x.val.parts.length/\MM=Iv j/\Below w7.heap.size w7 wq) (fun _ MM _=>x.val.parts.length-(intOf MM).toNat);case atStart=>exact ⟨0,by omega,rfl,zB⟩
   case round=>
    obtain ⟨j,hj,rfl,hq⟩:=hrel;have cG:=hq.size;have DD:=ZN.out;have N0:=hid (aJ.out.trans (hq.mono (by omega)));by_cases ZP:j<x.val.parts.length
    ·obtain ⟨e1,o1,t,u1,rfl,aO,I3,N1,st1⟩:=aF.out.at_ ZP;obtain ⟨e2,o2,t',u2,rfl,ZQ,I4,N2,st2⟩:=aG.out.at_ ZP;rw[I3] at I4;obtain rfl:t=t':=(by simpa using I4);obtain ⟨U1,k1,rfl⟩:=st1.form;obtain ⟨U2,k2,rfl⟩:=st2.form;have Y2:t.length<=1073741824:=by
      have h1:=GW (List.mem_of_mem_drop (show t∈x.val.parts.drop j by rw[I3];simp));have h2:=C3 t;omega
     have q1:=(N0.out.cell (p:=(Ad e1 (o1+j))) (by show e1<_;omega)).trans N1;have q2:=(N0.out.cell (p:=(Ad e2 (o2+j))) (by show e2<_;omega)).trans N2;have m2q:=(hq.cell (p:=(Ad b8 2)) aM).trans m2;have n2q:=(hq.cell (p:=(Ad b9 2)) aN).trans n2;have Y3:=hid (show CD wr wr.heap.size (.slice U1 t.length k1) t from st1.keep (N0.out.mono (show W0.heap.size<=_ by omega)) (by omega));have YB:=hid (show CD wr wr.heap.size (.slice U2 t.length k2) t from st2.keep (N0.out.mono (show W0.heap.size<=_ by omega)) (by omega));have cH:(j:Int)<(x.val.parts.length:Int):=(by omega);clear I3 I4 N1 N2 st1 st2 m2 n2;go_wp2_with fail
     go_quiet ((go_at_call 23;exact Fh _ U1 k1 U2 k2 Y3.out YB.out Y2))
     all_goals
      go_wp2
      go_roundw;case rel=>exact ⟨j+1,by omega,by go_num,JZ hq _⟩
      case measure=>simp[intOf];omega
    ·have g2q:=(hq.cell (p:=(Ad b6 2)) gl).trans g2;have i2q:=(hq.cell (p:=(Ad b7 2)) il).trans i2;have aP:=hid (ZK.trans (hq.mono (show W0.heap.size<=w7.heap.size by omega)));have aQ:b6<wr.heap.size:=(by omega);have aR:b7<wr.heap.size:=(by omega);obtain ⟨wp,rfl⟩: ∃wp,wp=wr:=⟨_,rfl⟩;clear g2 i2 m2 n2 hq;go_wp2
     go_loopw [11,126] (fun _ N3 wo=> ∃m:Nat,m<=x.ps.length/\N3=Iv m/\Below wp.heap.size wp wo) (fun _ N3 _=>x.ps.length-(intOf N3).toNat);case atStart=>exact ⟨0,by omega,rfl,zB⟩
     case round=>
      obtain ⟨m,hm,rfl,hr⟩:=hrel;have cI:=hr.size;have cJ:=ZO.out;have L7:=hid (N0.out.trans (hr.mono (by omega)));by_cases KI:m<x.ps.length
      ·obtain ⟨e1,o1,p,u1,rfl,aO,I3,ZR,N1,st1⟩:=aD.out.at_ KI;obtain ⟨e2,o2,p',u2,rfl,ZQ,I4,ZS,N2,st2⟩:=aE.out.at_ KI;rw[I3] at I4;obtain rfl:p=p':=(by simpa using I4);obtain ⟨U1,k1,rfl⟩:=st1.form;obtain ⟨U2,k2,rfl⟩:=st2.form;have Y2:p.vals.length<=1073741824:=by
        have h1:=Bp (List.mem_of_mem_drop (show p∈x.ps.drop m by rw[I3];simp));have h2:=C3 p.vals;have h3:=DC p;omega
       have q1:=(L7.out.cell (p:=(Ad e1 (o1+m*2+1))) (by show e1<_;omega)).trans N1;have q2:=(L7.out.cell (p:=(Ad e2 (o2+m*2+1))) (by show e2<_;omega)).trans N2;have cK:=(L7.out.cell (p:=(Ad e1 (o1+m*2))) (by show e1<_;omega)).trans ZR;have cL:=(L7.out.cell (p:=(Ad e2 (o2+m*2))) (by show e2<_;omega)).trans ZS;have g2r:=(hr.cell (p:=(Ad b6 2)) aQ).trans g2q;have i2r:=(hr.cell (p:=(Ad b7 2)) aR).trans i2q;have Y3:=hid (show CD wr wr.heap.size (vP U1 p k1) p.vals from st1.keep (L7.out.mono (show W0.heap.size<=_ by omega)) (by omega));have YB:=hid (show CD wr wr.heap.size (vP U2 p k2) p.vals from st2.keep (L7.out.mono (show W0.heap.size<=_ by omega)) (by omega));have cM:(m:Int)<(x.ps.length:Int):=(by omega);clear I3 I4 N1 N2 ZR ZS st1 st2 g2q i2q;go_wp2_with fail
       go_quiet ((go_at_call 23;exact Fh _ U1 k1 U2 k2 Y3.out YB.out Y2))
       all_goals
        go_wp2
        go_roundw;case rel=>exact ⟨m+1,by omega,by go_num,JZ hr _⟩
        case measure=>simp[intOf];omega
      ·go_wp2
       go_roundw;case rel=>exact ⟨k+1,by omega,by go_num,aP.out.trans (hr.mono (by omega))⟩
       case measure=>simp[intOf];omega
  ·go_wp2
   go_ret;exact ⟨rfl,P7 (Z5▸AL) hb⟩
end
section
attribute [local go_sem ↓] zPe zQe
attribute [local go_sem] XR WH XS WI We Xm Xp
theorem R8 {S:Nat->Prop} (x:It) (A:Option Addr) (c:Nat) (A':Option Addr) (c':Nat) (w:World) (hL:LD w) (hS:sW S w) (hp:Ah w S (pP A x c) x.ps) (hl:BY w S (lP A' x c') x.val.parts) (hT:Y4 x) (E0: ∀c∈Xs x.name,c≠32) (hb: ∀k∈[BV,CN,Bn,K8,Du,Dv,Cr,Gb,Gc,AZ,II,YX,Ef],Xs x.name≠k):
 Calls prog 17 #[Yp x (pP A x c) (lP A' x c')] w (BJ S w (CE (Xs x.name) x)):=by
 have A3:=hid hb;clear hb;refine (CS (S:=S) x A c A' c' w).pf ?_ hL hS hp hl hT E0;intro HT HR DD G1 N HS E1 HN V5 ia ib ic id w3 E HE AL HM hB HV HP F4 G2 HW AN E2;obtain ⟨c0,c1,c2,c3,c4,c5,c6,c7,c8,c9,c10,c11,c12,c13,c14,A9⟩:=HM.out.c;obtain ⟨d0,d1,d2,d3,d4,d5,d6,d7,d8,d9,HI,HJ⟩:=HV.out.c;rw[HN.out] at A3;have n0:(N==[80,72,79,84,79])=false:=by rw[beq_eq_false_iff_ne];exact A3.out BV (by simp)
 have n1:(N==[76,79,71,79])=false:=by rw[beq_eq_false_iff_ne];exact A3.out CN (by simp)
 have n2:(N==[83,79,85,78,68])=false:=by rw[beq_eq_false_iff_ne];exact A3.out Bn (by simp)
 have n3:(N==[75,69,89])=false:=by rw[beq_eq_false_iff_ne];exact A3.out K8 (by simp)
 have n4:(N==[65,71,69,78,84])=false:=by rw[beq_eq_false_iff_ne];exact A3.out Du (by simp)
 have n5:(N==[67,76,65,83,83])=false:=by rw[beq_eq_false_iff_ne];exact A3.out Dv (by simp)
 have n6:(N==[77,65,73,76,69,82])=false:=by rw[beq_eq_false_iff_ne];exact A3.out Cr (by simp)
 have n7:(N==[78,65,77,69])=false:=by rw[beq_eq_false_iff_ne];exact A3.out Gb (by simp)
 have n8:(N==[83,79,82,84,45,83,84,82,73,78,71])=false:=by rw[beq_eq_false_iff_ne];exact A3.out Gc (by simp)
 have n9:(N==[76,65,66,69,76])=false:=by rw[beq_eq_false_iff_ne];exact A3.out AZ (by simp)
 have n10:(N==[71,69,79])=false:=by rw[beq_eq_false_iff_ne];exact A3.out II (by simp)
 have n11:(N==[84,90])=false:=by rw[beq_eq_false_iff_ne];exact A3.out YX (by simp)
 have n12:(N==[85,73,68])=false:=by rw[beq_eq_false_iff_ne];exact A3.out Ef (by simp)
 have E3:Eu N=false:=by unfold Eu;simp only[Du,Dv,Cr,Gb,Gc,AZ,n4,n5,n6,n7,n8,n9];rfl
 have B1:=hid (show CE (Xs x.name) x=some x by rw[HN.out];unfold CE KH Eu;simp only[BV,CN,Bn,K8,Du,Dv,Cr,Gb,Gc,AZ,II,YX,Ef,n0,n1,n2,n3,n4,n5,n6,n7,n8,n9,n10,n11,n12];rfl);have E9:=hid (B9 N false E1.out E3 w3 E2);have F1:=hid (D4 N);clear HN A3;go_upto_region 18 with fail;clear c0 c1 c2 c3 c4 c5 c6 c7 c8 c9 c10 c11 c12 c13 c14 A9;obtain ⟨c0,c1,c2,c3,c4,c5,c6,c7,c8,c9,c10,c11,c12,c13,c14,A9⟩:=HM.out.c;go_wp2_with fail;rw[F1.out];refine E9.out.mono ?_;rintro e w4 ⟨rfl,rfl⟩;go_wp2
 refine bodyPost_ret (AG (x:=x) (pv:=(pP A x c)) (qv:=(lP A' x c')) (G:=w.heap.size+1) rfl (by first|(simp;done)|rfl|simp[go_sem]) (Yx.row hB rfl)) rfl ?_;have FB:=AC AL (show w.heap.size<=w.heap.size+1 by omega) (Yv x (pP A x c) (lP A' x c'));refine Aq B1.out ?_ ?_ FB
 ·exact HP.out.move (fun k hk=>AH _ _ _ (by have:=hS k hk;omega)) fun k hk=> .inl hk
 ·exact F4.out.move (fun k hk=>AH _ _ _ (by have:=hS k hk;omega)) fun k hk=> .inl hk
end
section
attribute [local go_sem ↓] zPe zQe
attribute [local go_sem] XR WH XS WI We Xm Xp
theorem VF {S:Nat->Prop} (x:It) (A:Option Addr) (c:Nat) (A':Option Addr) (c':Nat) (w:World) (hL:LD w) (hS:sW S w) (hp:Ah w S (pP A x c) x.ps) (hl:BY w S (lP A' x c') x.val.parts) (hT:Y4 x) (E0: ∀c∈Xs x.name,c≠32) (hb:Xs x.name=YX):
 Calls prog 17 #[Yp x (pP A x c) (lP A' x c')] w (BJ S w (CE (Xs x.name) x)):=by
 have A3:=hid hb;clear hb;refine (CS (S:=S) x A c A' c' w).pf ?_ hL hS hp hl hT E0;intro HT HR DD G1 N HS E1 HN V5 ia ib ic id w3 E HE AL HM hB HV HP F4 G2 HW AN E2;obtain ⟨c0,c1,c2,c3,c4,c5,c6,c7,c8,c9,c10,c11,c12,c13,c14,A9⟩:=HM.out.c;obtain ⟨d0,d1,d2,d3,d4,d5,d6,d7,d8,d9,HI,HJ⟩:=HV.out.c;rw[HN.out] at A3;obtain rfl:=A3.out;have E3:Eu YX=false:=(by decide);have B1:=hid (show CE (Xs x.name) x=some (CO x) by rw[HN.out];unfold CE;rw[if_neg (by decide),if_neg (by decide),if_neg (by decide),if_pos (by decide)]);have E9:=hid (B9 YX false E1.out E3 w3 E2);have F1:=hid (D4 YX);clear HN A3;go_upto_block 0 with fail;go_cut [] from 23 to 236 (fun wz=> ∃(A6:Option Addr) (n6 k6:Nat),Hid (Yx wz w.heap.size {x with ps:=noP AA x.ps++[⟨AA,[B6 x.val.type]⟩]} (.slice A6 n6 k6) (lP A' x c')/\Ah wz (fun k=>S k∨(w.heap.size+2<=k/\k<wz.heap.size)) (.slice A6 n6 k6) (noP AA x.ps++[⟨AA,[B6 x.val.type]⟩])/\Yt wz (w.heap.size+1) 15/\Below w.heap.size w wz));case first=>
  go_upto_region 18 with fail;clear c0 c1 c2 c3 c4 c5 c6 c7 c8 c9 c10 c11 c12 c13 c14 A9;obtain ⟨c0,c1,c2,c3,c4,c5,c6,c7,c8,c9,c10,c11,c12,c13,c14,A9⟩:=HM.out.c;go_wp2_with fail;(try rw[show (⟨#[32]⟩++⟨#[84,90]⟩++⟨#[32]⟩:ByteArray)=⟨(YD YX).toArray⟩ from rfl]);(try rw[F1.out]);refine E9.out.mono ?_;rintro e w4 ⟨rfl,G4⟩;obtain rfl:=G4.symm;go_upto_region 33 with fail;have HK:=hid (show Ah w3.drew S (pP A x c) x.ps from HP.out);have HY:=hid (HM.out.drew);have B2:Yt w3.drew (w.heap.size+1) 15:=hB;have d0d:w3.drew.cell? (Ad V5 0)=some (Iv x.val.type):=d0;have F2:=hid (show∀k,S k->k<w3.drew.heap.size from fun k hk=>by have:=hS k hk;simp;omega);have HZ:w.heap.size+3<=w3.drew.heap.size:=G2;have DA:V5<w3.drew.heap.size:=AN;have H9:=hid AL.drew;have HA:=hid DD;have Z0:=hid (show (noP AA x.ps).length<=100000 from Nat.le_trans (List.length_filter_le _ _) DD);go_region_with (first
   |(go_at_call 30;refine (CJ x.ps (pP A x c) w3.drew F2.out HK.out HA.out G1.out).mono ?_;rintro e4 wk ⟨A4,n4,k4,rfl,OV,H3⟩;have Z1:=H3.size;have f0:=(H3.cell (p:=(Ad V5 0)) DA).trans d0d;have PB:=hid H3;have Z2:=hid OV;clear OV H3)
   |(go_at_call 36;refine (Gs x.val.type wk (hL.below (H9.out.trans (PB.out.mono (by omega))))).mono ?_;rintro e5 wj ⟨rfl,DT⟩;have L8:=DT.size;have PF:=hid DT;clear DT)
   |(go_at_call 16;refine (Jh (S:=fun k=>S k∨(w3.drew.heap.size<=k/\k<wk.heap.size)) (noP AA x.ps) (B6 x.val.type) (.slice A4 n4 k4) wj (fun k hk=>by rcases hk with hk|hk;(· have:=F2.out k hk;omega);(· omega)) (Z2.out.move (fun k hk=>PF.out.block k (by rcases hk with hk|hk;(· have:=F2.out k hk;omega);(· omega))) fun _ h=>h) Z0.out).mono ?_;rintro e6 w6 ⟨A6,n6,k6,rfl,F3,A8⟩;have HH:=hid F3;have ZT:=A8.size;have A7:=hid (PB.out.trans ((PF.out.trans (A8.mono L8)).mono Z1));have HQ:=A7.out.size;have B0:=HY.out.keep A7.out (show w.heap.size<_ by omega);have q6:=B0.frozen 2;have k6c:=B0.c.c2;clear F3 A8))
  all_goals
   go_wp2
   go_meet;refine ⟨A6,n6,k6,hid ⟨B0.setP (noP AA x.ps++[⟨AA,[B6 x.val.type]⟩]) (.slice A6 n6 k6), ?_,(B2.low A7.out (by omega)).setCell _ _ (by simp),(H9.out.trans (A7.out.mono (show w.heap.size<=_ by omega))).setCell (p:=(Ad w.heap.size 2)) zL _⟩⟩;refine HH.out.move (fun k hk=>heap_setCell_other w6 _ k _ ?_) fun k hk=> ?_
   ·rcases hk with (hk|hk)|hk
    ·have:=hS k hk;simp only;omega
    ·simp only;omega
    ·simp only;omega
   ·rcases hk with (hk|hk)|hk
    ·exact .inl hk
    ·exact .inr ⟨by omega,by simp[World.setCell];omega⟩
    ·exact .inr ⟨by omega,by simp[World.setCell];omega⟩
 obtain ⟨A6,n6,k6,HC⟩:=hcut;have HF:=HC.out.1;have R0:=hid HC.out.2.1;have S1:=HC.out.2.2.1;have H0:=HC.out.2.2.2;have SS:=hid (show BY wc S (lP A' x c') x.val.parts from F4.out.move (fun k hk=>(H0.block k (hS k hk)).trans (AL.block k (hS k hk)).symm) fun _ h=>h);clear c0 c1 c2 c3 c4 c5 c6 c7 c8 c9 c10 c11 c12 c13 c14 A9;obtain ⟨c0,c1,c2,c3,c4,c5,c6,c7,c8,c9,c10,c11,c12,c13,c14,A9⟩:=HF.c;simp only at c0 c1 c2 c3 c4 c5 c6 c7 c8 c9 c10 c11 c12 c13 c14;go_wp2
 refine bodyPost_ret (AG (x:={x with ps:=noP AA x.ps++[⟨AA,[B6 x.val.type]⟩]}) (pv:= .slice A6 n6 k6) (qv:=(lP A' x c')) (G:=w.heap.size+1) rfl (by first|(simp;done)|rfl|simp[go_sem]) (Yx.row S1 rfl)) rfl ?_;have FB:=AC H0 (show w.heap.size<=w.heap.size+1 by omega) (Yv {x with ps:=noP AA x.ps++[⟨AA,[B6 x.val.type]⟩]} (.slice A6 n6 k6) (lP A' x c'));refine Aq (by rw[B1.out];rfl) ?_ ?_ FB
 ·refine R0.out.move (fun k hk=>AH _ _ _ ?_) fun k hk=> ?_
  ·rcases hk with hk|hk
   ·have:=hS k hk;omega
   ·omega
  ·rcases hk with hk|hk
   ·exact .inl hk
   ·exact .inr ⟨by omega,by simp;omega⟩
 ·exact SS.out.move (fun k hk=>AH _ _ _ (by have:=hS k hk;omega)) fun k hk=> .inl hk
end
section
attribute [local go_sem ↓] zPe zQe
attribute [local go_sem] XR WH XS WI We Xm Xp
theorem Wg {S:Nat->Prop} (x:It) (A:Option Addr) (c:Nat) (A':Option Addr) (c':Nat) (w:World) (hL:LD w) (hS:sW S w) (hp:Ah w S (pP A x c) x.ps) (hl:BY w S (lP A' x c') x.val.parts) (hT:Y4 x) (E0: ∀c∈Xs x.name,c≠32) (hb:Xs x.name=Ef) (ht:x.val.type≠1):
 Calls prog 17 #[Yp x (pP A x c) (lP A' x c')] w (BJ S w (CE (Xs x.name) x)):=by
 have A3:=hid hb;have t1:(x.val.type==1)=false:=(by simpa using ht);have aS:=hid ht;clear hb ht;refine (CS (S:=S) x A c A' c' w).pf ?_ hL hS hp hl hT E0;intro HT HR DD G1 N HS E1 HN V5 ia ib ic id w3 E HE AL HM hB HV HP F4 G2 HW AN E2;obtain ⟨c0,c1,c2,c3,c4,c5,c6,c7,c8,c9,c10,c11,c12,c13,c14,A9⟩:=HM.out.c;obtain ⟨d0,d1,d2,d3,d4,d5,d6,d7,d8,d9,HI,HJ⟩:=HV.out.c;rw[HN.out] at A3;obtain rfl:=A3.out;have E3:Eu Ef=false:=(by decide);have B1:=hid (show CE (Xs x.name) x=some (CO x) by rw[HN.out];unfold CE;rw[if_neg (by decide),if_neg (by decide),if_neg (by decide),if_neg (by decide),if_pos (by decide),if_neg (fun h=>aS.out h.1)]);have E9:=hid (B9 Ef false E1.out E3 w3 E2);have F1:=hid (D4 Ef);clear HN A3;go_upto_block 0 with fail;go_cut [] from 23 to 236 (fun wz=> ∃(A6:Option Addr) (n6 k6:Nat),Hid (Yx wz w.heap.size {x with ps:=noP AA x.ps++[⟨AA,[B6 x.val.type]⟩]} (.slice A6 n6 k6) (lP A' x c')/\Ah wz (fun k=>S k∨(w.heap.size+2<=k/\k<wz.heap.size)) (.slice A6 n6 k6) (noP AA x.ps++[⟨AA,[B6 x.val.type]⟩])/\Yt wz (w.heap.size+1) 15/\Below w.heap.size w wz));case first=>
  go_upto_region 18 with fail;clear c0 c1 c2 c3 c4 c5 c6 c7 c8 c9 c10 c11 c12 c13 c14 A9;obtain ⟨c0,c1,c2,c3,c4,c5,c6,c7,c8,c9,c10,c11,c12,c13,c14,A9⟩:=HM.out.c;go_wp2_with fail;(try rw[show (⟨#[32]⟩++⟨#[85,73,68]⟩++⟨#[32]⟩:ByteArray)=⟨(YD Ef).toArray⟩ from rfl]);(try rw[F1.out]);refine E9.out.mono ?_;rintro e w4 ⟨rfl,G4⟩;obtain rfl:=G4.symm;go_upto_region 33 with fail;have HK:=hid (show Ah w3.drew S (pP A x c) x.ps from HP.out);have HY:=hid (HM.out.drew);have B2:Yt w3.drew (w.heap.size+1) 15:=hB;have d0d:w3.drew.cell? (Ad V5 0)=some (Iv x.val.type):=d0;have F2:=hid (show∀k,S k->k<w3.drew.heap.size from fun k hk=>by have:=hS k hk;simp;omega);have HZ:w.heap.size+3<=w3.drew.heap.size:=G2;have DA:V5<w3.drew.heap.size:=AN;have H9:=hid AL.drew;have HA:=hid DD;have Z0:=hid (show (noP AA x.ps).length<=100000 from Nat.le_trans (List.length_filter_le _ _) DD);go_region_with (first
   |(go_at_call 30;refine (CJ x.ps (pP A x c) w3.drew F2.out HK.out HA.out G1.out).mono ?_;rintro e4 wk ⟨A4,n4,k4,rfl,OV,H3⟩;have Z1:=H3.size;have f0:=(H3.cell (p:=(Ad V5 0)) DA).trans d0d;have PB:=hid H3;have Z2:=hid OV;clear OV H3)
   |(go_at_call 36;refine (Gs x.val.type wk (hL.below (H9.out.trans (PB.out.mono (by omega))))).mono ?_;rintro e5 wj ⟨rfl,DT⟩;have L8:=DT.size;have PF:=hid DT;clear DT)
   |(go_at_call 16;refine (Jh (S:=fun k=>S k∨(w3.drew.heap.size<=k/\k<wk.heap.size)) (noP AA x.ps) (B6 x.val.type) (.slice A4 n4 k4) wj (fun k hk=>by rcases hk with hk|hk;(· have:=F2.out k hk;omega);(· omega)) (Z2.out.move (fun k hk=>PF.out.block k (by rcases hk with hk|hk;(· have:=F2.out k hk;omega);(· omega))) fun _ h=>h) Z0.out).mono ?_;rintro e6 w6 ⟨A6,n6,k6,rfl,F3,A8⟩;have HH:=hid F3;have ZT:=A8.size;have A7:=hid (PB.out.trans ((PF.out.trans (A8.mono L8)).mono Z1));have HQ:=A7.out.size;have B0:=HY.out.keep A7.out (show w.heap.size<_ by omega);have q6:=B0.frozen 2;have k6c:=B0.c.c2;clear F3 A8))
  all_goals
   go_wp2
   go_meet;refine ⟨A6,n6,k6,hid ⟨B0.setP (noP AA x.ps++[⟨AA,[B6 x.val.type]⟩]) (.slice A6 n6 k6), ?_,(B2.low A7.out (by omega)).setCell _ _ (by simp),(H9.out.trans (A7.out.mono (show w.heap.size<=_ by omega))).setCell (p:=(Ad w.heap.size 2)) zL _⟩⟩;refine HH.out.move (fun k hk=>heap_setCell_other w6 _ k _ ?_) fun k hk=> ?_
   ·rcases hk with (hk|hk)|hk
    ·have:=hS k hk;simp only;omega
    ·simp only;omega
    ·simp only;omega
   ·rcases hk with (hk|hk)|hk
    ·exact .inl hk
    ·exact .inr ⟨by omega,by simp[World.setCell];omega⟩
    ·exact .inr ⟨by omega,by simp[World.setCell];omega⟩
 obtain ⟨A6,n6,k6,HC⟩:=hcut;have HF:=HC.out.1;have R0:=hid HC.out.2.1;have S1:=HC.out.2.2.1;have H0:=HC.out.2.2.2;have SS:=hid (show BY wc S (lP A' x c') x.val.parts from F4.out.move (fun k hk=>(H0.block k (hS k hk)).trans (AL.block k (hS k hk)).symm) fun _ h=>h);clear c0 c1 c2 c3 c4 c5 c6 c7 c8 c9 c10 c11 c12 c13 c14 A9;obtain ⟨c0,c1,c2,c3,c4,c5,c6,c7,c8,c9,c10,c11,c12,c13,c14,A9⟩:=HF.c;simp only at c0 c1 c2 c3 c4 c5 c6 c7 c8 c9 c10 c11 c12 c13 c14;go_wp2
 refine bodyPost_ret (AG (x:={x with ps:=noP AA x.ps++[⟨AA,[B6 x.val.type]⟩]}) (pv:= .slice A6 n6 k6) (qv:=(lP A' x c')) (G:=w.heap.size+1) rfl (by first|(simp;done)|rfl|simp[go_sem]) (Yx.row S1 rfl)) rfl ?_;have FB:=AC H0 (show w.heap.size<=w.heap.size+1 by omega) (Yv {x with ps:=noP AA x.ps++[⟨AA,[B6 x.val.type]⟩]} (.slice A6 n6 k6) (lP A' x c'));refine Aq (by rw[B1.out];rfl) ?_ ?_ FB
 ·refine R0.out.move (fun k hk=>AH _ _ _ ?_) fun k hk=> ?_
  ·rcases hk with hk|hk
   ·have:=hS k hk;omega
   ·omega
  ·rcases hk with hk|hk
   ·exact .inl hk
   ·exact .inr ⟨by omega,by simp;omega⟩
 ·exact SS.out.move (fun k hk=>AH _ _ _ (by have:=hS k hk;omega)) fun k hk=> .inl hk
end
section
attribute [local go_sem ↓] zPe zQe
attribute [local go_sem] XR WH XS WI We Xm Xp
theorem Wj {S:Nat->Prop} (x:It) (A:Option Addr) (c:Nat) (A':Option Addr) (c':Nat) (w:World) (hL:LD w) (hS:sW S w) (hp:Ah w S (pP A x c) x.ps) (hl:BY w S (lP A' x c') x.val.parts) (hT:Y4 x) (E0: ∀c∈Xs x.name,c≠32) (hb:Xs x.name=Ef) (ht:x.val.type=1) (hu:DG x.val.text=0):
 Calls prog 17 #[Yp x (pP A x c) (lP A' x c')] w (BJ S w (CE (Xs x.name) x)):=by
 have A3:=hid hb;have t1:(x.val.type==1)=true:=(by simpa using ht);have aT:=hid ht;have aU:=hid hu;have u1:(DG x.val.text==0)=true:=(by simpa using hu);clear hb ht hu;refine (CS (S:=S) x A c A' c' w).pf ?_ hL hS hp hl hT E0;intro HT HR DD G1 N HS E1 HN V5 ia ib ic id w3 E HE AL HM hB HV HP F4 G2 HW AN E2;obtain ⟨c0,c1,c2,c3,c4,c5,c6,c7,c8,c9,c10,c11,c12,c13,c14,A9⟩:=HM.out.c;obtain ⟨d0,d1,d2,d3,d4,d5,d6,d7,d8,d9,HI,HJ⟩:=HV.out.c;rw[HN.out] at A3;obtain rfl:=A3.out;have E3:Eu Ef=false:=(by decide);have B1:=hid (show CE (Xs x.name) x=some {x with ps:=noP AA x.ps,val:={x.val with type:=4}} by rw[HN.out];unfold CE;rw[if_neg (by decide),if_neg (by decide),if_neg (by decide),if_neg (by decide),if_pos (by decide),if_pos ⟨aT.out,aU.out⟩]);have E9:=hid (B9 Ef false E1.out E3 w3 E2);have F1:=hid (D4 Ef);clear HN A3;go_upto_block 0 with fail;go_cut [] from 23 to 236 (fun wz=> ∃(A6:Option Addr) (n6 k6:Nat),Hid (Yx wz w.heap.size {x with ps:=noP AA x.ps,val:={x.val with type:=4}} (.slice A6 n6 k6) (lP A' x c')/\Ah wz (fun k=>S k∨(w.heap.size+2<=k/\k<wz.heap.size)) (.slice A6 n6 k6) (noP AA x.ps)/\Yt wz (w.heap.size+1) 15/\Below w.heap.size w wz));case first=>
  go_upto_region 18 with fail;clear c0 c1 c2 c3 c4 c5 c6 c7 c8 c9 c10 c11 c12 c13 c14 A9;obtain ⟨c0,c1,c2,c3,c4,c5,c6,c7,c8,c9,c10,c11,c12,c13,c14,A9⟩:=HM.out.c;go_wp2_with fail;(try rw[show (⟨#[32]⟩++⟨#[85,73,68]⟩++⟨#[32]⟩:ByteArray)=⟨(YD Ef).toArray⟩ from rfl]);(try rw[F1.out]);refine E9.out.mono ?_;rintro e w4 ⟨rfl,G4⟩;obtain rfl:=G4.symm;dsimp only;go_upto_region 29 with fail;clear c0 c1 c2 c3 c4 c5 c6 c7 c8 c9 c10 c11 c12 c13 c14 A9;obtain ⟨c0,c1,c2,c3,c4,c5,c6,c7,c8,c9,c10,c11,c12,c13,c14,A9⟩:=HM.out.c;go_wp2_with fail;refine (DV x.val.text w3 (by have:=HT.out.text;omega)).mono ?_;rintro e w4 ⟨⟨p9,rfl⟩,H3⟩;dsimp only;go_wp2_with fail;refine (CU _ p9 w4).mono ?_;rintro e w5 ⟨rfl,W1⟩;rw[u1];dsimp only;have DT:Below w3.heap.size w3 w5:=W1▸(H3.trans (zA.mono H3.size));clear W1 H3;have L8:=DT.size;replace AL:=AL.trans (DT.mono (show w.heap.size<=w3.heap.size by omega));replace HM:=hid (HM.out.keep DT (by omega));replace hB:=hB.low DT (by omega);replace HV:=hid (HV.out.same (DT.block V5 (by omega)));replace HP:=hid (HP.out.move (w':=w5) (S':=S) (fun k hk=>DT.block k (by have:=hS k hk;omega)) fun _ h=>h);replace F4:=hid (F4.out.move (w':=w5) (S':=S) (fun k hk=>DT.block k (by have:=hS k hk;omega)) fun _ h=>h);replace G2:w.heap.size+3<=w5.heap.size:=(by omega);replace AN:V5<w5.heap.size:=(by omega);clear c0 c1 c2 c3 c4 c5 c6 c7 c8 c9 c10 c11 c12 c13 c14 A9 DT;clear d0 d1 d2 d3 d4 d5 d6 d7 d8 d9 HI HJ;obtain ⟨c0,c1,c2,c3,c4,c5,c6,c7,c8,c9,c10,c11,c12,c13,c14,A9⟩:=HM.out.c;obtain ⟨d0,d1,d2,d3,d4,d5,d6,d7,d8,d9,HI,HJ⟩:=HV.out.c;go_upto_region 30 with fail;have F2:=hid (show∀k,S k->k<w5.heap.size from fun k hk=>by have:=hS k hk;omega);have HA:=hid DD;have cN:=hid AL;go_wp2_with fail;refine (CJ x.ps (pP A x c) w5 F2.out HP.out HA.out G1.out).mono ?_;rintro e4 w6 ⟨A6,n6,k6,rfl,F3,A8⟩;dsimp only;have HH:=hid F3;have A7:=hid A8;have HQ:=A7.out.size;have B0:=HM.out.keep A7.out (show w.heap.size<_ by omega);have q6:=B0.frozen 2;have q6':=B0.frozen 3;have k6c:=B0.c.c2;have k6d:=B0.c.c3;clear F3 A8;go_wp2
  go_meet;refine ⟨A6,n6,k6,hid ⟨(B0.setP (noP AA x.ps) (.slice A6 n6 k6)).setT 4, ?_,((hB.low A7.out (by omega)).setCell _ _ (by simp)).setCell _ _ (by simp),((AL.trans (A7.out.mono (show w.heap.size<=_ by omega))).setCell (p:=(Ad w.heap.size 2)) zL _).setCell (p:=(Ad w.heap.size 3)) zL _⟩⟩;refine HH.out.move (fun k hk=>(heap_setCell_other _ _ k _ ?_).trans (heap_setCell_other w6 _ k _ ?_)) fun k hk=> ?_
  ·rcases hk with hk|hk
   ·have:=hS k hk;simp only;omega
   ·simp only;omega
  ·rcases hk with hk|hk
   ·have:=hS k hk;simp only;omega
   ·simp only;omega
  ·rcases hk with hk|hk
   ·exact .inl hk
   ·exact .inr ⟨by omega,by simp[World.setCell];omega⟩
 obtain ⟨A6,n6,k6,HC⟩:=hcut;have HF:=HC.out.1;have R0:=hid HC.out.2.1;have S1:=HC.out.2.2.1;have H0:=HC.out.2.2.2;have SS:=hid (show BY wc S (lP A' x c') x.val.parts from F4.out.move (fun k hk=>(H0.block k (hS k hk)).trans (AL.block k (hS k hk)).symm) fun _ h=>h);clear c0 c1 c2 c3 c4 c5 c6 c7 c8 c9 c10 c11 c12 c13 c14 A9;obtain ⟨c0,c1,c2,c3,c4,c5,c6,c7,c8,c9,c10,c11,c12,c13,c14,A9⟩:=HF.c;simp only at c0 c1 c2 c3 c4 c5 c6 c7 c8 c9 c10 c11 c12 c13 c14;go_wp2
 refine bodyPost_ret (AG (x:={x with ps:=noP AA x.ps,val:={x.val with type:=4}}) (pv:= .slice A6 n6 k6) (qv:=(lP A' x c')) (G:=w.heap.size+1) rfl (by first|(simp;done)|rfl|simp[go_sem]) (Yx.row S1 rfl)) rfl ?_;have FB:=AC H0 (show w.heap.size<=w.heap.size+1 by omega) (Yv {x with ps:=noP AA x.ps,val:={x.val with type:=4}} (.slice A6 n6 k6) (lP A' x c'));refine Aq (by rw[B1.out]) ?_ ?_ FB
 ·refine R0.out.move (fun k hk=>AH _ _ _ ?_) fun k hk=> ?_
  ·rcases hk with hk|hk
   ·have:=hS k hk;omega
   ·omega
  ·rcases hk with hk|hk
   ·exact .inl hk
   ·exact .inr ⟨by omega,by simp;omega⟩
 ·exact SS.out.move (fun k hk=>AH _ _ _ (by have:=hS k hk;omega)) fun k hk=> .inl hk
end
section
attribute [local go_sem ↓] zPe zQe
attribute [local go_sem] XR WH XS WI We Xm Xp
theorem Wk {S:Nat->Prop} (x:It) (A:Option Addr) (c:Nat) (A':Option Addr) (c':Nat) (w:World) (hL:LD w) (hS:sW S w) (hp:Ah w S (pP A x c) x.ps) (hl:BY w S (lP A' x c') x.val.parts) (hT:Y4 x) (E0: ∀c∈Xs x.name,c≠32) (hb:Eu (Xs x.name)=true) (ht:x.val.type=1):
 Calls prog 17 #[Yp x (pP A x c) (lP A' x c')] w (BJ S w (CE (Xs x.name) x)):=by
 have A3:=hid hb;have t1:(x.val.type==1)=true:=(by simp[ht]);have t8:(x.val.type==8)=false:=(by simp[ht]);have I0:=hid (show Cx (Xs x.name) x=some ⟨x.group,YY++Xs x.name,noP AA x.ps,⟨8,Cz x.val.text,[],default,0⟩⟩ by unfold Cx;rw[if_pos (.inl ht),if_pos ht]);clear hb ht;refine (CS (S:=S) x A c A' c' w).pf ?_ hL hS hp hl hT E0;intro HT HR DD G1 N HS E1 HN V5 ia ib ic id w3 E HE AL HM hB HV HP F4 G2 HW AN E2;obtain ⟨c0,c1,c2,c3,c4,c5,c6,c7,c8,c9,c10,c11,c12,c13,c14,A9⟩:=HM.out.c;obtain ⟨d0,d1,d2,d3,d4,d5,d6,d7,d8,d9,HI,HJ⟩:=HV.out.c;rw[HN.out] at A3 I0;obtain ⟨n0,n1,n2,n3⟩:=GD A3.out;have B1:=hid (show CE (Xs x.name) x=Cx N x by rw[HN.out];exact Ji A3.out);have E9:=hid (B9 N true E1.out A3.out w3 E2);have F1:=hid (D4 N);have ZU: ¬9223372036854775807<2+N.length:=(by omega);clear HN A3;simp only[BV,CN,Bn,K8] at n0 n1 n2 n3;go_upto_region 18 with fail;clear c0 c1 c2 c3 c4 c5 c6 c7 c8 c9 c10 c11 c12 c13 c14 A9;obtain ⟨c0,c1,c2,c3,c4,c5,c6,c7,c8,c9,c10,c11,c12,c13,c14,A9⟩:=HM.out.c;go_wp2_with fail;rw[F1.out];refine E9.out.mono ?_;rintro e w4 ⟨rfl,G4⟩;obtain rfl:=G4.symm;go_wp2_with fail;refine (DR x.val.text w3 (by have:=HT.out.text;omega)).mono ?_;rintro e w5 ⟨rfl,W1⟩;obtain rfl:=W1;go_upto_region 22 with fail;have HK:=hid (show Ah w3.drew S (pP A x c) x.ps from HP.out);have HY:=hid (HM.out.drew);have B2:Yt w3.drew (w.heap.size+1) 15:=hB;have d0d:w3.drew.cell? (Ad V5 0)=some (Iv x.val.type):=d0;have c0d:w3.drew.cell? (Ad w.heap.size 0)=some (Sv x.group):=c0;have F2:=hid (show∀k,S k->k<w3.drew.heap.size from fun k hk=>by have:=hS k hk;simp;omega);have HZ:w.heap.size+3<=w3.drew.heap.size:=G2;have DA:V5<w3.drew.heap.size:=AN;have H9:=hid AL.drew;have HA:=hid DD;have c2d:w3.drew.cell? (Ad w.heap.size 2)=some (pP A x c):=c2;have B3:Below w3.drew.heap.size w3.drew (w3.drew.alloc (.cells #[.string ⟨#[86,65,76,85,69]⟩] 9)):=zA;have H4:w.heap.size<w3.drew.heap.size:=(by omega);have HD:w.heap.size+1<w3.drew.heap.size:=(by omega);have A0:=(B3.cell (p:=(Ad w.heap.size 0)) H4).trans c0d;have A2:=(B3.cell (p:=(Ad w.heap.size 2)) H4).trans c2d;have AV:=(B3.cell (p:=(Ad V5 0)) DA).trans d0d;have AB:=B2.low B3 HD;have HL:=hid (show Below (w.heap.size+1) w3 w3.drew from zB.drew);have AW:=hid (HL.out.trans (B3.mono (show w.heap.size+1<=w3.drew.heap.size by omega)));have I1:V5≠w.heap.size+1:=(by omega);clear B3;refine wp_region_held_drew (S:=(fun w'=>w'.cell? (Ad w.heap.size 0)=some (Sv x.group)/\w'.cell? (Ad w.heap.size 2)=some (pP A x c)/\w'.cell? (Ad V5 0)=some (Iv x.val.type)/\Yt w' (w.heap.size+1) 15/\Below (w.heap.size+1) w3 w')) (by kernel_rfl) ⟨c0d,c2d,d0d,B2,HL.out⟩ (fun A5=> ?_);refine wpAnyH_take (i:=0) (v:= .pointer (some (Ad w.heap.size 0))) rfl (by kernel_rfl) (by kernel_rfl) (by kernel_rfl) (fun _ _ _ h=>h) (.inl ⟨by rfl,fun w' H8=> ?_⟩) A5 ?_
 ·go_split_ands;go_simp
 (try simp only[Act.put,List.getElem_toArray,List.getElem_cons_succ,List.getElem_cons_zero,List.setIfInBounds_toArray,List.set_cons_zero,List.set_cons_succ]);refine wpAnyH_take (i:=1) (v:=Sv x.group) rfl (by kernel_rfl) (by kernel_rfl) (by kernel_rfl) (fun _ _ _ h=>h) (.inl ⟨by rfl,fun w' H8=> ?_⟩) A5 ?_
 ·go_split_ands;go_simp
 (try simp only[Act.put,List.getElem_toArray,List.getElem_cons_succ,List.getElem_cons_zero,List.setIfInBounds_toArray,List.set_cons_zero,List.set_cons_succ]);refine wpAnyH_take (i:=2) (v:=Sv N) rfl (by kernel_rfl) (by kernel_rfl) (by kernel_rfl) (fun _ _ _ h=>h) (.inl ⟨by rfl,fun w' H8=> ?_⟩) A5 ?_
 ·go_split_ands;go_simp
 (try simp only[Act.put,List.getElem_toArray,List.getElem_cons_succ,List.getElem_cons_zero,List.setIfInBounds_toArray,List.set_cons_zero,List.set_cons_succ]);refine wpAnyH_take (i:=3) (v:= .string (⟨#[88,45]⟩++⟨N.toArray⟩)) rfl (by kernel_rfl) (by kernel_rfl) (by kernel_rfl) (fun _ _ _ h=>h) (.inl ⟨by rfl,fun w' H8=> ?_⟩) A5 ?_
 ·go_split_ands;go_simp
 (try simp only[Act.put,List.getElem_toArray,List.getElem_cons_succ,List.getElem_cons_zero,List.setIfInBounds_toArray,List.set_cons_zero,List.set_cons_succ]);refine wpAnyH_take (i:=4) (v:= .pointer (some (Ad w.heap.size 2))) rfl (by kernel_rfl) (by kernel_rfl) (by kernel_rfl) (fun _ _ _ h=>h) (.inl ⟨by rfl,fun w' H8=> ?_⟩) A5 ?_
 ·go_split_ands;go_simp
 (try simp only[Act.put,List.getElem_toArray,List.getElem_cons_succ,List.getElem_cons_zero,List.setIfInBounds_toArray,List.set_cons_zero,List.set_cons_succ]);refine wpAnyH_take (i:=5) (v:=(pP A x c)) rfl (by kernel_rfl) (by kernel_rfl) (by kernel_rfl) (fun _ _ _ h=>h) (.inl ⟨by rfl,fun w' H8=> ?_⟩) A5 ?_
 ·go_split_ands;go_simp
 (try simp only[Act.put,List.getElem_toArray,List.getElem_cons_succ,List.getElem_cons_zero,List.setIfInBounds_toArray,List.set_cons_zero,List.set_cons_succ]);refine wpAnyH_take (i:=8) (v:= .string ⟨(Cz x.val.text).toArray⟩) rfl (by kernel_rfl) (by kernel_rfl) (by kernel_rfl) (fun _ _ _ h=>h) (.inl ⟨by rfl,fun w' H8=> ?_⟩) A5 ?_
 ·go_split_ands;go_simp
 (try simp only[Act.put,List.getElem_toArray,List.getElem_cons_succ,List.getElem_cons_zero,List.setIfInBounds_toArray,List.set_cons_zero,List.set_cons_succ]);refine wpAnyH_take (i:=9) (v:= .agg #[Iv 8,.string ⟨(Cz x.val.text).toArray⟩,.slice none 0 0,Iv 0,Iv 0,Iv 0,Iv 0,Iv 0,Iv 0,.bool false,Iv 0,Iv 0]) rfl (by kernel_rfl) (by kernel_rfl) (by kernel_rfl) (fun _ _ _ h=>h) (.inl ⟨by rfl,fun w' H8=> ?_⟩) A5 ?_
 ·go_split_ands;go_simp
 (try simp only[Act.put,List.getElem_toArray,List.getElem_cons_succ,List.getElem_cons_zero,List.setIfInBounds_toArray,List.set_cons_zero,List.set_cons_succ]);refine wpAnyH_take (i:=11) (v:= .pointer (some (Ad V5 0))) rfl (by kernel_rfl) (by kernel_rfl) (by kernel_rfl) (fun _ _ _ h=>h) (.inl ⟨by rfl,fun w' H8=> ?_⟩) A5 ?_
 ·go_split_ands;go_simp
 (try simp only[Act.put,List.getElem_toArray,List.getElem_cons_succ,List.getElem_cons_zero,List.setIfInBounds_toArray,List.set_cons_zero,List.set_cons_succ]);refine wpAnyH_take (i:=12) (v:=Iv x.val.type) rfl (by kernel_rfl) (by kernel_rfl) (by kernel_rfl) (fun _ _ _ h=>h) (.inl ⟨by rfl,fun w' H8=> ?_⟩) A5 ?_
 ·go_split_ands;go_simp
 (try simp only[Act.put,List.getElem_toArray,List.getElem_cons_succ,List.getElem_cons_zero,List.setIfInBounds_toArray,List.set_cons_zero,List.set_cons_succ]);refine wpAnyH_take (i:=13) (v:= .bool true) rfl (by kernel_rfl) (by kernel_rfl) (by kernel_rfl) (fun _ _ _ h=>h) (.inl ⟨by rfl,fun w' H8=> ?_⟩) A5 ?_
 ·go_split_ands;go_simp
 (try simp only[Act.put,List.getElem_toArray,List.getElem_cons_succ,List.getElem_cons_zero,List.setIfInBounds_toArray,List.set_cons_zero,List.set_cons_succ]);refine wpAnyH_ready (rs:=[6]) (by kernel_rfl) (by simp) ?_;refine AllReadyH.cons rfl (fun K hK=> ?_) AllReadyH.nil;go_simp;refine hK.out _ _ ⟨A0,A2,AV,AB,AW.out⟩ (fun A5=> ?_);clear hK K;(try simp only[Act.put,List.getElem_toArray,List.getElem_cons_succ,List.getElem_cons_zero,List.setIfInBounds_toArray,List.set_cons_zero,List.set_cons_succ]);refine wpAnyH_ready (rs:=[7]) (by kernel_rfl) (by simp) ?_;refine AllReadyH.cons rfl (fun K hK=> ?_) AllReadyH.nil;go_simp;refine (CJ x.ps (pP A x c) w3.drew F2.out HK.out HA.out G1.out).mono ?_;rintro e6 w6 ⟨A6,n6,k6,rfl,F3,A8⟩;dsimp only;refine hK.out _ _ ⟨(A8.cell (p:=(Ad w.heap.size 0)) H4).trans c0d,(A8.cell (p:=(Ad w.heap.size 2)) H4).trans c2d,(A8.cell (p:=(Ad V5 0)) DA).trans d0d,B2.low A8 HD,HL.out.trans (A8.mono (show w.heap.size+1<=w3.drew.heap.size by omega))⟩ (fun A5=> ?_);clear hK K;(try simp only[Act.put,List.getElem_toArray,List.getElem_cons_succ,List.getElem_cons_zero,List.setIfInBounds_toArray,List.set_cons_zero,List.set_cons_succ]);refine wpAnyH_take (i:=10) (v:= .agg #[Sv x.group,.string (⟨#[88,45]⟩++⟨N.toArray⟩),.slice A6 n6 k6,Iv 8,.string ⟨(Cz x.val.text).toArray⟩,.slice none 0 0,Iv 0,Iv 0,Iv 0,Iv 0,Iv 0,Iv 0,.bool false,Iv 0,Iv 0]) rfl (by kernel_rfl) (by kernel_rfl) (by kernel_rfl) (fun _ _ _ h=>h) (.inl ⟨by rfl,fun w' H8=> ?_⟩) A5 ?_
 ·go_split_ands;go_simp
 (try simp only[Act.put,List.getElem_toArray,List.getElem_cons_succ,List.getElem_cons_zero,List.setIfInBounds_toArray,List.set_cons_zero,List.set_cons_succ]);refine wpAnyH_take (i:=14) (v:= .bool true) rfl (by kernel_rfl) (by kernel_rfl) (by kernel_rfl) (fun _ _ _ h=>h) (.inl ⟨by rfl,fun w' H8=> ?_⟩) A5 ?_
 ·go_split_ands;go_simp
 (try simp only[Act.put,List.getElem_toArray,List.getElem_cons_succ,List.getElem_cons_zero,List.setIfInBounds_toArray,List.set_cons_zero,List.set_cons_succ]);refine wpAnyH_take (i:=15) (v:=undef) rfl (by kernel_rfl) (by kernel_rfl) (by kernel_rfl) (fun _ _ _ h=>h) (.inr ⟨by kernel_rfl,rfl⟩) A5 ?_;(try simp only[Act.put,List.getElem_toArray,List.getElem_cons_succ,List.getElem_cons_zero,List.setIfInBounds_toArray,List.set_cons_zero,List.set_cons_succ]);refine wpAnyH_take (i:=16) (v:=undef) rfl (by kernel_rfl) (by kernel_rfl) (by kernel_rfl) (fun _ _ _ h=>h) (.inr ⟨by kernel_rfl,rfl⟩) A5 ?_;(try simp only[Act.put,List.getElem_toArray,List.getElem_cons_succ,List.getElem_cons_zero,List.setIfInBounds_toArray,List.set_cons_zero,List.set_cons_succ]);refine wpAnyH_take (i:=17) (v:=undef) rfl (by kernel_rfl) (by kernel_rfl) (by kernel_rfl) (fun _ _ _ h=>h) (.inr ⟨by kernel_rfl,rfl⟩) A5 ?_;(try simp only[Act.put,List.getElem_toArray,List.getElem_cons_succ,List.getElem_cons_zero,List.setIfInBounds_toArray,List.set_cons_zero,List.set_cons_succ]);refine wpAnyH_take (i:=18) (v:= .bool true) rfl (by kernel_rfl) (by kernel_rfl) (by kernel_rfl) (fun _ _ _ h=>h) (.inl ⟨by rfl,fun w' H8=> ?_⟩) A5 ?_
 ·go_split_ands;go_simp
 (try simp only[Act.put,List.getElem_toArray,List.getElem_cons_succ,List.getElem_cons_zero,List.setIfInBounds_toArray,List.set_cons_zero,List.set_cons_succ]);refine wpAnyH_ready (rs:=[19]) (by kernel_rfl) (by simp) ?_;refine AllReadyH.cons rfl (fun K hK=> ?_) AllReadyH.nil;go_simp;refine hK.out _ _ (by go_split_ands;exact ⟨AO _ ‹_› (by omega),AO _ ‹_› (by omega),AO _ ‹_› I1,Yt.setRow ‹_› _ rfl,AC ‹_› zL _⟩) (fun A5=> ?_);clear hK K;(try simp only[Act.put,List.getElem_toArray,List.getElem_cons_succ,List.getElem_cons_zero,List.setIfInBounds_toArray,List.set_cons_zero,List.set_cons_succ]);refine wpAnyH_take (i:=20) (v:= .bool true) rfl (by kernel_rfl) (by kernel_rfl) (by kernel_rfl) (fun _ _ _ h=>h) (.inl ⟨by rfl,fun w' H8=> ?_⟩) A5 ?_
 ·go_split_ands;go_simp
 (try simp only[Act.put,List.getElem_toArray,List.getElem_cons_succ,List.getElem_cons_zero,List.setIfInBounds_toArray,List.set_cons_zero,List.set_cons_succ]);refine wpAnyH_done (by kernel_rfl) ?_ _;have HH:=hid F3;have A7:=hid A8;have HQ:=A7.out.size;have T5:=B2.low A7.out (show w.heap.size+1<_ by omega);all_goals
  go_wp2
  refine bodyPost_ret (AG (x:=⟨x.group,YY++N,noP AA x.ps,⟨8,Cz x.val.text,[],default,0⟩⟩) (pv:= .slice A6 n6 k6) (qv:= .slice none 0 0) (G:=w.heap.size+1) rfl (by first|(simp;done)|rfl|simp[go_sem]) (Yx.row T5 (by rw[MG];rfl))) rfl ?_;have FB:=AC (H9.out.trans (A7.out.mono (show w.heap.size<=_ by omega))) (show w.heap.size<=w.heap.size+1 by omega) (Yv ⟨x.group,YY++N,noP AA x.ps,⟨8,Cz x.val.text,[],default,0⟩⟩ (.slice A6 n6 k6) (.slice none 0 0));refine Aq (by rw[B1.out];exact I0.out) ?_ BY.nil FB;refine HH.out.move (fun k hk=>AH _ _ _ ?_) fun k hk=> ?_
  ·rcases hk with hk|hk
   ·have:=hS k hk;omega
   ·omega
  ·rcases hk with hk|hk
   ·exact .inl hk
   ·exact .inr ⟨by omega,by simp;omega⟩
end
section
attribute [local go_sem ↓] zPe zQe
attribute [local go_sem] XR WH XS WI We Xm Xp
theorem Wl {S:Nat->Prop} (x:It) (A:Option Addr) (c:Nat) (A':Option Addr) (c':Nat) (w:World) (hL:LD w) (hS:sW S w) (hp:Ah w S (pP A x c) x.ps) (hl:BY w S (lP A' x c') x.val.parts) (hT:Y4 x) (E0: ∀c∈Xs x.name,c≠32) (hb:Eu (Xs x.name)=true) (ht:x.val.type=8):
 Calls prog 17 #[Yp x (pP A x c) (lP A' x c')] w (BJ S w (CE (Xs x.name) x)):=by
 have A3:=hid hb;have t1:(x.val.type==1)=false:=(by simp[ht]);have t8:(x.val.type==8)=true:=(by simp[ht]);have I0:=hid (show Cx (Xs x.name) x=some ⟨x.group,YY++Xs x.name,noP AA x.ps,⟨8,x.val.text,[],default,0⟩⟩ by unfold Cx;rw[if_pos (.inr ht),if_neg (by omega)]);clear hb ht;refine (CS (S:=S) x A c A' c' w).pf ?_ hL hS hp hl hT E0;intro HT HR DD G1 N HS E1 HN V5 ia ib ic id w3 E HE AL HM hB HV HP F4 G2 HW AN E2;obtain ⟨c0,c1,c2,c3,c4,c5,c6,c7,c8,c9,c10,c11,c12,c13,c14,A9⟩:=HM.out.c;obtain ⟨d0,d1,d2,d3,d4,d5,d6,d7,d8,d9,HI,HJ⟩:=HV.out.c;rw[HN.out] at A3 I0;obtain ⟨n0,n1,n2,n3⟩:=GD A3.out;have B1:=hid (show CE (Xs x.name) x=Cx N x by rw[HN.out];exact Ji A3.out);have E9:=hid (B9 N true E1.out A3.out w3 E2);have F1:=hid (D4 N);have ZU: ¬9223372036854775807<2+N.length:=(by omega);clear HN A3;simp only[BV,CN,Bn,K8] at n0 n1 n2 n3;go_upto_region 18 with fail;clear c0 c1 c2 c3 c4 c5 c6 c7 c8 c9 c10 c11 c12 c13 c14 A9;obtain ⟨c0,c1,c2,c3,c4,c5,c6,c7,c8,c9,c10,c11,c12,c13,c14,A9⟩:=HM.out.c;go_wp2_with fail;rw[F1.out];refine E9.out.mono ?_;rintro e w4 ⟨rfl,G4⟩;obtain rfl:=G4.symm;go_upto_region 22 with fail;have HK:=hid (show Ah w3.drew S (pP A x c) x.ps from HP.out);have HY:=hid (HM.out.drew);have B2:Yt w3.drew (w.heap.size+1) 15:=hB;have d0d:w3.drew.cell? (Ad V5 0)=some (Iv x.val.type):=d0;have c0d:w3.drew.cell? (Ad w.heap.size 0)=some (Sv x.group):=c0;have F2:=hid (show∀k,S k->k<w3.drew.heap.size from fun k hk=>by have:=hS k hk;simp;omega);have HZ:w.heap.size+3<=w3.drew.heap.size:=G2;have DA:V5<w3.drew.heap.size:=AN;have H9:=hid AL.drew;have HA:=hid DD;have c2d:w3.drew.cell? (Ad w.heap.size 2)=some (pP A x c):=c2;have B3:Below w3.drew.heap.size w3.drew (w3.drew.alloc (.cells #[.string ⟨#[86,65,76,85,69]⟩] 9)):=zA;have H4:w.heap.size<w3.drew.heap.size:=(by omega);have HD:w.heap.size+1<w3.drew.heap.size:=(by omega);have A0:=(B3.cell (p:=(Ad w.heap.size 0)) H4).trans c0d;have A2:=(B3.cell (p:=(Ad w.heap.size 2)) H4).trans c2d;have AV:=(B3.cell (p:=(Ad V5 0)) DA).trans d0d;have AB:=B2.low B3 HD;have HL:=hid (show Below (w.heap.size+1) w3 w3.drew from zB.drew);have AW:=hid (HL.out.trans (B3.mono (show w.heap.size+1<=w3.drew.heap.size by omega)));have I1:V5≠w.heap.size+1:=(by omega);clear B3;go_region_held3 (fun w'=>w'.cell? (Ad w.heap.size 0)=some (Sv x.group)/\w'.cell? (Ad w.heap.size 2)=some (pP A x c)/\w'.cell? (Ad V5 0)=some (Iv x.val.type)/\Yt w' (w.heap.size+1) 15/\Below (w.heap.size+1) w3 w')
  (first
    |exact ⟨c0d,c2d,d0d,B2,HL.out⟩
    |exact ⟨A0,A2,AV,AB,AW.out⟩
    |exact ⟨(A8.cell (p:=(Ad w.heap.size 0)) H4).trans c0d,(A8.cell (p:=(Ad w.heap.size 2)) H4).trans c2d,(A8.cell (p:=(Ad V5 0)) DA).trans d0d,B2.low A8 HD,HL.out.trans (A8.mono (show w.heap.size+1<=w3.drew.heap.size by omega))⟩
    |(go_split_ands;exact ⟨AO _ ‹_› (by omega),AO _ ‹_› (by omega),AO _ ‹_› I1,Yt.setRow ‹_› _ rfl,AC ‹_› zL _⟩)
    |assumption)
  (first
    |(go_at_call 30;refine (CJ x.ps (pP A x c) w3.drew F2.out HK.out HA.out G1.out).mono ?_;rintro e6 w6 ⟨A6,n6,k6,rfl,F3,A8⟩))
 have HH:=hid F3;have A7:=hid A8;have HQ:=A7.out.size;have T5:=B2.low A7.out (show w.heap.size+1<_ by omega);all_goals
  go_wp2
  refine bodyPost_ret (AG (x:=⟨x.group,YY++N,noP AA x.ps,⟨8,x.val.text,[],default,0⟩⟩) (pv:= .slice A6 n6 k6) (qv:= .slice none 0 0) (G:=w.heap.size+1) rfl (by first|(simp;done)|rfl|simp[go_sem]) (Yx.row T5 (by rw[MG];rfl))) rfl ?_;have FB:=AC (H9.out.trans (A7.out.mono (show w.heap.size<=_ by omega))) (show w.heap.size<=w.heap.size+1 by omega) (Yv ⟨x.group,YY++N,noP AA x.ps,⟨8,x.val.text,[],default,0⟩⟩ (.slice A6 n6 k6) (.slice none 0 0));refine Aq (by rw[B1.out];exact I0.out) ?_ BY.nil FB;refine HH.out.move (fun k hk=>AH _ _ _ ?_) fun k hk=> ?_
  ·rcases hk with hk|hk
   ·have:=hS k hk;omega
   ·omega
  ·rcases hk with hk|hk
   ·exact .inl hk
   ·exact .inr ⟨by omega,by simp;omega⟩
end
section
attribute [local go_sem ↓] zPe zQe
attribute [local go_sem] XR WH XS WI We Xm Xp
theorem Wm {S:Nat->Prop} (x:It) (A:Option Addr) (c:Nat) (A':Option Addr) (c':Nat) (w:World) (hL:LD w) (hS:sW S w) (hp:Ah w S (pP A x c) x.ps) (hl:BY w S (lP A' x c') x.val.parts) (hT:Y4 x) (E0: ∀c∈Xs x.name,c≠32) (hb:Eu (Xs x.name)=true) (ht:x.val.type≠1/\x.val.type≠8):
 Calls prog 17 #[Yp x (pP A x c) (lP A' x c')] w (BJ S w (CE (Xs x.name) x)):=by
 have A3:=hid hb;have t1:(x.val.type==1)=false:=(by simpa using ht.1);have t8:(x.val.type==8)=false:=(by simpa using ht.2);have I0:=hid (show Cx (Xs x.name) x=none by unfold Cx;rw[if_neg (by omega)]);clear hb ht;refine (CS (S:=S) x A c A' c' w).pf ?_ hL hS hp hl hT E0;intro HT HR DD G1 N HS E1 HN V5 ia ib ic id w3 E HE AL HM hB HV HP F4 G2 HW AN E2;obtain ⟨c0,c1,c2,c3,c4,c5,c6,c7,c8,c9,c10,c11,c12,c13,c14,A9⟩:=HM.out.c;obtain ⟨d0,d1,d2,d3,d4,d5,d6,d7,d8,d9,HI,HJ⟩:=HV.out.c;rw[HN.out] at A3 I0;obtain ⟨n0,n1,n2,n3⟩:=GD A3.out;have B1:=hid (show CE (Xs x.name) x=Cx N x by rw[HN.out];exact Ji A3.out);have E9:=hid (B9 N true E1.out A3.out w3 E2);have F1:=hid (D4 N);have ZU: ¬9223372036854775807<2+N.length:=(by omega);clear HN A3;simp only[BV,CN,Bn,K8] at n0 n1 n2 n3;go_upto_region 18 with fail;clear c0 c1 c2 c3 c4 c5 c6 c7 c8 c9 c10 c11 c12 c13 c14 A9;obtain ⟨c0,c1,c2,c3,c4,c5,c6,c7,c8,c9,c10,c11,c12,c13,c14,A9⟩:=HM.out.c;go_wp2_with fail;rw[F1.out];refine E9.out.mono ?_;rintro e w4 ⟨rfl,G4⟩;obtain rfl:=G4.symm;go_upto_region 22 with fail;have HK:=hid (show Ah w3.drew S (pP A x c) x.ps from HP.out);have HY:=hid (HM.out.drew);have B2:Yt w3.drew (w.heap.size+1) 15:=hB;have d0d:w3.drew.cell? (Ad V5 0)=some (Iv x.val.type):=d0;have c0d:w3.drew.cell? (Ad w.heap.size 0)=some (Sv x.group):=c0;have F2:=hid (show∀k,S k->k<w3.drew.heap.size from fun k hk=>by have:=hS k hk;simp;omega);have HZ:w.heap.size+3<=w3.drew.heap.size:=G2;have DA:V5<w3.drew.heap.size:=AN;have H9:=hid AL.drew;have HA:=hid DD;have c2d:w3.drew.cell? (Ad w.heap.size 2)=some (pP A x c):=c2;have B3:Below w3.drew.heap.size w3.drew (w3.drew.alloc (.cells #[.string ⟨#[86,65,76,85,69]⟩] 9)):=zA;have H4:w.heap.size<w3.drew.heap.size:=(by omega);have HD:w.heap.size+1<w3.drew.heap.size:=(by omega);have A0:=(B3.cell (p:=(Ad w.heap.size 0)) H4).trans c0d;have A2:=(B3.cell (p:=(Ad w.heap.size 2)) H4).trans c2d;have AV:=(B3.cell (p:=(Ad V5 0)) DA).trans d0d;have AB:=B2.low B3 HD;have HL:=hid (show Below (w.heap.size+1) w3 w3.drew from zB.drew);have AW:=hid (HL.out.trans (B3.mono (show w.heap.size+1<=w3.drew.heap.size by omega)));have I1:V5≠w.heap.size+1:=(by omega);clear B3;go_region_held3 (fun w'=>w'.cell? (Ad w.heap.size 0)=some (Sv x.group)/\w'.cell? (Ad w.heap.size 2)=some (pP A x c)/\w'.cell? (Ad V5 0)=some (Iv x.val.type)/\Yt w' (w.heap.size+1) 15/\Below (w.heap.size+1) w3 w')
  (first
    |exact ⟨c0d,c2d,d0d,B2,HL.out⟩
    |exact ⟨A0,A2,AV,AB,AW.out⟩
    |exact ⟨(A8.cell (p:=(Ad w.heap.size 0)) H4).trans c0d,(A8.cell (p:=(Ad w.heap.size 2)) H4).trans c2d,(A8.cell (p:=(Ad V5 0)) DA).trans d0d,B2.low A8 HD,HL.out.trans (A8.mono (show w.heap.size+1<=w3.drew.heap.size by omega))⟩
    |(go_split_ands;exact ⟨AO _ ‹_› (by omega),AO _ ‹_› (by omega),AO _ ‹_› I1,Yt.setRow ‹_› _ rfl,AC ‹_› zL _⟩)
    |assumption)
  (first
    |(go_at_call 30;refine (CJ x.ps (pP A x c) w3.drew F2.out HK.out HA.out G1.out).mono ?_;rintro e6 w6 ⟨A6,n6,k6,rfl,F3,A8⟩))
 have HH:=hid F3;have A7:=hid A8;have HQ:=A7.out.size;have T5:=B2.low A7.out (show w.heap.size+1<_ by omega);all_goals
  go_wp2
  refine bodyPost_ret (AG (x:=⟨x.group,YY++N,noP AA x.ps,⟨8,x.val.text,[],default,0⟩⟩) (pv:= .slice A6 n6 k6) (qv:= .slice none 0 0) (G:=w.heap.size+1) rfl (by first|(simp;done)|rfl|simp[go_sem]) (Yx.row T5 (by rw[MG];rfl))) rfl ?_;have FB:=AC (H9.out.trans (A7.out.mono (show w.heap.size<=_ by omega))) (show w.heap.size<=w.heap.size+1 by omega) (Yv ⟨x.group,YY++N,noP AA x.ps,⟨8,x.val.text,[],default,0⟩⟩ (.slice A6 n6 k6) (.slice none 0 0));exact Ai (by rw[B1.out];exact I0.out) FB
end
section
attribute [local go_sem ↓] zPe zQe
attribute [local go_sem] XR WH XS WI We Xm Xp
theorem SU {S:Nat->Prop} (x:It) (A:Option Addr) (c:Nat) (A':Option Addr) (c':Nat) (w:World) (hL:LD w) (hS:sW S w) (hp:Ah w S (pP A x c) x.ps) (hl:BY w S (lP A' x c') x.val.parts) (hT:Y4 x) (E0: ∀c∈Xs x.name,c≠32) (hb:Xs x.name=II) (hg:DZ x=none) (h1:x.val.type=3-> ∀a b,x.val.parts≠[[a],[b]]):
 Calls prog 17 #[Yp x (pP A x c) (lP A' x c')] w (BJ S w (CE (Xs x.name) x)):=by
 have A3:=hid hb;have HG:=hid hg;have H1:=hid h1;clear hb hg h1;refine (CS (S:=S) x A c A' c' w).pf ?_ hL hS hp hl hT E0;intro HT HR DD G1 N HS E1 HN V5 ia ib ic id w3 E HE AL HM hB HV HP F4 G2 HW AN E2;obtain ⟨c0,c1,c2,c3,c4,c5,c6,c7,c8,c9,c10,c11,c12,c13,c14,A9⟩:=HM.out.c;obtain ⟨d0,d1,d2,d3,d4,d5,d6,d7,d8,d9,HI,HJ⟩:=HV.out.c;rw[HN.out] at A3;obtain rfl:=A3.out;have E3:Eu II=false:=(by decide);have B1:=hid (show CE (Xs x.name) x=DZ x by rw[HN.out];unfold CE;rw[if_neg (by decide),if_neg (by decide),if_pos (by decide)]);have E9:=hid (B9 II false E1.out E3 w3 E2);have F1:=hid (D4 II);clear HN A3;go_upto_region 18 with fail;clear c0 c1 c2 c3 c4 c5 c6 c7 c8 c9 c10 c11 c12 c13 c14 A9;obtain ⟨c0,c1,c2,c3,c4,c5,c6,c7,c8,c9,c10,c11,c12,c13,c14,A9⟩:=HM.out.c;go_wp2_with fail;(try rw[show (⟨#[32]⟩++⟨#[71,69,79]⟩++⟨#[32]⟩:ByteArray)=⟨(YD II).toArray⟩ from rfl]);(try rw[F1.out]);refine E9.out.mono ?_;rintro e w4 ⟨rfl,G4⟩;obtain rfl:=G4.symm;by_cases ht:x.val.type=3
 ·have t1:(x.val.type != 3)=false:=(by simpa using ht);obtain ⟨L,hL⟩: ∃L,x.val.parts=L:=⟨_,rfl⟩;have H2:=hid (show∀a b,L≠[[a],[b]] from hL▸H1.out ht);have ZV:=hid (show Xw w3 w.heap.size (.slice A' L.length c') L from hL▸F4.out.lls hS);have Z3:=hid hL;clear ht hL;by_cases hn:L.length=2
  ·have t2:((x.val.parts.length:Int) != 2)=false:=by rw[Z3.out];simp;omega
   obtain ⟨p,q,rfl⟩: ∃p q,L=[p,q]:=by
    match L,hn with
    |[p,q],_=>exact ⟨p,q,rfl⟩
   have W2:x.val.parts.length=2:=by rw[Z3.out];rfl
   obtain ⟨b,o,u1,v1,rfl,aV,e1,m1,s1⟩:=Xw.at_ (k:=0) ZV.out (by simp);obtain ⟨b',o',u2,v2,TT,aW,e2,m2,s2⟩:=Xw.at_ (k:=1) ZV.out (by simp);simp only[Option.some.injEq,Addr.mk.injEq,and_true] at TT;obtain ⟨rfl,rfl⟩:=TT;have aX:u1=p:=(by simpa using e1.symm);have aY:u2=q:=(by simpa using e2.symm);subst aX aY;obtain ⟨A1,c1',rfl⟩:=s1.form;obtain ⟨A2,c2',rfl⟩:=s2.form;have aZ:b<w3.heap.size:=(by omega);rw[Nat.add_zero] at m1;have b2:(0:Int)<(x.val.parts.length:Int):=(by omega);have b5:(1:Int)<(x.val.parts.length:Int):=(by omega);clear e1 e2 hn;by_cases bA:u1.length=1
   ·have t3:((u1.length:Int) != 1)=false:=by simp;omega
    have ZW:u2.length≠1:=fun ZW=>by
     match u1,bA,u2,ZW with
     |[a],_,[b],_=>exact H2.out a b rfl
    have t4:((u2.length:Int) != 1)=true:=by simp;omega
    go_wp2
    refine bodyPost_ret (AG (x:=x) (pv:=(pP A x c)) (qv:=(.slice (some (Ad b o)) 2 c')) (G:=w.heap.size+1) rfl (by first|(simp;done)|rfl|simp[go_sem]) (Yx.row hB rfl)) rfl ?_;exact Ai (by rw[B1.out];exact HG.out) (AC AL (by omega) _)
   ·have t3:((u1.length:Int) != 1)=true:=by simp;omega
    go_wp2
    refine bodyPost_ret (AG (x:=x) (pv:=(pP A x c)) (qv:=(.slice (some (Ad b o)) 2 c')) (G:=w.heap.size+1) rfl (by first|(simp;done)|rfl|simp[go_sem]) (Yx.row hB rfl)) rfl ?_;exact Ai (by rw[B1.out];exact HG.out) (AC AL (by omega) _)
  ·have t2:((x.val.parts.length:Int) != 2)=true:=by rw[Z3.out];simp;omega
   go_wp2
   refine bodyPost_ret (AG (x:=x) (pv:=(pP A x c)) (qv:=(lP A' x c')) (G:=w.heap.size+1) rfl (by first|(simp;done)|rfl|simp[go_sem]) (Yx.row hB rfl)) rfl ?_;exact Ai (by rw[B1.out];exact HG.out) (AC AL (by omega) _)
 ·have t1:(x.val.type != 3)=true:=(by simpa using ht);go_wp2
  refine bodyPost_ret (AG (x:=x) (pv:=(pP A x c)) (qv:=(lP A' x c')) (G:=w.heap.size+1) rfl (by first|(simp;done)|rfl|simp[go_sem]) (Yx.row hB rfl)) rfl ?_;exact Ai (by rw[B1.out];exact HG.out) (AC AL (by omega) _)
end
section
attribute [local go_sem ↓] zPe zQe
attribute [local go_sem] XR WH XS WI We Xm Xp
theorem Td {S:Nat->Prop} (x:It) (A:Option Addr) (c:Nat) (A':Option Addr) (c':Nat) (w:World) (hL:LD w) (hS:sW S w) (hp:Ah w S (pP A x c) x.ps) (hl:BY w S (lP A' x c') x.val.parts) (hT:Y4 x) (E0: ∀c∈Xs x.name,c≠32) (hb:Xs x.name=II) (ht:x.val.type=3) (a b:Str) (L9:x.val.parts=[[a],[b]]):
 Calls prog 17 #[Yp x (pP A x c) (lP A' x c')] w (BJ S w (CE (Xs x.name) x)):=by
 have A3:=hid hb;have cO:a.length<=10000:=by have:=hT.parts;rw[L9] at this;simp[YV,wS] at this;omega
 have a8:b.length<=10000:=by have:=hT.parts;rw[L9] at this;simp[YV,wS] at this;omega
 have ZX:=hid L9;have bB:=hid ht;have t1:(x.val.type != 3)=false:=(by simpa using ht);have W2:x.val.parts.length=2:=by rw[L9];rfl
 have t2:((x.val.parts.length:Int) != 2)=false:=by rw[L9];rfl
 have bC:=hid W2;clear hb L9 ht W2;refine (CS (S:=S) x A c A' c' w).pf ?_ hL hS hp hl hT E0;intro HT HR DD G1 N HS E1 HN V5 ia ib ic id w3 E HE AL HM hB HV HP F4 G2 HW AN E2;obtain ⟨c0,c1,c2,c3,c4,c5,c6,c7,c8,c9,c10,c11,c12,c13,c14,A9⟩:=HM.out.c;obtain ⟨d0,d1,d2,d3,d4,d5,d6,d7,d8,d9,HI,HJ⟩:=HV.out.c;rw[HN.out] at A3;obtain rfl:=A3.out;have E3:Eu II=false:=(by decide);have B1:=hid (show CE (Xs x.name) x=DZ x by rw[HN.out];unfold CE;rw[if_neg (by decide),if_neg (by decide),if_pos (by decide)]);have E9:=hid (B9 II false E1.out E3 w3 E2);have F1:=hid (D4 II);clear HN A3;go_upto_region 18 with fail;clear c0 c1 c2 c3 c4 c5 c6 c7 c8 c9 c10 c11 c12 c13 c14 A9;obtain ⟨c0,c1,c2,c3,c4,c5,c6,c7,c8,c9,c10,c11,c12,c13,c14,A9⟩:=HM.out.c;go_wp2_with fail;(try rw[show (⟨#[32]⟩++⟨#[71,69,79]⟩++⟨#[32]⟩:ByteArray)=⟨(YD II).toArray⟩ from rfl]);(try rw[F1.out]);refine E9.out.mono ?_;rintro e w4 ⟨rfl,G4⟩;obtain rfl:=G4.symm;have W2:=bC.out;have ZY:=hid (show Xw w3 w.heap.size (.slice A' [[a],[b]].length c') [[a],[b]] from ZX.out▸F4.out.lls hS);obtain ⟨bb,o,u1,v1,rfl,aV,e1,m1,s1⟩:=Xw.at_ (k:=0) ZY.out (by simp);obtain ⟨b',o',u2,v2,TT,aW,e2,m2,s2⟩:=Xw.at_ (k:=1) ZY.out (by simp);simp only[Option.some.injEq,Addr.mk.injEq,and_true] at TT;obtain ⟨rfl,rfl⟩:=TT;obtain rfl:[a]=u1:=(by simpa using e1);obtain rfl:[b]=u2:=(by simpa using e2);obtain ⟨A1,k1,rfl⟩:=s1.form;obtain ⟨A2,k2,rfl⟩:=s2.form;obtain ⟨b3,o3,s3,rfl,cP,f1,g1⟩:=s1.at_ (k:=0) (by simp);obtain ⟨b4,o4,s4,rfl,H3,f2,g2⟩:=s2.at_ (k:=0) (by simp);obtain rfl:a=s3:=(by simpa using f1);obtain rfl:b=s4:=(by simpa using f2);rw[Nat.add_zero] at m1 g1 g2;have b2:(0:Int)<(x.val.parts.length:Int):=(by omega);have b5:(1:Int)<(x.val.parts.length:Int):=(by omega);have aZ:bb<w3.heap.size:=(by omega);have bU:b3<w3.heap.size:=(by omega);have bV:b4<w3.heap.size:=(by omega);clear e1 e2 f1 f2 s1 s2;go_upto_region 26 with fail;go_region;all_goals
  have W8:((⟨#[103,101,111,58]⟩:ByteArray)++⟨a.toArray⟩++⟨#[44]⟩++⟨b.toArray⟩)=⟨(SJ++a++[44]++b).toArray⟩:=by rw[<-AM,<-AM,<-AM];rfl
  rw[W8];clear W8;obtain ⟨TX,W3⟩: ∃TX:Str,SJ++a++[44]++b=TX:=⟨_,rfl⟩;rw[W3];have cQ:TX.length<=30000:=by rw[<-W3];simp only[SJ,List.length_append,List.length_cons,List.length_nil];omega
  have ZZ:=hid (show DZ x=if DG TX=0 then some {x with ps:=noP AA x.ps,val:=⟨4,TX,[],default,0⟩} else none by unfold DZ;rw[if_pos bB.out,ZX.out];simp only[SK,W3]);clear W3;have HK:=hid (show Ah w3.drew S (pP A x c) x.ps from HP.out);have HY:=hid (HM.out.drew);have B2:Yt w3.drew (w.heap.size+1) 15:=hB;have F2:=hid (show∀k,S k->k<w3.drew.heap.size from fun k hk=>by have:=hS k hk;simp;omega);have HZ:w.heap.size+3<=w3.drew.heap.size:=G2;have H9:=hid AL.drew;have HA:=hid DD;clear m1 m2 g1 g2 d0 d1 d2 d3 d4 d5 d6 d7 d8 d9 HI HJ;go_wp2_with fail;refine (CJ x.ps (pP A x c) w3.drew F2.out HK.out HA.out G1.out).mono ?_;rintro e6 w6 ⟨A6,n6,k6,rfl,F3,A8⟩;have HH:=hid F3;have A7:=hid A8;have HQ:=A8.size;have B0:=HY.out.keep A8 (show w.heap.size<_ by omega);have q6:=B0.frozen 2;have k6c:=B0.c.c2;have bD:=hid (B2.low A8 (show w.heap.size+1<_ by omega));have HF:=B0.setP (noP AA x.ps) (.slice A6 n6 k6);have bE:Yt (w6.setCell (Ad w.heap.size 2) (.slice A6 n6 k6)) w.heap.size 15:=HF.blk;have Z4:Yx ((w6.setCell (Ad w.heap.size 2) (.slice A6 n6 k6)).setCells w.heap.size 3 [Iv 4,Sv TX,.slice none 0 0,Iv 0,Iv 0,Iv 0,Iv 0,Iv 0,Iv 0,.bool false,Iv 0,Iv 0]) w.heap.size {x with ps:=noP AA x.ps,val:=⟨4,TX,[],default,0⟩} (.slice A6 n6 k6) (.slice none 0 0):=HF.setV ⟨4,TX,[],default,0⟩ (.slice none 0 0);obtain ⟨W5,I5⟩: ∃W5,(w6.setCell (Ad w.heap.size 2) (.slice A6 n6 k6)).setCells w.heap.size 3 [Iv 4,Sv TX,.slice none 0 0,Iv 0,Iv 0,Iv 0,Iv 0,Iv 0,Iv 0,.bool false,Iv 0,Iv 0]=W5:=⟨_,rfl⟩;rw[I5] at Z4;have bF:=hid Z4;have bG:Yt W5.drew (w.heap.size+1) 15:=(bD.out.setCell (Ad w.heap.size 2) (.slice A6 n6 k6) (by simp)).same (by rw[heap_drew,<-I5];exact AS _ _ _ _ _ (by omega));have a2:=hid (show∀k,k≠w.heap.size->W5.heap[k]? =w6.heap[k]? from fun k hk=>by rw[<-I5];exact (AS _ _ _ _ k hk).trans (heap_setCell_other w6 _ k _ hk));have L8:W5.heap.size=w6.heap.size:=by rw[<-I5,Be];simp[World.setCell]
  have DT:Below w.heap.size w W5:=by rw[<-I5];exact BF zL _ _ ((H9.out.trans (A7.out.mono (show w.heap.size<=_ by omega))).setCell (p:=(Ad w.heap.size 2)) zL _)
  have a3:=hid I5;clear I5 Z4 HF F3 A8;go_upto_region 28 with fail;(try rw[a3.out]);clear bE a3 q6 k6c B0;clear c0 c1 c2 c3 c4 c5 c6 c7 c8 c9 c10 c11 c12 c13 c14 A9;have M2:=hid (bF.out.drew);obtain ⟨c0,c1,c2,c3,c4,c5,c6,c7,c8,c9,c10,c11,c12,c13,c14,A9⟩:=M2.out.c;simp only at c0 c1 c2 c3 c4 c5 c6 c7 c8 c9 c10 c11 c12 c13 c14;have bW:W5.drew.heap.size=w6.heap.size:=(by simp[L8]);have a4:=hid DT.drew;obtain ⟨U,hU⟩: ∃U,(DG TX==0)=U:=⟨_,rfl⟩;have HU:=hid hU;clear hU;go_region_with (first
   |(go_at_call 35;refine (DV TX W5.drew (by omega)).mono ?_;rintro e8 w8 ⟨⟨p8,rfl⟩,W4⟩;have bH:=W4.size;have bI:=hid W4;have I2:=M2.out.keep W4 (show w.heap.size<_ by omega);obtain ⟨j0,j1,j2,j3,j4,j5,j6,j7,j8,j9,bJ,bK,bL,bM,bN,jlt⟩:=I2.c;simp only at j0 j1 j2 j3 j4 j5 j6 j7 j8 j9 bJ bK bL bM bN;clear W4 I2)
   |(go_at_call 12;refine (CU _ p8 w8).mono ?_;rintro e9 w9 ⟨rfl,a5⟩;rw[HU.out];have V6:=hid (show Below W5.drew.heap.size W5.drew w9 from a5▸(bI.out.trans (zA.mono bH)));have cR:=V6.out.size;have bO:=bG.low V6.out (show w.heap.size+1<_ by omega);have I2:=M2.out.keep V6.out (show w.heap.size<_ by omega);obtain ⟨n0,n1,n2,n3,n4,n5,n6',n7,n8,n9,n10,n11,n12,n13,n14,nlt⟩:=I2.c;simp only at n0 n1 n2 n3 n4 n5 n6' n7 n8 n9 n10 n11 n12 n13 n14;clear I2 a5))
  all_goals
   go_wp2
   refine bodyPost_ret (AG (x:={x with ps:=noP AA x.ps,val:=⟨4,TX,[],default,0⟩}) (pv:= .slice A6 n6 k6) (qv:= .slice none 0 0) (G:=w.heap.size+1) rfl (by first|(simp;done)|rfl|simp[go_sem]) (Yx.row bO rfl)) rfl ?_;have FB:=AC (a4.out.trans (V6.out.mono (show w.heap.size<=_ by omega))) (show w.heap.size<=w.heap.size+1 by omega) (Yv {x with ps:=noP AA x.ps,val:=⟨4,TX,[],default,0⟩} (.slice A6 n6 k6) (.slice none 0 0));cases U with
   |false=>exact Ai (by rw[B1.out,ZZ.out,if_neg (by simpa using HU.out)]) FB
   |true=>
    refine Aq (by rw[B1.out,ZZ.out,if_pos (by simpa using HU.out)]) ?_ BY.nil FB;have I6: ∀k,(S k∨(w3.drew.heap.size<=k/\k<w6.heap.size))->k<w6.heap.size/\k≠w.heap.size/\k≠w.heap.size+1:=fun k hk=>by
     rcases hk with hk|hk
     ·have:=hS k hk;omega
     ·omega
    refine HH.out.move (fun k hk=>(AH _ _ _ (I6 k hk).2.2).trans ((V6.out.block k (by have:=(I6 k hk).1;omega)).trans (a2.out k (I6 k hk).2.1))) fun k hk=> ?_;rcases hk with hk|hk
    ·exact .inl hk
    ·exact .inr ⟨by omega,by simp;omega⟩
end
end Go.Proofs.YtjhpdljphchfaaaGreatDoor
