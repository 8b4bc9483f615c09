/- A part of the proof of ConvertUps: card.one walked: what is wrong with an item for itself. -/
import Derived.Test.YtjhpdljphchfaaaGreatDoorA29
import Derived.Deep.RegionWith
import Derived.Deep.RegionHeld3
set_option maxHeartbeats 40000000
set_option maxRecDepth 1000000
set_option linter.all false
namespace Go.Proofs.YtjhpdljphchfaaaGreatDoor
open Go.RowKit
open Go.Proofs.Tryz
theorem TK (x:It) (v:Int) (hv:v=3∨v=4) (A:Option Addr) (c:Nat) (A':Option Addr) (c':Nat) (w:World) (hL:LD w) (hx:OE w x A c A' c'):
 Calls prog 38 #[Yp x (pP A x c) (lP A' x c'),Iv v] w fun e w'=>e= .returned (Iv (CY x v))/\Below w.heap.size w w':=by
 have T5:=Bq x.ps;have H3:=hx.b.group;have H4:=hx.b.name;have H8:=hx.b.ps;have HM:=hid fun p (h:p∈x.ps)=>Bp h;have HB:=hid (Ki hx.b.ps);have HW:=My hx.b.text hx.b.parts;simp only[Yp];obtain ⟨W0,H9⟩: ∃W0,w.alloc (.cells (IA x (pP A x c) (lP A' x c')) 44)=W0:=⟨_,rfl⟩;have F4:Below w.heap.size w W0:=(by rw[<-H9];exact zA);have HY:=hid (show ItC W0 w.heap.size x (pP A x c) (lP A' x c') by rw[<-H9];exact ItC.new _ _ _ _);have HZ:=hid (hx.keep F4);have L4:=hL.below F4;have HV:=hid hv;clear hx hL hv;go_enter func38,ntmps38;obtain ⟨c0,c1,c2,c3,c4,c5,c6,c7,c8,c9,c10,c11,c12,c13,c14,AL⟩:=HY.out;go_wp2_with fail;(try rw[H9]);clear H9;have AN:=hid (show Xv W0.drew W0.drew.heap.size (pP A x c) x.ps from HZ.out.pms.keep (B:=W0.heap.size) (zB.drew) zL);go_region_held3 (fun w'=>w'.cell? (Ad w.heap.size 0)=some (Sv x.group)/\w'.cell? (Ad w.heap.size 1)=some (Sv x.name)/\w'.cell? (Ad w.heap.size 2)=some (pP A x c)/\Below W0.heap.size W0 w')
  (first
    |exact ⟨by simpa using c0,by simpa using c1,by simpa using c2,zB.drew⟩
    |(go_split_ands;exact ⟨(A1.cell (p:=(Ad w.heap.size 0)) AL).trans ‹_›,(A1.cell (p:=(Ad w.heap.size 1)) AL).trans ‹_›,(A1.cell (p:=(Ad w.heap.size 2)) AL).trans ‹_›,Below.trans ‹_› A1⟩)
    |assumption)
  (first
    |(go_at_call 77;refine (EI v _).mono ?_;rintro e9 w9 ⟨rfl,rfl⟩)
    |(go_at_call 76;refine (IN x.group x.name x.ps [] (v==4) A c W0.drew AN.out H3 H4 (by simp) H8).mono ?_;rintro e9 w9 ⟨⟨u,rfl,hu⟩,A1⟩))
 rename_i hH;have A5:=hH.2.2.2;clear hH AN A1;have P2:=A5.size;have FB:=F4.trans (A5.mono F4.size);have HC:=hid (HY.out.keep A5 AL);have HX:=hid (HZ.out.keep A5);have hL:=L4.below A5;clear c0 c1 c2 c3 c4 c5 c6 c7 c8 c9 c10 c11 c12 c13 c14 HY HZ L4 F4;by_cases hE:(BZ x.group x.name x.ps [] (v==4)).1=0;rotate_left
 ·obtain ⟨E,G1⟩: ∃E,(BZ x.group x.name x.ps [] (v==4)).1=E:=⟨_,rfl⟩;obtain ⟨pp,L5⟩: ∃pp,(BZ x.group x.name x.ps [] (v==4)).2=pp:=⟨_,rfl⟩;have HR:=hid (Gx G1 (by rw[<-G1];exact hE));rw[G1,L5] at hu;rw[G1] at hE;obtain ⟨t,y,rfl⟩:=hu.notNil hE;have HU:=hid hu;clear G1 L5 hu hE;go_wp2_with fail;refine (Lf HU.out hL).mono ?_;rintro e w2 ⟨rfl,F1⟩;go_wp2
  go_ret;exact ⟨by rw[HR.out];rfl,FB.trans (F1.mono FB.size)⟩
 rw[hE] at hu;obtain rfl:=hu.isNil;have HE:=hid hE;clear hu hE;obtain ⟨c0,c1,c2,c3,c4,c5,c6,c7,c8,c9,c10,c11,c12,c13,c14,AL⟩:=HC.out;go_wp2_with fail;refine (Ni x.name _ (by omega)).mono ?_;rintro e w2 ⟨rfl,F1⟩;have hB:=FB.trans (F1.mono FB.size);have G2:=hid (HC.out.keep F1 AL);have HA:=hid (HX.out.keep F1);have L6:=hL.below F1;clear c0 c1 c2 c3 c4 c5 c6 c7 c8 c9 c10 c11 c12 c13 c14 AL HC HX hL FB A5 P2 F1;by_cases hF:Dy x.name=true
 ·have HR:=hid (Dg HE.out hF);rw[hF];go_wp2
  go_ret;exact ⟨by rw[HR.out];rfl,hB⟩
 have hF:Dy x.name=false:=(by simpa using hF);have F3:=hid (Pg HE.out hF);rw[hF];clear hF HE;obtain ⟨IB,I0⟩: ∃IB,IB=w.heap.size:=⟨_,rfl⟩;rw[<-I0] at G2⊢;have HI:=hid I0;obtain ⟨c0,c1,c2,c3,c4,c5,c6,c7,c8,c9,c10,c11,c12,c13,c14,AL⟩:=G2.out;have S1:w.heap.size<=IB:=(by omega);clear I0;go_wp2
 go_loopw [6,7,37] (fun _ _ i wr=> ∃k:Nat,k<=x.ps.length/\i=Iv k/\Hid (B7 [] x.ps=B7 (x.ps.take k) (x.ps.drop k))/\Below w2.heap.size w2 wr) (fun _ _ i _=>x.ps.length-(intOf i).toNat);case atStart=>exact ⟨0,by omega,rfl,hid rfl,zB⟩
 case round=>
  clear c0 c1 c2 c3 c4 c5 c6 c7 c8 c9 c10 c11 c12 c13 c14;obtain ⟨k,hk,rfl,HP,hb⟩:=hrel;have I1:=hb.size;have HF:=hid (G2.out.keep hb AL);have HG:=hid (HA.out.keep hb);have G4:=L6.below hb;have I2:=hB.trans (hb.mono hB.size);by_cases PB:k<x.ps.length
  ·obtain ⟨bb,o,p,u,rfl,L7,hd,hc,L8,hu⟩:=HA.out.pms.at_ PB;have TT:=(hb.cell (p:=(Ad bb (o+k*2))) L7).trans hc;have SS:=(hb.cell (p:=(Ad bb (o+k*2+1))) L7).trans L8;have L9:p∈x.ps:=List.mem_of_mem_drop (by rw[hd];simp);have TX:=HM.out p L9;have U1:=Bd p;have HD:=hid hd;have HU:=hid (hu.keep hb I1);obtain ⟨A2,c2,hf⟩:=hu.form;subst hf;clear hc L8 hd hu L9;obtain ⟨bq,HH⟩: ∃bq,wr.heap.size=bq:=⟨_,rfl⟩;obtain ⟨Wr,LB,H0,d0,d1,I3⟩: ∃W:World,wr.alloc (.cells #[Sv p.name,vP A2 p c2] 57)=W/\Below wr.heap.size wr W/\W.cell? (Ad bq 0)=some (Sv p.name)/\W.cell? (Ad bq 1)=some (vP A2 p c2)/\bq<W.heap.size:=
    ⟨_,rfl,zA,by rw[<-HH];simp,by rw[<-HH];simp,by rw[<-HH];simp⟩
   have LL:=hid (HU.out.keep H0 H0.size);have M2:=G4.below H0;have HT:=hb.trans (H0.mono I1);clear HU HF HG G4;go_wp2_with fail;(try rw[LB]);clear LB HH;refine (Rb p A2 c2 _ M2 LL.out (by omega)).mono ?_;rintro e w3 ⟨rfl,B1⟩;have B2:=HT.trans (B1.mono HT.size);have MM:=(B1.cell (p:=(Ad bq 0)) I3).trans d0;have PF:=Nat.lt_of_lt_of_le I3 B1.size;clear B1 LL M2 d0 d1 I3 H0;by_cases A9:BS p=true;rotate_left
   ·have A9:BS p=false:=(by simpa using A9);have HR:=hid (show CY x v=3 by rw[F3.out,HP.out,HD.out,Kj _ _ _ A9];rfl);rw[A9];clear HP HD F3 A9;go_wp2
    go_ret;exact ⟨by rw[HR.out];rfl,hB.trans (B2.mono hB.size)⟩
   rw[A9];have I4:=hid A9;clear A9;go_wp2_with fail;refine (Bh p.name Ae _ (by omega) (by decide)).mono ?_;rintro e w4 ⟨rfl,AV⟩;have A4:=B2.trans (AV.mono B2.size);have U2:=(AV.cell (p:=(Ad bq 0)) PF).trans MM;have AW:=hid (HA.out.keep A4);have N0:=hid (G2.out.keep A4 AL);clear AV B2 MM;by_cases DA:AF p.name Ae=true
   ·have HN:=hid (show B7 [] x.ps=B7 (x.ps.take (k+1)) (x.ps.drop (k+1)) by rw[HP.out,<-DP HD.out];conv=>lhs;rw[HD.out];rw[Ie _ _ _ I4.out (.inl DA)]);rw[DA];clear DA HP HD;go_wp2
    go_roundw;case rel=>exact ⟨k+1,by omega,by go_num,HN,A4⟩
    case measure=>simp[intOf];omega
   have DA:AF p.name Ae=false:=(by simpa using DA);rw[DA];have Q1:=hid DA;obtain ⟨c0,c1,c2,c3,c4,c5,c6,c7,c8,c9,c10,c11,c12,c13,c14,clt6⟩:=N0.out;clear DA;go_wp2_with fail;refine (Gu x.ps p.name _ c _ AW.out.pms (by omega) (fun p hp=>(HB.out p hp).1) (by omega)).mono ?_;rintro e w5 ⟨rfl,N1⟩;have N2:=A4.trans (N1.mono A4.size);clear N1 c0 c1 c2 c3 c4 c5 c6 c7 c8 c9 c10 c11 c12 c13 c14 N0 AW;obtain ⟨i,hi⟩: ∃i,CF x.ps p.name=i:=⟨_,rfl⟩;have F2:=TH HD.out;rw[hi] at F2⊢;clear hi;by_cases DD:(x.ps.take k).any (fun q=>AF q.name p.name)=true
   ·have Q2:i<(k:Int):=(by rw[DD] at F2;exact of_decide_eq_true F2);have HR:=hid (show CY x v=9 by rw[F3.out,HP.out,HD.out,Pf _ _ _ I4.out Q1.out DD];rfl);clear F2 DD HP HD F3;go_wp2
    go_ret;exact ⟨by rw[HR.out];rfl,hB.trans (N2.mono hB.size)⟩
   ·have DD:(x.ps.take k).any (fun q=>AF q.name p.name)=false:=(by simpa using DD);have Q2: ¬i<(k:Int):=(by rw[DD] at F2;exact of_decide_eq_false F2);have HN:=hid (show B7 [] x.ps=B7 (x.ps.take (k+1)) (x.ps.drop (k+1)) by rw[HP.out,<-DP HD.out];conv=>lhs;rw[HD.out];rw[Ie _ _ _ I4.out (.inr DD)]);clear F2 DD HP HD;go_wp2
    go_roundw;case rel=>exact ⟨k+1,by omega,by go_num,HN,N2⟩
    case measure=>simp[intOf];omega
  ·obtain rfl:k=x.ps.length:=(by omega);have N3:B7 [] x.ps=0:=(by rw[HP.out,List.drop_length];rfl);have HJ:=hid (show CY x v=if Cs x.name x.ps v≠x.val.type then 1 else if Bl x.val≠0 then Bl x.val else if x.val.type=3/\0<(AR x.name v).parts/\(x.val.parts.length:Int)≠(AR x.name v).parts then 2 else if 1500<(Bx x v).length then 4 else 0 by rw[F3.out,if_neg (by rw[N3];decide)]);obtain ⟨c0,c1,c2,c3,c4,c5,c6,c7,c8,c9,c10,c11,c12,c13,c14,cltr⟩:=HF.out;clear N3 HP F3 G2 HA L6 hb hB AL;go_wp2_with fail;refine (Rj x.name x.ps v HV.out A c _ G4 HG.out.pms (by omega) (by omega) HB.out).mono ?_;rintro e w3 ⟨rfl,B1⟩;have HK:=I2.trans (B1.mono I2.size);have HL:=hid (HF.out.keep B1 cltr);have I5:=hid (HG.out.keep B1);have I6:=G4.below B1;clear c0 c1 c2 c3 c4 c5 c6 c7 c8 c9 c10 c11 c12 c13 c14 cltr HF HG G4 I2 B1 I1;by_cases hT:Cs x.name x.ps v=x.val.type;rotate_left
   ·have HR:=hid (show CY x v=1 by rw[HJ.out,if_pos hT]);obtain ⟨T,OV⟩: ∃T,Cs x.name x.ps v=T:=⟨_,rfl⟩;rw[OV] at hT⊢;have hq:(T != x.val.type)=true:=(by simpa using hT);obtain ⟨c0,c1,c2,c3,c4,c5,c6,c7,c8,c9,c10,c11,c12,c13,c14,clt3⟩:=HL.out;clear OV hT HJ;go_wp2
    go_ret;exact ⟨by rw[HR.out];rfl,HK⟩
   have HO:=hid (show CY x v=if Bl x.val≠0 then Bl x.val else if x.val.type=3/\0<(AR x.name v).parts/\(x.val.parts.length:Int)≠(AR x.name v).parts then 2 else if 1500<(Bx x v).length then 4 else 0 by rw[HJ.out,if_neg (by simpa using hT)]);rw[hT];clear HJ hT;have hq:(x.val.type != x.val.type)=false:=(by simp);obtain ⟨c0,c1,c2,c3,c4,c5,c6,c7,c8,c9,c10,c11,c12,c13,c14,clt3⟩:=HL.out;go_wp2_with fail;refine (IP x.val A' c' _ I6 I5.out.vl).mono ?_;rintro e w4 ⟨rfl,B2⟩;have H1:=HK.trans (B2.mono HK.size);have KI:=hid (HL.out.keep B2 clt3);have P1:=hid (I5.out.keep B2);have HQ:=I6.below B2;clear c0 c1 c2 c3 c4 c5 c6 c7 c8 c9 c10 c11 c12 c13 c14 clt3 HL I5 I6 HK B2 hq;by_cases DT:Bl x.val=0;rotate_left
   ·have HR:=hid (show CY x v=Bl x.val by rw[HO.out,if_pos DT]);have hI:=TJ w4 DT;rw[Ph DT] at hI⊢;have R0:=hid hI;clear HO hI DT;go_wp2_with fail;refine (Lf R0.out HQ).mono ?_;rintro e w5 ⟨rfl,AV⟩;go_wp2
    go_ret;exact ⟨by rw[HR.out];rfl,H1.trans (AV.mono H1.size)⟩
   have B3:=hid (show CY x v=if x.val.type=3/\0<(AR x.name v).parts/\(x.val.parts.length:Int)≠(AR x.name v).parts then 2 else if 1500<(Bx x v).length then 4 else 0 by rw[HO.out,if_neg (by rw[DT];decide)]);have L1:=hid DT;rw[DT,Un];clear HO DT;obtain ⟨c0,c1,c2,c3,c4,c5,c6,c7,c8,c9,c10,c11,c12,c13,c14,clt4⟩:=KI.out;go_wp2_with fail;refine (Mu x.name v HV.out (by omega) _ HQ).mono ?_;rintro e w5 ⟨rfl,AV⟩;have A7:=H1.trans (AV.mono H1.size);have HS:=hid (KI.out.keep AV clt4);have AB:=hid (P1.out.keep AV);have L2:=HQ.below AV;clear c0 c1 c2 c3 c4 c5 c6 c7 c8 c9 c10 c11 c12 c13 c14 clt4 KI P1 HQ H1 AV;obtain ⟨R,hR⟩: ∃R,AR x.name v=R:=⟨_,rfl⟩;rw[hR] at B3⊢;clear hR;obtain ⟨r0,r1,r2,r3⟩:=R;simp only[Ym];simp only at B3;have A6:Below w5.heap.size w5 (w5.alloc (.cells #[Iv r0,Iv r1,Iv r2,Iv r3] 74)):=zA;obtain ⟨c0,c1,c2,c3,c4,c5,c6,c7,c8,c9,c10,c11,c12,c13,c14,clt5⟩:=HS.out;by_cases ht:x.val.type=3;rotate_left
   ·have q3:(x.val.type==3)=false:=(by simpa using ht);have E0:=hid (show CY x v=if 1500<(Bx x v).length then 4 else 0 by rw[B3.out,if_neg (fun h=>ht h.1)]);clear ht B3;go_wp2_with fail;refine (JS x v A c A' c' _ (L2.below A6) (AB.out.b) (AB.out.keep A6).lls L1.out).mono ?_;rintro e w6 ⟨rfl,A4⟩;have E1:=(A7.trans (A6.mono A7.size)).trans (A4.mono (A7.trans (A6.mono A7.size)).size);have AW:=hid ((AB.out.keep A6).keep A4);have A8:=hid (show Bx x v=DH x.group x.name x.ps (LE x.val) (v==4) from rfl);obtain ⟨T,E2⟩: ∃T,LE x.val=T:=⟨_,rfl⟩;rw[E2] at HW A8⊢;have H2:T.length<=536870912:=(by omega);clear E2 A4 HS AB c0 c1 c2 c3 c4 c5 c6 c7 c8 c9 c10 c11 c12 c13 c14 clt5;obtain ⟨Wp,A3⟩: ∃Wp,w6.alloc (.cells #[Sv x.group,Sv x.name,pP A x c,Sv T] 47)=Wp:=⟨_,rfl⟩;have B0:Below w6.heap.size w6 Wp:=(by rw[<-A3];exact zA);have p0:Wp.cell? (Ad w6.heap.size 0)=some (Sv x.group):=(by rw[<-A3];simp);have p1:Wp.cell? (Ad w6.heap.size 1)=some (Sv x.name):=(by rw[<-A3];simp);have p2:Wp.cell? (Ad w6.heap.size 2)=some (pP A x c):=(by rw[<-A3];simp);have p3:Wp.cell? (Ad w6.heap.size 3)=some (Sv T):=(by rw[<-A3];simp);have plt:w6.heap.size<Wp.heap.size:=(by rw[<-A3];simp);have E3:=E1.trans (B0.mono E1.size);have AN:=hid (show Xv Wp.drew Wp.drew.heap.size (pP A x c) x.ps from (AW.out.keep B0).pms.keep (B:=Wp.heap.size) (zB.drew) zL);clear B0 AW;obtain ⟨bp,E9⟩: ∃bp,w6.heap.size=bp:=⟨_,rfl⟩;rw[E9] at p0 p1 p2 p3 plt;go_wp2_with fail;(try rw[A3]);clear A3;go_region_held3 (fun w'=>w'.cell? (Ad bp 0)=some (Sv x.group)/\w'.cell? (Ad bp 1)=some (Sv x.name)/\w'.cell? (Ad bp 2)=some (pP A x c)/\w'.cell? (Ad bp 3)=some (Sv T)/\Below Wp.heap.size Wp w')
     (first
       |exact ⟨by simpa using p0,by simpa using p1,by simpa using p2,by simpa using p3,zB.drew⟩
       |(go_split_ands;exact ⟨(A1.cell (p:=(Ad bp 0)) plt).trans ‹_›,(A1.cell (p:=(Ad bp 1)) plt).trans ‹_›,(A1.cell (p:=(Ad bp 2)) plt).trans ‹_›,(A1.cell (p:=(Ad bp 3)) plt).trans ‹_›,Below.trans ‹_› A1⟩)
       |assumption)
     (first
       |(go_at_call 77;refine (EI v _).mono ?_;rintro e9 w9 ⟨rfl,rfl⟩)
       |(go_at_call 83;refine (FR x.group x.name x.ps T (v==4) A c Wp.drew AN.out H3 H4 H2 H8).mono ?_;rintro e9 w9 ⟨⟨u,rfl⟩,A1⟩))
    rename_i hH;have A5:=E3.trans (hH.2.2.2.2.mono E3.size);clear hH AN A1 p0 p1 p2 p3 plt;obtain ⟨S,hS⟩: ∃S,DH x.group x.name x.ps T (v==4)=S:=⟨_,rfl⟩;rw[hS] at A8⊢;clear hS;by_cases A0:1500<S.length
    ·have hq:(1500:Int)<(S.length:Int):=(by omega);have HR:=hid (show CY x v=4 by rw[E0.out,A8.out,if_pos A0]);clear A0;go_wp2
     go_ret;exact ⟨by rw[HR.out];rfl,A5⟩
    ·have hq: ¬(1500:Int)<(S.length:Int):=(by omega);have HR:=hid (show CY x v=0 by rw[E0.out,A8.out,if_neg A0]);clear A0;go_wp2
     go_ret;exact ⟨by rw[HR.out];rfl,A5⟩
   have q3:(x.val.type==3)=true:=(by simpa using ht);by_cases hr:0<r3;rotate_left
   ·have E0:=hid (show CY x v=if 1500<(Bx x v).length then 4 else 0 by rw[B3.out,if_neg (fun h=>hr h.2.1)]);clear ht B3;go_wp2_with fail;refine (JS x v A c A' c' _ (L2.below A6) (AB.out.b) (AB.out.keep A6).lls L1.out).mono ?_;rintro e w6 ⟨rfl,A4⟩;have E1:=(A7.trans (A6.mono A7.size)).trans (A4.mono (A7.trans (A6.mono A7.size)).size);have AW:=hid ((AB.out.keep A6).keep A4);have A8:=hid (show Bx x v=DH x.group x.name x.ps (LE x.val) (v==4) from rfl);obtain ⟨T,E2⟩: ∃T,LE x.val=T:=⟨_,rfl⟩;rw[E2] at HW A8⊢;have H2:T.length<=536870912:=(by omega);clear E2 A4 HS AB c0 c1 c2 c3 c4 c5 c6 c7 c8 c9 c10 c11 c12 c13 c14 clt5;obtain ⟨Wp,A3⟩: ∃Wp,w6.alloc (.cells #[Sv x.group,Sv x.name,pP A x c,Sv T] 47)=Wp:=⟨_,rfl⟩;have B0:Below w6.heap.size w6 Wp:=(by rw[<-A3];exact zA);have p0:Wp.cell? (Ad w6.heap.size 0)=some (Sv x.group):=(by rw[<-A3];simp);have p1:Wp.cell? (Ad w6.heap.size 1)=some (Sv x.name):=(by rw[<-A3];simp);have p2:Wp.cell? (Ad w6.heap.size 2)=some (pP A x c):=(by rw[<-A3];simp);have p3:Wp.cell? (Ad w6.heap.size 3)=some (Sv T):=(by rw[<-A3];simp);have plt:w6.heap.size<Wp.heap.size:=(by rw[<-A3];simp);have E3:=E1.trans (B0.mono E1.size);have AN:=hid (show Xv Wp.drew Wp.drew.heap.size (pP A x c) x.ps from (AW.out.keep B0).pms.keep (B:=Wp.heap.size) (zB.drew) zL);clear B0 AW;obtain ⟨bp,E9⟩: ∃bp,w6.heap.size=bp:=⟨_,rfl⟩;rw[E9] at p0 p1 p2 p3 plt;go_wp2_with fail;(try rw[A3]);clear A3;go_region_held3 (fun w'=>w'.cell? (Ad bp 0)=some (Sv x.group)/\w'.cell? (Ad bp 1)=some (Sv x.name)/\w'.cell? (Ad bp 2)=some (pP A x c)/\w'.cell? (Ad bp 3)=some (Sv T)/\Below Wp.heap.size Wp w')
     (first
       |exact ⟨by simpa using p0,by simpa using p1,by simpa using p2,by simpa using p3,zB.drew⟩
       |(go_split_ands;exact ⟨(A1.cell (p:=(Ad bp 0)) plt).trans ‹_›,(A1.cell (p:=(Ad bp 1)) plt).trans ‹_›,(A1.cell (p:=(Ad bp 2)) plt).trans ‹_›,(A1.cell (p:=(Ad bp 3)) plt).trans ‹_›,Below.trans ‹_› A1⟩)
       |assumption)
     (first
       |(go_at_call 77;refine (EI v _).mono ?_;rintro e9 w9 ⟨rfl,rfl⟩)
       |(go_at_call 83;refine (FR x.group x.name x.ps T (v==4) A c Wp.drew AN.out H3 H4 H2 H8).mono ?_;rintro e9 w9 ⟨⟨u,rfl⟩,A1⟩))
    rename_i hH;have A5:=E3.trans (hH.2.2.2.2.mono E3.size);clear hH AN A1 p0 p1 p2 p3 plt;obtain ⟨S,hS⟩: ∃S,DH x.group x.name x.ps T (v==4)=S:=⟨_,rfl⟩;rw[hS] at A8⊢;clear hS;by_cases A0:1500<S.length
    ·have hq:(1500:Int)<(S.length:Int):=(by omega);have HR:=hid (show CY x v=4 by rw[E0.out,A8.out,if_pos A0]);clear A0;go_wp2
     go_ret;exact ⟨by rw[HR.out];rfl,A5⟩
    ·have hq: ¬(1500:Int)<(S.length:Int):=(by omega);have HR:=hid (show CY x v=0 by rw[E0.out,A8.out,if_neg A0]);clear A0;go_wp2
     go_ret;exact ⟨by rw[HR.out];rfl,A5⟩
   by_cases hn:(x.val.parts.length:Int)=r3;rotate_left
   ·have qn:((x.val.parts.length:Int) != r3)=true:=(by simpa using hn);have HR:=hid (show CY x v=2 by rw[B3.out,if_pos ⟨ht,hr,hn⟩]);clear ht B3 hn;go_wp2
    go_ret;exact ⟨by rw[HR.out];rfl,A7.alloc A7.size _⟩
   have qn:((x.val.parts.length:Int) != r3)=false:=(by simpa using hn);have E0:=hid (show CY x v=if 1500<(Bx x v).length then 4 else 0 by rw[B3.out,if_neg (fun h=>h.2.2 hn)]);clear ht B3 hn;go_wp2_with fail;refine (JS x v A c A' c' _ (L2.below A6) (AB.out.b) (AB.out.keep A6).lls L1.out).mono ?_;rintro e w6 ⟨rfl,A4⟩;have E1:=(A7.trans (A6.mono A7.size)).trans (A4.mono (A7.trans (A6.mono A7.size)).size);have AW:=hid ((AB.out.keep A6).keep A4);have A8:=hid (show Bx x v=DH x.group x.name x.ps (LE x.val) (v==4) from rfl);obtain ⟨T,E2⟩: ∃T,LE x.val=T:=⟨_,rfl⟩;rw[E2] at HW A8⊢;have H2:T.length<=536870912:=(by omega);clear E2 A4 HS AB c0 c1 c2 c3 c4 c5 c6 c7 c8 c9 c10 c11 c12 c13 c14 clt5;obtain ⟨Wp,A3⟩: ∃Wp,w6.alloc (.cells #[Sv x.group,Sv x.name,pP A x c,Sv T] 47)=Wp:=⟨_,rfl⟩;have B0:Below w6.heap.size w6 Wp:=(by rw[<-A3];exact zA);have p0:Wp.cell? (Ad w6.heap.size 0)=some (Sv x.group):=(by rw[<-A3];simp);have p1:Wp.cell? (Ad w6.heap.size 1)=some (Sv x.name):=(by rw[<-A3];simp);have p2:Wp.cell? (Ad w6.heap.size 2)=some (pP A x c):=(by rw[<-A3];simp);have p3:Wp.cell? (Ad w6.heap.size 3)=some (Sv T):=(by rw[<-A3];simp);have plt:w6.heap.size<Wp.heap.size:=(by rw[<-A3];simp);have E3:=E1.trans (B0.mono E1.size);have AN:=hid (show Xv Wp.drew Wp.drew.heap.size (pP A x c) x.ps from (AW.out.keep B0).pms.keep (B:=Wp.heap.size) (zB.drew) zL);clear B0 AW;obtain ⟨bp,E9⟩: ∃bp,w6.heap.size=bp:=⟨_,rfl⟩;rw[E9] at p0 p1 p2 p3 plt;go_wp2_with fail;(try rw[A3]);clear A3;go_region_held3 (fun w'=>w'.cell? (Ad bp 0)=some (Sv x.group)/\w'.cell? (Ad bp 1)=some (Sv x.name)/\w'.cell? (Ad bp 2)=some (pP A x c)/\w'.cell? (Ad bp 3)=some (Sv T)/\Below Wp.heap.size Wp w')
    (first
      |exact ⟨by simpa using p0,by simpa using p1,by simpa using p2,by simpa using p3,zB.drew⟩
      |(go_split_ands;exact ⟨(A1.cell (p:=(Ad bp 0)) plt).trans ‹_›,(A1.cell (p:=(Ad bp 1)) plt).trans ‹_›,(A1.cell (p:=(Ad bp 2)) plt).trans ‹_›,(A1.cell (p:=(Ad bp 3)) plt).trans ‹_›,Below.trans ‹_› A1⟩)
      |assumption)
    (first
      |(go_at_call 77;refine (EI v _).mono ?_;rintro e9 w9 ⟨rfl,rfl⟩)
      |(go_at_call 83;refine (FR x.group x.name x.ps T (v==4) A c Wp.drew AN.out H3 H4 H2 H8).mono ?_;rintro e9 w9 ⟨⟨u,rfl⟩,A1⟩))
   rename_i hH;have A5:=E3.trans (hH.2.2.2.2.mono E3.size);clear hH AN A1 p0 p1 p2 p3 plt;obtain ⟨S,hS⟩: ∃S,DH x.group x.name x.ps T (v==4)=S:=⟨_,rfl⟩;rw[hS] at A8⊢;clear hS;by_cases A0:1500<S.length
   ·have hq:(1500:Int)<(S.length:Int):=(by omega);have HR:=hid (show CY x v=4 by rw[E0.out,A8.out,if_pos A0]);clear A0;go_wp2
    go_ret;exact ⟨by rw[HR.out];rfl,A5⟩
   ·have hq: ¬(1500:Int)<(S.length:Int):=(by omega);have HR:=hid (show CY x v=0 by rw[E0.out,A8.out,if_neg A0]);clear A0;go_wp2
    go_ret;exact ⟨by rw[HR.out];rfl,A5⟩
end Go.Proofs.YtjhpdljphchfaaaGreatDoor
