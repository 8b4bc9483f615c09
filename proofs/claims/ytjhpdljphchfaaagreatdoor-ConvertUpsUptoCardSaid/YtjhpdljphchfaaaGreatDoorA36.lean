/- A part of the proof of ConvertUps: card.Right walked: what is wrong with a card. -/
import Derived.Test.YtjhpdljphchfaaaGreatDoorA33
import Derived.Test.YtjhpdljphchfaaaGreatDoorA34
set_option maxHeartbeats 40000000
set_option maxRecDepth 1000000
set_option linter.all false
namespace Go.Proofs.YtjhpdljphchfaaaGreatDoor
open Go.RowKit
open Go.Proofs.Tryz
theorem Dn.keep {w w':World} {B b o:Nat} {x:It} {pv qv:Value} (h:Dn w b o x pv qv) (hb:Below B w w') (hB:b<B):Dn w' b o x pv qv:=
 ⟨(hb.cell (p:=(Ad b o)) hB).trans h.c0,(hb.cell (p:=(Ad b (o+1))) hB).trans h.c1,(hb.cell (p:=(Ad b (o+2))) hB).trans h.c2,(hb.cell (p:=(Ad b (o+3))) hB).trans h.c3,(hb.cell (p:=(Ad b (o+4))) hB).trans h.c4,(hb.cell (p:=(Ad b (o+5))) hB).trans h.c5,(hb.cell (p:=(Ad b (o+6))) hB).trans h.c6,(hb.cell (p:=(Ad b (o+7))) hB).trans h.c7,(hb.cell (p:=(Ad b (o+8))) hB).trans h.c8,(hb.cell (p:=(Ad b (o+9))) hB).trans h.c9,(hb.cell (p:=(Ad b (o+10))) hB).trans h.c10,(hb.cell (p:=(Ad b (o+11))) hB).trans h.c11,(hb.cell (p:=(Ad b (o+12))) hB).trans h.c12,(hb.cell (p:=(Ad b (o+13))) hB).trans h.c13,(hb.cell (p:=(Ad b (o+14))) hB).trans h.c14⟩
theorem Iq (c:Cd) (A:Option Addr) (cc:Nat) (w:World) (hL:LD w) (hc:Qf w c A cc):
 Calls prog 19 #[.agg #[Iv c.version,.slice A c.items.length cc]] w (VP (BM c) w):=by
 obtain ⟨v,items⟩:=c;have E9:=hc.its;have HO:=hc.b;simp only at E9 HO;clear hc;show Calls prog 19 #[.agg #[Iv v,.slice A items.length cc]] w (VP (BM ⟨v,items⟩) w);have H8:=hid HO;clear HO;obtain ⟨W0,A7⟩: ∃W0,w.alloc (.cells #[Iv v,.slice A items.length cc] 24)=W0:=⟨_,rfl⟩;have A8:Below w.heap.size w W0:=by rw[<-A7];exact zA
 have a0:W0.cell? (Ad w.heap.size 0)=some (Iv v):=by rw[<-A7];simp
 have a1:W0.cell? (Ad w.heap.size 1)=some (.slice A items.length cc):=by rw[<-A7];simp
 have H9:w.heap.size<W0.heap.size:=by rw[<-A7];simp
 have N0:=hid (E9.keep A8 A8.size);have HP:=hL.below A8;clear E9 hL;by_cases hv:v≠3/\v≠4
 ·have HR:=hid (FC (c:=⟨v,items⟩) hv);obtain ⟨h3,h4⟩:=hv;go_enter func19,ntmps19;go_wp2_with fail;(try rw[A7]);clear A7;refine (Pp v h3 h4 _).mono ?_;rintro e w1 ⟨rfl,A0⟩;have A9:=A8.trans (A0.mono A8.size);clear h3 h4;go_wp2
  go_ret;exact NS HR.out (Aj.bare _ (by decide)) A9
 have HQ:=hid hv;have HS:v=3∨v=4:=(by omega);clear hv;go_enter func19,ntmps19;go_wp2_with fail;(try rw[A7]);clear A7;refine (PW v HS _ HP).mono ?_;rintro e w1 ⟨⟨AN,cN,rfl,hN⟩,A0⟩;have A9:=A8.trans (A0.mono A8.size);have b0:=(A0.cell (p:=(Ad w.heap.size 0)) H9).trans a0;have b1:=(A0.cell (p:=(Ad w.heap.size 1)) H9).trans a1;have HU:=hid (N0.out.keep A0 A0.size);have HW:=HP.below A0;have F1:=Nat.lt_of_lt_of_le H9 A0.size;have HN:=hid hN;have HV:=hid HS;clear a0 a1 N0 HP A8 A0 hN HS H9;by_cases HB:60<items.length
 ·have HR:=hid (Ih (c:=⟨v,items⟩) HQ.out HB);have hq:(60:Int)<(items.length:Int):=(by omega);clear HB;go_wp2
  go_ret;exact NS HR.out (Aj.bare _ (by decide)) A9
 have hq: ¬(60:Int)<(items.length:Int):=(by omega);have HY:=hid (Ii (c:=⟨v,items⟩) HQ.out HB);have YB:items.length<=60:=(by omega);clear HB HQ;obtain ⟨IB,HZ⟩: ∃IB,IB=w.heap.size:=⟨_,rfl⟩;have Z0:w.heap.size<=IB:=(by omega);rw[<-HZ] at b0 b1 F1⊢;have Z2:=hid HZ;clear HZ;go_wp2
 go_loopw [5,6,7,35] (fun _ _ _ i wr=> ∃k:Nat,k<=items.length/\i=Iv k/\Hid (By v 0 items=By v k (items.drop k))/\Below w1.heap.size w1 wr) (fun _ _ _ i _=>items.length-(intOf i).toNat);case atStart=>exact ⟨0,by omega,rfl,hid rfl,zB⟩
 case round=>
  obtain ⟨k,hk,rfl,HX,hb⟩:=hrel;have A3:=hb.size;have d0:=(hb.cell (p:=(Ad IB 0)) F1).trans b0;have d1:=(hb.cell (p:=(Ad IB 1)) F1).trans b1;have HC:=HW.below hb;by_cases F2:k<items.length
  ·obtain ⟨bb,o,x,pv,qv,rfl,I0,hd,F3,AL,AV⟩:=HU.out.at_ F2;have F4:=F3.keep hb I0;have AW:x∈items:=List.mem_of_mem_drop (by rw[hd];simp);obtain ⟨A1,k1,I1⟩:=AL.form;obtain ⟨A2,k2,I2⟩:=AV.form;subst I1 I2;have FB:=hid (show OE wr x A1 k1 A2 k2 from ⟨AL.keep hb A3,AV.keep hb A3,H8.out x AW⟩);have W5:=(H8.out x AW).name;have HD:=hid hd;obtain ⟨h0,h1,h2,h3,h4,h5,h6,h7,h8,h9,I3,I4,I5,I6,KI⟩:=F4;clear F3 AL AV hd AW;obtain ⟨bq,B0⟩: ∃bq,wr.heap.size=bq:=⟨_,rfl⟩;obtain ⟨Wr,G1,A0,G2,W6⟩: ∃W:World,wr.alloc (.cells (IA x (pP A1 x k1) (lP A2 x k2)) 44)=W/\Below wr.heap.size wr W/\Hid (ItC W bq x (pP A1 x k1) (lP A2 x k2))/\bq<W.heap.size:=
    ⟨_,rfl,zA,hid (by rw[<-B0];exact ItC.new _ _ _ _),by rw[<-B0];simp⟩
   have B2:=hid (FB.out.keep A0);have A5:=hb.trans (A0.mono A3);obtain ⟨g0,g1,g2,g3,g4,g5,g6,g7,g8,g9,L1,L2,L4,L5,L6,gl⟩:=G2.out;clear FB A0;have e0:=(A5.cell (p:=(Ad IB 0)) F1).trans b0;have G4:=HW.below A5;clear d0 d1 HC;go_wp2_with fail;(try rw[G1]);clear G1 B0 h0 h1 h2 h3 h4 h5 h6 h7 h8 h9 I3 I4 I5 I6 KI;refine (TK x v HV.out A1 k1 A2 k2 _ G4 B2.out).mono ?_;rintro e w3 ⟨rfl,DA⟩;have HE:=A5.trans (DA.mono A5.size);clear DA B2 g0 g1 g2 g3 g4 g5 g6 g7 g8 g9 L1 L2 L4 L5 L6 gl G2;obtain ⟨E,hE⟩: ∃E,CY x v=E:=⟨_,rfl⟩;rw[hE];by_cases h0:E=0
   ·have B1:=hid (show By v 0 items=By v (k+1) (items.drop (k+1)) by rw[HX.out,HD.out,Kl (by rw[hE,h0])]);subst h0;clear hE HX HD;go_wp2
    go_roundw;case rel=>exact ⟨k+1,by omega,by go_num,B1,HE⟩
    case measure=>simp[intOf];omega
   ·have HR:=hid (show BM ⟨v,items⟩=(E,(k:Int)) by rw[HY.out];simp only[HX.out,HD.out,If hE h0]);have Z3:(E != 0)=true:=(by simpa using h0);have W8:=hid h0;have A6:=A9.trans (HE.mono A9.size);clear hE HX HD h0;go_wp2
    go_ret;exact NS HR.out (Aj.new _ (e:=E) (p:=k) W8.out (by omega) 65) (A6.alloc A6.size _)
  ·obtain rfl:k=items.length:=(by omega);have N1:By v 0 items=none:=by rw[HX.out,List.drop_length];rfl
   have L7:=hid (show BM ⟨v,items⟩=(match Ba v [] items with
    |some i=>(9,(i:Int))
    |none=>if (AI v).all (Bz v items) then (0, -1) else (7, -1)) by rw[HY.out];simp only[N1];rfl)
   clear N1 HX HY;have N2:=hid (HU.out.keep hb A3);have N3:=hid (HN.out.keep hb A3);have H0:=A9.trans (hb.mono A9.size);have DD:IB<wr.heap.size:=(by omega);clear HU HN b0 b1 HW hb A9 F1 A3;obtain ⟨H1,B3⟩: ∃W,wr=W:=⟨_,rfl⟩;rw[B3] at N2 N3 H0 DD d0 d1 HC;have Z4:=hid B3;go_upto_region 13 with fail;(try rw[B3]);clear B3;refine wp_region_lit ?_;refine Bg rfl 88 rfl .string ?_;intro wm r hr hw hF;have OV:Below H1.heap.size H1 wm:=by rw[hw];exact zA
   have W9:H1.heap.size<=r:=by rw[hr];exact Nat.le_refl _
   have m1:=(OV.cell (p:=(Ad IB 1)) DD).trans d1;clear hw hr;go_wp2
   go_loopw [9,10,11,12,13,56] (fun _ _ _ _ _ i wr=> ∃(k:Nat) (F:Value->Option Value),k<=items.length/\i=Iv k/\FQ wr r .string F/\Hid (CntF F (items.take k))/\Hid (Ba v [] items=Ba v (items.take k) (items.drop k))/\Below H1.heap.size H1 wr) (fun _ _ _ _ _ i _=>items.length-(intOf i).toNat);case atStart=>exact ⟨0,_,by omega,rfl,hF,hid CntF.nil,hid rfl,OV⟩
   case round=>
    obtain ⟨k,F,hk,rfl,hM,H2,HT,hb⟩:=hrel;have A3:=hb.size;have HF:=hid hM;have e0:=(hb.cell (p:=(Ad IB 0)) DD).trans d0;have e1:=(hb.cell (p:=(Ad IB 1)) DD).trans d1;have G4:=HC.below hb;clear hM;by_cases F2:k<items.length
    ·obtain ⟨bb,o,x,pv,qv,rfl,I0,hd,F3,AL,AV⟩:=N2.out.at_ F2;have F4:=F3.keep hb I0;have AW:x∈items:=List.mem_of_mem_drop (by rw[hd];simp);obtain ⟨A1,k1,I1⟩:=AL.form;obtain ⟨A2,k2,I2⟩:=AV.form;subst I1 I2;have FB:=hid (show OE wr x A1 k1 A2 k2 from ⟨AL.keep hb A3,AV.keep hb A3,H8.out x AW⟩);have W5:=(H8.out x AW).name;have HD:=hid hd;obtain ⟨h0,h1,h2,h3,h4,h5,h6,h7,h8,h9,I3,I4,I5,I6,KI⟩:=F4;clear F3 AL AV hd AW;obtain ⟨bq,B0⟩: ∃bq,wr.heap.size=bq:=⟨_,rfl⟩;obtain ⟨Wr,G1,A0,G2,W6⟩: ∃W:World,wr.alloc (.cells (IA x (pP A1 x k1) (lP A2 x k2)) 44)=W/\Below wr.heap.size wr W/\Hid (ItC W bq x (pP A1 x k1) (lP A2 x k2))/\bq<W.heap.size:=
      ⟨_,rfl,zA,hid (by rw[<-B0];exact ItC.new _ _ _ _),by rw[<-B0];simp⟩
     have B2:=hid (FB.out.keep A0);have A5:=hb.trans (A0.mono A3);have P1:=A0;obtain ⟨g0,g1,g2,g3,g4,g5,g6,g7,g8,g9,L1,L2,L4,L5,L6,gl⟩:=G2.out;clear FB A0;have WA:=(A5.cell (p:=(Ad IB 0)) DD).trans d0;have P2:=hid (HF.out.low P1);clear e0 e1 HF;go_wp2_with fail;(try rw[G1]);clear G1 B0 h0 h1 h2 h3 h4 h5 h6 h7 h8 h9 I3 I4 I5 I6 KI;refine (Cl x.name _ (by omega)).mono ?_;rintro e w3 ⟨rfl,DA⟩;have HE:=A5.trans (DA.mono A5.size);have PB:=hid (P2.out.low DA);have WF:(Xs x.name).length=x.name.length:=by unfold Xs;simp
     have PF:=hid (TO x.name v);have HG:=hid (DP HD.out);have L8:=Pn (Xs x.name) (items.take k);rw[List.length_take] at L8;have L9:=PB.out;have DT:=hid (H2.out.snoc (x:=x));have AB:=hid (H2.out (Xs x.name));have E0:=hid HT.out;obtain ⟨U,hU⟩: ∃U,Xs x.name=U:=⟨_,rfl⟩;have Q1:=hid hU;rw[hU] at WF PF L8 DT AB⊢;obtain ⟨m,hm⟩: ∃m,cntN U (items.take k)=m:=⟨_,rfl⟩;have Q2:=hid hm;rw[hm] at L8 DT AB;clear DA B2 g0 g1 g2 g3 g4 g5 g6 g7 g8 g9 L1 L2 L4 L5 L6 gl G2 P2 H2 hU hm HT;go_wp2_with (first|(at_lookup;refine Al rfl 88 9 3 _ _ false rfl underlying88 .string underlying9 (Iv 0) (fun _=>by kernel_rfl) _ _ L9 rfl _ rfl trivial (Iv (m:Int)) (by exact AB.out) ?_)|(at_mapUpdate;refine BA rfl 88 9 3 _ _ _ (.inr rfl) underlying88 .string underlying9 _ _ L9 rfl (Sv U) (.int .i64 ((m:Int)+1)) (by rfl) (by rfl) trivial ?_;intro w5 R0 S1 _;refine Hid.out ?_));refine Lib.hid ?_;have HH:=S1.out _ _ W9 HE;have SS:=hid R0;have T5:=HC.below HH;have X1:=(HH.cell (p:=(Ad IB 0)) DD).trans d0;clear L9 R0 S1 WA G4 PB A5 AB;go_wp2_with fail;refine (Mu U v HV.out (by omega) _ T5).mono ?_;rintro e w6 ⟨rfl,E1⟩;rw[PF.out];have TT:=HH.trans (E1.mono HH.size);have TX:=SS.out.low E1;obtain ⟨R,hR⟩: ∃R,AR x.name v=R:=⟨_,rfl⟩;have HI:=hid hR;rw[hR];clear hR;obtain ⟨r0,r1,r2,r3⟩:=R;simp only[Ym];have A4:Below w6.heap.size w6 (w6.alloc (.cells #[Iv r0,Iv r1,Iv r2,Iv r3] 74)):=zA;have LB:=TX.low A4;have LL:=hid LB;have HJ:=TT.trans (A4.mono TT.size);have X2:=hid (show (if false=true then Value.tuple #[((Dm F (Sv U) (.int .i64 ((m:Int)+1))) (Sv U)).getD (Iv 0),.bool ((Dm F (Sv U) (.int .i64 ((m:Int)+1))) (Sv U)).isSome] else ((Dm F (Sv U) (.int .i64 ((m:Int)+1))) (Sv U)).getD (Iv 0))=Iv ((m:Int)+1) by unfold Dm;rw[if_pos rfl];rfl);have H3:=LB.look underlying88 underlying9 (k:=Sv U) (z:=Iv 0) trivial (by kernel_rfl) false;rw[X2.out] at H3;obtain ⟨W7,U1⟩: ∃W7,w6.alloc (.cells #[Iv r0,Iv r1,Iv r2,Iv r3] 74)=W7:=⟨_,rfl⟩;have Z5:W7.cell? (Ad w6.heap.size 2)=some (Iv r2):=by rw[<-U1];simp
     rw[U1] at H3 LL HJ;clear E1 SS TX X1 T5 A4 LB;by_cases U2:0<r2
     ·by_cases X3:r2<(m:Int)+1
      ·have HR:=hid (show BM ⟨v,items⟩=(9,(k:Int)) by
        have hx:Ba v [] items=some k:=by
         rw[E0.out,HD.out,Ig ⟨by rw[HI.out];exact U2,by rw[HI.out,Q1.out,Q2.out];show r2<=(m:Int);omega⟩,List.length_take]
         congr 1
         omega
        rw[L7.out];simp only[hx])
       have A6:=H0.trans (HJ.mono H0.size);clear E0 HD;go_wp2
       go_ret;exact NS HR.out (Aj.new _ (e:=9) (p:=k) (by decide) (by omega) 65) (A6.alloc A6.size _)
      ·have B1:=hid (show Ba v [] items=Ba v (items.take (k+1)) (items.drop (k+1)) by
        rw[E0.out,<-HG.out]
        conv=>lhs;rw[HD.out]
        rw[FA (fun h=>X3 (by have:=h.2;rw[HI.out,Q1.out,Q2.out] at this;have:r2<=(m:Int):=this;omega))])
       rw[HG.out] at DT;clear E0 HD;go_wp2
       go_roundw;case rel=>exact ⟨k+1,_,by omega,by go_num,LL.out,DT,B1,HJ⟩
       case measure=>simp[intOf];omega
     ·have B1:=hid (show Ba v [] items=Ba v (items.take (k+1)) (items.drop (k+1)) by
       rw[E0.out,<-HG.out]
       conv=>lhs;rw[HD.out]
       rw[FA (fun h=>U2 (by have:=h.1;rw[HI.out] at this;exact this))])
      rw[HG.out] at DT;clear E0 HD H3;go_wp2
      go_roundw;case rel=>exact ⟨k+1,_,by omega,by go_num,LL.out,DT,B1,HJ⟩
      case measure=>simp[intOf];omega
    ·obtain rfl:k=items.length:=(by omega);have V5:Ba v [] items=none:=by rw[HT.out,List.drop_length];rfl
     have V6:=hid (show BM ⟨v,items⟩=if (AI v).all (Bz v items) then (0, -1) else (7, -1) by rw[L7.out];simp only[V5]);have VC:=hid (show CntF F items by have:=H2.out;rw[List.take_length] at this;exact this);clear V5 HT H2 L7;obtain ⟨Wn,M2⟩: ∃W,wr=W:=⟨_,rfl⟩;rw[M2] at HF hb e0 e1 G4;have XB:IB<Wn.heap.size:=by have:=hb.size;omega
     have Y1:=hid (N3.out.keep hb hb.size);have HK:=H0.trans (hb.mono H0.size);have VX:=Km v;have Z6:=Gy v;have Y2:=hid VX;clear VX A3;go_wp2_with fail;(try rw[M2]);clear M2;go_loopw [15,16,17,93] (fun _ _ _ i wr=> ∃k:Nat,k<=(AI v).length/\i=Iv k/\Hid ((AI v).all (Bz v items)=((AI v).drop k).all (Bz v items))/\Below Wn.heap.size Wn wr) (fun _ _ _ i _=>(AI v).length-(intOf i).toNat);case atStart=>exact ⟨0,by omega,rfl,hid rfl,zB⟩
     case round=>
      obtain ⟨k,hk,rfl,HA,E2⟩:=hrel;have W1:=E2.size;have Z7:=(E2.cell (p:=(Ad IB 0)) XB).trans e0;have Y3:=G4.below E2;by_cases F2:k<(AI v).length
      ·obtain ⟨b3,o3,n,rfl,W2,MM,W3⟩:=Y1.out.at_ F2;have Z8:=(E2.cell (p:=(Ad b3 (o3+k))) W2).trans W3;have Z1:=Y2.out n (List.mem_of_mem_drop (by rw[MM];simp));have HL:=hid (show (AI v).all (Bz v items)=(Bz v items n&&((AI v).drop (k+1)).all (Bz v items)) by rw[HA.out,MM,List.all_cons]);clear MM W3 HA;go_wp2_with fail;refine (Mu n v HV.out (by omega) _ Y3).mono ?_;rintro e w6 ⟨rfl,E1⟩;have HM:=E2.trans (E1.mono W1);have E3:=hid (show Bz v items n=decide ((AR n v).least<=(cntN n items:Int)) from rfl);obtain ⟨R,hR⟩: ∃R,AR n v=R:=⟨_,rfl⟩;rw[hR] at E3⊢;clear hR;obtain ⟨r0,r1,r2,r3⟩:=R;simp only[Ym];have A4:Below w6.heap.size w6 (w6.alloc (.cells #[Iv r0,Iv r1,Iv r2,Iv r3] 74)):=zA;have H4:=HM.trans (A4.mono HM.size);have W4:=HF.out.low H4;have AB:=hid (VC.out n);obtain ⟨m,hm⟩: ∃m,cntN n items=m:=⟨_,rfl⟩;rw[hm] at AB E3;clear hm E1 A4;by_cases Z9:(m:Int)<r1
       ·have HR:=hid (show BM ⟨v,items⟩=(7, -1) by
         rw[V6.out,HL.out,E3.out,decide_eq_false (show¬r1<=(m:Int) by omega)];rfl)
        have A6:=HK.trans (H4.mono HK.size);clear HL E3;go_wp2_with (at_lookup;refine Al rfl 88 9 3 _ _ false rfl underlying88 .string underlying9 (Iv 0) (fun _=>by kernel_rfl) _ _ W4 rfl _ rfl trivial (Iv (m:Int)) (by exact AB.out) ?_);go_ret;exact NS HR.out (Aj.bare _ (by decide)) A6
       ·have B1:=hid (show (AI v).all (Bz v items)=((AI v).drop (k+1)).all (Bz v items) by
         rw[HL.out,E3.out,decide_eq_true (show r1<=(m:Int) by omega),Bool.true_and])
        clear HL E3;go_wp2_with (at_lookup;refine Al rfl 88 9 3 _ _ false rfl underlying88 .string underlying9 (Iv 0) (fun _=>by kernel_rfl) _ _ W4 rfl _ rfl trivial (Iv (m:Int)) (by exact AB.out) ?_);go_roundw;case rel=>exact ⟨k+1,by omega,by go_num,B1,H4⟩
        case measure=>simp[intOf];omega
      ·obtain rfl:k=(AI v).length:=(by omega);have HR:=hid (show BM ⟨v,items⟩=(0, -1) by rw[V6.out,HA.out,List.drop_length];rfl);have A6:=HK.trans (E2.mono HK.size);clear HA;go_wp2
       go_ret;exact NS HR.out (Aj.nil _) A6
end Go.Proofs.YtjhpdljphchfaaaGreatDoor
