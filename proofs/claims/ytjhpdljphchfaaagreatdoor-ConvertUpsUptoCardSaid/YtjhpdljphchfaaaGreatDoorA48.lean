/- A part of the proof of ConvertUps: labels of package convert walked. -/
import Derived.Test.YtjhpdljphchfaaaGreatDoorA35
import Derived.Test.YtjhpdljphchfaaaGreatDoorA33
import Derived.Test.YtjhpdljphchfaaaGreatDoorA36
import Derived.Test.YtjhpdljphchfaaaGreatDoorA29
import Derived.Test.YtjhpdljphchfaaaGreatDoorA30
import Derived.Test.YtjhpdljphchfaaaGreatDoorA27
import Derived.Test.YtjhpdljphchfaaaGreatDoorA32
import Derived.Deep.RegionHeld3
import Derived.Deep.RegionWith
set_option maxHeartbeats 40000000
set_option maxRecDepth 1000000
set_option linter.all false
namespace Go.Proofs.YtjhpdljphchfaaaGreatDoor
open Go.RowKit
open Go.Proofs.Tryz
theorem TU (w:World) (K:Str) {S:Nat->Prop} (h:S w.heap.size):Bj (w.alloc (.cells #[Sv K] 9)) S (.slice (some (Ad w.heap.size 0)) 1 1) [K]:=
 ⟨_,1,rfl,Nat.le_refl _,fun _=>⟨w.heap.size,0,rfl,h,fun i hi j hj=>by
  obtain rfl:i=0:=by have:i<1:=hi;omega
  obtain rfl:j=0:=(by omega);simp⟩⟩
theorem Rx {w2:World} {P:Nat->Prop} {base:Nat} {v:Value} {L:List (It×Value×Value)} (h:EK w2 P base v L) (ps:List Pm) (pv:Value) (hp:Ah w2 (InJ w2 P base v) pv ps) (N T:Str) (hn:ps.length<=1000000000):
 Calls prog 43 #[pv,Sv N,.slice (some (Ad w2.heap.size 0)) 1 1] (w2.alloc (.cells #[Sv T] 9)) fun e w5=> ∃A5 n5 k5,e= .returned (.slice A5 n5 k5)/\Ah w5 (InJ w5 P base v) (.slice A5 n5 k5) (ps++[⟨N,[T]⟩])/\Below w2.heap.size w2 w5:=by
 have dS:=h.le;have B3: ∀k,InJ w2 P base v k->k<w2.heap.size:=fun k hk=>by
  rcases hk with hk|hk
  ·exact Nat.lt_of_lt_of_le (h.low k hk) dS
  ·exact hk.2.1
 have bQ: ∀k,w2.heap.size<=k->v.ownBlock≠some k:=fun k hk e=>by have:=(h.row.row.lt k e).2;omega
 refine (JT (S:=fun k=>InJ w2 P base v k∨k=w2.heap.size) ps N [T] pv _ _ (fun k hk=> ?_) (hp.move (fun k hk=>Below.heap_alloc _ _ _ (B3 k hk)) fun k hk=> .inl hk) (TU w2 T (.inr rfl)) hn).mono ?_
 ·rcases hk with hk|hk
  ·have:=B3 k hk;simp;omega
  ·simp;omega
 ·rintro e w5 ⟨v5,L5,rfl,hO,hb⟩;obtain ⟨A5,k5,rfl⟩:=hO.row.form;have hs:=hb.size;simp only[World.size_alloc] at hs;refine ⟨A5,_,k5,rfl,hO.x (fun k hk=> ?_) (fun k h1 h2=> ?_),zA.trans (hb.mono (by simp))⟩
  ·rcases hk with hk|hk
   ·rcases hk with hk|hk
    ·exact .inl hk
    ·exact .inr ⟨hk.1,by have:=hk.2.1;omega,hk.2.2⟩
   ·exact .inr ⟨by omega,by omega,bQ k (by omega)⟩
  ·simp at h1;exact .inr ⟨by omega,h2,bQ k (by omega)⟩
theorem Np {B:Nat} (items:List It) (A:Option Addr) (c:Nat) (w:World) (hB:B<=w.heap.size) (hI:Its w B (.slice A items.length c) items) (hq: ∀x∈items,Y6 x) (hn:items.length<=1000000):
 Calls prog 20 #[.slice A items.length c] w fun e w'=> ∃(v:Value) (L:List (It×Value×Value)),e= .returned v/\EK w' (· <B) w.heap.size v L/\L.map (·.1)=BQ items/\Below w.heap.size w w':=by
 have ZX:=hid hI;have HQ:=hid hq;clear hI hq;go_enter func20,ntmps20;go_wp2
 go_loopw [3,5,6,7,8,11] (fun s3 _ _ _ _ aP wr=> ∃(i:Nat) (v:Value) (L:List (It×Value×Value)),aP=Iv i/\i<=items.length/\v=s3/\Hid (EK wr (· <B) w.heap.size v L/\L.map (·.1)=BQ (items.take i)/\Below w.heap.size w wr)) (fun _ _ _ _ _ aP _=>items.length-(intOf aP).toNat);case atStart=>exact ⟨0,_,[],rfl,by omega,rfl,hid ⟨EK.nil (fun k hk=>Nat.lt_of_lt_of_le hk hB) zL,rfl,zB⟩⟩
 case round=>
  obtain ⟨i,v,L,rfl,hi,rfl,HI⟩:=hrel;obtain ⟨VA,VC,dT⟩:=HI.out.1.form;subst dT;have AV:=HI.out.2.2.size;by_cases B3:i<items.length
  ·obtain ⟨bb,o,x,pv,qv,rfl,AL,hd,H8,DA,F4⟩:=ZX.out.at_ B3;have H9:=H8.keep HI.out.2.2 (by omega);have aQ:items[i]? =some x:=by
    have:=congrArg List.head? hd
    rwa [List.head?_drop] at this
   have dU:=hid (HQ.out x (List.mem_of_getElem? aQ));have Z9:=hid (Gz aQ);obtain ⟨A1,k1,N0⟩:=DA.form;obtain ⟨A2,k2,N1⟩:=F4.form;subst N0 N1;have ZY:=hid DA;have ZZ:=hid F4;have N2:x.name.length<=10000:=by have:=dU.out.name;omega
   have fA:L.length<=items.length:=by have h1:L.length=(BQ (items.take i)).length:=(by rw[<-HI.out.2.1,List.length_map]);have h2:=Cu (items.take i);rw[List.length_take] at h2;omega
   have a2:=hid (show L.length<=1073741824 by omega);obtain ⟨h0,h1,h2,h3,h4,h5,h6,h7,h8,h9,N3,OV,P1,P2,PB⟩:=H9;clear H8 DA F4 hd aQ;obtain ⟨Wr,HC,A0,E9,PF⟩: ∃W:World,wr.alloc (.cells (IA x (pP A1 x k1) (lP A2 x k2)) 44)=W/\Below wr.heap.size wr W/\Hid (Yx W wr.heap.size x (pP A1 x k1) (lP A2 x k2))/\W.heap.size=wr.heap.size+1:=
    ⟨_,rfl,zA,hid (Yx.new _ _ _ _),by simp⟩
   obtain ⟨XB,aR⟩: ∃XB,wr.heap.size=XB:=⟨_,rfl⟩;rw[aR] at A0 E9 PF;obtain ⟨g0,g1,g2,g3,g4,g5,g6,g7,g8,g9,Q1,Q2,R0,S1,SS,gl⟩:=E9.out.c;go_wp2_with fail;(try rw[HC]);(try rw[aR]);clear HC h0 h1 h2 h3 h4 h5 h6 h7 h8 h9 N3 OV P1 P2 PB;go_wp2_with fail;refine (Bh x.name AZ Wr (by omega) (by decide)).mono ?_;rintro e w1 ⟨rfl,A7⟩;have DT:=A7.size;have HE:Below XB wr w1:=A0.trans (A7.mono (by omega));have H1:=hid (HI.out.2.2.trans (HE.mono (show w.heap.size<=XB by omega)));have G1:=hid (E9.out.keep A7 gl);have F1:=hid (HI.out.1.keep (aR▸HE));have G4:B<=w1.heap.size:=(by omega);have F2:=hid (show∀k,k<B->w1.heap[k]? =w.heap[k]? from fun k hk=>H1.out.block k (by omega));have dV:w.heap.size<=w1.heap.size:=(by omega);clear A0 A7 HE g0 g1 g2 g3 g4 g5 g6 g7 g8 g9 Q1 Q2 R0 S1 SS gl;cases bR:AF x.name AZ with
   |false=>
    have T5:=hid (F1.out.keep ((Below.refl w1.heap.size w1).alloc zL (.cells (IA x (pP A1 x k1) (lP A2 x k2)) 44)));have TT:=hid (ZY.out.x.move (w':=w1.alloc (.cells (IA x (pP A1 x k1) (lP A2 x k2)) 44)) (S':=InJ (w1.alloc (.cells (IA x (pP A1 x k1) (lP A2 x k2)) 44)) (· <B) w.heap.size (.slice VA L.length VC)) (fun k hk=>(Below.heap_alloc _ _ _ (by have:=G4;omega)).trans (F2.out k hk)) fun k hk=> .inl hk);have TX:=hid (ZZ.out.x.move (w':=w1.alloc (.cells (IA x (pP A1 x k1) (lP A2 x k2)) 44)) (S':=InJ (w1.alloc (.cells (IA x (pP A1 x k1) (lP A2 x k2)) 44)) (· <B) w.heap.size (.slice VA L.length VC)) (fun k hk=>(Below.heap_alloc _ _ _ (by have:=G4;omega)).trans (F2.out k hk)) fun k hk=> .inl hk);obtain ⟨c0,c1,c2,c3,c4,c5,c6,c7,c8,c9,c10,c11,c12,c13,c14,E0⟩:=G1.out.c;go_wp2_with (at_builtin;refine AU rfl _ _ 22 rfl w.heap.size 44 (.agg Z15) 15 176 underlying22 Ip rfl (by decide) (by decide) _ L.length _ rfl (F1.out.row.row.alloc _) w1.heap.size 1 (Xx x (pP A1 x k1) (lP A2 x k2)) rfl rfl (G9 _ _ rfl _ _ _) (by simp[Xx,Value.oneCell']) a2.out (by simp;omega) ?_;intro g cap w8 E1 HF HG _ AL;refine Hid.out ?_);refine hid ?_;have U1:=hid (T5.out.snoc HF HG.out rfl TT.out TX.out E1);have DD:=hid (AL.out w (H1.out.alloc (by omega) _));clear E1 HF HG AL;go_wp2
    go_roundw;case rel=>exact ⟨i+1,_,_,by go_num,by omega,rfl,hid ⟨U1.out,by rw[List.map_append,HI.out.2.1,Z9.out,G0 (.inl bR)];rfl,DD.out⟩⟩
    case measure=>simp[intOf];omega
   |true=>
    cases bS:(x.val.type==1) with
    |false=>
     have T5:=hid (F1.out.keep ((Below.refl w1.heap.size w1).alloc zL (.cells (IA x (pP A1 x k1) (lP A2 x k2)) 44)));have TT:=hid (ZY.out.x.move (w':=w1.alloc (.cells (IA x (pP A1 x k1) (lP A2 x k2)) 44)) (S':=InJ (w1.alloc (.cells (IA x (pP A1 x k1) (lP A2 x k2)) 44)) (· <B) w.heap.size (.slice VA L.length VC)) (fun k hk=>(Below.heap_alloc _ _ _ (by have:=G4;omega)).trans (F2.out k hk)) fun k hk=> .inl hk);have TX:=hid (ZZ.out.x.move (w':=w1.alloc (.cells (IA x (pP A1 x k1) (lP A2 x k2)) 44)) (S':=InJ (w1.alloc (.cells (IA x (pP A1 x k1) (lP A2 x k2)) 44)) (· <B) w.heap.size (.slice VA L.length VC)) (fun k hk=>(Below.heap_alloc _ _ _ (by have:=G4;omega)).trans (F2.out k hk)) fun k hk=> .inl hk);obtain ⟨c0,c1,c2,c3,c4,c5,c6,c7,c8,c9,c10,c11,c12,c13,c14,E0⟩:=G1.out.c;go_wp2_with (at_builtin;refine AU rfl _ _ 22 rfl w.heap.size 44 (.agg Z15) 15 176 underlying22 Ip rfl (by decide) (by decide) _ L.length _ rfl (F1.out.row.row.alloc _) w1.heap.size 1 (Xx x (pP A1 x k1) (lP A2 x k2)) rfl rfl (G9 _ _ rfl _ _ _) (by simp[Xx,Value.oneCell']) a2.out (by simp;omega) ?_;intro g cap w8 E1 HF HG _ AL;refine Hid.out ?_);refine hid ?_;have U1:=hid (T5.out.snoc HF HG.out rfl TT.out TX.out E1);have DD:=hid (AL.out w (H1.out.alloc (by omega) _));clear E1 HF HG AL;go_wp2
     go_roundw;case rel=>exact ⟨i+1,_,_,by go_num,by omega,rfl,hid ⟨U1.out,by rw[List.map_append,HI.out.2.1,Z9.out,G0 (.inr bS)];rfl,DD.out⟩⟩
     case measure=>simp[intOf];omega
    |true=>
     obtain ⟨c0,c1,c2,c3,c4,c5,c6,c7,c8,c9,c10,c11,c12,c13,c14,E0⟩:=G1.out.c;go_wp2_with fail;have ZI:=hid (show∀y∈L.map (·.1),Y7 y from by rw[HI.out.2.1];exact D1 fun z hz=>HQ.out z (List.mem_of_mem_take hz));obtain ⟨M,hM⟩: ∃M,L.map (·.1)=M:=⟨_,rfl⟩;have HM:=hid hM;have fB:M.length=L.length:=(by rw[<-hM,List.length_map]);have bT:L.length<=1000000:=(by omega);rw[hM] at ZI;clear hM c0 c1 c2 c3 c4 c5 c6 c7 c8 c9 c10 c11 c12 c13 c14 E0;go_loopw [6,7,8,26] (fun s6 _ _ aS wq=> ∃j:Nat,j<=L.length/\aS=Iv j/\s6=Iv (CB (M.take j))/\Below w1.heap.size w1 wq) (fun _ _ _ aS _=>L.length-(intOf aS).toNat);case atStart=>exact ⟨0,by omega,rfl,rfl,zB⟩
     case round=>
      obtain ⟨j,hj,rfl,rfl,A3⟩:=hrel;have ZJ:=A3.size;by_cases bU:j<L.length
      ·obtain ⟨g,gc,y,yp,yq,hv,bV,Y1,bW,a3,Y2,a4⟩:=(F1.out.keep A3).at_ bU;have aT:M[j]? =some y:=by rw[<-HM.out,List.getElem?_map,bW];rfl
       have aU:=hid (Ij aT);have fC:y.name.length<=10000:=by have:=(ZI.out y (List.mem_of_getElem? aT)).name;omega
       obtain ⟨B1,b1,rfl⟩:=Y2.form;obtain ⟨B2,b2,rfl⟩:=a4.form;simp only[Value.slice.injEq,true_and] at hv;obtain ⟨rfl,rfl⟩:=hv;obtain ⟨k0,k1',k2',k3,k4,k5,k6,k7,k8,k9,dW,dX,dY,dZ,e3⟩:=a3;obtain ⟨KI,aV⟩: ∃KI,CB (M.take j)=KI:=⟨_,rfl⟩;rw[aV] at aU;rw[aV];obtain ⟨YB,bX⟩: ∃YB,wr.heap.size=YB:=⟨_,rfl⟩;obtain ⟨Wy,bY,A6,aW,aX⟩: ∃W:World,wr.alloc (.cells (IA y (pP B1 y b1) (lP B2 y b2)) 44)=W/\Below wr.heap.size wr W/\Hid (Yx W wr.heap.size y (pP B1 y b1) (lP B2 y b2))/\W.heap.size=wr.heap.size+1:=
        ⟨_,rfl,zA,hid (Yx.new _ _ _ _),by simp⟩
       rw[bX] at A6 aW aX;obtain ⟨g0,g1,g2,g3,g4,g5,g6,g7,g8,g9,Q1,Q2,R0,S1,SS,gl⟩:=aW.out.c;clear bW aT Y2 a4 aV;go_wp2_with fail;(try rw[bY]);(try rw[bX]);clear bY k0 k1' k2' k3 k4 k5 k6 k7 k8 k9 dW dX dY dZ e3;go_wp2_with fail;refine (Bh y.name O3 Wy (by omega) (by decide)).mono ?_;rintro e w4 ⟨rfl,A8⟩;have aJ:=hid (A3.trans (A6.trans (A8.mono (by omega))|>.mono (show w1.heap.size<=YB by omega)));clear A6 A8 aW g0 g1 g2 g3 g4 g5 g6 g7 g8 g9 Q1 Q2 R0 S1 SS gl;cases bZ:AF y.name O3 with
       |true=>
        go_wp2
        go_roundw;case rel=>exact ⟨j+1,by omega,by go_num,by rw[aU.out,if_pos bZ],aJ.out⟩
        case measure=>simp[intOf];omega
       |false=>
        go_wp2
        go_roundw;case rel=>exact ⟨j+1,by omega,by go_num,by rw[aU.out,if_neg (by rw[bZ];decide)],aJ.out⟩
        case measure=>simp[intOf];omega
      ·have e4:j=M.length:=(by omega);subst e4;rw[List.take_length];replace F1:=hid (F1.out.keep A3);replace G1:=hid (G1.out.keep A3 G1.out.lt);replace H1:=hid (H1.out.trans (A3.mono dV));have e5:B<=wr.heap.size:=(by omega);replace F2:=hid (show∀k,k<B->wr.heap[k]? =w.heap[k]? from fun k hk=>H1.out.block k (by omega));have cA:w.heap.size<=wr.heap.size:=(by omega);clear A3 hj bU;rcases G3 M with hm|⟨k,hm,HY⟩
       ·rw[hm];have I4:=hid (Ko (out:=M) (x:=x) (by omega));have T5:=hid (F1.out.keep ((Below.refl wr.heap.size wr).alloc zL (.cells (IA x (pP A1 x k1) (lP A2 x k2)) 44)));have TT:=hid (ZY.out.x.move (w':=wr.alloc (.cells (IA x (pP A1 x k1) (lP A2 x k2)) 44)) (S':=InJ (wr.alloc (.cells (IA x (pP A1 x k1) (lP A2 x k2)) 44)) (· <B) w.heap.size (.slice VA L.length VC)) (fun k hk=>(Below.heap_alloc _ _ _ (by have:=G4;omega)).trans (F2.out k hk)) fun k hk=> .inl hk);have TX:=hid (ZZ.out.x.move (w':=wr.alloc (.cells (IA x (pP A1 x k1) (lP A2 x k2)) 44)) (S':=InJ (wr.alloc (.cells (IA x (pP A1 x k1) (lP A2 x k2)) 44)) (· <B) w.heap.size (.slice VA L.length VC)) (fun k hk=>(Below.heap_alloc _ _ _ (by have:=G4;omega)).trans (F2.out k hk)) fun k hk=> .inl hk);obtain ⟨c0,c1,c2,c3,c4,c5,c6,c7,c8,c9,c10,c11,c12,c13,c14,E0⟩:=G1.out.c;go_wp2_with (at_builtin;refine AU rfl _ _ 22 rfl w.heap.size 44 (.agg Z15) 15 176 underlying22 Ip rfl (by decide) (by decide) _ L.length _ rfl (F1.out.row.row.alloc _) wr.heap.size 1 (Xx x (pP A1 x k1) (lP A2 x k2)) rfl rfl (G9 _ _ rfl _ _ _) (by simp[Xx,Value.oneCell']) a2.out (by simp;omega) ?_;intro g cap w8 E1 HF HG _ AL;refine Hid.out ?_);refine hid ?_;have U1:=hid (T5.out.snoc HF HG.out rfl TT.out TX.out E1);have DD:=hid (AL.out w (H1.out.alloc (by omega) _));clear E1 HF HG AL;go_wp2
        go_roundw;case rel=>exact ⟨i+1,_,_,by go_num,by omega,rfl,hid ⟨U1.out,by rw[List.map_append,HM.out,Z9.out,<-HI.out.2.1,HM.out,I4.out];rfl,DD.out⟩⟩
        case measure=>simp[intOf];omega
       ·rw[hm];have e6:k<L.length:=(by omega);obtain ⟨g,gc,y,yp,yq,hv,bV,Y1,aY,a3,Y2,a4⟩:=F1.out.at_ e6;have aZ:M[k]? =some y:=by rw[<-HM.out,List.getElem?_map,aY];rfl
        have e7:=ZI.out y (List.mem_of_getElem? aZ);have b4:M.getD k default=y:=(by simp[List.getD,aZ]);obtain ⟨B1,b1,rfl⟩:=Y2.form;simp only[Value.slice.injEq,true_and] at hv;obtain ⟨rfl,rfl⟩:=hv;have fD:=e7.ps2;have f3:=Bq y.ps;have cB:=a3.c2;have a5:=hid Y2;have fE:(k:Int)<(L.length:Int):=(by omega);have e8: ¬(k:Int)<0:=(by omega);have eA:=hid (show∀p∈y.ps,p.name.length<=1073741824 from fun p hp=>by have:=Bd p;have:=Bp hp;omega);have eB:=hid aY;clear aY aZ Y2 a4 a3;go_wp2_with fail;refine (Gu y.ps AZ B1 b1 wr (a5.out.pms fun b hb=>by rcases hb with hb|hb;(· have:b<B:=hb;omega);(· exact hb.2.1)) (by omega) eA.out (by decide)).mono ?_;rintro e w5 ⟨rfl,A8⟩;have eC:=A8.size;have U2:=M1 y.ps AZ;obtain ⟨m,cC⟩: ∃m,CF y.ps AZ=m:=⟨_,rfl⟩;rw[cC] at U2⊢;clear cC;replace F1:=hid (F1.out.keep A8);replace G1:=hid (G1.out.keep A8 G1.out.lt);replace H1:=hid (H1.out.trans (A8.mono cA));have eD:B<=w5.heap.size:=(by omega);replace F2:=hid (show∀k,k<B->w5.heap[k]? =w.heap[k]? from fun k hk=>H1.out.block k (by omega));have cD:w.heap.size<=w5.heap.size:=(by omega);have cE:=(A8.cell (p:=(Ad g (k*15+2))) Y1).trans cB;replace a5:=hid (a5.out.move (w':=w5) (S':=InJ w5 (· <B) w.heap.size (.slice (some (Ad g 0)) L.length VC)) (fun b hb=>A8.block b (by rcases hb with hb|hb;(· have:b<B:=hb;omega);(· exact hb.2.1))) fun b hb=>by
         rcases hb with hb|hb
         ·exact .inl hb
         ·exact .inr ⟨hb.1,Nat.lt_of_lt_of_le hb.2.1 eC,hb.2.2⟩)
        clear A8 cB;cases a6:F7 AZ y.ps with
        |true=>
         rw[a6] at U2;have eE: ¬m<0:=of_decide_eq_false U2;have I4:=hid (Lp (x:=x) hm (by rw[b4];exact a6));clear U2 cE;have T5:=hid (F1.out.keep ((Below.refl w5.heap.size w5).alloc zL (.cells (IA x (pP A1 x k1) (lP A2 x k2)) 44)));have TT:=hid (ZY.out.x.move (w':=w5.alloc (.cells (IA x (pP A1 x k1) (lP A2 x k2)) 44)) (S':=InJ (w5.alloc (.cells (IA x (pP A1 x k1) (lP A2 x k2)) 44)) (· <B) w.heap.size (.slice (some (Ad g 0)) L.length VC)) (fun k hk=>(Below.heap_alloc _ _ _ (by have:=G4;omega)).trans (F2.out k hk)) fun k hk=> .inl hk);have TX:=hid (ZZ.out.x.move (w':=w5.alloc (.cells (IA x (pP A1 x k1) (lP A2 x k2)) 44)) (S':=InJ (w5.alloc (.cells (IA x (pP A1 x k1) (lP A2 x k2)) 44)) (· <B) w.heap.size (.slice (some (Ad g 0)) L.length VC)) (fun k hk=>(Below.heap_alloc _ _ _ (by have:=G4;omega)).trans (F2.out k hk)) fun k hk=> .inl hk);obtain ⟨c0,c1,c2,c3,c4,c5,c6,c7,c8,c9,c10,c11,c12,c13,c14,E0⟩:=G1.out.c;go_wp2_with (at_builtin;refine AU rfl _ _ 22 rfl w.heap.size 44 (.agg Z15) 15 176 underlying22 Ip rfl (by decide) (by decide) _ L.length _ rfl (F1.out.row.row.alloc _) w5.heap.size 1 (Xx x (pP A1 x k1) (lP A2 x k2)) rfl rfl (G9 _ _ rfl _ _ _) (by simp[Xx,Value.oneCell']) a2.out (by simp;omega) ?_;intro g cap w8 E1 HF HG _ AL;refine Hid.out ?_);refine hid ?_;have U1:=hid (T5.out.snoc HF HG.out rfl TT.out TX.out E1);have DD:=hid (AL.out w (H1.out.alloc (by omega) _));clear E1 HF HG AL;go_wp2
         go_roundw;case rel=>exact ⟨i+1,_,_,by go_num,by omega,rfl,hid ⟨U1.out,by rw[List.map_append,HM.out,Z9.out,<-HI.out.2.1,HM.out,I4.out];rfl,DD.out⟩⟩
         case measure=>simp[intOf];omega
        |false=>
         rw[a6] at U2;have eE:m<0:=of_decide_eq_true U2;have I4:=hid (Lq (x:=x) bR bS hm (by rw[b4];exact a6));rw[b4] at I4;have b6:EK w5.drew (· <B) w.heap.size (.slice (some (Ad g 0)) L.length VC) L:=F1.out.move (fun _ _ _=>rfl) zL;have eF:=hid (Rx b6 y.ps (pP B1 y b1) a5.out AZ x.val.text (by omega));have eG:w5.drew.cell? (Ad g (k*15+2))=some (pP B1 y b1):=cE;have eH:g<w5.heap.size:=(by omega);have fF:w5.drew.cell? (Ad XB 4)=some (Sv x.val.text):=G1.out.c.c4;have cF:=hid b6;have fG:w5.cell? (Ad XB 4)=some (Sv x.val.text):=G1.out.c.c4;clear U2 b6;go_wp2_with fail;go_region_with (go_at_call 43;refine eF.out.mono ?_;rintro e9 w9 ⟨A9,n9,k9,rfl,cG,E2⟩;have cH:=hid E2;have eI:=hid cG;have fH:=(E2.cell (p:=(Ad g (k*15+2))) (show g<w5.drew.heap.size from eH)).trans eG;have fI:=(cF.out.keep E2).row.frozen (k*15+2);clear E2 cG);all_goals
          go_wp2
          go_roundw;case rel=>
           refine ⟨i+1,_,_,by go_num,by omega, ?_,hid ⟨(cF.out.keep cH.out).setP eB.out _ _ eI.out, ?_, ?_⟩⟩
           ·rfl
           ·rw[List.map_set,HM.out,Z9.out,<-HI.out.2.1,HM.out,I4.out]
           ·exact (H1.out.drew.trans (cH.out.mono (show w.heap.size<=w5.drew.heap.size from cD))).setCell (p:=(Ad g (k*15+2))) bV _
          case measure=>simp[intOf];omega
  ·have eJ:i=items.length:=(by omega);go_wp2
   go_ret;exact ⟨_,L,rfl,HI.out.1,by rw[HI.out.2.1,eJ,List.take_length],HI.out.2.2⟩
theorem FW (x:It) (v:Int) (A:Option Addr) (c:Nat) (A':Option Addr) (c':Nat) (w:World) (hL:LD w) (hx:OE w x A c A' c') (hE:Bl x.val=0):
 Calls prog 57 #[Yp x (pP A x c) (lP A' x c'),Iv v] w fun e w'=>e= .returned (.string ⟨(Bx x v).toArray⟩)/\Below w.heap.size w w':=by
 have Y1:=hx.b.group;have N2:=hx.b.name;have b7:=hx.b.ps;have eK:=My hx.b.text hx.b.parts;simp only[Yp];obtain ⟨W0,E3⟩: ∃W0,w.alloc (.cells (IA x (pP A x c) (lP A' x c')) 44)=W0:=⟨_,rfl⟩;have AW:Below w.heap.size w W0:=by rw[<-E3];exact zA
 have V5:=hid (show ItC W0 w.heap.size x (pP A x c) (lP A' x c') by rw[<-E3];exact ItC.new _ _ _ _);have V6:=hid (hx.keep AW);have HZ:=hL.below AW;clear hx hL;go_enter func57,ntmps57;obtain ⟨c0,c1,c2,c3,c4,c5,c6,c7,c8,c9,c10,c11,c12,c13,c14,E0⟩:=V5.out;go_wp2_with fail;(try rw[E3]);clear E3;refine (NX x.val A' c' _ HZ V6.out.vl hE).mono ?_;rintro e w1 ⟨rfl,A0⟩;have F3:=AW.trans (A0.mono AW.size);have E9:=hid (V5.out.keep A0 E0);have a7:=hid (V6.out.keep A0);have HH:=HZ.below A0;have cI:=hid (show Bx x v=DH x.group x.name x.ps (LE x.val) (v==4) from rfl);obtain ⟨T,cJ⟩: ∃T,LE x.val=T:=⟨_,rfl⟩;rw[cJ] at eK cI⊢;have eL:T.length<=536870912:=(by omega);clear cJ c0 c1 c2 c3 c4 c5 c6 c7 c8 c9 c10 c11 c12 c13 c14 E0 V5 V6 HZ AW A0 hE;obtain ⟨c0,c1,c2,c3,c4,c5,c6,c7,c8,c9,c10,c11,c12,c13,c14,E0⟩:=E9.out;go_wp2_with fail;refine (Lz x.group x.name x.ps T (v==4) A c _ HH a7.out.pms Y1 N2 eL b7).mono ?_;rintro e w2 ⟨⟨p,q,rfl⟩,A7⟩;have Y3:=F3.trans (A7.mono F3.size);go_wp2
 go_ret;exact ⟨by rw[cI.out];rfl,Y3.alloc Y3.size _⟩
theorem FD {b:Bool}: ∀{ps:List Pm} {k:Nat},Az b k ps=none-> ∀p∈ps,AP p.name=true
 |[],_,_,p,hp=>by simp at hp
 |q::r,k,h,p,hp=>by
  unfold Az at h;split at h
  ·rename_i h0;rcases List.mem_cons.1 hp with rfl|hp
   ·unfold Dj at h0;split at h0
    ·assumption
    ·cases h0
   ·exact FD h p hp
  ·cases h
theorem Fi {b:Bool}: ∀{ps:List Pm} {k:Nat} {f:Int×Int},Az b k ps=some f->f.1≠0
 |[],_,_,h=>by cases h
 |p::r,k,f,h=>by
  unfold Az at h;split at h
  ·exact Fi h
  ·rename_i eM;injection h with h;rw[<-h];exact eM
theorem L0 {g n:Str} {ps:List Pm} {v:Str} {b:Bool} (h:(BZ g n ps v b).1=0): ∀p∈ps,AP p.name=true:=by
 unfold BZ at h;split at h
 ·cases h
 split at h
 ·cases h
 split at h
 ·rename_i f hf;exact absurd h (Fi hf)
 ·rename_i hn;exact FD hn
theorem Ns (a b:Str):AF a b=AF b a:=by unfold AF;rw[Bool.eq_iff_iff,beq_iff_eq,beq_iff_eq];exact ⟨Eq.symm,Eq.symm⟩
def QF:Str:=[98,101,103,105,110]
def WZ:Str:=[101,110,100]
def Jd:Str:=[118,101,114,115,105,111,110]
def QG:Str:=[116,121,112,101]
theorem L3 (n:Str):Dy n=(AF n QF||AF n WZ||AF n Jd):=rfl
theorem QH (n:Str):AF n QG=AF n Ae:=rfl
theorem D5: ∀(t:List (Str×Ru)) (u:Str),(∀r∈t,0<=r.2.parts)->0<=(DN t u).parts
 |[],_,_=>by show (0:Int)<=0;decide
 |r::t,u,h=>by
  rw[DN];split
  ·exact h r (by simp)
  ·exact D5 t u (fun x hx=>h x (by simp[hx]))
theorem Nt (n:Str) (v:Int):0<=(AR n v).parts:=by
 unfold AR EP;split
 ·exact D5 Tp _ (by decide)
 ·exact D5 Tq _ (by decide)
def ZH (p q:Pm):Bool:=AF p.name q.name&& !AF p.name QG
theorem QI (p:Pm) (l:List Pm):l.any (ZH p)=(!AF p.name Ae&&l.any (fun q=>AF q.name p.name)):=by
 unfold ZH;rw[QH];cases AF p.name Ae with
 |true=>simp
 |false=>
  simp only[Bool.not_false,Bool.and_true,Bool.true_and]
  congr 1
  funext q;exact Ns _ _
theorem Nu (seen:List Pm) (p:Pm) (r:List Pm) (h:BS p=true) (h1:seen.any (ZH p)=true):B7 seen (p::r)=9:=by rw[QI] at h1;rw[B7,h,h1];rfl
theorem R4 (seen:List Pm) (p:Pm) (r:List Pm) (h:BS p=true) (h1:seen.any (ZH p)=false):B7 seen (p::r)=B7 (seen++[p]) r:=by rw[QI] at h1;rw[B7,h,h1];rfl
theorem Xv.take_ {w:World} {B:Nat} {A:Option Addr} {c k:Nat} {ps:List Pm} (h:Xv w B (.slice A ps.length c) ps) (hk:k<=ps.length):Xv w B (.slice A (ps.take k).length c) (ps.take k):=by
 obtain ⟨vs,⟨A',c',e,hc,h1⟩,h2⟩:=h;simp only[Value.slice.injEq] at e;obtain ⟨rfl, -,rfl⟩:=e;have hl:(ps.take k).length=k:=by rw[List.length_take];omega
 have hg: ∀i,i<k->(ps.take k).getD i default=ps.getD i default:=fun i hi=>(by simp[List.getD,List.getElem?_take,hi]);refine ⟨vs,⟨A,c,rfl,by omega,fun hn=> ?_⟩,fun i hi=> ?_⟩
 ·obtain ⟨b,o,e,eN,h3⟩:=h1 (by omega);exact ⟨b,o,e,eN,fun i hi j hj=>by rw[h3 i (by omega) j hj];simp only[hg i (by omega)]⟩
 ·rw[hg i (by omega)];exact h2 i (by omega)
theorem QJ (x:It) (v:Int) (hv:v=3∨v=4) (A:Option Addr) (c:Nat) (A':Option Addr) (c':Nat) (w:World) (hL:LD w) (hx:OE w x A c A' c'):
 Calls prog 25 #[Yp x (pP A x c) (lP A' x c'),Iv v] w fun e w'=>e= .returned (Iv (CY x v))/\Below w.heap.size w w':=by
 have fJ:=Bq x.ps;have Y1:=hx.b.group;have N2:=hx.b.name;have b7:=hx.b.ps;have HM:=hid fun p (h:p∈x.ps)=>Bp h;have HB:=hid (Ki hx.b.ps);simp only[Yp];obtain ⟨W0,E3⟩: ∃W0,w.alloc (.cells (IA x (pP A x c) (lP A' x c')) 44)=W0:=⟨_,rfl⟩;have AW:Below w.heap.size w W0:=by rw[<-E3];exact zA
 have V5:=hid (show ItC W0 w.heap.size x (pP A x c) (lP A' x c') by rw[<-E3];exact ItC.new _ _ _ _);have V6:=hid (hx.keep AW);have HZ:=hL.below AW;have HV:=hid hv;clear hx hL hv;go_enter func25,ntmps25;obtain ⟨c0,c1,c2,c3,c4,c5,c6,c7,c8,c9,c10,c11,c12,c13,c14,E0⟩:=V5.out;go_wp2_with fail;(try rw[E3]);clear E3;refine (Hb x.group x.name x.ps [] (v==4) A c _ HZ V6.out.pms Y1 N2 (by simp) b7).mono ?_;rintro e w1 ⟨⟨pp,rfl⟩,A0⟩;have F3:=AW.trans (A0.mono AW.size);have E9:=hid (V5.out.keep A0 E0);have a7:=hid (V6.out.keep A0);have HH:=HZ.below A0;have clt1:=Nat.lt_of_lt_of_le E0 A0.size;clear c0 c1 c2 c3 c4 c5 c6 c7 c8 c9 c10 c11 c12 c13 c14 E0 V5 V6 HZ AW A0;obtain ⟨E,b8⟩: ∃E,(BZ x.group x.name x.ps [] (v==4)).1=E:=⟨_,rfl⟩;rw[b8];have VX:=hid b8;clear b8;obtain ⟨W2,Z0⟩: ∃W2,w1.alloc (.cells #[Iv E,Iv pp] 28)=W2:=⟨_,rfl⟩;have A7:Below w1.heap.size w1 W2:=by rw[<-Z0];exact zA
 have e0:W2.cell? (Ad w1.heap.size 0)=some (Iv E):=by rw[<-Z0];simp
 have e1:W2.cell? (Ad w1.heap.size 1)=some (Iv pp):=by rw[<-Z0];simp
 have H2:w1.heap.size<W2.heap.size:=by rw[<-Z0];simp
 obtain ⟨fb,cK⟩: ∃fb,w1.heap.size=fb:=⟨_,rfl⟩;have Y3:=F3.trans (A7.mono F3.size);have bA:=hid (E9.out.keep A7 clt1);have cL:=hid (a7.out.keep A7);have W1:=HH.below A7;rw[cK] at e0 e1 H2;clear E9 a7 HH A7 clt1 F3;go_wp2_with fail;(try rw[Z0]);clear Z0 cK;refine (CU E pp _).mono ?_;rintro e w3 ⟨rfl,cM⟩;have A3:Below W2.heap.size W2 w3:=by rw[<-cM];exact zA
 have L1:=Y3.trans (A3.mono Y3.size);have L7:=hid (bA.out.keep A3 (Nat.lt_of_lt_of_le bA.out.lt zL));have Z1:=hid (cL.out.keep A3);have Z2:=W1.below A3;replace e0:=(A3.cell (p:=(Ad fb 0)) H2).trans e0;clear bA cL W1 Y3 A3 cM H2 e1;by_cases hE:E=0;rotate_left
 ·have HR:=hid (Gx VX.out hE);have hq:(E==0)=false:=(by simpa using hE);clear hE;go_wp2
  go_ret;exact ⟨by rw[HR.out];rfl,L1⟩
 subst hE;have eO:=hid (L0 VX.out);clear e0;have ZK:=L3 x.name;obtain ⟨c0,c1,c2,c3,c4,c5,c6,c7,c8,c9,c10,c11,c12,c13,c14,clt3⟩:=L7.out;go_wp2_with fail;refine (Ay x.name QF _ (by omega) (by decide)).mono ?_;rintro e w4 ⟨rfl,A6⟩;have L2:=L1.trans (A6.mono L1.size);have I0:=hid (L7.out.keep A6 clt3);have W3:=hid (Z1.out.keep A6);have Z3:=Z2.below A6;clear c0 c1 c2 c3 c4 c5 c6 c7 c8 c9 c10 c11 c12 c13 c14 clt3 L7 Z1 Z2 L1 A6;obtain ⟨z1,DT⟩: ∃z,AF x.name QF=z:=⟨_,rfl⟩;rw[DT] at ZK⊢;cases z1 with
 |true=>
  have HR:=hid (Dg VX.out (by rw[ZK];rfl));clear DT ZK;go_wp2
  go_ret;exact ⟨by rw[HR.out];rfl,L2⟩
 |false=>
 obtain ⟨c0,c1,c2,c3,c4,c5,c6,c7,c8,c9,c10,c11,c12,c13,c14,clt4⟩:=I0.out;have I1:=hid ZK;clear DT ZK;go_wp2_with fail;refine (Ay x.name WZ _ (by omega) (by decide)).mono ?_;rintro e w5 ⟨rfl,A8⟩;have B0:=L2.trans (A8.mono L2.size);have L8:=hid (I0.out.keep A8 clt4);have L4:=hid (W3.out.keep A8);have Z4:=Z3.below A8;clear c0 c1 c2 c3 c4 c5 c6 c7 c8 c9 c10 c11 c12 c13 c14 clt4 I0 W3 Z3 L2 A8;obtain ⟨z2,H2⟩: ∃z,AF x.name WZ=z:=⟨_,rfl⟩;rw[H2] at I1⊢;clear H2;cases z2 with
 |true=>
  have HR:=hid (Dg VX.out (by rw[I1.out];rfl));go_wp2
  go_ret;exact ⟨by rw[HR.out];rfl,B0⟩
 |false=>
 obtain ⟨c0,c1,c2,c3,c4,c5,c6,c7,c8,c9,c10,c11,c12,c13,c14,clt5⟩:=L8.out;go_wp2_with fail;refine (Ay x.name Jd _ (by omega) (by decide)).mono ?_;rintro e w6 ⟨rfl,AB⟩;have hB:=B0.trans (AB.mono B0.size);have ZL:=hid (L8.out.keep AB clt5);have ZM:=hid (L4.out.keep AB);have cO:=Z4.below AB;clear c0 c1 c2 c3 c4 c5 c6 c7 c8 c9 c10 c11 c12 c13 c14 clt5 L8 L4 Z4 B0 AB;obtain ⟨z3,ZJ⟩: ∃z,AF x.name Jd=z:=⟨_,rfl⟩;rw[ZJ] at I1⊢;clear ZJ;cases z3 with
 |true=>
  have HR:=hid (Dg VX.out (by rw[I1.out];rfl));go_wp2
  go_ret;exact ⟨by rw[HR.out];rfl,hB⟩
 |false=>
 have L6:=hid (Pg VX.out (by rw[I1.out];rfl));clear I1 VX;obtain ⟨IB,W4⟩: ∃IB,IB=w.heap.size:=⟨_,rfl⟩;rw[<-W4] at ZL⊢;obtain ⟨c0,c1,c2,c3,c4,c5,c6,c7,c8,c9,c10,c11,c12,c13,c14,E0⟩:=ZL.out;have HI:=hid W4;clear W4;go_wp2
 go_loopw [6,7,9,46] (fun _ _ _ i wr=> ∃k:Nat,k<=x.ps.length/\i=Iv k/\Hid (B7 [] x.ps=B7 (x.ps.take k) (x.ps.drop k))/\Below w6.heap.size w6 wr) (fun _ _ _ i _=>x.ps.length-(intOf i).toNat);case atStart=>exact ⟨0,by omega,rfl,hid rfl,zB⟩
 case round=>
  clear c0 c1 c2 c3 c4 c5 c6 c7 c8 c9 c10 c11 c12 c13 c14;obtain ⟨k,hk,rfl,HP,hb⟩:=hrel;have AV:=hb.size;have a8:=hid (ZL.out.keep hb E0);have a9:=hid (ZM.out.keep hb);have HK:=cO.below hb;have L9:=hB.trans (hb.mono hB.size);by_cases HY:k<x.ps.length
  ·obtain ⟨bb,o,p,u,rfl,AL,hd,hc,cP,hu⟩:=ZM.out.pms.at_ HY;have fK:=(hb.cell (p:=(Ad bb (o+k*2))) AL).trans hc;have f4:=(hb.cell (p:=(Ad bb (o+k*2+1))) AL).trans cP;have DA:p∈x.ps:=List.mem_of_mem_drop (by rw[hd];simp);have fL:=HM.out p DA;have fM:=Bd p;have ZN:=eO.out p DA;have HD:=hid hd;have HU:=hid (hu.keep hb AV);obtain ⟨A2,c2,hf⟩:=hu.form;subst hf;clear hc cP hd hu DA;obtain ⟨bq,H3⟩: ∃bq,wr.heap.size=bq:=⟨_,rfl⟩;obtain ⟨Wr,HC,A0,d0,d1,DT⟩: ∃W:World,wr.alloc (.cells #[Sv p.name,vP A2 p c2] 57)=W/\Below wr.heap.size wr W/\W.cell? (Ad bq 0)=some (Sv p.name)/\W.cell? (Ad bq 1)=some (vP A2 p c2)/\bq<W.heap.size:=
    ⟨_,rfl,zA,by rw[<-H3];simp,by rw[<-H3];simp,by rw[<-H3];simp⟩
   have cQ:=hid (HU.out.keep A0 A0.size);have HH:=HK.below A0;have ZO:=hb.trans (A0.mono AV);clear HU a8 a9 HK;go_wp2_with fail;(try rw[HC]);clear HC H3;refine (QE p A2 c2 _ HH ZN cQ.out (by omega)).mono ?_;rintro e w3 ⟨rfl,A3⟩;have A6:=ZO.trans (A3.mono ZO.size);have eP:=(A3.cell (p:=(Ad bq 0)) DT).trans d0;have ZJ:=Nat.lt_of_lt_of_le DT A3.size;clear A3 cQ HH d0 d1 DT A0 ZO;by_cases H0:BS p=true;rotate_left
   ·have H0:BS p=false:=(by simpa using H0);have HR:=hid (show CY x v=3 by rw[L6.out,HP.out,HD.out,Kj _ _ _ H0];rfl);rw[H0];clear HP HD L6 H0;go_wp2
    go_ret;exact ⟨by rw[HR.out];rfl,hB.trans (A6.mono hB.size)⟩
   rw[H0];have cR:=hid H0;have I0:=hid (ZL.out.keep A6 E0);have W3:=hid ((ZM.out.keep A6).pms.take_ (k:=k) (by omega));have B3:(x.ps.take k).length=k:=by rw[List.length_take];omega
   obtain ⟨c0,c1,c2,c3,c4,c5,c6,c7,c8,c9,c10,c11,c12,c13,c14,clt4⟩:=I0.out;have fN:(k:Int)<=(x.ps.length:Int):=(by omega);have fO:x.ps.length<=c:=by obtain ⟨_,⟨A',c',e,h,_⟩,_⟩:=ZM.out.pms;simp only[Value.slice.injEq] at e;omega
   have fP:(k:Int)<=(c:Int):=(by omega);clear H0;go_wp2_with fail;clear c0 c1 c2 c3 c4 c5 c6 c7 c8 c9 c10 c11 c12 c13 c14 I0 clt4;go_loopw [9,59] (fun _ i wx=> ∃j:Nat,j<=k/\i=Iv j/\Hid ((x.ps.take k).any (ZH p)=((x.ps.take k).drop j).any (ZH p))/\Below w3.heap.size w3 wx) (fun _ i _=>k-(intOf i).toNat);case atStart=>exact ⟨0,by omega,rfl,hid rfl,zB⟩
   case round=>
    obtain ⟨j,hj,rfl,HJ,Z5⟩:=hrel;have cS:=Z5.size;have d0x:=(Z5.cell (p:=(Ad bq 0)) ZJ).trans eP;by_cases eQ:j<k
    ·obtain ⟨b5,o5,q,u5,cT,aK,bB,cU,cV,cW⟩:=W3.out.at_ (k:=j) (by rw[B3];exact eQ);obtain ⟨rfl,rfl⟩:bb=b5/\o=o5:=(by simpa using cT);have fQ:=(Z5.cell (p:=(Ad bb (o+j*2))) aK).trans cU;have f5:=(Z5.cell (p:=(Ad bb (o+j*2+1))) aK).trans cV;have cX:q∈x.ps:=List.mem_of_mem_take (List.mem_of_mem_drop (by rw[bB];simp));have fR:=HM.out q cX;have fS:=Bd q;have ZP:=hid (show (x.ps.take k).any (ZH p)=(ZH p q||((x.ps.take k).drop (j+1)).any (ZH p)) by rw[HJ.out,bB,List.any_cons]);obtain ⟨A5,c5',eR⟩:=cW.form;subst eR;obtain ⟨bz,W9⟩: ∃bz,wr.heap.size=bz:=⟨_,rfl⟩;obtain ⟨Wq,cY,WA,y0,y1,cZ⟩: ∃W:World,wr.alloc (.cells #[Sv q.name,vP A5 q c5'] 57)=W/\Below wr.heap.size wr W/\W.cell? (Ad bz 0)=some (Sv q.name)/\W.cell? (Ad bz 1)=some (vP A5 q c5')/\bz<W.heap.size:=
      ⟨_,rfl,zA,by rw[<-W9];simp,by rw[<-W9];simp,by rw[<-W9];simp⟩
     have d0y:=(WA.cell (p:=(Ad bq 0)) (by simp;omega)).trans d0x;have aL:=Z5.trans (WA.mono cS);have aX:bq<Wq.heap.size:=by have:=WA.size;omega
     clear bB cU cV cW cT HJ cX WA;go_wp2_with fail;(try rw[cY]);clear cY W9;refine (Ay p.name q.name _ (by omega) (by omega)).mono ?_;rintro e w7 ⟨rfl,W5⟩;have ZQ:=aL.trans (W5.mono aL.size);have fT:=(W5.cell (p:=(Ad bq 0)) aX).trans d0y;clear W5 d0y y0 y1;obtain ⟨z1,DT⟩: ∃z,AF p.name q.name=z:=⟨_,rfl⟩;have HT:=hid (show ZH p q=(z1&& !AF p.name QG) by unfold ZH;rw[DT]);rw[DT];clear DT;cases z1 with
     |false=>
      have HN:=hid (show (x.ps.take k).any (ZH p)=((x.ps.take k).drop (j+1)).any (ZH p) by rw[ZP.out,HT.out];rfl);clear ZP HT;go_wp2
      go_roundw;case rel=>exact ⟨j+1,by omega,by go_num,HN,ZQ⟩
      case measure=>simp[intOf];omega
     |true=>
      go_wp2_with fail;refine (Ay p.name QG _ (by omega) (by decide)).mono ?_;rintro e w8 ⟨rfl,DD⟩;have aM:=ZQ.trans (DD.mono ZQ.size);clear DD;obtain ⟨z2,H2⟩: ∃z,AF p.name QG=z:=⟨_,rfl⟩;rw[H2] at HT⊢;clear H2;cases z2 with
      |true=>
       have HN:=hid (show (x.ps.take k).any (ZH p)=((x.ps.take k).drop (j+1)).any (ZH p) by rw[ZP.out,HT.out];rfl);clear ZP HT;go_wp2
       go_roundw;case rel=>exact ⟨j+1,by omega,by go_num,HN,aM⟩
       case measure=>simp[intOf];omega
      |false=>
       have HR:=hid (show CY x v=9 by rw[L6.out,HP.out,HD.out,Nu _ _ _ cR.out (by rw[ZP.out,HT.out];rfl)];rfl);have HL:=hB.trans (((A6.trans (aM.mono A6.size))).mono hB.size);go_wp2
       go_ret;exact ⟨by rw[HR.out];rfl,HL⟩
    ·obtain rfl:j=k:=(by omega);have HN:=hid (show B7 [] x.ps=B7 (x.ps.take (j+1)) (x.ps.drop (j+1)) by
      rw[HP.out,<-DP HD.out]
      conv=>lhs;rw[HD.out]
      rw[R4 _ _ _ cR.out (by rw[HJ.out,List.drop_of_length_le (by omega)];rfl)])
     have HL:=A6.trans (Z5.mono A6.size);clear HJ HP HD;go_wp2
     go_roundw;case rel=>exact ⟨j+1,by omega,by go_num,HN,HL⟩
     case measure=>simp[intOf];omega
  ·obtain rfl:k=x.ps.length:=(by omega);have d2:B7 [] x.ps=0:=by rw[HP.out,List.drop_length];rfl
   have LB:=hid (show CY x v=if Cs x.name x.ps v≠x.val.type then 1 else if Bl x.val≠0 then Bl x.val else if x.val.type=3/\0<(AR x.name v).parts/\(x.val.parts.length:Int)≠(AR x.name v).parts then 2 else if 1500<(Bx x v).length then 4 else 0 by rw[L6.out,if_neg (by rw[d2];decide)]);obtain ⟨c0,c1,c2,c3,c4,c5,c6,c7,c8,c9,c10,c11,c12,c13,c14,cltr⟩:=a8.out;clear d2 HP L6 ZL ZM cO hb hB E0;go_wp2_with fail;refine (Pk x.name x.ps v HV.out A c _ HK a9.out.pms (by omega) (by omega) HB.out).mono ?_;rintro e w3 ⟨rfl,A3⟩;have L1:=L9.trans (A3.mono L9.size);have L7:=hid (a8.out.keep A3 cltr);have Z1:=hid (a9.out.keep A3);have Z2:=HK.below A3;clear c0 c1 c2 c3 c4 c5 c6 c7 c8 c9 c10 c11 c12 c13 c14 cltr a8 a9 HK L9 A3 AV;by_cases hT:Cs x.name x.ps v=x.val.type;rotate_left
   ·have HR:=hid (show CY x v=1 by rw[LB.out,if_pos hT]);obtain ⟨T,d3⟩: ∃T,Cs x.name x.ps v=T:=⟨_,rfl⟩;rw[d3] at hT⊢;have hq:(T != x.val.type)=true:=(by simpa using hT);obtain ⟨c0,c1,c2,c3,c4,c5,c6,c7,c8,c9,c10,c11,c12,c13,c14,clt3⟩:=L7.out;clear d3 hT LB;go_wp2
    go_ret;exact ⟨by rw[HR.out];rfl,L1⟩
   have W6:=hid (show CY x v=if Bl x.val≠0 then Bl x.val else if x.val.type=3/\0<(AR x.name v).parts/\(x.val.parts.length:Int)≠(AR x.name v).parts then 2 else if 1500<(Bx x v).length then 4 else 0 by rw[LB.out,if_neg (by simpa using hT)]);rw[hT];clear LB hT;have hq:(x.val.type != x.val.type)=false:=(by simp);obtain ⟨c0,c1,c2,c3,c4,c5,c6,c7,c8,c9,c10,c11,c12,c13,c14,clt3⟩:=L7.out;go_wp2_with fail;refine (Gk x.val A' c' _ Z2 Z1.out.vl).mono ?_;rintro e w4 ⟨rfl,A6⟩;have L2:=L1.trans (A6.mono L1.size);have I0:=hid (L7.out.keep A6 clt3);have W3:=hid (Z1.out.keep A6);have Z3:=Z2.below A6;clear c0 c1 c2 c3 c4 c5 c6 c7 c8 c9 c10 c11 c12 c13 c14 clt3 L7 Z1 Z2 L1 A6 hq;by_cases LL:Bl x.val=0;rotate_left
   ·have HR:=hid (show CY x v=Bl x.val by rw[W6.out,if_pos LL]);obtain ⟨V,hV⟩: ∃V,Bl x.val=V:=⟨_,rfl⟩;rw[hV] at LL HR⊢;have hq:(V != 0)=true:=(by simpa using LL);clear W6 LL hV;go_wp2
    go_ret;exact ⟨by rw[HR.out];rfl,L2⟩
   have I2:=hid (show CY x v=if x.val.type=3/\0<(AR x.name v).parts/\(x.val.parts.length:Int)≠(AR x.name v).parts then 2 else if 1500<(Bx x v).length then 4 else 0 by rw[W6.out,if_neg (by rw[LL];decide)]);have bC:=hid LL;rw[LL];clear W6 LL;obtain ⟨c0,c1,c2,c3,c4,c5,c6,c7,c8,c9,c10,c11,c12,c13,c14,clt4⟩:=I0.out;go_wp2_with fail;refine (GB x.name v HV.out (by omega) _ Z3).mono ?_;rintro e w5 ⟨rfl,A8⟩;have B0:=L2.trans (A8.mono L2.size);have L8:=hid (I0.out.keep A8 clt4);have L4:=hid (W3.out.keep A8);have Z4:=Z3.below A8;clear c0 c1 c2 c3 c4 c5 c6 c7 c8 c9 c10 c11 c12 c13 c14 clt4 I0 W3 Z3 L2 A8;have d4:=Nt x.name v;obtain ⟨R,hR⟩: ∃R,AR x.name v=R:=⟨_,rfl⟩;rw[hR] at I2 d4⊢;clear hR;obtain ⟨r0,r1,r2,r3⟩:=R;simp only[Ym];simp only at I2 d4;have H4:Below w5.heap.size w5 (w5.alloc (.cells #[Iv r0,Iv r1,Iv r2,Iv r3] 74)):=zA;obtain ⟨c0,c1,c2,c3,c4,c5,c6,c7,c8,c9,c10,c11,c12,c13,c14,clt5⟩:=L8.out;by_cases ht:x.val.type=3;rotate_left
   ·have q3:(x.val.type==3)=false:=(by simpa using ht);have HO:=hid (show CY x v=if 1500<(Bx x v).length then 4 else 0 by rw[I2.out,if_neg (fun h=>ht h.1)]);clear ht I2;go_wp2_with fail;refine (FW x v A c A' c' _ (Z4.below H4) (L4.out.keep H4) bC.out).mono ?_;rintro e w6 ⟨rfl,AB⟩;have M2:=(B0.trans (H4.mono B0.size)).trans (AB.mono (B0.trans (H4.mono B0.size)).size);obtain ⟨S,hS⟩: ∃S,Bx x v=S:=⟨_,rfl⟩;rw[hS] at HO⊢;clear hS AB c0 c1 c2 c3 c4 c5 c6 c7 c8 c9 c10 c11 c12 c13 c14 clt5 L8 L4;by_cases A4:1500<S.length
    ·have hq:(1500:Int)<(S.length:Int):=(by omega);have HR:=hid (show CY x v=4 by rw[HO.out,if_pos A4]);clear A4;go_wp2
     go_ret;exact ⟨by rw[HR.out];rfl,M2⟩
    ·have hq: ¬(1500:Int)<(S.length:Int):=(by omega);have HR:=hid (show CY x v=0 by rw[HO.out,if_neg A4]);clear A4;go_wp2
     go_ret;exact ⟨by rw[HR.out];rfl,M2⟩
   have q3:(x.val.type==3)=true:=(by simpa using ht);by_cases hr:0<r3;rotate_left
   ·have HO:=hid (show CY x v=if 1500<(Bx x v).length then 4 else 0 by rw[I2.out,if_neg (fun h=>hr h.2.1)]);have qr:(r3 != 0)=false:=by simp;omega
    clear ht I2;go_wp2_with fail;refine (FW x v A c A' c' _ (Z4.below H4) (L4.out.keep H4) bC.out).mono ?_;rintro e w6 ⟨rfl,AB⟩;have M2:=(B0.trans (H4.mono B0.size)).trans (AB.mono (B0.trans (H4.mono B0.size)).size);obtain ⟨S,hS⟩: ∃S,Bx x v=S:=⟨_,rfl⟩;rw[hS] at HO⊢;clear hS AB c0 c1 c2 c3 c4 c5 c6 c7 c8 c9 c10 c11 c12 c13 c14 clt5 L8 L4;by_cases A4:1500<S.length
    ·have hq:(1500:Int)<(S.length:Int):=(by omega);have HR:=hid (show CY x v=4 by rw[HO.out,if_pos A4]);clear A4;go_wp2
     go_ret;exact ⟨by rw[HR.out];rfl,M2⟩
    ·have hq: ¬(1500:Int)<(S.length:Int):=(by omega);have HR:=hid (show CY x v=0 by rw[HO.out,if_neg A4]);clear A4;go_wp2
     go_ret;exact ⟨by rw[HR.out];rfl,M2⟩
   have qr:(r3 != 0)=true:=by simp;omega
   by_cases hn:(x.val.parts.length:Int)=r3;rotate_left
   ·have qn:(r3 !=(x.val.parts.length:Int))=true:=(by simpa using fun e=>hn e.symm);have HR:=hid (show CY x v=2 by rw[I2.out,if_pos ⟨ht,hr,hn⟩]);clear ht I2 hn;go_wp2
    go_ret;exact ⟨by rw[HR.out];rfl,B0.alloc B0.size _⟩
   have qn:(r3 !=(x.val.parts.length:Int))=false:=(by simpa using hn.symm);have HO:=hid (show CY x v=if 1500<(Bx x v).length then 4 else 0 by rw[I2.out,if_neg (fun h=>h.2.2 hn)]);clear ht I2 hn;go_wp2_with fail;refine (FW x v A c A' c' _ (Z4.below H4) (L4.out.keep H4) bC.out).mono ?_;rintro e w6 ⟨rfl,AB⟩;have M2:=(B0.trans (H4.mono B0.size)).trans (AB.mono (B0.trans (H4.mono B0.size)).size);obtain ⟨S,hS⟩: ∃S,Bx x v=S:=⟨_,rfl⟩;rw[hS] at HO⊢;clear hS AB c0 c1 c2 c3 c4 c5 c6 c7 c8 c9 c10 c11 c12 c13 c14 clt5 L8 L4;by_cases A4:1500<S.length
   ·have hq:(1500:Int)<(S.length:Int):=(by omega);have HR:=hid (show CY x v=4 by rw[HO.out,if_pos A4]);clear A4;go_wp2
    go_ret;exact ⟨by rw[HR.out];rfl,M2⟩
   ·have hq: ¬(1500:Int)<(S.length:Int):=(by omega);have HR:=hid (show CY x v=0 by rw[HO.out,if_neg A4]);clear A4;go_wp2
    go_ret;exact ⟨by rw[HR.out];rfl,M2⟩
theorem QK (u:Str) {l:List It} {k:Nat} {x:It} (hd:l.drop k=x::l.drop (k+1)):cntN u (l.take (k+1))=cntN u (l.take k)+(if Xs x.name==u then 1 else 0):=by rw[<-DP hd,Kk]
theorem Wc (a b:Str):AF a b=(Xs a==Xs b):=rfl
theorem K2 (s:Str) (n:Nat) (items:List It) (A:Option Addr) (cc cb:Nat) (w:World) (hI:Its w w.heap.size (.slice A items.length cc) items) (hX: ∀x∈items,Yq x) (hc:w.cell? (Ad cb 1)=some (.slice A items.length cc)) (fU:cb<w.heap.size) (hn:n<=items.length) (hl:items.length<=60) (hs:s.length<=1073741824):
 Calls prog 26 #[Sv s,Iv (n:Int),.pointer (some (Ad cb 0))] w fun e w'=>e= .returned (.int .i64 (cntN (Xs s) (items.take n)))/\Below w.heap.size w w':=by
 have HX:=hid hX;have HI:=hid hI;have fV:items.length<=cc:=by obtain ⟨_,_,⟨A',c',e,h,_⟩,_⟩:=hI;simp only[Value.slice.injEq] at e;omega
 clear hX hI;by_cases h0:items.length=0
 ·have HR:=hid (show cntN (Xs s) (items.take n)=0 by rw[List.eq_nil_of_length_eq_zero h0];simp[cntN]);have eS:n=0:=(by omega);subst eS;rw[h0] at hc;cases A with
  |none=>
   go_enter func26,ntmps26;go_wp2_with fail;refine wp_loop_rounds 1 ?_;rw[rounds_succ];go_wp2
   go_ret;exact ⟨by rw[HR.out];rfl,zB⟩
  |some a=>
   go_enter func26,ntmps26;go_wp2_with fail;refine wp_loop_rounds 1 ?_;rw[rounds_succ];go_wp2
   go_ret;exact ⟨by rw[HR.out];rfl,zB⟩
 obtain ⟨b9,o9,x9,p9,q9,eT,f6,_⟩:=HI.out.at_ (k:=0) (by omega);subst eT;have fW:(n:Int)<=(items.length:Int):=(by omega);have fX:(n:Int)<=(cc:Int):=(by omega);clear h0;go_enter func26,ntmps26;go_wp2
 go_loopw [6,8,14] (fun s6 _ i wr=> ∃(k m:Nat),k<=n/\i=Iv k/\s6=Iv m/\m<=k/\Hid (m=cntN (Xs s) (items.take k))/\Below w.heap.size w wr) (fun _ _ i _=>n-(intOf i).toNat);case atStart=>exact ⟨0,0,by omega,rfl,rfl,by omega,hid rfl,zB⟩
 case round=>
  obtain ⟨k,m,hk,rfl,rfl,fY,HM,hb⟩:=hrel;have AV:=hb.size;by_cases e8:k<n
  ·have HY:k<items.length:=(by omega);obtain ⟨bb,o,x,pv,qv,hA,AL,hd,H8,DA,F4⟩:=HI.out.at_ HY;obtain ⟨rfl,rfl⟩:b9=bb/\o9=o:=(by simpa using hA);have H9:=H8.keep hb AL;have I3:x∈items:=List.mem_of_mem_drop (by rw[hd];simp);have N2:=(HX.out x I3).name;have HT:=hid (QK (Xs s) hd);obtain ⟨h0,h1,h2,h3,h4,h5,h6,h7,h8,h9,N3,OV,P1,P2,PB⟩:=H9;obtain ⟨A1,k1,N0⟩:=DA.form;obtain ⟨A2,k2,N1⟩:=F4.form;subst N0 N1;clear H8 DA F4 hd I3 hA;go_wp2_with fail;refine (Ay x.name s _ (by omega) hs).mono ?_;rintro e w2 ⟨rfl,A7⟩;have A3:Below w.heap.size w w2:=(hb.alloc AV _).trans (A7.mono (by simp;omega));clear A7 h0 h1 h2 h3 h4 h5 h6 h7 h8 h9 N3 OV P1 P2 PB;obtain ⟨z,hz⟩: ∃z,AF x.name s=z:=⟨_,rfl⟩;have H2:(Xs x.name==Xs s)=z:=hz;rw[H2] at HT;rw[hz];clear hz H2;cases z with
   |true=>
    have HN:=hid (show m+1=cntN (Xs s) (items.take (k+1)) by rw[HT.out,<-HM.out];rfl);go_wp2
    go_roundw;case rel=>exact ⟨k+1,m+1,by omega,by go_num,by go_num,by omega,HN,A3⟩
    case measure=>simp[intOf];omega
   |false=>
    have HN:=hid (show m=cntN (Xs s) (items.take (k+1)) by rw[HT.out,<-HM.out];rfl);go_wp2
    go_roundw;case rel=>exact ⟨k+1,m,by omega,by go_num,rfl,by omega,HN,A3⟩
    case measure=>simp[intOf];omega
  ·obtain rfl:k=n:=(by omega);go_wp2
   go_ret;exact ⟨by rw[<-HM.out];rfl,hb⟩
def Wd (R:Int×Int) (w:World) (e:Ending) (w':World):Prop:=e= .returned (.agg #[Iv R.1,Iv R.2])/\Below w.heap.size w w'
theorem R5 (v:Int): ∀n∈AI v,Xs n=n:=by unfold AI EP;split<;>decide
theorem Tx {R:Int×Int} {e p:Int} {w w':World} (h:R=(e,p)) (hb:Below w.heap.size w w'):Wd R w (.returned (.agg #[Iv e,Iv p])) w':=⟨by rw[h],hb⟩
theorem Its.move_heap {w W:World} {B:Nat} {v:Value} {l:List It} (h:Its w B v l) (e:W.heap=w.heap):Its W B v l:=by obtain ⟨pv,qv,⟨A,c,e1,hc,h1⟩,h2⟩:=h;refine ⟨pv,qv,⟨A,c,e1,hc,fun hn=> ?_⟩,fun i hi=>⟨Ah.move (S:=(· <B)) (w:=w) (h2 i hi).1 (fun k _=>by rw[e]) (fun _ hk=>hk),BY.move (S:=(· <B)) (w:=w) (h2 i hi).2 (fun k _=>by rw[e]) (fun _ hk=>hk)⟩⟩;obtain ⟨b,o,e2,hl,h3⟩:=h1 hn;exact ⟨b,o,e2,hl,fun i hi j hj=>(World.cell?_of_block (w:=w) (a:=(Ad b (o+i*15+j))) (by rw[e])).trans (h3 i hi j hj)⟩
theorem Hc (c:Cd) (A:Option Addr) (cc:Nat) (w:World) (hL:LD w) (hc:Qf w c A cc):
 Calls prog 11 #[.agg #[Iv c.version,.slice A c.items.length cc]] w (Wd (BM c) w):=by
 obtain ⟨v,items⟩:=c;have ZR:=hc.its;have bD:=hc.b;simp only at ZR bD;clear hc;show Calls prog 11 #[.agg #[Iv v,.slice A items.length cc]] w (Wd (BM ⟨v,items⟩) w);have Z6:=hid bD;clear bD;obtain ⟨Wa,MM⟩: ∃Wa,w.alloc (.cells #[Iv v,.slice A items.length cc] 24)=Wa:=⟨_,rfl⟩;have Z7:Wa.heap.size=w.heap.size+1:=by rw[<-MM];simp
 have bE:Below w.heap.size w Wa:=by rw[<-MM];exact zA
 have p0:Wa.cell? (Ad w.heap.size 0)=some (Iv v):=by rw[<-MM];simp
 have p1:Wa.cell? (Ad w.heap.size 1)=some (.slice A items.length cc):=by rw[<-MM];simp
 obtain ⟨W0,E3⟩: ∃W0,Wa.alloc (.cells #[Iv 0,Iv 0] 28)=W0:=⟨_,rfl⟩;have d5:Nr W0 (w.heap.size+1) 0 0:=by rw[<-E3,<-Z7];exact Nr.new Wa
 have d6:W0.heap.size=w.heap.size+2:=by rw[<-E3];simp[Z7]
 have aA:Below Wa.heap.size Wa W0:=by rw[<-E3];exact zA
 have AW:Below w.heap.size w W0:=bE.trans (aA.mono bE.size);have a0:=(aA.cell (p:=(Ad w.heap.size 0)) (by simp;omega)).trans p0;have a1:=(aA.cell (p:=(Ad w.heap.size 1)) (by simp;omega)).trans p1;have bF:=hid d5;have ZX:=hid (ZR.keep AW AW.size);have HZ:=hL.below AW;have aB:w.heap.size+1<W0.heap.size:=(by omega);clear ZR hL d5 aA bE p0 p1 d6;by_cases hv:v≠3/\v≠4
 ·have HR:=hid (FC (c:=⟨v,items⟩) hv);obtain ⟨h3,h4⟩:=hv;go_enter func11,ntmps11;go_wp2_with fail;(try rw[MM]);(try rw[Z7]);(try rw[E3]);clear MM Z7 E3;refine (Nn v h3 h4 _).mono ?_;rintro e w1 ⟨rfl,A0⟩;have F3:=AW.trans (A0.mono AW.size);obtain ⟨q0,q1,f0,f1,B3⟩:=bF.out.keep A0 aB;clear h3 h4;go_wp2_with fail;refine (CG 1 _).mono ?_;rintro e w9 ⟨rfl,rfl⟩;go_wp2
  exact bodyPost_ret (v:= .agg #[Iv 1,Iv (-1)]) (by simp[results,results11,go_sem,q0,q1,B3]) rfl (Tx HR.out (CC F3 (by omega) _ _ _))
 have bG:=hid hv;have bH:v=3∨v=4:=(by omega);clear hv;go_enter func11,ntmps11;go_wp2_with fail;(try rw[MM]);(try rw[Z7]);(try rw[E3]);clear MM Z7 E3;refine (Nh v bH _).mono ?_;rintro e w1 ⟨⟨AN,cN,rfl,hN⟩,A0⟩;have F3:=AW.trans (A0.mono AW.size);have b0:=(A0.cell (p:=(Ad w.heap.size 0)) (by simp;omega)).trans a0;have b1:=(A0.cell (p:=(Ad w.heap.size 1)) (by simp;omega)).trans a1;have ZS:=hid (bF.out.keep A0 aB);have bI:=hid (ZX.out.keep A0 A0.size);have HH:=HZ.below A0;have WF:=Nat.lt_of_lt_of_le aB A0.size;have HN:=hid hN;have HV:=hid bH;clear a0 a1 ZX HZ AW A0 hN bH aB bF;by_cases aC:60<items.length
 ·have HR:=hid (Ih (c:=⟨v,items⟩) bG.out aC);have hq:(60:Int)<(items.length:Int):=(by omega);obtain ⟨q0,q1,f0,f1,B3⟩:=ZS.out;clear aC;go_wp2_with fail;refine (CG 4 _).mono ?_;rintro e w9 ⟨rfl,rfl⟩;go_wp2
  exact bodyPost_ret (v:= .agg #[Iv 4,Iv (-1)]) (by simp[results,results11,go_sem,q0,q1,B3]) rfl (Tx HR.out (CC F3 (by omega) _ _ _))
 have hq: ¬(60:Int)<(items.length:Int):=(by omega);have L6:=hid (Ii (c:=⟨v,items⟩) bG.out aC);have aN:items.length<=60:=(by omega);clear aC bG;obtain ⟨FB,d7⟩: ∃FB,FB=w.heap.size+1:=⟨_,rfl⟩;rw[<-d7] at ZS WF⊢;obtain ⟨IB,W4⟩: ∃IB,IB=w.heap.size:=⟨_,rfl⟩;have f7:w.heap.size<=IB:=(by omega);have f8:w.heap.size<=FB:=(by omega);have DT:IB<w1.heap.size:=(by omega);rw[<-W4] at b0 b1⊢;have F1:=hid W4;clear W4 d7;go_wp2
 go_loopw [5,6,7,35] (fun _ _ _ i wr=> ∃k:Nat,k<=items.length/\i=Iv k/\Hid (By v 0 items=By v k (items.drop k))/\Below w1.heap.size w1 wr) (fun _ _ _ i _=>items.length-(intOf i).toNat);case atStart=>exact ⟨0,by omega,rfl,hid rfl,zB⟩
 case round=>
  obtain ⟨k,hk,rfl,HX,hb⟩:=hrel;have AV:=hb.size;have d0:=(hb.cell (p:=(Ad IB 0)) DT).trans b0;have d1:=(hb.cell (p:=(Ad IB 1)) DT).trans b1;have HK:=HH.below hb;by_cases HY:k<items.length
  ·obtain ⟨bb,o,x,pv,qv,rfl,AL,hd,H8,DA,F4⟩:=bI.out.at_ HY;have H9:=H8.keep hb AL;have I3:x∈items:=List.mem_of_mem_drop (by rw[hd];simp);obtain ⟨A1,k1,N0⟩:=DA.form;obtain ⟨A2,k2,N1⟩:=F4.form;subst N0 N1;have ZT:=hid (show OE wr x A1 k1 A2 k2 from ⟨DA.keep hb AV,F4.keep hb AV,Z6.out x I3⟩);have N2:=(Z6.out x I3).name;have HD:=hid hd;obtain ⟨h0,h1,h2,h3,h4,h5,h6,h7,h8,h9,N3,OV,P1,P2,PB⟩:=H9;clear H8 DA F4 hd I3;obtain ⟨bq,H3⟩: ∃bq,wr.heap.size=bq:=⟨_,rfl⟩;obtain ⟨Wr,HC,A0,E9,cZ⟩: ∃W:World,wr.alloc (.cells (IA x (pP A1 x k1) (lP A2 x k2)) 44)=W/\Below wr.heap.size wr W/\Hid (ItC W bq x (pP A1 x k1) (lP A2 x k2))/\bq<W.heap.size:=
    ⟨_,rfl,zA,hid (by rw[<-H3];exact ItC.new _ _ _ _),by rw[<-H3];simp⟩
   have X1:=hid (ZT.out.keep A0);have A7:=hb.trans (A0.mono AV);obtain ⟨g0,g1,g2,g3,g4,g5,g6,g7,g8,g9,Q1,Q2,R0,S1,SS,gl⟩:=E9.out;clear ZT A0;have e0:=(A7.cell (p:=(Ad IB 0)) DT).trans b0;have W1:=HH.below A7;clear d0 d1 HK;go_wp2_with fail;(try rw[HC]);clear HC H3 h0 h1 h2 h3 h4 h5 h6 h7 h8 h9 N3 OV P1 P2 PB;refine (QJ x v HV.out A1 k1 A2 k2 _ W1 X1.out).mono ?_;rintro e w3 ⟨rfl,A3⟩;have A6:=A7.trans (A3.mono A7.size);clear A3 X1 g0 g1 g2 g3 g4 g5 g6 g7 g8 g9 Q1 Q2 R0 S1 SS gl E9;obtain ⟨E,hE⟩: ∃E,CY x v=E:=⟨_,rfl⟩;rw[hE];by_cases h0:E=0
   ·have W8:=hid (show By v 0 items=By v (k+1) (items.drop (k+1)) by rw[HX.out,HD.out,Kl (by rw[hE,h0])]);subst h0;clear hE HX HD;go_wp2
    go_roundw;case rel=>exact ⟨k+1,by omega,by go_num,W8,A6⟩
    case measure=>simp[intOf];omega
   ·have HR:=hid (show BM ⟨v,items⟩=(E,(k:Int)) by rw[L6.out];simp only[HX.out,HD.out,If hE h0]);have fZ:(E != 0)=true:=(by simpa using h0);have HL:=F3.trans (A6.mono F3.size);obtain ⟨q0,q1,f0,f1,B3⟩:=ZS.out.keep A6 WF;clear hE HX HD h0;go_wp2
    exact bodyPost_ret (v:= .agg #[Iv E,Iv k]) (by simp[results,results11,go_sem,q0,q1,B3]) rfl (Tx HR.out (Bs HL (by omega) _ _))
  ·obtain rfl:k=items.length:=(by omega);have d8:By v 0 items=none:=by rw[HX.out,List.drop_length];rfl
   have LB:=hid (show BM ⟨v,items⟩=(match Ba v [] items with
    |some i=>(9,(i:Int))
    |none=>if (AI v).all (Bz v items) then (0, -1) else (7, -1)) by rw[L6.out];simp only[d8];rfl)
   clear d8 HX L6;obtain ⟨aD,ZU⟩: ∃W,wr=W:=⟨_,rfl⟩;rw[ZU] at hb AV d0 d1 HK;have aE:=hid (bI.out.keep hb AV);have d9:=hid (HN.out.keep hb AV);have I1:=hid (ZS.out.keep hb WF);have L9:=F3.trans (hb.mono F3.size);have PF:IB<aD.heap.size:=(by omega);have dA:FB<aD.heap.size:=(by omega);clear bI HN ZS b0 b1 HH hb F3 DT AV WF;go_wp2_with fail;(try rw[ZU]);clear ZU;go_loopw [9,10,11,12,54] (fun _ _ _ _ i wr=> ∃k:Nat,k<=items.length/\i=Iv k/\Hid (Ba v [] items=Ba v (items.take k) (items.drop k))/\Below aD.heap.size aD wr) (fun _ _ _ _ i _=>items.length-(intOf i).toNat);case atStart=>exact ⟨0,by omega,rfl,hid rfl,zB⟩
   case round=>
    obtain ⟨k,hk,rfl,HT,hb⟩:=hrel;have AV:=hb.size;have e0:=(hb.cell (p:=(Ad IB 0)) PF).trans d0;have e1:=(hb.cell (p:=(Ad IB 1)) PF).trans d1;by_cases HY:k<items.length
    ·obtain ⟨bb,o,x,pv,qv,rfl,AL,hd,H8,DA,F4⟩:=aE.out.at_ HY;have H9:=H8.keep hb AL;have I3:x∈items:=List.mem_of_mem_drop (by rw[hd];simp);obtain ⟨A1,k1,N0⟩:=DA.form;obtain ⟨A2,k2,N1⟩:=F4.form;subst N0 N1;have ZT:=hid (show OE wr x A1 k1 A2 k2 from ⟨DA.keep hb AV,F4.keep hb AV,Z6.out x I3⟩);have N2:=(Z6.out x I3).name;have HD:=hid hd;obtain ⟨h0,h1,h2,h3,h4,h5,h6,h7,h8,h9,N3,OV,P1,P2,PB⟩:=H9;clear H8 DA F4 hd I3;obtain ⟨bq,H3⟩: ∃bq,wr.heap.size=bq:=⟨_,rfl⟩;obtain ⟨Wr,HC,A0,E9,cZ⟩: ∃W:World,wr.alloc (.cells (IA x (pP A1 x k1) (lP A2 x k2)) 44)=W/\Below wr.heap.size wr W/\Hid (ItC W bq x (pP A1 x k1) (lP A2 x k2))/\bq<W.heap.size:=
      ⟨_,rfl,zA,hid (by rw[<-H3];exact ItC.new _ _ _ _),by rw[<-H3];simp⟩
     have X1:=hid (ZT.out.keep A0);have A7:=hb.trans (A0.mono AV);obtain ⟨g0,g1,g2,g3,g4,g5,g6,g7,g8,g9,Q1,Q2,R0,S1,SS,gl⟩:=E9.out;clear ZT A0;have eU:=(A7.cell (p:=(Ad IB 0)) PF).trans d0;have W1:=HK.below A7;have gn:=E9.out.c1;have bJ:=E9.out.lt;clear e0 e1 g0 g2 g3 g4 g5 g6 g7 g8 g9 Q1 Q2 R0 S1 SS g1 gl;go_wp2_with (fail);(try rw[HC]);clear HC H3 h0 h1 h2 h3 h4 h5 h6 h7 h8 h9 N3 OV P1 P2 PB;refine (GB x.name v HV.out (by omega) _ W1).mono ?_;rintro e w6 ⟨rfl,AB⟩;have W5:=A7.trans (AB.mono A7.size);have dB:=(AB.cell (p:=(Ad bq 1)) bJ).trans gn;have dC:=Nat.lt_of_lt_of_le bJ AB.size;have dD:=hid (DP HD.out);have dE:=Pn (Xs x.name) (items.take k);rw[List.length_take] at dE;obtain ⟨R,hR⟩: ∃R,AR x.name v=R:=⟨_,rfl⟩;have aF:=hid hR;rw[hR];clear hR;obtain ⟨r0,r1,r2,r3⟩:=R;simp only[Ym];obtain ⟨W7,G2⟩: ∃W7,w6.alloc (.cells #[Iv r0,Iv r1,Iv r2,Iv r3] 74)=W7:=⟨_,rfl⟩;have HS:Below w6.heap.size w6 W7:=by rw[<-G2];exact zA
     obtain ⟨rb,HW⟩: ∃rb,w6.heap.size=rb:=⟨_,rfl⟩;have dF:W7.cell? (Ad rb 2)=some (Iv r2):=by rw[<-G2,<-HW];simp
     have bK:rb<W7.heap.size:=by rw[<-G2,<-HW];simp
     have dG:=(HS.cell (p:=(Ad bq 1)) dC).trans dB;have dH:bq<W7.heap.size:=Nat.lt_of_lt_of_le dC HS.size;have DD:=W5.trans (HS.mono W5.size);have ZV:=(DD.cell (p:=(Ad IB 1)) PF).trans d1;have X2:IB<W7.heap.size:=Nat.lt_of_lt_of_le PF DD.size;have bL:=hid (aE.out.keep DD DD.size);obtain ⟨m,hm⟩: ∃m,cntN (Xs x.name) (items.take k)=m:=⟨_,rfl⟩;have bM:=hid hm;rw[hm] at dE;clear AB eU W1 HS gn dB bJ E9 X1 A7 W5 hm;by_cases aG:0<r2
     ·have ZW:=hid (fun (W:World) (h:W.heap=W7.heap)=>show Calls prog 26 #[Sv x.name,Iv (k:Int),.pointer (some (Ad IB 0))] W fun e w'=>e= .returned (Iv (m:Int))/\Below W.heap.size W w' from by
       have hh:=K2 x.name k items _ cc IB W (by rw[show W.heap.size=W7.heap.size by rw[h]];exact Its.move_heap bL.out h) Z6.out (by rw[World.cell?_of_block (w:=W7) (by rw[h])];exact ZV) (by rw[h];exact X2) (by omega) aN (by omega);rw[bM.out] at hh;exact hh)
      go_wp2_with fail;(try rw[G2]);(try rw[HW]);clear G2 HW;have dI:decide ((0:Int)<r2)=true:=decide_eq_true aG;go_region_held3 (fun w'=>w'.cell? (Ad rb 2)=some (Iv r2)/\w'.cell? (Ad bq 1)=some (Sv x.name)/\Below W7.heap.size W7 w')
       (first
         |exact ⟨by simpa using dF,by simpa using dG,zB.drew⟩
         |(go_split_ands;exact ⟨(E2.cell (p:=(Ad rb 2)) bK).trans ‹_›,(E2.cell (p:=(Ad bq 1)) dH).trans ‹_›,Below.trans ‹_› E2⟩)
         |assumption)
       ((go_at_call 26;refine (ZW.out W7.drew rfl).mono ?_;rintro e9 w9 ⟨rfl,E2⟩))
      rename_i hH;have I5:=DD.trans (hH.2.2.mono DD.size);clear hH E2 ZW dF dG dI;by_cases dJ:r2<=(m:Int)
      ·have HR:=hid (show BM ⟨v,items⟩=(9,(k:Int)) by
        have hx:Ba v [] items=some k:=by
         rw[HT.out,HD.out,Ig ⟨by rw[aF.out];exact aG,by rw[aF.out,bM.out];exact dJ⟩,List.length_take]
         congr 1
         omega
        rw[LB.out];simp only[hx])
       have HL:=L9.trans (I5.mono L9.size);obtain ⟨q0,q1,f0,f1,B3⟩:=I1.out.keep I5 dA;clear HT HD;go_wp2
       exact bodyPost_ret (v:= .agg #[Iv 9,Iv k]) (by simp[results,results11,go_sem,q0,q1,B3]) rfl (Tx HR.out (Bs HL (by omega) _ _))
      ·have W8:=hid (show Ba v [] items=Ba v (items.take (k+1)) (items.drop (k+1)) by
        rw[HT.out,<-dD.out]
        conv=>lhs;rw[HD.out]
        rw[FA (fun h=>dJ (by have:=h.2;rw[aF.out,bM.out] at this;exact this))])
       clear HT HD;go_wp2
       go_roundw;case rel=>exact ⟨k+1,by omega,by go_num,W8,I5⟩
       case measure=>simp[intOf];omega
     ·have W8:=hid (show Ba v [] items=Ba v (items.take (k+1)) (items.drop (k+1)) by
       rw[HT.out,<-dD.out]
       conv=>lhs;rw[HD.out]
       rw[FA (fun h=>aG (by have:=h.1;rw[aF.out] at this;exact this))])
      have dI:decide ((0:Int)<r2)=false:=decide_eq_false aG;clear HT HD;go_wp2_with fail;(try rw[G2]);(try rw[HW]);clear G2 HW
      go_quiet (fail)
      go_wp2
      go_roundw;case rel=>exact ⟨k+1,by omega,by go_num,W8,below_drewN' DD _⟩
      case measure=>simp[intOf];omega
    ·obtain rfl:k=items.length:=(by omega);have dK:Ba v [] items=none:=by rw[HT.out,List.drop_length];rfl
     have W6:=hid (show BM ⟨v,items⟩=if (AI v).all (Bz v items) then (0, -1) else (7, -1) by rw[LB.out];simp only[dK]);clear dK HT LB;obtain ⟨Wn,bN⟩: ∃W,wr=W:=⟨_,rfl⟩;rw[bN] at hb AV e0 e1;have bT:=HK.below hb;have bO:IB<Wn.heap.size:=(by omega);have eV:=hid (d9.out.keep hb hb.size);have eW:=hid (aE.out.keep hb hb.size);have dL:=hid (I1.out.keep hb dA);have aO:FB<Wn.heap.size:=(by omega);have aH:=L9.trans (hb.mono L9.size);have dM:=Km v;have gA:=Gy v;have eX:=hid dM;have eY:=hid (R5 v);clear dM AV aE d9 I1 HK;go_wp2_with fail;(try rw[bN]);clear bN;go_loopw [14,15,16,85] (fun _ _ _ i wr=> ∃k:Nat,k<=(AI v).length/\i=Iv k/\Hid ((AI v).all (Bz v items)=((AI v).drop k).all (Bz v items))/\Below Wn.heap.size Wn wr) (fun _ _ _ i _=>(AI v).length-(intOf i).toNat);case atStart=>exact ⟨0,by omega,rfl,hid rfl,zB⟩
     case round=>
      obtain ⟨k,hk,rfl,HA,E2⟩:=hrel;have dN:=E2.size;have gB:=(E2.cell (p:=(Ad IB 0)) bO).trans e0;have eZ:=bT.below E2;by_cases HY:k<(AI v).length
      ·obtain ⟨b3,o3,n,rfl,dO,bP,dP⟩:=eV.out.at_ HY;have gC:=(E2.cell (p:=(Ad b3 (o3+k))) dO).trans dP;have ZN:=List.mem_of_mem_drop (show n∈(AI v).drop k by rw[bP];simp);have f9:=eX.out n ZN;have dQ:=eY.out n ZN;have aI:=hid (show (AI v).all (Bz v items)=(Bz v items n&&((AI v).drop (k+1)).all (Bz v items)) by rw[HA.out,bP,List.all_cons]);clear bP dP HA ZN;go_wp2_with fail;refine (GB n v HV.out (by omega) _ eZ).mono ?_;rintro e w6 ⟨rfl,AB⟩;have I5:=E2.trans (AB.mono dN);have Z8:=hid (show Bz v items n=decide ((AR n v).least<=(cntN n items:Int)) from rfl);obtain ⟨R,hR⟩: ∃R,AR n v=R:=⟨_,rfl⟩;rw[hR] at Z8⊢;clear hR;obtain ⟨r0,r1,r2,r3⟩:=R;simp only[Ym];obtain ⟨W7,G2⟩: ∃W7,w6.alloc (.cells #[Iv r0,Iv r1,Iv r2,Iv r3] 74)=W7:=⟨_,rfl⟩;have HS:Below w6.heap.size w6 W7:=by rw[<-G2];exact zA
       obtain ⟨rb,HW⟩: ∃rb,w6.heap.size=rb:=⟨_,rfl⟩;have dR:W7.cell? (Ad rb 1)=some (Iv r1):=by rw[<-G2,<-HW];simp
       have bK:rb<W7.heap.size:=by rw[<-G2,<-HW];simp
       have I6:=I5.trans (HS.mono I5.size);have ZV:=(I6.cell (p:=(Ad IB 1)) bO).trans e1;have X2:IB<W7.heap.size:=Nat.lt_of_lt_of_le bO I6.size;have bL:=hid (eW.out.keep I6 I6.size);obtain ⟨m,hm⟩: ∃m,cntN n items=m:=⟨_,rfl⟩;rw[hm] at Z8;have ZW:=hid (fun (W:World) (h:W.heap=W7.heap)=>show Calls prog 26 #[Sv n,Iv (items.length:Int),.pointer (some (Ad IB 0))] W fun e w'=>e= .returned (Iv (m:Int))/\Below W.heap.size W w' from by have hh:=K2 n items.length items _ cc IB W (by rw[show W.heap.size=W7.heap.size by rw[h]];exact Its.move_heap bL.out h) Z6.out (by rw[World.cell?_of_block (w:=W7) (by rw[h])];exact ZV) (by rw[h];exact X2) (by omega) aN (by omega);rw[dQ,List.take_length,hm] at hh;exact hh);clear hm AB HS dQ;go_wp2_with fail;(try rw[G2]);(try rw[HW]);clear G2 HW;go_region_held3 (fun w'=>w'.cell? (Ad rb 1)=some (Iv r1)/\w'.cell? (Ad IB 1)=some (.slice A items.length cc)/\Below W7.heap.size W7 w')
        (first
          |exact ⟨by simpa using dR,by simpa using ZV,zB.drew⟩
          |(go_split_ands;exact ⟨(X3.cell (p:=(Ad rb 1)) bK).trans ‹_›,(X3.cell (p:=(Ad IB 1)) X2).trans ‹_›,Below.trans ‹_› X3⟩)
          |assumption)
        ((go_at_call 26;refine (ZW.out W7.drew rfl).mono ?_;rintro e9 w9 ⟨rfl,X3⟩))
       rename_i hH;have HE:=I6.trans (hH.2.2.mono I6.size);clear hH X3 ZW dR ZV;by_cases gD:(m:Int)<r1
       ·have HR:=hid (show BM ⟨v,items⟩=(7, -1) by
         rw[W6.out,aI.out,Z8.out,decide_eq_false (show¬r1<=(m:Int) by omega)];rfl)
        have HL:=aH.trans (HE.mono aH.size);obtain ⟨q0,q1,f0,f1,B3⟩:=dL.out.keep HE aO;clear aI Z8;go_wp2_with fail;refine (CG 7 _).mono ?_;rintro e f2 ⟨rfl,rfl⟩;go_wp2
        exact bodyPost_ret (v:= .agg #[Iv 7,Iv (-1)]) (by simp[results,results11,go_sem,q0,q1,B3]) rfl (Tx HR.out (CC HL (by omega) _ _ _))
       ·have W8:=hid (show (AI v).all (Bz v items)=((AI v).drop (k+1)).all (Bz v items) by
         rw[aI.out,Z8.out,decide_eq_true (show r1<=(m:Int) by omega),Bool.true_and])
        clear aI Z8;go_wp2
        go_roundw;case rel=>exact ⟨k+1,by omega,by go_num,W8,HE⟩
        case measure=>simp[intOf];omega
      ·obtain rfl:k=(AI v).length:=(by omega);have HR:=hid (show BM ⟨v,items⟩=(0, -1) by rw[W6.out,HA.out,List.drop_length];rfl);have HL:=aH.trans (E2.mono aH.size);obtain ⟨q0,q1,f0,f1,B3⟩:=dL.out.keep E2 aO;clear HA;go_wp2_with fail;refine (Cm _).mono ?_;rintro e f2 ⟨rfl,rfl⟩;go_wp2
       exact bodyPost_ret (v:= .agg #[Iv 0,Iv (-1)]) (by simp[results,results11,go_sem,q0,q1,B3]) rfl (Tx HR.out (CC HL (by omega) _ _ _))
end Go.Proofs.YtjhpdljphchfaaaGreatDoor
