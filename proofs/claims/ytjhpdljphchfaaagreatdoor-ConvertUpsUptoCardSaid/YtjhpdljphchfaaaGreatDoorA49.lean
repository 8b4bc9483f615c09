/- A part of the proof of ConvertUps: one of package convert walked: a place. -/
import Derived.Test.YtjhpdljphchfaaaGreatDoorA37
import Derived.Test.YtjhpdljphchfaaaGreatDoorA42
import Derived.Test.YtjhpdljphchfaaaGreatDoorA43
import Derived.Test.YtjhpdljphchfaaaGreatDoorA35
import Derived.Test.YtjhpdljphchfaaaGreatDoorA40
import Derived.Test.YtjhpdljphchfaaaGreatDoorA33
import Derived.Test.YtjhpdljphchfaaaGreatDoorA20
set_option maxHeartbeats 40000000
set_option maxRecDepth 1000000
set_option linter.all false
namespace Go.Proofs.YtjhpdljphchfaaaGreatDoor
open Go.RowKit
open Go.Proofs.Tryz
def WJ (c:Cd) (w:World) (e:Ending) (w':World):Prop:= ∃v,e= .returned (.tuple #[.agg #[Iv (upC c).2.version,v],.agg #[Iv (upC c).1.1,Iv (upC c).1.2]])/\Its w' w'.heap.size v (upC c).2.items/\Below w.heap.size w w'
theorem Kw: ∀{l Y:List It} {i:Nat},Da i l= .inr Y->l.map Bi=Y.map some
 |[],Y,i,h=>by rw[Da] at h;injection h with h;rw[<-h];rfl
 |x::l,Y,i,h=>by
  rw[Da] at h;cases hu:Bi x with
  |none=>rw[hu] at h;cases h
  |some y=>
   rw[hu] at h;simp only at h;cases hr:Da (i+1) l with
   |inl k=>rw[hr] at h;cases h
   |inr Z=>
    rw[hr] at h;injection h with h;rw[<-h,List.map_cons,List.map_cons,hu,Kw hr]
theorem Pz {c:Cd} (hq: ∀x∈c.items,(∀p∈x.ps,p.vals≠[])->Y6 x):(upC c).2.items.length<=60/\ ∀y∈(upC c).2.items,Yq y:=by
 have E1:noC.items.length<=60/\ ∀y∈noC.items,Yq y:=⟨by decide,fun y hy=>by simp[noC] at hy⟩;unfold upC;by_cases h1:(BM c).1≠0
 ·rw[if_pos h1];exact E1
 ·rw[if_neg h1];by_cases h2:c.version≠3
  ·rw[if_pos h2];exact E1
  ·rw[if_neg h2];cases hu:Da 0 (BQ c.items) with
   |inl i=>exact E1
   |inr l=>
    simp only;split
    ·exact E1
    ·have h0:(BM c).1=0:=(by omega);have hm:=Kw hu;have hl:l.length<=60:=by
      have e:=congrArg List.length hm;simp only[List.length_map] at e;have h3:=Cu c.items;have h4:=G8 h0;omega
     refine ⟨hl,fun y hy=> ?_⟩;obtain ⟨x,hx,e⟩:=D3 hm y hy;exact Lt (D1 (fun x hx=>hq x hx (JW h0 x hx)) x hx).p e
theorem LD.laid {w:World} (h:LD w):B.Laid w:=by obtain ⟨b,h⟩:=h;exact ⟨h.db,h.et,Nat.le_trans h.n10 h.le⟩
theorem P0 {w:World} {u:Value} {e p:Int} (hL:LD w) (h:Aj w u e p):Calls prog 7 #[u,.agg #[Iv e,Iv p]] w fun e w'=>e= .returned (.bool true)/\Below w.heap.size w w':=by
 have hl:=hL.laid;have hs:1<w.heap.size:=by have:=hl.sz;omega
 rcases h with ⟨rfl,rfl,rfl⟩|⟨_,rfl,rfl⟩|⟨_,_,b,rfl,hb,h0,h1⟩
 ·exact B.placed_nil w
 ·exact B.placed_ern e w hl.e4 hs
 ·exact B.placed_ptr b e p w hl.e4 hs h0 h1 hb
theorem VT {items:List It} (h:OF items=false): ∀x∈items,∀p∈x.ps,True:=fun _ _ _ _=>trivial
section
attribute [local go_sem ↓] zPe
attribute [local go_sem] XR WH Xm Xp
theorem TW {S:Nat->Prop} (x:It) (A:Option Addr) (c:Nat) (A':Option Addr) (c':Nat) (w:World) (hS:sW S w) (hp:Ah w S (pP A x c) x.ps) (hl:BY w S (lP A' x c') x.val.parts) (hT:Y5 x) (hb:Xs x.name=II):
 Calls prog 21 #[Yp x (pP A x c) (lP A' x c')] w (BJ S w (Bi x)):=by
 have A4:=hid hb;clear hb;refine (Dh (S:=S) x A c A' c' w).pf ?_ hS hp hl hT;intro L5 N L6 HN A5 k5 W3 P N1 U1 N2 N3 OV P1 P2 ia ib ic id U2;obtain ⟨c0,c1,c2,c3,c4,c5,c6,c7,c8,c9,c10,c11,c12,c13,c14,A8⟩:=N2.out.c;simp only at c0 c1 c2 c3 c4 c5 c6 c7 c8 c9 c10 c11 c12 c13 c14;rw[HN.out] at A4;have AW:=hid (show CE N {x with ps:=P}=DZ {x with ps:=P} by rw[A4.out];rfl);clear HN;obtain rfl:=A4.out;go_wp2_with fail;have Y1:=hid (show∀k,(S k∨(w.heap.size+2<=k/\k<W3.heap.size))->k<W3.heap.size from fun k hk=>by
  rcases hk with hk|hk
  ·have:=hS k hk;omega
  ·exact hk.2)
 refine (P4 (S:=fun k=>S k∨(w.heap.size+2<=k/\k<W3.heap.size)) {x with ps:=P} A5 k5 A' c' W3 Y1.out (P1.out.more fun k hk=> .inr hk) (P2.out.more fun k hk=> .inl hk) U1.out).mono ?_;rintro e w4 ⟨y,A6,n6,k6,A7,n7,k7,bb,rfl,MM,E1,DD⟩;have Y2:=N3.low DD (by omega);have HR:=DD.size;have HY:=hid MM;have PB:=hid E1;clear MM E1 c0 c1 c2 c3 c4 c5 c6 c7 c8 c9 c10 c11 c12 c13 c14;simp only[Yp];go_wp2
 refine bodyPost_ret (AG (x:=y) (pv:= .slice A6 n6 k6) (qv:= .slice A7 n7 k7) (G:=w.heap.size+1) rfl (by first|(simp;done)|rfl|simp[go_sem]) (Yx.row Y2 rfl)) rfl ?_;exact Br hS N1.out AW.out OV DD U2 HY.out PB.out
end
section
attribute [local go_sem ↓] zPe
attribute [local go_sem] XR WH Xm Xp
theorem R1 {S:Nat->Prop} (x:It) (A:Option Addr) (c:Nat) (A':Option Addr) (c':Nat) (w:World) (hS:sW S w) (hp:Ah w S (pP A x c) x.ps) (hl:BY w S (lP A' x c') x.val.parts) (hT:Y5 x) (hb: ∀k∈[BV,CN,Bn,K8,Du,Dv,Cr,Gb,Gc,AZ,II,YX,Ef],Xs x.name≠k):
 Calls prog 21 #[Yp x (pP A x c) (lP A' x c')] w (BJ S w (Bi x)):=by
 have A4:=hid hb;clear hb;refine (Dh (S:=S) x A c A' c' w).pf ?_ hS hp hl hT;intro L5 N L6 HN A5 k5 W3 P N1 U1 N2 N3 OV P1 P2 ia ib ic id U2;obtain ⟨c0,c1,c2,c3,c4,c5,c6,c7,c8,c9,c10,c11,c12,c13,c14,A8⟩:=N2.out.c;simp only at c0 c1 c2 c3 c4 c5 c6 c7 c8 c9 c10 c11 c12 c13 c14;rw[HN.out] at A4;have n0:(N==[80,72,79,84,79])=false:=by rw[beq_eq_false_iff_ne];exact A4.out BV (by simp)
 have n1:(N==[76,79,71,79])=false:=by rw[beq_eq_false_iff_ne];exact A4.out CN (by simp)
 have n2:(N==[83,79,85,78,68])=false:=by rw[beq_eq_false_iff_ne];exact A4.out Bn (by simp)
 have n3:(N==[75,69,89])=false:=by rw[beq_eq_false_iff_ne];exact A4.out K8 (by simp)
 have n4:(N==[65,71,69,78,84])=false:=by rw[beq_eq_false_iff_ne];exact A4.out Du (by simp)
 have n5:(N==[67,76,65,83,83])=false:=by rw[beq_eq_false_iff_ne];exact A4.out Dv (by simp)
 have n6:(N==[77,65,73,76,69,82])=false:=by rw[beq_eq_false_iff_ne];exact A4.out Cr (by simp)
 have n7:(N==[78,65,77,69])=false:=by rw[beq_eq_false_iff_ne];exact A4.out Gb (by simp)
 have n8:(N==[83,79,82,84,45,83,84,82,73,78,71])=false:=by rw[beq_eq_false_iff_ne];exact A4.out Gc (by simp)
 have n9:(N==[76,65,66,69,76])=false:=by rw[beq_eq_false_iff_ne];exact A4.out AZ (by simp)
 have n10:(N==[71,69,79])=false:=by rw[beq_eq_false_iff_ne];exact A4.out II (by simp)
 have n11:(N==[84,90])=false:=by rw[beq_eq_false_iff_ne];exact A4.out YX (by simp)
 have n12:(N==[85,73,68])=false:=by rw[beq_eq_false_iff_ne];exact A4.out Ef (by simp)
 have AW:=hid (show CE N {x with ps:=P}=some {x with ps:=P} by unfold CE KH Eu;simp only[BV,CN,Bn,K8,Du,Dv,Cr,Gb,Gc,AZ,II,YX,Ef,n0,n1,n2,n3,n4,n5,n6,n7,n8,n9,n10,n11,n12];rfl);clear HN A4;go_wp2
 refine bodyPost_ret (AG (x:={x with ps:=P}) (pv:= .slice A5 P.length k5) (qv:=(lP A' x c')) (G:=w.heap.size+1) rfl (by first|(simp;done)|rfl|simp[go_sem]) (Yx.row N3 rfl)) rfl ?_;have F1:=AC OV (show w.heap.size<=w.heap.size+1 by omega) (Yv {x with ps:=P} (.slice A5 P.length k5) (lP A' x c'));refine Aq (by rw[N1.out,AW.out]) ?_ ?_ F1
 ·exact D2 hS (w2:=W3) (P1.out.more fun k hk=> .inr hk) (fun k h1 h2=>AH _ _ _ h2) (by simp)
 ·exact P2.out.move (fun k hk=>AH _ _ _ (by have:=hS k hk;omega)) fun k hk=> .inl hk
end
theorem Xn (a v:Value):Instr.storeAt 28 a v=(do storeVar 28 (<-Instr.sureAddr a) v):=rfl
theorem FF {N:Str} (h:KH N=true):N=BV∨N=CN∨N=Bn∨N=K8:=by simp only[KH,Bool.or_eq_true,beq_iff_eq] at h;rcases h with ((h|h)|h)|h<;>simp[h]
theorem Jj {N:Str} {x:It} (h:KH N=true):CE N x=BX N x:=by unfold CE;rw[if_pos h]
theorem Te {l:Str} {y:Int×Int} (h:B.unB l= .error y):(y.1==0)=false:=by
 unfold B.unB at h
 repeat' split at h
 all_goals first
  |(injection h with h;rw[<-h];rfl)
  |cases h
theorem QV {S:Nat->Prop} (P:List Pm) (v:Value) (w:World) (hS:sW S w) (h:Ah w S v P) (hn:P.length<=100000) (Y3: ∀p∈P,p.name.length<=100000):
 Calls prog 30 #[v,.slice (some (Ad w.heap.size 0)) 3 3] (w.alloc (.cells #[.string ⟨#[69,78,67,79,68,73,78,71]⟩,.string ⟨#[84,89,80,69]⟩,.string ⟨#[86,65,76,85,69]⟩] 9)) fun e w'=> ∃A n c,e= .returned (.slice A n c)/\Ah w' (fun k=>S k∨(w.heap.size<=k/\k<w'.heap.size)) (.slice A n c) (noP AA (noP Ae (noP AE P)))/\Below w.heap.size w w':=by
 have hb:=(Below.refl w.heap.size w).alloc zL (.cells #[.string ⟨#[69,78,67,79,68,73,78,71]⟩,.string ⟨#[84,89,80,69]⟩,.string ⟨#[86,65,76,85,69]⟩] 9);have hu:CD (w.alloc (.cells #[.string ⟨#[69,78,67,79,68,73,78,71]⟩,.string ⟨#[84,89,80,69]⟩,.string ⟨#[86,65,76,85,69]⟩] 9)) (w.alloc (.cells #[.string ⟨#[69,78,67,79,68,73,78,71]⟩,.string ⟨#[84,89,80,69]⟩,.string ⟨#[86,65,76,85,69]⟩] 9)).heap.size (.slice (some (Ad w.heap.size 0)) 3 3) [AE,Ae,AA]:=
  ⟨_,3,rfl,Nat.le_refl _,fun _=>⟨w.heap.size,0,rfl,by simp,fun i hi j hj=>by have hi:i<3:=hi;obtain rfl:j=0:=(by omega);rcases (show i=0∨i=1∨i=2 by omega) with rfl|rfl|rfl<;>simp[AE,Ae,AA]⟩⟩
 refine (K3 P [AE,Ae,AA] v _ _ (fun k hk=>by have:=hS k hk;simp;omega) (h.move (fun k hk=>hb.block k (hS k hk)) fun _ h=>h) hu (by omega) (by simp) (fun p hp=>Nat.le_trans (Y3 p hp) (by decide)) (by simp[AE,Ae,AA])).mono ?_;rintro e w1 ⟨v1,L1,rfl,hO,YB⟩;obtain ⟨A1,k1,rfl⟩:=hO.row.form;refine ⟨A1,_,k1,rfl, ?_,hb.trans (YB.mono (by simp))⟩;rw[<-MA];exact hO.x (fun k hk=> .inl hk) (fun k h2 h3=> .inr ⟨by simp at h2;omega,h3⟩)
section
attribute [local go_sem ↓] zPe zQe
attribute [local go_sem] XR WH XS WI We Xm Xp Xn Tv
theorem Wo {S:Nat->Prop} (x:It) (A:Option Addr) (c:Nat) (A':Option Addr) (c':Nat) (w:World) (hL:LD w) (hS:sW S w) (hp:Ah w S (pP A x c) x.ps) (hl:BY w S (lP A' x c') x.val.parts) (hT:Y4 x) (HS: ∀c∈Xs x.name,c≠32) (hb:KH (Xs x.name)=true) (hq:x.ps.find? (fun p=>AF p.name AE)=none):
 Calls prog 17 #[Yp x (pP A x c) (lP A' x c')] w (BJ S w (CE (Xs x.name) x)):=by
 have A4:=hid hb;have HQ:=hid hq;clear hb hq;refine (CS (S:=S) x A c A' c' w).pf ?_ hL hS hp hl hT HS;intro HT L5 HW HH N L6 HX HN V5 ia ib ic id w3 E HE A3 HM hB HV HP A9 V6 VC HZ L7;obtain ⟨c0,c1,c2,c3,c4,c5,c6,c7,c8,c9,c10,c11,c12,c13,c14,A8⟩:=HM.out.c;obtain ⟨d0,d1,d2,d3,d4,d5,d6,d7,d8,d9,B1,B2⟩:=HV.out.c;rw[HN.out] at A4;have AW:=hid (show CE (Xs x.name) x=BX N x by rw[HN.out];exact Jj A4.out);have H3:=hid (show BX N x=if x.val.type=4 then some {x with ps:=noP AA x.ps} else none by unfold BX;rw[HQ.out]);go_upto_region 4 with fail;go_cut [23] from 24 to 37 (fun I0 wz=>I0= .bool true/\wz=w3);case first=>
  rcases FF A4.out with h|h|h|h;all_goals
   clear A4 AW HN HX;subst h;go_wp2
   go_meet;exact ⟨rfl,rfl⟩
 case rest=>
  obtain ⟨rfl,I1⟩:=hcut;obtain rfl:=I1.symm;have Z0:E= -1:=by
   rcases HE.out with ⟨h,_⟩|⟨k,p,_,_,_,h⟩
   ·exact h
   ·rw[HQ.out] at h;cases h
  subst Z0;go_wp2_with fail;refine (CJ x.ps (pP A x c) w3 (fun k hk=>by have:=hS k hk;omega) HP.out HW HH.out).mono ?_;rintro e w6 ⟨A6,n6,k6,rfl,F2,A0⟩;have L8:=hid F2;have PF:=A0.size;have DA:=HM.out.keep A0 (show w.heap.size<_ by omega);have q6:=DA.frozen 2;have k6c:=DA.c.c2;have VX:=A3.trans (A0.mono (show w.heap.size<=w3.heap.size by omega));have HI:=hid (hB.low A0 (show w.heap.size+1<_ by omega));have f0:=(A0.cell (p:=(Ad V5 0)) HZ).trans d0;obtain ⟨W7,H4⟩: ∃W7,w6.setCell (Ad w.heap.size 2) (.slice A6 n6 k6)=W7:=⟨_,rfl⟩;have E3:=hid (show Yx W7 w.heap.size {x with ps:=noP AA x.ps} (.slice A6 n6 k6) (lP A' x c') from H4▸DA.setP _ _);have W0:=hid (show∀k,k≠w.heap.size->W7.heap[k]? =w6.heap[k]? from fun k hk=>H4▸heap_setCell_other w6 _ k _ hk);have W1:W7.heap.size=w6.heap.size:=by rw[<-H4];simp[World.setCell]
  have AN:Below w.heap.size w W7:=H4▸VX.setCell (p:=(Ad w.heap.size 2)) zL _;have Z1:Yt W7.drew (w.heap.size+1) 15:=H4▸HI.out.setCell _ _ (by simp);replace f0:W7.drew.cell? (Ad V5 0)=some (Iv x.val.type):=(World.cell?_of_block (w:=w6) (a:=(Ad V5 0)) (W0.out V5 (by omega))).trans f0;have W2:=hid H4;clear c0 c1 c2 c3 c4 c5 c6 c7 c8 c9 c10 c11 c12 c13 c14 A8;clear d0 d1 d2 d3 d4 d5 d6 d7 d8 d9 B1 B2 F2 A0 H4;go_upto_region 7 with fail;(try rw[W2.out]);clear W2 q6 k6c DA HI;have Z2:=hid (E3.out.drew);obtain ⟨c0,c1,c2,c3,c4,c5,c6,c7,c8,c9,c10,c11,c12,c13,c14,A8⟩:=Z2.out.c;simp only at c0 c1 c2 c3 c4 c5 c6 c7 c8 c9 c10 c11 c12 c13 c14;have ZN:V5≠w.heap.size+1:=(by omega);have f0b:W7.cell? (Ad V5 0)=some (Iv x.val.type):=f0;go_region;all_goals
   go_wp2
   refine bodyPost_ret (AG (x:={x with ps:=noP AA x.ps}) (pv:= .slice A6 n6 k6) (qv:=(lP A' x c')) (G:=w.heap.size+1) rfl (by first|(simp;done)|rfl|simp[go_sem]) (Yx.row Z1 rfl)) rfl ?_;have F1:=AC AN.drew (show w.heap.size<=w.heap.size+1 by omega) (Yv {x with ps:=noP AA x.ps} (.slice A6 n6 k6) (lP A' x c'));by_cases ht:x.val.type=4
   ·have hu:=H3.out;rw[if_pos ht] at hu;rw[show (x.val.type==4)=true by simpa using ht];refine Aq (by rw[AW.out,hu]) ?_ ?_ F1
    ·refine L8.out.move (fun k hk=>(AH _ _ _ ?_).trans (W0.out k ?_)) fun k hk=> ?_
     ·rcases hk with hk|hk
      ·have:=hS k hk;omega
      ·omega
     ·rcases hk with hk|hk
      ·have:=hS k hk;omega
      ·omega
     ·rcases hk with hk|hk
      ·exact .inl hk
      ·exact .inr ⟨by omega,by simp;omega⟩
    ·exact A9.out.move (fun k hk=>(AH _ _ _ (by have:=hS k hk;omega)).trans ((AN.block k (hS k hk)).trans (A3.block k (hS k hk)).symm)) fun k hk=> .inl hk
   ·have hu:=H3.out;rw[if_neg ht] at hu;rw[show (x.val.type==4)=false by simpa using ht];exact Ai (by rw[AW.out,hu]) F1
end
section
attribute [local go_sem ↓] zPe zQe
attribute [local go_sem] XR WH XS WI We Xm Xp Xn Tv
theorem Ws {S:Nat->Prop} (x:It) (A:Option Addr) (c:Nat) (A':Option Addr) (c':Nat) (w:World) (hL:LD w) (hS:sW S w) (hp:Ah w S (pP A x c) x.ps) (hl:BY w S (lP A' x c') x.val.parts) (hT:Y4 x) (HS: ∀c∈Xs x.name,c≠32) (hb:KH (Xs x.name)=true) (q:Pm) (hq:x.ps.find? (fun p=>AF p.name AE)=some q) (s:Str) (r:List Str) (HJ:q.vals=s::r) (hg:BX (Xs x.name) x=none) (E1: ∀bytes,B.unB x.val.text= .ok bytes->AF s kb=true->(x.val.type != 8)=true):
 Calls prog 17 #[Yp x (pP A x c) (lP A' x c')] w (BJ S w (CE (Xs x.name) x)):=by
 have A4:=hid hb;have HQ:=hid hq;have E9:=hid HJ;have HG:=hid hg;have PB:=hid E1;clear hb hq HJ hg E1;refine (CS (S:=S) x A c A' c' w).pf ?_ hL hS hp hl hT HS;intro HT L5 HW HH N L6 HX HN V5 ia ib ic id w3 E HE A3 HM hB HV HP A9 V6 VC HZ L7;obtain ⟨c0,c1,c2,c3,c4,c5,c6,c7,c8,c9,c10,c11,c12,c13,c14,A8⟩:=HM.out.c;obtain ⟨d0,d1,d2,d3,d4,d5,d6,d7,d8,d9,B1,B2⟩:=HV.out.c;rw[HN.out] at A4 HG;have AW:=hid (show CE (Xs x.name) x=BX N x by rw[HN.out];exact Jj A4.out);go_upto_region 4 with fail;go_cut [23] from 24 to 37 (fun I0 wz=>I0= .bool true/\wz=w3);case first=>
  rcases FF A4.out with h|h|h|h;all_goals
   clear A4 AW HN HX;subst h;go_wp2
   go_meet;exact ⟨rfl,rfl⟩
 case rest=>
  obtain ⟨rfl,I1⟩:=hcut;obtain rfl:=I1.symm;obtain ⟨k,p,Q1,hk,hd,H8⟩: ∃(k:Nat) (p:Pm),E=(k:Int)/\k<x.ps.length/\x.ps.drop k=p::x.ps.drop (k+1)/\x.ps.find? (fun p=>AF p.name AE)=some p:=by
   rcases HE.out with ⟨_,h⟩|h
   ·rw[HQ.out] at h;cases h
   ·exact h
  subst Q1;obtain rfl:p=q:=by rw[HQ.out] at H8;exact (Option.some.inj H8).symm
  have I2:p∈x.ps:=List.mem_of_mem_drop (show p∈x.ps.drop k by rw[hd];simp);obtain ⟨b,o,p',u,hA,Z3,H9,m0,m1,HA⟩:=(HP.out.pms (B:=w.heap.size) hS).at_ hk;rw[hd] at H9;obtain rfl:p=p':=(by simpa using H9);have Z4:s.length<=100000:=by have:=Ls I2 (s:=s) (by rw[E9.out];simp);have:=HT.out.ps;omega
  obtain ⟨B0,d,rfl⟩:=HA.form;obtain ⟨b2,o2,s',rfl,W4,HB,m2⟩:=HA.at_ (k:=0) (by rw[E9.out];simp);rw[E9.out] at HB;obtain rfl:s=s':=(by simpa using HB);rw[Nat.add_zero] at m2;have Z5:(0:Int)<(p.vals.length:Int):=by rw[E9.out];simp
  have Z6: ¬(k:Int)<0:=(by omega);have Z7:(k:Int)<(x.ps.length:Int):=(by omega);have Q2:(0:Int)<=(k:Int):=(by omega);subst hA;clear H8 hd H9 HA HB I2 HE;have Z8:x.val.text.length<=10000:=HT.out.text;go_wp2_with fail;refine (B.unb64_any x.val.text w3 (by omega) L7.laid).mono ?_;rintro e w4 ⟨F3,HK,DD⟩;have HR:=DD.size;cases hu:B.unB x.val.text with
  |error y=>
   obtain rfl:=F3 y hu;have HU:=hid hu;clear F3 HK hu;obtain ⟨W5,FB,G1,f0,f1,I3⟩: ∃W:World,w4.alloc (.cells #[Iv y.1,Iv y.2] 28)=W/\Below w4.heap.size w4 W/\W.cell? (Ad w4.heap.size 0)=some (Iv y.1)/\W.cell? (Ad w4.heap.size 1)=some (Iv y.2)/\W.heap.size=w4.heap.size+1:=
    ⟨_,rfl,zA,by simp,by simp,by simp⟩
   have A2:Below w3.heap.size w3 W5:=DD.trans (G1.mono HR);have m0':=(A2.cell (p:=(Ad b (o+k*2))) (show b<w3.heap.size by omega)).trans m0;have m1':=(A2.cell (p:=(Ad b (o+k*2+1))) (show b<w3.heap.size by omega)).trans m1;have m2':=(A2.cell (p:=(Ad b2 o2)) (show b2<w3.heap.size by omega)).trans m2;replace A3:=A3.trans (A2.mono (show w.heap.size<=w3.heap.size by omega));replace HM:=hid (HM.out.keep A2 (by omega));replace hB:=hB.low A2 (by omega);replace HV:=hid (HV.out.same (A2.block V5 (by omega)));replace HP:=hid (HP.out.move (w':=W5) (S':=S) (fun k hk=>A2.block k (by have:=hS k hk;omega)) fun _ h=>h);replace A9:=hid (A9.out.move (w':=W5) (S':=S) (fun k hk=>A2.block k (by have:=hS k hk;omega)) fun _ h=>h);clear c0 c1 c2 c3 c4 c5 c6 c7 c8 c9 c10 c11 c12 c13 c14 A8;clear d0 d1 d2 d3 d4 d5 d6 d7 d8 d9 B1 B2 m0 m1 m2 A2;obtain ⟨F4,G2⟩: ∃F4,w4.heap.size=F4:=⟨_,rfl⟩;rw[G2] at f0 f1 I3;obtain ⟨c0,c1,c2,c3,c4,c5,c6,c7,c8,c9,c10,c11,c12,c13,c14,A8⟩:=HM.out.c;obtain ⟨d0,d1,d2,d3,d4,d5,d6,d7,d8,d9,B1,B2⟩:=HV.out.c;go_upto_region 9 with fail;(try rw[FB]);(try rw[G2]);clear FB;go_wp2_with fail;refine (Ay s kb W5 (by omega) (by decide)).mono ?_;rintro e w6 ⟨rfl,A0⟩;have PF:=A0.size;have L9:=(A0.cell (p:=(Ad F4 0)) (show F4<W5.heap.size by omega)).trans f0;have LB:=(A0.cell (p:=(Ad F4 1)) (show F4<W5.heap.size by omega)).trans f1;have W6:F4<w6.heap.size:=(by omega);replace A3:=A3.trans (A0.mono (show w.heap.size<=W5.heap.size by omega));replace HM:=hid (HM.out.keep A0 (by omega));replace hB:=hB.low A0 (by omega);replace HV:=hid (HV.out.same (A0.block V5 (by omega)));replace HP:=hid (HP.out.move (w':=w6) (S':=S) (fun k hk=>A0.block k (by have:=hS k hk;omega)) fun _ h=>h);replace A9:=hid (A9.out.move (w':=w6) (S':=S) (fun k hk=>A0.block k (by have:=hS k hk;omega)) fun _ h=>h);clear c0 c1 c2 c3 c4 c5 c6 c7 c8 c9 c10 c11 c12 c13 c14 A8;clear d0 d1 d2 d3 d4 d5 d6 d7 d8 d9 B1 B2 m0' m1' m2' A0 f0 f1 G1 DD;obtain ⟨c0,c1,c2,c3,c4,c5,c6,c7,c8,c9,c10,c11,c12,c13,c14,A8⟩:=HM.out.c;obtain ⟨d0,d1,d2,d3,d4,d5,d6,d7,d8,d9,B1,B2⟩:=HV.out.c;cases HL:AF s kb with
   |false=>
    go_wp2
    refine bodyPost_ret (AG (x:=x) (pv:=(.slice (some (Ad b o)) x.ps.length c)) (qv:=(lP A' x c')) (G:=w.heap.size+1) rfl (by first|(simp;done)|rfl|simp[go_sem]) (Yx.row hB rfl)) rfl ?_;exact Ai (by rw[AW.out];exact HG.out) (AC A3 (by omega) _)
   |true=>
    cases t8:(x.val.type != 8) with
    |true=>
     go_wp2
     refine bodyPost_ret (AG (x:=x) (pv:=(.slice (some (Ad b o)) x.ps.length c)) (qv:=(lP A' x c')) (G:=w.heap.size+1) rfl (by first|(simp;done)|rfl|simp[go_sem]) (Yx.row hB rfl)) rfl ?_;exact Ai (by rw[AW.out];exact HG.out) (AC A3 (by omega) _)
    |false=>
     go_wp2_with fail;refine (CU y.1 y.2 w6).mono ?_;rintro e w7 ⟨rfl,I4⟩;rw[Te HU.out];have AN:Below w6.heap.size w6 w7:=I4▸zA;have W1:=AN.size;replace A3:=A3.trans (AN.mono (show w.heap.size<=w6.heap.size by omega));replace HM:=hid (HM.out.keep AN (by omega));replace hB:=hB.low AN (by omega);replace HV:=hid (HV.out.same (AN.block V5 (by omega)));replace HP:=hid (HP.out.move (w':=w7) (S':=S) (fun k hk=>AN.block k (by have:=hS k hk;omega)) fun _ h=>h);replace A9:=hid (A9.out.move (w':=w7) (S':=S) (fun k hk=>AN.block k (by have:=hS k hk;omega)) fun _ h=>h);clear c0 c1 c2 c3 c4 c5 c6 c7 c8 c9 c10 c11 c12 c13 c14 A8;clear d0 d1 d2 d3 d4 d5 d6 d7 d8 d9 B1 B2 I4 AN L9 LB;obtain ⟨c0,c1,c2,c3,c4,c5,c6,c7,c8,c9,c10,c11,c12,c13,c14,A8⟩:=HM.out.c;go_wp2
     refine bodyPost_ret (AG (x:=x) (pv:=(.slice (some (Ad b o)) x.ps.length c)) (qv:=(lP A' x c')) (G:=w.heap.size+1) rfl (by first|(simp;done)|rfl|simp[go_sem]) (Yx.row hB rfl)) rfl ?_;exact Ai (by rw[AW.out];exact HG.out) (AC A3 (by omega) _)
  |ok bytes=>
   obtain rfl:=HK bytes hu;have HU:=hid hu;clear F3 HK hu;obtain ⟨W5,FB,G1,f0,f1,I3⟩: ∃W:World,w4.alloc (.cells #[Iv 0,Iv (-1)] 28)=W/\Below w4.heap.size w4 W/\W.cell? (Ad w4.heap.size 0)=some (Iv 0)/\W.cell? (Ad w4.heap.size 1)=some (Iv (-1))/\W.heap.size=w4.heap.size+1:=
    ⟨_,rfl,zA,by simp,by simp,by simp⟩
   have A2:Below w3.heap.size w3 W5:=DD.trans (G1.mono HR);have m0':=(A2.cell (p:=(Ad b (o+k*2))) (show b<w3.heap.size by omega)).trans m0;have m1':=(A2.cell (p:=(Ad b (o+k*2+1))) (show b<w3.heap.size by omega)).trans m1;have m2':=(A2.cell (p:=(Ad b2 o2)) (show b2<w3.heap.size by omega)).trans m2;replace A3:=A3.trans (A2.mono (show w.heap.size<=w3.heap.size by omega));replace HM:=hid (HM.out.keep A2 (by omega));replace hB:=hB.low A2 (by omega);replace HV:=hid (HV.out.same (A2.block V5 (by omega)));replace HP:=hid (HP.out.move (w':=W5) (S':=S) (fun k hk=>A2.block k (by have:=hS k hk;omega)) fun _ h=>h);replace A9:=hid (A9.out.move (w':=W5) (S':=S) (fun k hk=>A2.block k (by have:=hS k hk;omega)) fun _ h=>h);clear c0 c1 c2 c3 c4 c5 c6 c7 c8 c9 c10 c11 c12 c13 c14 A8;clear d0 d1 d2 d3 d4 d5 d6 d7 d8 d9 B1 B2 m0 m1 m2 A2;obtain ⟨F4,G2⟩: ∃F4,w4.heap.size=F4:=⟨_,rfl⟩;rw[G2] at f0 f1 I3;obtain ⟨c0,c1,c2,c3,c4,c5,c6,c7,c8,c9,c10,c11,c12,c13,c14,A8⟩:=HM.out.c;obtain ⟨d0,d1,d2,d3,d4,d5,d6,d7,d8,d9,B1,B2⟩:=HV.out.c;go_upto_region 9 with fail;(try rw[FB]);(try rw[G2]);clear FB;go_wp2_with fail;refine (Ay s kb W5 (by omega) (by decide)).mono ?_;rintro e w6 ⟨rfl,A0⟩;have PF:=A0.size;have L9:=(A0.cell (p:=(Ad F4 0)) (show F4<W5.heap.size by omega)).trans f0;have LB:=(A0.cell (p:=(Ad F4 1)) (show F4<W5.heap.size by omega)).trans f1;have W6:F4<w6.heap.size:=(by omega);replace A3:=A3.trans (A0.mono (show w.heap.size<=W5.heap.size by omega));replace HM:=hid (HM.out.keep A0 (by omega));replace hB:=hB.low A0 (by omega);replace HV:=hid (HV.out.same (A0.block V5 (by omega)));replace HP:=hid (HP.out.move (w':=w6) (S':=S) (fun k hk=>A0.block k (by have:=hS k hk;omega)) fun _ h=>h);replace A9:=hid (A9.out.move (w':=w6) (S':=S) (fun k hk=>A0.block k (by have:=hS k hk;omega)) fun _ h=>h);clear c0 c1 c2 c3 c4 c5 c6 c7 c8 c9 c10 c11 c12 c13 c14 A8;clear d0 d1 d2 d3 d4 d5 d6 d7 d8 d9 B1 B2 m0' m1' m2' A0 f0 f1 G1 DD;obtain ⟨c0,c1,c2,c3,c4,c5,c6,c7,c8,c9,c10,c11,c12,c13,c14,A8⟩:=HM.out.c;obtain ⟨d0,d1,d2,d3,d4,d5,d6,d7,d8,d9,B1,B2⟩:=HV.out.c;cases HL:AF s kb with
   |false=>
    go_wp2
    refine bodyPost_ret (AG (x:=x) (pv:=(.slice (some (Ad b o)) x.ps.length c)) (qv:=(lP A' x c')) (G:=w.heap.size+1) rfl (by first|(simp;done)|rfl|simp[go_sem]) (Yx.row hB rfl)) rfl ?_;exact Ai (by rw[AW.out];exact HG.out) (AC A3 (by omega) _)
   |true=>
    have t8:(x.val.type != 8)=true:=PB.out bytes HU.out HL;go_wp2
    refine bodyPost_ret (AG (x:=x) (pv:=(.slice (some (Ad b o)) x.ps.length c)) (qv:=(lP A' x c')) (G:=w.heap.size+1) rfl (by first|(simp;done)|rfl|simp[go_sem]) (Yx.row hB rfl)) rfl ?_;exact Ai (by rw[AW.out];exact HG.out) (AC A3 (by omega) _)
end
theorem QZ {N s:Str} (l:List Pm) {p:Pm} (h:KH N=true) (hq:l.find? (fun p=>AF p.name Ae)=some p) (hv:p.vals.headD []=s): ∃k,k<4/\(⟨N.toArray⟩:ByteArray)=mK k/\(mV k++⟨#[47]⟩++⟨(loS s).toArray⟩:ByteArray)=⟨(Bb N l).toArray⟩:=by
 have e:Bb N l=(if N==BV||N==CN then Dx else if N==Bn then Et else CX)++loS s:=by unfold Bb;rw[hq,<-hv]
 rw[e];rcases FF h with rfl|rfl|rfl|rfl
 ·exact ⟨0,by decide,rfl,by rw[show (BV==BV||BV==CN)=true from by decide,if_pos rfl,<-AM];rfl⟩
 ·exact ⟨1,by decide,rfl,by rw[show (CN==BV||CN==CN)=true from by decide,if_pos rfl,<-AM];rfl⟩
 ·exact ⟨2,by decide,rfl,by rw[show (Bn==BV||Bn==CN)=false from by decide,if_neg (by decide),if_pos (by decide),<-AM];rfl⟩
 ·exact ⟨3,by decide,rfl,by rw[show (K8==BV||K8==CN)=false from by decide,if_neg (by decide),if_neg (by decide),<-AM];rfl⟩
section
attribute [local go_sem ↓] zPe zQe
attribute [local go_sem] XR WH XS WI We Xm Xp Xn Tv
theorem Wv {S:Nat->Prop} (x:It) (A:Option Addr) (c:Nat) (A':Option Addr) (c':Nat) (w:World) (hL:LD w) (hS:sW S w) (hp:Ah w S (pP A x c) x.ps) (hl:BY w S (lP A' x c') x.val.parts) (hT:Y4 x) (HS: ∀c∈Xs x.name,c≠32) (hb:KH (Xs x.name)=true) (q:Pm) (hq:x.ps.find? (fun p=>AF p.name AE)=some q) (s:Str) (r:List Str) (HJ:q.vals=s::r) (ht:x.val.type=8) (HL:AF s kb=true) (bytes:Str) (hu:B.unB x.val.text= .ok bytes):
 Calls prog 17 #[Yp x (pP A x c) (lP A' x c')] w (BJ S w (CE (Xs x.name) x)):=by
 have A4:=hid hb;have HQ:=hid hq;have E9:=hid HJ;have Z9:=hid HL;have HU:=hid hu;have ZW:=JV hu;have t8:(x.val.type != 8)=false:=(by simp[ht]);have H3:=hid (show BX (Xs x.name) x=if B.medB (Bb (Xs x.name) x.ps) then some {x with ps:=noP AA (noP Ae (noP AE x.ps)),val:=⟨4,KJ (Bb (Xs x.name) x.ps) (B.encL bytes),[],default,0⟩} else none by unfold BX;rw[hq];simp only[HJ,List.headD_cons];rw[if_pos (by simp[HL,ht]),hu]);clear hb hq HJ HL hu ht;refine (CS (S:=S) x A c A' c' w).pf ?_ hL hS hp hl hT HS;intro HT L5 HW HH N L6 HX HN V5 ia ib ic id w3 E HE A3 HM hB HV HP A9 V6 VC HZ L7;obtain ⟨c0,c1,c2,c3,c4,c5,c6,c7,c8,c9,c10,c11,c12,c13,c14,A8⟩:=HM.out.c;obtain ⟨d0,d1,d2,d3,d4,d5,d6,d7,d8,d9,B1,B2⟩:=HV.out.c;rw[HN.out] at A4 H3;have AW:=hid (show CE (Xs x.name) x=BX N x by rw[HN.out];exact Jj A4.out);go_upto_region 4 with fail;go_cut [23] from 24 to 37 (fun I0 wz=>I0= .bool true/\wz=w3);case first=>
  rcases FF A4.out with h|h|h|h;all_goals
   clear A4 AW HN HX;subst h;go_wp2
   go_meet;exact ⟨rfl,rfl⟩
 case rest=>
  obtain ⟨rfl,I1⟩:=hcut;obtain rfl:=I1.symm;obtain ⟨k,p,Q1,hk,hd,H8⟩: ∃(k:Nat) (p:Pm),E=(k:Int)/\k<x.ps.length/\x.ps.drop k=p::x.ps.drop (k+1)/\x.ps.find? (fun p=>AF p.name AE)=some p:=by
   rcases HE.out with ⟨_,h⟩|h
   ·rw[HQ.out] at h;cases h
   ·exact h
  subst Q1;obtain rfl:p=q:=by rw[HQ.out] at H8;exact (Option.some.inj H8).symm
  have I2:p∈x.ps:=List.mem_of_mem_drop (show p∈x.ps.drop k by rw[hd];simp);obtain ⟨b,o,p',u,hA,Z3,H9,m0,m1,HA⟩:=(HP.out.pms (B:=w.heap.size) hS).at_ hk;rw[hd] at H9;obtain rfl:p=p':=(by simpa using H9);have Z4:s.length<=100000:=by have:=Ls I2 (s:=s) (by rw[E9.out];simp);have:=HT.out.ps;omega
  obtain ⟨B0,d,rfl⟩:=HA.form;obtain ⟨b2,o2,s',rfl,W4,HB,m2⟩:=HA.at_ (k:=0) (by rw[E9.out];simp);rw[E9.out] at HB;obtain rfl:s=s':=(by simpa using HB);rw[Nat.add_zero] at m2;have Z5:(0:Int)<(p.vals.length:Int):=by rw[E9.out];simp
  have Z6: ¬(k:Int)<0:=(by omega);have Z7:(k:Int)<(x.ps.length:Int):=(by omega);have Q2:(0:Int)<=(k:Int):=(by omega);subst hA;clear H8 hd H9 HA HB I2 HE;have Z8:x.val.text.length<=10000:=HT.out.text;go_wp2_with fail;refine (B.unb64_any x.val.text w3 (by omega) L7.laid).mono ?_;rintro e w4 ⟨F3,HK,DD⟩;have HR:=DD.size;obtain rfl:=HK bytes HU.out;clear F3 HK;obtain ⟨W5,FB,G1,f0,f1,I3⟩: ∃W:World,w4.alloc (.cells #[Iv 0,Iv (-1)] 28)=W/\Below w4.heap.size w4 W/\W.cell? (Ad w4.heap.size 0)=some (Iv 0)/\W.cell? (Ad w4.heap.size 1)=some (Iv (-1))/\W.heap.size=w4.heap.size+1:=
   ⟨_,rfl,zA,by simp,by simp,by simp⟩
  have A2:Below w3.heap.size w3 W5:=DD.trans (G1.mono HR);have m0':=(A2.cell (p:=(Ad b (o+k*2))) (show b<w3.heap.size by omega)).trans m0;have m1':=(A2.cell (p:=(Ad b (o+k*2+1))) (show b<w3.heap.size by omega)).trans m1;have m2':=(A2.cell (p:=(Ad b2 o2)) (show b2<w3.heap.size by omega)).trans m2;replace A3:=A3.trans (A2.mono (show w.heap.size<=w3.heap.size by omega));replace HM:=hid (HM.out.keep A2 (by omega));replace hB:=hB.low A2 (by omega);replace HV:=hid (HV.out.same (A2.block V5 (by omega)));replace HP:=hid (HP.out.move (w':=W5) (S':=S) (fun k hk=>A2.block k (by have:=hS k hk;omega)) fun _ h=>h);replace A9:=hid (A9.out.move (w':=W5) (S':=S) (fun k hk=>A2.block k (by have:=hS k hk;omega)) fun _ h=>h);clear c0 c1 c2 c3 c4 c5 c6 c7 c8 c9 c10 c11 c12 c13 c14 A8;clear d0 d1 d2 d3 d4 d5 d6 d7 d8 d9 B1 B2 m0 m1 m2 A2;obtain ⟨F4,G2⟩: ∃F4,w4.heap.size=F4:=⟨_,rfl⟩;rw[G2] at f0 f1 I3;obtain ⟨c0,c1,c2,c3,c4,c5,c6,c7,c8,c9,c10,c11,c12,c13,c14,A8⟩:=HM.out.c;obtain ⟨d0,d1,d2,d3,d4,d5,d6,d7,d8,d9,B1,B2⟩:=HV.out.c;go_upto_region 9 with fail;(try rw[FB]);(try rw[G2]);clear FB;go_wp2_with fail;refine (Ay s kb W5 (by omega) (by decide)).mono ?_;rintro e w6 ⟨rfl,A0⟩;have PF:=A0.size;have L9:=(A0.cell (p:=(Ad F4 0)) (show F4<W5.heap.size by omega)).trans f0;have LB:=(A0.cell (p:=(Ad F4 1)) (show F4<W5.heap.size by omega)).trans f1;have W6:F4<w6.heap.size:=(by omega);replace A3:=A3.trans (A0.mono (show w.heap.size<=W5.heap.size by omega));replace HM:=hid (HM.out.keep A0 (by omega));replace hB:=hB.low A0 (by omega);replace HV:=hid (HV.out.same (A0.block V5 (by omega)));replace HP:=hid (HP.out.move (w':=w6) (S':=S) (fun k hk=>A0.block k (by have:=hS k hk;omega)) fun _ h=>h);replace A9:=hid (A9.out.move (w':=w6) (S':=S) (fun k hk=>A0.block k (by have:=hS k hk;omega)) fun _ h=>h);clear c0 c1 c2 c3 c4 c5 c6 c7 c8 c9 c10 c11 c12 c13 c14 A8;clear d0 d1 d2 d3 d4 d5 d6 d7 d8 d9 B1 B2 m0' m1' m2' A0 f0 f1 G1 DD;obtain ⟨c0,c1,c2,c3,c4,c5,c6,c7,c8,c9,c10,c11,c12,c13,c14,A8⟩:=HM.out.c;obtain ⟨d0,d1,d2,d3,d4,d5,d6,d7,d8,d9,B1,B2⟩:=HV.out.c;rw[Z9.out];go_wp2_with fail;refine (CU 0 (-1) w6).mono ?_;rintro e w7 ⟨rfl,I4⟩;rw[show ((0:Int)==0)=true from rfl];have AN:Below w6.heap.size w6 w7:=I4▸zA;have W1:=AN.size;replace A3:=A3.trans (AN.mono (show w.heap.size<=w6.heap.size by omega));replace HM:=hid (HM.out.keep AN (by omega));replace hB:=hB.low AN (by omega);replace HV:=hid (HV.out.same (AN.block V5 (by omega)));replace HP:=hid (HP.out.move (w':=w7) (S':=S) (fun k hk=>AN.block k (by have:=hS k hk;omega)) fun _ h=>h);replace A9:=hid (A9.out.move (w':=w7) (S':=S) (fun k hk=>AN.block k (by have:=hS k hk;omega)) fun _ h=>h);clear c0 c1 c2 c3 c4 c5 c6 c7 c8 c9 c10 c11 c12 c13 c14 A8;clear d0 d1 d2 d3 d4 d5 d6 d7 d8 d9 B1 B2 I4 AN L9 LB;obtain ⟨c0,c1,c2,c3,c4,c5,c6,c7,c8,c9,c10,c11,c12,c13,c14,A8⟩:=HM.out.c;go_wp2_with fail;refine (D0 x.ps Ae (some (Ad b o)) c w7 (HP.out.pms fun k hk=>by have:=hS k hk;omega) (by omega) (fun p hp=>Nat.le_trans (HH.out p hp) (by omega)) (by decide)).mono ?_;rintro e w8 ⟨⟨E2,rfl,W8⟩,G4⟩;have W9:=W8;clear W8;have ZX:=G4.size;replace A3:=A3.trans (G4.mono (show w.heap.size<=w7.heap.size by omega));replace HM:=hid (HM.out.keep G4 (by omega));replace hB:=hB.low G4 (by omega);replace HV:=hid (HV.out.same (G4.block V5 (by omega)));replace HP:=hid (HP.out.move (w':=w8) (S':=S) (fun k hk=>G4.block k (by have:=hS k hk;omega)) fun _ h=>h);replace A9:=hid (A9.out.move (w':=w8) (S':=S) (fun k hk=>G4.block k (by have:=hS k hk;omega)) fun _ h=>h);clear c0 c1 c2 c3 c4 c5 c6 c7 c8 c9 c10 c11 c12 c13 c14 A8;clear G4;obtain ⟨c0,c1,c2,c3,c4,c5,c6,c7,c8,c9,c10,c11,c12,c13,c14,A8⟩:=HM.out.c;go_upto_if 80 with fail;go_cut [9] from 81 to 95 (fun s9 wz=>s9= .string ⟨(Bb N x.ps).toArray⟩/\Below w8.heap.size w8 wz);case first=>
   rcases W9.out with ⟨hE,LL⟩|⟨k2,p2,hE,ZI,I5,LL⟩
   ·subst hE;go_wp2
    go_meet;exact ⟨by unfold Bb;rw[LL];rfl,zB⟩
   ·subst hE;have I6:p2∈x.ps:=List.mem_of_mem_drop (show p2∈x.ps.drop k2 by rw[I5];simp);obtain ⟨b3,o3,p3,u3,WA,ZO,R0,g0,g1,IB⟩:=(HP.out.pms (B:=w.heap.size) hS).at_ ZI;rw[I5] at R0;obtain rfl:p2=p3:=(by simpa using R0);simp only[Option.some.injEq,Addr.mk.injEq,and_true] at WA;obtain ⟨rfl,rfl⟩:=WA;cases HO:p2.vals with
    |nil=>exact absurd HO (HT.out.ne p2 I6)
    |cons s2 r2=>
     have S1:=hid HO;have ZP:s2.length<=100000:=by have:=Ls I6 (s:=s2) (by rw[HO];simp);have:=HT.out.ps;omega
     have ZQ:(0:Int)<(p2.vals.length:Int):=by rw[HO];simp
     have ZR:p2.vals≠[]:=by rw[HO];simp
     clear HO;obtain ⟨B3,d3,rfl⟩:=IB.form;obtain ⟨b4,o4,s4,rfl,ZS,SS,g2⟩:=IB.at_ (k:=0) (by rw[S1.out];simp);rw[S1.out] at SS;obtain rfl:s2=s4:=(by simpa using SS);rw[Nat.add_zero] at g2;have ZT:(k2:Int)<(x.ps.length:Int):=(by omega);have ZU:(0:Int)<=(k2:Int):=(by omega);have ZV: ¬(k2:Int)<0:=(by omega);have ZJ:=hid (QZ x.ps A4.out LL (show p2.vals.headD []=s2 by rw[S1.out];rfl));clear LL I5 R0 SS IB I6 g0;go_upto_region 14 with fail;refine wp_region_held_drew (S:=fun w'=>w'.cell? (Ad w.heap.size 2)=some (.slice (some (Ad b o)) x.ps.length c)/\w'.cell? (Ad b (o+k2*2+1))=some (.slice (some (Ad b4 o4)) p2.vals.length d3)/\w'.cell? (Ad b4 o4)=some (Sv s2)) (by kernel_rfl) ⟨c2,g1,g2⟩ (fun AV=> ?_);refine wpAnyH_take (i:=6) (v:=Sv N) rfl (by kernel_rfl) (by kernel_rfl) (by kernel_rfl) (fun _ _ _ h=>h) (.inl ⟨by rfl,fun w' H0=> ?_⟩) AV ?_
     ·go_split_ands;go_simp
     (try simp only[Act.put,List.getElem_toArray,List.getElem_cons_succ,List.getElem_cons_zero,List.setIfInBounds_toArray,List.set_cons_zero,List.set_cons_succ]);refine wpAnyH_take (i:=9) (v:= .pointer (some (Ad w.heap.size 2))) rfl (by kernel_rfl) (by kernel_rfl) (by kernel_rfl) (fun _ _ _ h=>h) (.inl ⟨by rfl,fun w' H0=> ?_⟩) AV ?_
     ·go_split_ands;go_simp
     (try simp only[Act.put,List.getElem_toArray,List.getElem_cons_succ,List.getElem_cons_zero,List.setIfInBounds_toArray,List.set_cons_zero,List.set_cons_succ]);refine wpAnyH_take (i:=10) (v:= .slice (some (Ad b o)) x.ps.length c) rfl (by kernel_rfl) (by kernel_rfl) (by kernel_rfl) (fun _ _ _ h=>h) (.inl ⟨by rfl,fun w' H0=> ?_⟩) AV ?_
     ·go_split_ands;go_simp
     (try simp only[Act.put,List.getElem_toArray,List.getElem_cons_succ,List.getElem_cons_zero,List.setIfInBounds_toArray,List.set_cons_zero,List.set_cons_succ]);refine wpAnyH_take (i:=11) (v:=Iv k2) rfl (by kernel_rfl) (by kernel_rfl) (by kernel_rfl) (fun _ _ _ h=>h) (.inl ⟨by rfl,fun w' H0=> ?_⟩) AV ?_
     ·go_split_ands;go_simp
     (try simp only[Act.put,List.getElem_toArray,List.getElem_cons_succ,List.getElem_cons_zero,List.setIfInBounds_toArray,List.set_cons_zero,List.set_cons_succ]);refine wpAnyH_take (i:=12) (v:= .pointer (some (Ad b (o+k2*2)))) rfl (by kernel_rfl) (by kernel_rfl) (by kernel_rfl) (fun _ _ _ h=>h) (.inl ⟨by rfl,fun w' H0=> ?_⟩) AV ?_
     ·go_split_ands;go_simp
     (try simp only[Act.put,List.getElem_toArray,List.getElem_cons_succ,List.getElem_cons_zero,List.setIfInBounds_toArray,List.set_cons_zero,List.set_cons_succ]);refine wpAnyH_take (i:=13) (v:= .pointer (some (Ad b (o+k2*2+1)))) rfl (by kernel_rfl) (by kernel_rfl) (by kernel_rfl) (fun _ _ _ h=>h) (.inl ⟨by rfl,fun w' H0=> ?_⟩) AV ?_
     ·go_split_ands;go_simp
     (try simp only[Act.put,List.getElem_toArray,List.getElem_cons_succ,List.getElem_cons_zero,List.setIfInBounds_toArray,List.set_cons_zero,List.set_cons_succ]);refine wpAnyH_take (i:=14) (v:= .slice (some (Ad b4 o4)) p2.vals.length d3) rfl (by kernel_rfl) (by kernel_rfl) (by kernel_rfl) (fun _ _ _ h=>h) (.inl ⟨by rfl,fun w' H0=> ?_⟩) AV ?_
     ·go_split_ands;go_simp
     (try simp only[Act.put,List.getElem_toArray,List.getElem_cons_succ,List.getElem_cons_zero,List.setIfInBounds_toArray,List.set_cons_zero,List.set_cons_succ]);refine wpAnyH_take (i:=15) (v:= .pointer (some (Ad b4 o4))) rfl (by kernel_rfl) (by kernel_rfl) (by kernel_rfl) (fun _ _ _ h=>h) (.inl ⟨by rfl,fun w' H0=> ?_⟩) AV ?_
     ·go_split_ands;go_simp
     (try simp only[Act.put,List.getElem_toArray,List.getElem_cons_succ,List.getElem_cons_zero,List.setIfInBounds_toArray,List.set_cons_zero,List.set_cons_succ]);refine wpAnyH_take (i:=16) (v:=Sv s2) rfl (by kernel_rfl) (by kernel_rfl) (by kernel_rfl) (fun _ _ _ h=>h) (.inl ⟨by rfl,fun w' H0=> ?_⟩) AV ?_
     ·go_split_ands;go_simp
     (try simp only[Act.put,List.getElem_toArray,List.getElem_cons_succ,List.getElem_cons_zero,List.setIfInBounds_toArray,List.set_cons_zero,List.set_cons_succ]);obtain ⟨k0,Q2,WF,X1⟩:=ZJ.out;have ZK:=hid WF;clear WF;refine N8 (k0:=k0) (sb:=⟨s2.toArray⟩) (lb:=⟨(loS s2).toArray⟩) ⟨rfl,by kernel_rfl,⟨_,rfl,rfl,rfl,rfl,by kernel_rfl⟩,fun k hk=> ?_,⟨_,rfl,rfl,rfl,rfl,by kernel_rfl⟩,⟨_,rfl,rfl,rfl,rfl,by kernel_rfl⟩,⟨_,rfl,rfl,rfl,rfl,by kernel_rfl⟩,⟨_,rfl,rfl,rfl,rfl,by kernel_rfl⟩,⟨_,rfl,rfl,rfl,rfl,by kernel_rfl⟩,⟨_,rfl,rfl,rfl,rfl,by kernel_rfl⟩⟩ Q2 (by simp) ?_ ?_ (fun w'=>D8 s2 w' (by omega)) ?_ (fun w' KI=>⟨(KI.cell (p:=(Ad w.heap.size 2)) (show w.heap.size<w8.heap.size by omega)).trans c2,(KI.cell (p:=(Ad b (o+k2*2+1))) (show b<w8.heap.size by omega)).trans g1,(KI.cell (p:=(Ad b4 o4)) (show b4<w8.heap.size by omega)).trans g2⟩) rfl (by decide) (fun r w' KI=> ?_)
     ·match k,hk with
      |0,_=>exact ⟨_,rfl,rfl,rfl,rfl,by kernel_rfl⟩
      |1,_=>exact ⟨_,rfl,rfl,rfl,rfl,by kernel_rfl⟩
      |2,_=>exact ⟨_,rfl,rfl,rfl,rfl,by kernel_rfl⟩
      |3,_=>exact ⟨_,rfl,rfl,rfl,rfl,by kernel_rfl⟩
     ·rw[<-ZK.out];simp
     ·simp
     ·have ZY:(loS s2).length=s2.length:=(by simp[loS]);show (loS s2).toArray.size<=_;rw[List.size_toArray];omega
     ·unfold Ty;rw[X1];clear X1;simp only[Act.put,List.setIfInBounds_toArray,List.set_cons_zero,List.set_cons_succ];go_wp2
      go_meet;exact ⟨rfl,(zB.drew).trans KI⟩
  case rest=>
   obtain ⟨rfl,H1⟩:=hcut;obtain ⟨w9,rfl⟩: ∃w9,w9=wc:=⟨_,rfl⟩;have ZZ:=H1.size;replace A3:=A3.trans (H1.mono (show w.heap.size<=w8.heap.size by omega));replace HM:=hid (HM.out.keep H1 (by omega));replace hB:=hB.low H1 (by omega);replace HV:=hid (HV.out.same (H1.block V5 (by omega)));replace HP:=hid (HP.out.move (w':=w9) (S':=S) (fun k hk=>H1.block k (by have:=hS k hk;omega)) fun _ h=>h);replace A9:=hid (A9.out.move (w':=w9) (S':=S) (fun k hk=>H1.block k (by have:=hS k hk;omega)) fun _ h=>h);clear c0 c1 c2 c3 c4 c5 c6 c7 c8 c9 c10 c11 c12 c13 c14 A8;clear H1 W9;obtain ⟨c0,c1,c2,c3,c4,c5,c6,c7,c8,c9,c10,c11,c12,c13,c14,A8⟩:=HM.out.c;have ZL:=EJ N x.ps;have a0:=HT.out.ps;obtain ⟨M,hM⟩: ∃M,Bb N x.ps=M:=⟨_,rfl⟩;rw[hM] at ZL H3;rw[hM];clear hM;have ZM:=hL.below A3;cases M2:B.medB M with
   |true=>
    have L2:=hid M2;clear M2;go_wp2_with fail;refine (Nk M bytes w9 (by omega) (by omega) L2.out ZM.laid).mono ?_;rintro e HC ⟨rfl,AB⟩;rw[B.enc_eq,M9];have X2:=AB.size;replace A3:=A3.trans (AB.mono (show w.heap.size<=w9.heap.size by omega));replace HM:=hid (HM.out.keep AB (by omega));replace hB:=hB.low AB (by omega);replace HV:=hid (HV.out.same (AB.block V5 (by omega)));replace HP:=hid (HP.out.move (w':=HC) (S':=S) (fun k hk=>AB.block k (by have:=hS k hk;omega)) fun _ h=>h);replace A9:=hid (A9.out.move (w':=HC) (S':=S) (fun k hk=>AB.block k (by have:=hS k hk;omega)) fun _ h=>h);clear c0 c1 c2 c3 c4 c5 c6 c7 c8 c9 c10 c11 c12 c13 c14 A8;clear AB;obtain ⟨c0,c1,c2,c3,c4,c5,c6,c7,c8,c9,c10,c11,c12,c13,c14,A8⟩:=HM.out.c;obtain ⟨D,hD⟩: ∃D:Str,KJ M (B.encL bytes)=D:=⟨_,rfl⟩;have HD:=hid hD;rw[hD];clear hD;go_wp2_with fail;refine (QV x.ps (.slice (some (Ad b o)) x.ps.length c) HC (fun k hk=>by have:=hS k hk;omega) HP.out HW HH.out).mono ?_;rintro e DT ⟨A6,n6,k6,rfl,F2,A0⟩;have L8:=hid F2;have X3:=A0.size;have DA:=HM.out.keep A0 (show w.heap.size<_ by omega);have q6:=DA.frozen 2;have k6c:=DA.c.c2;have HI:=hid (hB.low A0 (show w.heap.size+1<_ by omega));have E3:=DA.setP (noP AA (noP Ae (noP AE x.ps))) (.slice A6 n6 k6);have T5:Yt (DT.setCell (Ad w.heap.size 2) (.slice A6 n6 k6)) w.heap.size 15:=E3.blk;have HF:Yx ((DT.setCell (Ad w.heap.size 2) (.slice A6 n6 k6)).setCells w.heap.size 3 [Iv 4,Sv D,.slice none 0 0,Iv 0,Iv 0,Iv 0,Iv 0,Iv 0,Iv 0,.bool false,Iv 0,Iv 0]) w.heap.size {x with ps:=noP AA (noP Ae (noP AE x.ps)),val:=⟨4,D,[],default,0⟩} (.slice A6 n6 k6) (.slice none 0 0):=E3.setV ⟨4,D,[],default,0⟩ (.slice none 0 0);obtain ⟨E0,AL⟩: ∃E0,(DT.setCell (Ad w.heap.size 2) (.slice A6 n6 k6)).setCells w.heap.size 3 [Iv 4,Sv D,.slice none 0 0,Iv 0,Iv 0,Iv 0,Iv 0,Iv 0,Iv 0,.bool false,Iv 0,Iv 0]=E0:=⟨_,rfl⟩;rw[AL] at HF;have TT:=hid HF;have TX:Yt E0 (w.heap.size+1) 15:=(HI.out.setCell (Ad w.heap.size 2) (.slice A6 n6 k6) (by simp)).same (by rw[<-AL];exact AS _ _ _ _ _ (by omega));have N0:=hid (show∀k,k≠w.heap.size->E0.heap[k]? =DT.heap[k]? from fun k hk=>by rw[<-AL];exact (AS _ _ _ _ k hk).trans (heap_setCell_other DT _ k _ hk));have XB:E0.heap.size=DT.heap.size:=by rw[<-AL,Be];simp[World.setCell]
    have L4:Below w.heap.size w E0:=by rw[<-AL];exact BF zL _ _ ((A3.trans (A0.mono (show w.heap.size<=_ by omega))).setCell (p:=(Ad w.heap.size 2)) zL _)
    have H2:=hid AL;clear AL HF E3 F2 A0;go_upto_region 17 with fail;(try rw[H2.out]);clear T5 H2 q6 k6c DA;clear c0 c1 c2 c3 c4 c5 c6 c7 c8 c9 c10 c11 c12 c13 c14 A8;obtain ⟨c0,c1,c2,c3,c4,c5,c6,c7,c8,c9,c10,c11,c12,c13,c14,A8⟩:=TT.out.c;simp only at c0 c1 c2 c3 c4 c5 c6 c7 c8 c9 c10 c11 c12 c13 c14;go_wp2
    refine bodyPost_ret (AG (x:={x with ps:=noP AA (noP Ae (noP AE x.ps)),val:=⟨4,D,[],default,0⟩}) (pv:= .slice A6 n6 k6) (qv:= .slice none 0 0) (G:=w.heap.size+1) rfl (by first|(simp;done)|rfl|simp[go_sem]) (Yx.row TX rfl)) rfl ?_;have F1:=AC L4 (show w.heap.size<=w.heap.size+1 by omega) (Yv {x with ps:=noP AA (noP Ae (noP AE x.ps)),val:=⟨4,D,[],default,0⟩} (.slice A6 n6 k6) (.slice none 0 0));refine Aq (by rw[AW.out,H3.out,L2.out,HD.out];rfl) ?_ BY.nil F1;refine L8.out.move (fun k hk=>(AH _ _ _ ?_).trans (N0.out k ?_)) fun k hk=> ?_
    ·rcases hk with hk|hk
     ·have:=hS k hk;omega
     ·omega
    ·rcases hk with hk|hk
     ·have:=hS k hk;omega
     ·omega
    ·rcases hk with hk|hk
     ·exact .inl hk
     ·exact .inr ⟨by omega,by simp;omega⟩
   |false=>
    have L2:=hid M2;clear M2;go_wp2_with fail;refine (Pd M bytes w9 (by omega) L2.out).mono ?_;rintro e HC ⟨rfl,AB⟩;have X2:=AB.size;replace A3:=A3.trans (AB.mono (show w.heap.size<=w9.heap.size by omega));replace HM:=hid (HM.out.keep AB (by omega));replace hB:=hB.low AB (by omega);replace HV:=hid (HV.out.same (AB.block V5 (by omega)));replace HP:=hid (HP.out.move (w':=HC) (S':=S) (fun k hk=>AB.block k (by have:=hS k hk;omega)) fun _ h=>h);replace A9:=hid (A9.out.move (w':=HC) (S':=S) (fun k hk=>AB.block k (by have:=hS k hk;omega)) fun _ h=>h);clear c0 c1 c2 c3 c4 c5 c6 c7 c8 c9 c10 c11 c12 c13 c14 A8;clear AB;obtain ⟨c0,c1,c2,c3,c4,c5,c6,c7,c8,c9,c10,c11,c12,c13,c14,A8⟩:=HM.out.c;obtain ⟨D,hD⟩: ∃D:Str,([]:Str)=D:=⟨_,rfl⟩;have HD:=hid hD;(try rw[show (⟨#[]⟩:ByteArray)=⟨D.toArray⟩ by rw[<-hD]]);clear hD;go_wp2_with fail;refine (QV x.ps (.slice (some (Ad b o)) x.ps.length c) HC (fun k hk=>by have:=hS k hk;omega) HP.out HW HH.out).mono ?_;rintro e DT ⟨A6,n6,k6,rfl,F2,A0⟩;have L8:=hid F2;have X3:=A0.size;have DA:=HM.out.keep A0 (show w.heap.size<_ by omega);have q6:=DA.frozen 2;have k6c:=DA.c.c2;have HI:=hid (hB.low A0 (show w.heap.size+1<_ by omega));have E3:=DA.setP (noP AA (noP Ae (noP AE x.ps))) (.slice A6 n6 k6);have T5:Yt (DT.setCell (Ad w.heap.size 2) (.slice A6 n6 k6)) w.heap.size 15:=E3.blk;have HF:Yx ((DT.setCell (Ad w.heap.size 2) (.slice A6 n6 k6)).setCells w.heap.size 3 [Iv 4,Sv D,.slice none 0 0,Iv 0,Iv 0,Iv 0,Iv 0,Iv 0,Iv 0,.bool false,Iv 0,Iv 0]) w.heap.size {x with ps:=noP AA (noP Ae (noP AE x.ps)),val:=⟨4,D,[],default,0⟩} (.slice A6 n6 k6) (.slice none 0 0):=E3.setV ⟨4,D,[],default,0⟩ (.slice none 0 0);obtain ⟨E0,AL⟩: ∃E0,(DT.setCell (Ad w.heap.size 2) (.slice A6 n6 k6)).setCells w.heap.size 3 [Iv 4,Sv D,.slice none 0 0,Iv 0,Iv 0,Iv 0,Iv 0,Iv 0,Iv 0,.bool false,Iv 0,Iv 0]=E0:=⟨_,rfl⟩;rw[AL] at HF;have TT:=hid HF;have TX:Yt E0 (w.heap.size+1) 15:=(HI.out.setCell (Ad w.heap.size 2) (.slice A6 n6 k6) (by simp)).same (by rw[<-AL];exact AS _ _ _ _ _ (by omega));have N0:=hid (show∀k,k≠w.heap.size->E0.heap[k]? =DT.heap[k]? from fun k hk=>by rw[<-AL];exact (AS _ _ _ _ k hk).trans (heap_setCell_other DT _ k _ hk));have XB:E0.heap.size=DT.heap.size:=by rw[<-AL,Be];simp[World.setCell]
    have L4:Below w.heap.size w E0:=by rw[<-AL];exact BF zL _ _ ((A3.trans (A0.mono (show w.heap.size<=_ by omega))).setCell (p:=(Ad w.heap.size 2)) zL _)
    have H2:=hid AL;clear AL HF E3 F2 A0;go_upto_region 17 with fail;(try rw[H2.out]);clear T5 H2 q6 k6c DA;clear c0 c1 c2 c3 c4 c5 c6 c7 c8 c9 c10 c11 c12 c13 c14 A8;obtain ⟨c0,c1,c2,c3,c4,c5,c6,c7,c8,c9,c10,c11,c12,c13,c14,A8⟩:=TT.out.c;simp only at c0 c1 c2 c3 c4 c5 c6 c7 c8 c9 c10 c11 c12 c13 c14;go_wp2
    refine bodyPost_ret (AG (x:={x with ps:=noP AA (noP Ae (noP AE x.ps)),val:=⟨4,D,[],default,0⟩}) (pv:= .slice A6 n6 k6) (qv:= .slice none 0 0) (G:=w.heap.size+1) rfl (by first|(simp;done)|rfl|simp[go_sem]) (Yx.row TX rfl)) rfl ?_;have F1:=AC L4 (show w.heap.size<=w.heap.size+1 by omega) (Yv {x with ps:=noP AA (noP Ae (noP AE x.ps)),val:=⟨4,D,[],default,0⟩} (.slice A6 n6 k6) (.slice none 0 0));exact Ai (by rw[AW.out,H3.out,L2.out];rfl) F1
end
end Go.Proofs.YtjhpdljphchfaaaGreatDoor
