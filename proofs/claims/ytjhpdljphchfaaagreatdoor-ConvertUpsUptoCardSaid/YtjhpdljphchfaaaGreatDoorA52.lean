/- A part of the proof of ConvertUps: one of package convert walked: a UID that is no text. -/
import Derived.Test.YtjhpdljphchfaaaGreatDoorA45
import Derived.Test.YtjhpdljphchfaaaGreatDoorA35
import Derived.Test.YtjhpdljphchfaaaGreatDoorA43
import Derived.Test.YtjhpdljphchfaaaGreatDoorA49
import Derived.Test.YtjhpdljphchfaaaGreatDoorA48
import Derived.Test.YtjhpdljphchfaaaGreatDoorA40
import Derived.Test.YtjhpdljphchfaaaGreatDoorA33
import Derived.Test.YtjhpdljphchfaaaGreatDoorA19
import Derived.Test.YtjhpdljphchfaaaGreatDoorA47
import Derived.Test.YtjhpdljphchfaaaGreatDoorA50
import Derived.Test.YtjhpdljphchfaaaGreatDoorA46
import Derived.Test.YtjhpdljphchfaaaGreatDoorA01
set_option maxHeartbeats 40000000
set_option maxRecDepth 1000000
set_option linter.all false
namespace Go.Proofs.YtjhpdljphchfaaaGreatDoor
open Go.RowKit
open Go.Proofs.Tryz
section
attribute [local go_sem ↓] zPe
attribute [local go_sem] XR WH Xm Xp
theorem WR {S:Nat->Prop} (x:It) (A:Option Addr) (c:Nat) (A':Option Addr) (c':Nat) (w:World) (hS:sW S w) (hp:Ah w S (pP A x c) x.ps) (hl:BY w S (lP A' x c') x.val.parts) (hT:Y5 x) (hb:Xs x.name=Ef) (ht:x.val.type≠1):
 Calls prog 21 #[Yp x (pP A x c) (lP A' x c')] w (BJ S w (Bi x)):=by
 have W9:=hid hb;clear hb;have t1:(x.val.type==1)=false:=(by simpa using ht);have iU:=hid ht;clear ht;refine (Dh (S:=S) x A c A' c' w).pf ?_ hS hp hl hT;intro iV N iW HN A5 k5 W3 P eF cW P1 bS F2 bT bU ia ib ic id HO;obtain ⟨c0,c1,c2,c3,c4,c5,c6,c7,c8,c9,c10,c11,c12,c13,c14,B3⟩:=P1.out.c;simp only at c0 c1 c2 c3 c4 c5 c6 c7 c8 c9 c10 c11 c12 c13 c14;rw[HN.out] at W9;have bV:=hid (show CE N {x with ps:=P}=some (if x.val.type=1/\DG x.val.text=0 then {x with ps:=noP AA P,val:={x.val with type:=4}} else CO {x with ps:=P}) by rw[W9.out];rfl);clear HN;obtain rfl:=W9.out;have eG:=hid (show CE Ef {x with ps:=P}=some (CO {x with ps:=P}) by rw[bV.out,if_neg (fun h=>iU.out h.1)]);clear bV;go_wp2_with fail;have iX:=hid (show Ah W3.drew (fun k=>w.heap.size+2<=k/\k<W3.heap.size) (.slice A5 P.length k5) P from bT.out);have iY:=hid (P1.out.drew);have iZ:Yt W3.drew (w.heap.size+1) 15:=bS;have f3d:W3.drew.cell? (Ad w.heap.size 3)=some (Iv x.val.type):=c3;have b5:=hid (Kx cW.out);have gG:w.heap.size+2<=W3.drew.heap.size:=HO;have j0:=hid (show (noP AA P).length<=1000000000 from Nat.le_trans (List.length_filter_le _ _) (Nat.le_trans b5.out.1 (by decide)));obtain ⟨K,hK⟩: ∃K,B6 x.val.type=K:=⟨_,rfl⟩;have HK:=hid hK;go_region_with (first
  |(go_at_call 48;refine (As (S:=(fun k=>w.heap.size+2<=k/\k<W3.heap.size)) P AA (.slice A5 P.length k5) W3.drew (fun k hk=>by simpa using hk.2) iX.out (by have:=b5.out.1;simp only at this;omega) (by decide) (fun p hp=>Nat.le_trans (b5.out.2 p hp) (by omega))).mono ?_;rintro e4 wk ⟨v4,L4,rfl,eH,A8⟩;obtain ⟨A4,k4,rfl⟩:=eH.row.form;have HP:=A8.size;have f3:=(A8.cell (p:=(Ad w.heap.size 3)) (show w.heap.size<_ by simp;omega)).trans f3d;have j1:=hid A8;have j2:=hid eH;clear eH A8)
  |(go_at_call 49;refine (JO x.val.type _).mono ?_;rintro e5 w5 ⟨rfl,rfl⟩;rw[HK.out])
  |(go_at_call 43;refine (FV K AA (B:=w.heap.size+2) j2.out HP gG j0.out).mono ?_;rintro e6 w6 ⟨A6,n6,k6,rfl,gH,DA⟩;have cX:=hid gH;have ZU:=hid (j1.out.trans (DA.mono HP));have bW:=ZU.out.size;have WF:=iY.out.keep ZU.out (show w.heap.size<_ by simp;omega);have q6:=WF.frozen 2;have k6c:=WF.c.c2;clear gH DA))
 all_goals
  have I6:=WF.setP (noP AA P++[⟨AA,[K]⟩]) (.slice A6 n6 k6);obtain ⟨W7,F4⟩: ∃W7,w6.setCell (Ad w.heap.size 2) (.slice A6 n6 k6)=W7:=⟨_,rfl⟩;have cY:Yt W7 (w.heap.size+1) 15:=F4▸(iZ.low ZU.out (by simp;omega)).setCell _ _ (by simp);have cZ:=hid (show∀k,k≠w.heap.size->W7.heap[k]? =w6.heap[k]? from fun k hk=>F4▸heap_setCell_other w6 _ k _ hk);have b6:W7.heap.size=w6.heap.size:=by rw[<-F4];simp[World.setCell]
  have E0:Below w.heap.size w W7:=F4▸(F2.drew.trans (ZU.out.mono (show w.heap.size<=_ by simp;omega))).setCell (p:=(Ad w.heap.size 2)) zL _;have eI:=hid cX.out;rw[F4] at I6;(try rw[F4]);have j3:=hid (show BY W7 S (lP A' x c') x.val.parts from bU.out.move (fun k hk=>(E0.block k (hS k hk)).trans (F2.block k (hS k hk)).symm) fun _ h=>h);clear F4 WF q6 k6c c0 c1 c2 c3 c4 c5 c6 c7 c8 c9 c10 c11 c12 c13 c14 B3 f3 f3d;obtain ⟨c0,c1,c2,c3,c4,c5,c6,c7,c8,c9,c10,c11,c12,c13,c14,B3⟩:=I6.c;simp only at c0 c1 c2 c3 c4 c5 c6 c7 c8 c9 c10 c11 c12 c13 c14;go_wp2
  refine bodyPost_ret (AG (x:={x with ps:=noP AA P++[⟨AA,[K]⟩]}) (pv:= .slice A6 n6 k6) (qv:=(lP A' x c')) (G:=w.heap.size+1) rfl (by first|(simp;done)|rfl|simp[go_sem]) (Yx.row cY rfl)) rfl ?_;have eJ:=AC E0 (show w.heap.size<=w.heap.size+1 by omega) (Yv {x with ps:=noP AA P++[⟨AA,[K]⟩]} (.slice A6 n6 k6) (lP A' x c'));refine Aq (by rw[eF.out,eG.out,<-HK.out];rfl) ?_ ?_ eJ
  ·exact D2 hS (w2:=w6) (eI.out.more fun k hk=> .inr hk) (fun k h1 h2=>(AH _ _ _ h2).trans (cZ.out k h1)) (by simp[b6])
  ·exact j3.out.move (fun k hk=>AH _ _ _ (by have:=hS k hk;omega)) fun k hk=> .inl hk
end
section
attribute [local go_sem ↓] zPe
attribute [local go_sem] XR WH Xm Xp
theorem WT {S:Nat->Prop} (x:It) (A:Option Addr) (c:Nat) (A':Option Addr) (c':Nat) (w:World) (hS:sW S w) (hp:Ah w S (pP A x c) x.ps) (hl:BY w S (lP A' x c') x.val.parts) (hT:Y5 x) (hb:Xs x.name=Ef) (ht:x.val.type=1) (hu:DG x.val.text=0):
 Calls prog 21 #[Yp x (pP A x c) (lP A' x c')] w (BJ S w (Bi x)):=by
 have W9:=hid hb;clear hb;have t1:(x.val.type==1)=true:=(by simpa using ht);have gI:=hid hu;have j4:=hid ht;clear ht hu;refine (Dh (S:=S) x A c A' c' w).pf ?_ hS hp hl hT;intro iV N iW HN A5 k5 W3 P eF cW P1 bS F2 bT bU ia ib ic id HO;obtain ⟨c0,c1,c2,c3,c4,c5,c6,c7,c8,c9,c10,c11,c12,c13,c14,B3⟩:=P1.out.c;simp only at c0 c1 c2 c3 c4 c5 c6 c7 c8 c9 c10 c11 c12 c13 c14;rw[HN.out] at W9;have bV:=hid (show CE N {x with ps:=P}=some (if x.val.type=1/\DG x.val.text=0 then {x with ps:=noP AA P,val:={x.val with type:=4}} else CO {x with ps:=P}) by rw[W9.out];rfl);clear HN;obtain rfl:=W9.out;have eG:=hid (show CE Ef {x with ps:=P}=some {x with ps:=noP AA P,val:={x.val with type:=4}} by rw[bV.out,if_pos ⟨j4.out,gI.out⟩]);go_wp2_with fail;refine (Ky x.val.text W3 (by have:=cW.out.text;simp only at this;omega) gI.out).mono ?_;rintro e w4 ⟨rfl,A8⟩;have HP:=A8.size;replace bT:=hid (show Ah w4 (fun k=>w.heap.size+2<=k/\k<w4.heap.size) (.slice A5 P.length k5) P from bT.out.move (fun k hk=>A8.block k hk.2) fun k hk=>⟨hk.1,by omega⟩);replace bU:=hid (show BY w4 S (lP A' x c') x.val.parts from bU.out.move (fun k hk=>A8.block k (by have:=hS k hk;omega)) fun _ h=>h);replace P1:=hid (P1.out.keep A8 B3);replace bS:=bS.low A8 (by omega);replace F2:=F2.trans (A8.mono (by omega));replace HO:w.heap.size+2<=w4.heap.size:=(by omega);clear c0 c1 c2 c3 c4 c5 c6 c7 c8 c9 c10 c11 c12 c13 c14 B3 A8;obtain ⟨c0,c1,c2,c3,c4,c5,c6,c7,c8,c9,c10,c11,c12,c13,c14,B3⟩:=P1.out.c;simp only at c0 c1 c2 c3 c4 c5 c6 c7 c8 c9 c10 c11 c12 c13 c14;have b5:=hid (Kx cW.out);clear bV;go_wp2_with fail;refine (As (S:=fun k=>w.heap.size+2<=k/\k<w4.heap.size) P AA (.slice A5 P.length k5) w4 (fun k hk=>hk.2) bT.out (by have:=b5.out.1;omega) (by decide) (fun p hp=>Nat.le_trans (b5.out.2 p hp) (by omega))).mono ?_;rintro e5 w5 ⟨v5,L5,rfl,d0,A0⟩;obtain ⟨A6,k6,rfl⟩:=d0.row.form;have IB:=A0.size;have cX:=hid (d0.x (S':=fun k=>w.heap.size+2<=k/\k<w5.heap.size) (fun k hk=>⟨hk.1,by have:=hk.2;omega⟩) (fun k h2 h3=>⟨by omega,h3⟩));have bX:=P1.out.keep A0 B3;have q5:=bX.frozen 2;have q5':=bX.frozen 3;have j5:=hid (show L5.length=(noP AA P).length from d0.len);rw[j5.out] at cX⊢;have WF:=bX.setP (noP AA P) (.slice A6 (noP AA P).length k6);have I6:=WF.setT 4;have cY:=((bS.low A0 (by omega)).setCell (Ad w.heap.size 2) (.slice A6 (noP AA P).length k6) (by simp)).setCell (Ad w.heap.size 3) (Iv 4) (by simp);have E0:=((F2.trans (A0.mono (by omega))).setCell (p:=(Ad w.heap.size 2)) zL (.slice A6 (noP AA P).length k6)).setCell (p:=(Ad w.heap.size 3)) zL (Iv 4);clear c0 c1 c2 c3 c4 c5 c6 c7 c8 c9 c10 c11 c12 c13 c14 B3 d0;obtain ⟨c0,c1,c2,c3,c4,c5,c6,c7,c8,c9,c10,c11,c12,c13,c14,B3⟩:=bX.c;obtain ⟨W7,F4⟩: ∃W7,(w5.setCell (Ad w.heap.size 2) (.slice A6 (noP AA P).length k6)).setCell (Ad w.heap.size 3) (Iv 4)=W7:=⟨_,rfl⟩;have cZ:=hid (show∀k,k≠w.heap.size->W7.heap[k]? =w5.heap[k]? from fun k hk=>F4▸(heap_setCell_other _ _ k _ hk).trans (heap_setCell_other w5 _ k _ hk));have b6:W7.heap.size=w5.heap.size:=by rw[<-F4];simp[World.setCell]
 go_upto_region 25 with fail;rw[F4] at I6 cY E0;(try rw[F4]);clear F4 WF bX q5 q5' c0 c1 c2 c3 c4 c5 c6 c7 c8 c9 c10 c11 c12 c13 c14 B3;obtain ⟨c0,c1,c2,c3,c4,c5,c6,c7,c8,c9,c10,c11,c12,c13,c14,B3⟩:=I6.c;simp only at c0 c1 c2 c3 c4 c5 c6 c7 c8 c9 c10 c11 c12 c13 c14;go_wp2
 refine bodyPost_ret (AG (x:={x with ps:=noP AA P,val:={x.val with type:=4}}) (pv:= .slice A6 (noP AA P).length k6) (qv:=(lP A' x c')) (G:=w.heap.size+1) rfl (by first|(simp;done)|rfl|simp[go_sem]) (Yx.row cY rfl)) rfl ?_;have eJ:=AC E0 (show w.heap.size<=w.heap.size+1 by omega) (Yv {x with ps:=noP AA P,val:={x.val with type:=4}} (.slice A6 (noP AA P).length k6) (lP A' x c'));refine Aq (by rw[eF.out,eG.out]) ?_ ?_ eJ
 ·exact D2 hS (w2:=w5) (cX.out.more fun k hk=> .inr hk) (fun k h1 h2=>(AH _ _ _ h2).trans (cZ.out k h1)) (by simp[b6])
 ·exact bU.out.move (fun k hk=>(AH _ _ _ (by have:=hS k hk;omega)).trans ((cZ.out k (by have:=hS k hk;omega)).trans (A0.block k (by have:=hS k hk;omega)))) fun k hk=> .inl hk
end
section
attribute [local go_sem ↓] zPe
attribute [local go_sem] XR WH Xm Xp
theorem Ta {S:Nat->Prop} (x:It) (A:Option Addr) (c:Nat) (A':Option Addr) (c':Nat) (w:World) (hS:sW S w) (hp:Ah w S (pP A x c) x.ps) (hl:BY w S (lP A' x c') x.val.parts) (hT:Y5 x) (hb:Xs x.name=Ef):
 Calls prog 21 #[Yp x (pP A x c) (lP A' x c')] w (BJ S w (Bi x)):=by
 by_cases ht:x.val.type=1
 ·by_cases hu:DG x.val.text=0
  ·exact WT x A c A' c' w hS hp hl hT hb ht hu
  ·exact WS x A c A' c' w hS hp hl hT hb ht hu
 ·exact WR x A c A' c' w hS hp hl hT hb ht
end
theorem He {c:Cd} {w w':World} {p q:Int} (h:upC c=((p,q),noC)) (hb:Below w.heap.size w w'):WJ c w (.returned (.tuple #[.agg #[Iv 0,.slice none 0 0],.agg #[Iv p,Iv q]])) w':=
 ⟨.slice none 0 0,by rw[h];rfl,by rw[h];exact Its.nil,hb⟩
theorem Hf (w:World) (a b c:Obj):(((w.alloc a).alloc b).alloc c).heap[w.heap.size+2]? =some c:=by
 have h:=heap_alloc_new ((w.alloc a).alloc b) c
 rwa [World.size_alloc,World.size_alloc] at h
theorem VE {w:World} {G:Nat} {x0 x1:Value} {t:TypeId} (h:w.heap[G]? =some (.cells #[x0,x1] t (0,0))):(loadVar 28 (Ad G 0)).run prog w= .ok (.agg #[x0,x1]) w:=by obtain ⟨c0,c1,_,_,cl⟩:=Ak h;simp[go_sem,c0,c1,cl]
theorem Cj {fn:Func} {a b:Nat} (hf:fn.results= #[.cell a 24,.cell b 28]) {tmps:Array Value} {w:World} {G F:Nat} {x0 x1 e p:Value} {t t':TypeId} (ha:tmps.getD a undef= .pointer (some (Ad G 0))) (hb:tmps.getD b undef= .pointer (some (Ad F 0))) (h:w.heap[G]? =some (.cells #[x0,x1] t (0,0))) (h':w.heap[F]? =some (.cells #[e,p] t' (0,0))):
 (results fn tmps).run prog w= .ok (.tuple #[.agg #[x0,x1],.agg #[e,p]]) w:=by
 have hl:=SR h;have j6:=VE h';have j7:tmps[a]?.getD undef= .pointer (some (Ad G 0)):=(by simpa using ha);have j8:tmps[b]?.getD undef= .pointer (some (Ad F 0)):=(by simpa using hb);simp[results,hf,j7,j8,hl,j6,asAddr]
theorem D6 {w:World} {R F:Nat} {x0 x1 e p:Value} {t t':TypeId} (hR:w.heap[R]? =some (.cells #[x0,x1] t (0,0))) (hF:w.heap[F]? =some (.cells #[e,p] t' (0,0))) (b7:R≠F) (y0 y1 z0 z1:Value):
 ((((w.setCell (Ad R 0) y0).setCell (Ad R 1) y1).setCell (Ad F 0) z0).setCell (Ad F 1) z1).heap[R]? =some (.cells #[y0,y1] t (0,0))/\((((w.setCell (Ad R 0) y0).setCell (Ad R 1) y1).setCell (Ad F 0) z0).setCell (Ad F 1) z1).heap[F]? =some (.cells #[z0,z1] t' (0,0)):=
 ⟨(heap_setCell_other _ (Ad F 1) R _ b7).trans ((heap_setCell_other _ (Ad F 0) R _ b7).trans (JX hR y0 y1)),JX ((heap_setCell_other _ (Ad R 1) F _ (Ne.symm b7)).trans ((heap_setCell_other _ (Ad R 0) F _ (Ne.symm b7)).trans hF)) z0 z1⟩
theorem EN {B R F:Nat} {a w:World} (h:Below B a w) (hR:B<=R) (hF:B<=F) (y0 y1 z0 z1:Value):Below B a ((((w.setCell (Ad R 0) y0).setCell (Ad R 1) y1).setCell (Ad F 0) z0).setCell (Ad F 1) z1):=
 (((h.setCell (p:=(Ad R 0)) hR y0).setCell (p:=(Ad R 1)) hR y1).setCell (p:=(Ad F 0)) hF z0).setCell (p:=(Ad F 1)) hF z1
theorem QP (s:Str):AF s [97,100,114]=AF s O3:=by unfold AF;rw[show Xs [97,100,114]=Xs O3 from by decide]
theorem MC (s:Str):AF s [108,97,98,101,108]=AF s AZ:=by unfold AF;rw[show Xs [108,97,98,101,108]=Xs AZ from by decide]
theorem Nv (s:Str):AF s [116,121,112,101]=AF s Ae:=by unfold AF;rw[show Xs [116,121,112,101]=Xs Ae from by decide]
theorem Nw {out:List It} {x:It} (h:AF x.name AZ=false):CP out x=none:=by unfold CP;rw[h,Bool.false_and];rfl
theorem Nx {out:List It} {x:It} (h:(x.val.type==1)=false):CP out x=none:=by unfold CP;rw[h,Bool.and_false];rfl
theorem QQ {out:List It} {x:It} (h:CB out= -1):CP out x=none:=by
 have hl:Cf 0 out=none:=by
  unfold CB at h;cases hl:Cf 0 out with
  |none=>rfl
  |some k=>rw[hl] at h;simp only at h;omega
 unfold CP;rw[hl];split<;>rfl
theorem NB {out:List It} {k:Nat} (h:CB out=(k:Int)):Cf 0 out=some k:=by
 unfold CB at h;cases hl:Cf 0 out with
 |none=>rw[hl] at h;simp only at h;omega
 |some m=>rw[hl] at h;simp only at h;rw[show m=k by omega]
theorem QR {out:List It} {x:It} {k:Nat} (h:CB out=(k:Int)) (hh:F7 AZ (out.getD k default).ps=true):CP out x=none:=by unfold CP;rw[NB h];simp only[hh,if_true];split<;>rfl
theorem QS {out:List It} {x:It} {k:Nat} (h1:AF x.name AZ=true) (h2:(x.val.type==1)=true) (h:CB out=(k:Int)) (hh:F7 AZ (out.getD k default).ps=false):CP out x=some k:=by unfold CP;rw[NB h,h1,h2,if_pos (show (true&&true)=true from rfl)];show (if F7 AZ (out.getD k default).ps=true then none else some k)=some k;rw[hh];rfl
theorem Is {out:List It} {x:It} {k:Nat} (h:CP out x=some k):CB out=(k:Int)/\k<out.length:=by
 have hl:CB out=(k:Int):=by
  unfold CP at h;split at h
  ·cases hl:Cf 0 out with
   |none=>rw[hl] at h;cases h
   |some m=>
    rw[hl] at h;simp only at h;split at h
    ·cases h
    ·injection h with h;unfold CB;rw[hl,h]
  ·cases h
 exact ⟨hl,M4 hl⟩
theorem Ny {out:List It} {x:It} {k:Nat} (h:CP out x=some k):Ax out x=out.set k {out.getD k default with ps:=Gd (out.getD k default).ps AZ x.val.text}:=by unfold Ax;rw[h]
theorem Nz {out:List It} {x:It} (h:CP out x=none):Ax out x=out++[x]:=by unfold Ax;rw[h]
theorem Jg {out:List It} {x:It} {P:Str->Prop} (h: ∀y∈out,P y.name) (hx:P x.name): ∀y∈Ax out x,P y.name:=by
 unfold Ax;split
 ·rename_i k hk;intro y hy;rcases List.mem_or_eq_of_mem_set hy with hy|rfl
  ·exact h y hy
  ·have hl:=(Is hk).2;have:out.getD k default=out[k]:=(by simp[List.getD,List.getElem?_eq_getElem hl]);simp only[this];exact h _ (List.getElem_mem hl)
 ·intro y hy;rcases List.mem_append.1 hy with hy|hy
  ·exact h y hy
  ·rw[List.mem_singleton.1 hy];exact hx
theorem FE {P:Str->Prop}: ∀(l out:List It),(∀y∈out,P y.name)->(∀x∈l,P x.name)-> ∀y∈l.foldl Ax out,P y.name
 |[],_,h,_=>h
 |x::l,_,h,hl=>FE l _ (Jg h (hl x (by simp))) fun z hz=>hl z (by simp[hz])
theorem K4 {P:Str->Prop} {l:List It} (h: ∀x∈l,P x.name): ∀y∈BQ l,P y.name:=FE l [] (fun _ h=>by simp at h) h
theorem MD {x:It} {v:Int} (h:CY x v=0):AP x.name=true:=by
 cases hn:AP x.name with
 |true=>rfl
 |false=>
  have h5:=Ly (g:=x.group) (ps:=x.ps) (v:=[]) (b:=v==4) hn;rw[Gx h5 (by decide)] at h;exact absurd h (by decide)
theorem R7 {w2:World} {P:Nat->Prop} {base:Nat} {v:Value} {L:List (It×Value×Value)} (h:EK w2 P base v L) (ps:List Pm) (pv:Value) (hp:Ah w2 (InJ w2 P base v) pv ps) (N T:Str) (hn:ps.length<=1000000000):
 Calls prog 16 #[pv,Sv N,Sv T] w2 fun e w5=> ∃A5 n5 k5,e= .returned (.slice A5 n5 k5)/\Ah w5 (InJ w5 P base v) (.slice A5 n5 k5) (ps++[⟨N,[T]⟩])/\Below w2.heap.size w2 w5:=by
 have gJ:=h.le;have H9: ∀k,InJ w2 P base v k->k<w2.heap.size:=fun k hk=>by
  rcases hk with hk|hk
  ·exact Nat.lt_of_lt_of_le (h.low k hk) gJ
  ·exact hk.2.1
 have j9: ∀k,w2.heap.size<=k->v.ownBlock≠some k:=fun k hk e=>by have:=(h.row.row.lt k e).2;omega
 refine (Jf (S:=InJ w2 P base v) ps N T pv w2 H9 hp hn).mono ?_;rintro e w5 ⟨v5,rfl,hO,hb⟩;obtain ⟨A5,k5,rfl⟩:=hO.form;have hs:=hb.size;refine ⟨A5,_,k5,rfl,hO.more fun k hk=> ?_,hb⟩;rcases hk with hk|hk
 ·rcases hk with hk|hk
  ·exact .inl hk
  ·exact .inr ⟨hk.1,by have:=hk.2.1;omega,hk.2.2⟩
 ·exact .inr ⟨Nat.le_trans gJ hk.1,hk.2,j9 k hk.1⟩
theorem Iu {l:List Pm} {s:Str} {i:Int} (h:SO l s i):decide (i<0)= !F7 s l:=by
 rcases h with ⟨rfl,h⟩|⟨k,p,rfl,_,_,h⟩
 ·have:F7 s l=false:=by
   unfold F7;rw[List.any_eq_false];intro x hx;have:=List.find?_eq_none.1 h x hx;simpa using this
  rw[this];rfl
 ·have:F7 s l=true:=by
   unfold F7;rw[List.any_eq_true];exact ⟨p,List.mem_of_find?_eq_some h,by have:=List.find?_some h;simpa using this⟩
  rw[this];simp
def Ek (p:Pm) (n:Nat):List Str:=if AF p.name Ae then (p.vals.take n).filter (fun s=> !AF s CA) else p.vals.take n
def EX (p:Pm) (n:Nat):Bool:=AF p.name Ae&&(p.vals.take n).any (AF · CA)
theorem QT (p:Pm):Ek p p.vals.length=Cw p:=by unfold Ek Cw;rw[List.take_length]
theorem N4 (p:Pm):EX p p.vals.length=(AF p.name Ae&&p.vals.any (AF · CA)):=by unfold EX;rw[List.take_length]
theorem N5 (p:Pm):Ek p 0=[]:=by unfold Ek;simp
theorem ME (p:Pm):EX p 0=false:=by unfold EX;simp
theorem QU (p:Pm) (n:Nat):(Ek p n).length<=n:=by
 unfold Ek;split
 ·exact Nat.le_trans (List.length_filter_le _ _) (by rw[List.length_take];omega)
 ·rw[List.length_take];omega
theorem N6 {p:Pm} {n:Nat} {s:Str} (h:p.vals[n]? =some s) (h1:AF p.name Ae=true) (h2:AF s CA=true):Ek p (n+1)=Ek p n/\EX p (n+1)=true:=by unfold Ek EX;rw[List.take_add_one,h,h1];simp[h2]
theorem Hh {p:Pm} {n:Nat} {s:Str} (h:p.vals[n]? =some s) (h1:(AF p.name Ae&&AF s CA)=false):Ek p (n+1)=Ek p n++[s]/\EX p (n+1)=EX p n:=by
 unfold Ek EX;rw[List.take_add_one,h];cases h2:AF p.name Ae with
 |false=>simp
 |true=>
  rw[h2,Bool.true_and] at h1;simp[h1]
theorem N9 {n:Str} {x:It} {q:Pm} {s:Str} {r:List Str} (hq:x.ps.find? (fun p=>AF p.name AE)=some q) (b8:q.vals=s::r) (h: ¬(x.val.type=8/\AF s kb=true/\ ∃bytes,B.unB x.val.text= .ok bytes)):BX n x=none:=by
 unfold BX;rw[hq];simp only[b8,List.headD_cons];split
 ·rename_i h1;simp only[Bool.and_eq_true,beq_iff_eq] at h1;cases hu:B.unB x.val.text with
  |error y=>rfl
  |ok bytes=>exact absurd ⟨h1.2,h1.1,bytes,hu⟩ h
 ·rfl
theorem SD {l:List (List Str)} (h: ∀a b,l≠[[a],[b]]):SK l=none:=by
 unfold SK;split
 ·exact absurd rfl (h _ _)
 ·rfl
theorem OA {S:Nat->Prop} (x:It) (A:Option Addr) (c:Nat) (A':Option Addr) (c':Nat) (w:World) (hL:LD w) (hS:sW S w) (hp:Ah w S (pP A x c) x.ps) (hl:BY w S (lP A' x c') x.val.parts) (hT:Y4 x) (AW: ∀c∈Xs x.name,c≠32):
 Calls prog 17 #[Yp x (pP A x c) (lP A' x c')] w (BJ S w (CE (Xs x.name) x)):=by
 cases h1:KH (Xs x.name) with
 |true=>
  cases hq:x.ps.find? (fun p=>AF p.name AE) with
  |none=>exact Wo x A c A' c' w hL hS hp hl hT AW h1 hq
  |some q=>
   have b7:=hT.ne q (List.mem_of_find?_eq_some hq);cases b8:q.vals with
   |nil=>exact absurd b8 b7
   |cons s r=>
    by_cases h:x.val.type=8/\AF s kb=true/\ ∃bytes,B.unB x.val.text= .ok bytes
    ·obtain ⟨h8,eK,bytes,hu⟩:=h;exact Wv x A c A' c' w hL hS hp hl hT AW h1 q hq s r b8 h8 eK bytes hu
    ·refine Ws x A c A' c' w hL hS hp hl hT AW h1 q hq s r b8 (N9 hq b8 h) fun bytes hu eK=> ?_;by_cases h8:x.val.type=8
     ·exact absurd ⟨h8,eK,bytes,hu⟩ h
     ·simpa using h8
 |false=>
  cases h2:Eu (Xs x.name) with
  |true=>
   by_cases ht:x.val.type=1
   ·exact Wk x A c A' c' w hL hS hp hl hT AW h2 ht
   ·by_cases gK:x.val.type=8
    ·exact Wl x A c A' c' w hL hS hp hl hT AW h2 gK
    ·exact Wm x A c A' c' w hL hS hp hl hT AW h2 ⟨ht,gK⟩
  |false=>
   by_cases h3:Xs x.name=II
   ·by_cases ht:x.val.type=3
    ·by_cases d1: ∃a b,x.val.parts=[[a],[b]]
     ·obtain ⟨a,b,d1⟩:=d1;exact Td x A c A' c' w hL hS hp hl hT AW h3 ht a b d1
     ·have bY: ∀a b,x.val.parts≠[[a],[b]]:=fun a b e=>d1 ⟨a,b,e⟩;exact SU x A c A' c' w hL hS hp hl hT AW h3 (by unfold DZ;rw[if_pos ht,SD bY]) (fun _=>bY)
    ·exact SU x A c A' c' w hL hS hp hl hT AW h3 (by unfold DZ;rw[if_neg ht]) (fun h=>absurd h ht)
   ·by_cases h4:Xs x.name=YX
    ·exact VF x A c A' c' w hL hS hp hl hT AW h4
    ·by_cases h5:Xs x.name=Ef
     ·by_cases ht:x.val.type=1
      ·by_cases hu:DG x.val.text=0
       ·exact Wj x A c A' c' w hL hS hp hl hT AW h5 ht hu
       ·exact Wi x A c A' c' w hL hS hp hl hT AW h5 ht hu
      ·exact Wg x A c A' c' w hL hS hp hl hT AW h5 ht
     ·refine R8 x A c A' c' w hL hS hp hl hT AW fun k hk e=> ?_;unfold KH at h1;unfold Eu at h2;simp only[Bool.or_eq_false_iff,beq_eq_false_iff_ne] at h1 h2;simp only[List.mem_cons,List.not_mem_nil,or_false] at hk;rcases hk with rfl|rfl|rfl|rfl|rfl|rfl|rfl|rfl|rfl|rfl|rfl|rfl|rfl<;>first|exact h3 e|exact h4 e|exact h5 e|(simp_all)
structure Tz (C:Prop) where
 G1:Prop
 G2:Prop
 pf:G1->G2->C
noncomputable def Tg (cd:Cd) (A:Option Addr) (cc:Nat) (w:World):Tz (LD w->Y9 w cd A cc->Calls prog 5 #[.agg #[Iv cd.version,.slice A cd.items.length cc]] w (WJ cd w)):=by
 apply Tz.mk;case pf=>
  intro hG P2;have HG:=PG.mk hG;have bZ:=PG.mk P2;clear hG P2;intro hL hc;have HC:=hid hc;clear hc;obtain ⟨W0,Q1⟩: ∃W0,((w.alloc (.cells #[Iv cd.version,.slice A cd.items.length cc] 24)).alloc (.cells #[Iv 0,.slice none 0 0] 24)).alloc (.cells #[Iv 0,Iv 0] 28)=W0:=⟨_,rfl⟩;have HO:W0.heap.size=w.heap.size+3:=by rw[<-Q1];simp
  have L1:Below w.heap.size w W0:=by rw[<-Q1];exact (zA.alloc (by simp) _).alloc (by simp;omega) _
  have HA:=hid (show W0.heap[w.heap.size]? =some (.cells #[Iv cd.version,.slice A cd.items.length cc] 24 (0,0)) by rw[<-Q1];exact (Below.heap_alloc _ _ _ (by simp;omega)).trans (heap_alloc2_old w _ _));have HR:=hid (show W0.heap[w.heap.size+1]? =some (.cells #[Iv 0,.slice none 0 0] 24 (0,0)) by rw[<-Q1];exact (Below.heap_alloc _ _ _ (by simp)).trans (heap_alloc2_new w _ _));have HF:=hid (show W0.heap[w.heap.size+2]? =some (.cells #[Iv 0,Iv 0] 28 (0,0)) by rw[<-Q1];exact Hf w _ _ _);have gL:=hid (show Qf W0 cd A cc from HC.out.at_.keep L1);have Q2:=hL.below L1;obtain ⟨a0,a1,_,_,_⟩:=Ak HA.out;go_enter func5,ntmps5;go_upto_region 1 with fail;(try rw[Q1]);go_wp2_with fail;(try rw[Q1]);clear Q1;refine (Hc cd A cc W0 Q2 gL.out).mono ?_;rintro e w1 ⟨rfl,L2⟩;obtain ⟨E,hE⟩: ∃E,BM cd=E:=⟨_,rfl⟩;have HE:=hid hE;rw[hE];clear hE;have X1:=L2.size;have H1:=L1.trans (L2.mono (show w.heap.size<=W0.heap.size by omega));obtain ⟨G4,b9⟩: ∃G4,w1.heap.size=G4:=⟨_,rfl⟩;obtain ⟨W4,gM,A8,HS,HP⟩: ∃W:World,w1.alloc (.cells #[Iv E.1,Iv E.2] 28)=W/\Below G4 w1 W/\Hid (W.heap[G4]? =some (.cells #[Iv E.1,Iv E.2] 28 (0,0)))/\W.heap.size=G4+1:=
   ⟨_,rfl,by rw[<-b9];exact zA,hid (by rw[<-b9];exact heap_alloc_new w1 _),by rw[<-b9];simp⟩
  have X2:w.heap.size+3<=G4:=(by omega);have H2:Below w1.heap.size w1 W4:=b9▸A8;have H3:=H1.trans (H2.mono (show w.heap.size<=w1.heap.size by omega));replace HA:=hid (((H2.block w.heap.size (by omega)).trans (L2.block w.heap.size (by omega))).trans HA.out);replace HR:=hid (((H2.block (w.heap.size+1) (by omega)).trans (L2.block (w.heap.size+1) (by omega))).trans HR.out);replace HF:=hid (((H2.block (w.heap.size+2) (by omega)).trans (L2.block (w.heap.size+2) (by omega))).trans HF.out);obtain ⟨f0,f1,_,_,_⟩:=Ak HS.out;clear a0 a1 gL L2 H2 A8;go_upto_region 2 with fail;(try rw[gM]);(try rw[b9]);clear gM;go_wp2_with fail;refine (CU E.1 E.2 W4).mono ?_;rintro e w2 ⟨rfl,gN⟩;have HT:Below W4.heap.size W4 w2:=gN▸zA;have X3:=HT.size;have AL:=H3.trans (HT.mono (show w.heap.size<=W4.heap.size by omega));replace HA:=hid ((HT.block w.heap.size (by omega)).trans HA.out);replace HR:=hid ((HT.block (w.heap.size+1) (by omega)).trans HR.out);replace HF:=hid ((HT.block (w.heap.size+2) (by omega)).trans HF.out);replace HS:=hid ((HT.block G4 (by omega)).trans HS.out);have HW:w.heap.size+4<=w2.heap.size:=(by omega);have Y1:=hL.below AL;clear f0 f1 gN HT b9;obtain ⟨a0,a1,_,_,al⟩:=Ak HA.out;obtain ⟨r0,r1,Y2,Y3,rl⟩:=Ak HR.out;obtain ⟨e0,e1,Z0,Z1,el⟩:=Ak HF.out;obtain ⟨f0,f1,_,_,fl⟩:=Ak HS.out;by_cases he:E.1=0;rotate_left
  ·have u1:(E.1==0)=false:=(by simpa using he);rw[u1];have HU:=hid (show upC cd=((E.1,E.2),noC) by rw[Kt (by rw[HE.out];exact he),HE.out]);clear he;go_upto_region 3 with fail;go_region;all_goals
    go_wp2_with fail;first
     |(refine bodyPost_ret (Cj (x0:=Iv 0) (x1:= .slice none 0 0) (e:=Iv E.1) (p:=Iv E.2) (G:=w.heap.size+1) (F:=w.heap.size+2) rfl (by first|(simp;done)|rfl) (by first|(simp;done)|rfl) (D6 (w:=w2.drew) HR.out HF.out (by omega) _ _ _ _).1 (D6 (w:=w2.drew) HR.out HF.out (by omega) _ _ _ _).2) rfl ?_
       exact He HU.out (EN AL.drew (by omega) (by omega) _ _ _ _))
     |(refine bodyPost_ret (Cj (x0:=Iv 0) (x1:= .slice none 0 0) (e:=Iv E.1) (p:=Iv E.2) (G:=w.heap.size+1) (F:=w.heap.size+2) rfl (by first|(simp;done)|rfl) (by first|(simp;done)|rfl) (D6 (w:=w2.drew) HF.out HR.out (by omega) _ _ _ _).2 (D6 (w:=w2.drew) HF.out HR.out (by omega) _ _ _ _).1) rfl ?_
       exact He HU.out (EN AL.drew (by omega) (by omega) _ _ _ _))
  have u1:(E.1==0)=true:=(by simpa using he);rw[u1];have Z2:(BM cd).1=0:=by rw[HE.out];exact he
  clear he;by_cases hv:cd.version=3;rotate_left
  ·have t1:(cd.version != 3)=true:=(by simpa using hv);have HU:=hid (Ku Z2 hv);clear Z2 hv;go_wp2_with fail;refine (CG 6 w2).mono ?_;rintro e w5 ⟨rfl,gO⟩;have A0:Below w2.heap.size w2 w5:=gO▸zA;have IB:=A0.size;have cA:=AL.trans (A0.mono (show w.heap.size<=w2.heap.size by omega));have cB:=hid ((A0.block (w.heap.size+1) (by omega)).trans HR.out);have cC:=hid ((A0.block (w.heap.size+2) (by omega)).trans HF.out);clear gO A0 r0 r1 Y2 Y3 rl e0 e1 Z0 Z1 el;obtain ⟨r0,r1,Y2,Y3,rl⟩:=Ak cB.out;obtain ⟨e0,e1,Z0,Z1,el⟩:=Ak cC.out;go_wp2
   refine bodyPost_ret (Cj (x0:=Iv 0) (x1:= .slice none 0 0) (e:=Iv 6) (p:=Iv (-1)) (G:=w.heap.size+1) (F:=w.heap.size+2) rfl (by first|(simp;done)|rfl) (by first|(simp;done)|rfl) (D6 cB.out cC.out (by omega) _ _ _ _).1 (D6 cB.out cC.out (by omega) _ _ _ _).2) rfl ?_;exact He HU.out (EN cA (by omega) (by omega) _ _ _ _)
  have t1:(cd.version != 3)=false:=(by simpa using hv);have DD:=hid (show∀x∈cd.items,Y6 x from fun x hx=>HC.out.q x hx (JW Z2 x hx));have E1:=hid (show∀x∈cd.items,∀c∈Xs x.name,c≠32 from fun x hx=>IU (MD (Io Z2 x hx)));have E2:=G8 Z2;have AN:=hid (And.intro Z2 hv);have R0:=hid (show Its w2 w.heap.size (.slice A cd.items.length cc) cd.items from HC.out.its.keep AL zL);clear Z2 hv f0 f1 fl r0 r1 Y2 Y3 rl e0 e1 Z0 Z1 el;go_wp2_with fail;clear a0 a1 al;go_loopw [5,7,8,9,10,38] (fun s5 _ _ _ _ eL wr=> ∃(i:Nat) (v:Value) (L:List (It×Value×Value)),eL=Iv i/\i<=cd.items.length/\v=s5/\Hid (EK wr (· <w.heap.size) w2.heap.size v L/\L.map (·.1)=BQ (cd.items.take i)/\Below w2.heap.size w2 wr)) (fun _ _ _ _ _ eL _=>cd.items.length-(intOf eL).toNat);case atStart=>exact ⟨0,_,[],rfl,by omega,rfl,hid ⟨EK.nil (fun k hk=>Nat.lt_of_lt_of_le hk (by omega)) zL,rfl,zB⟩⟩
  case round=>
   obtain ⟨i,v,L,rfl,hi,rfl,HI⟩:=hrel;obtain ⟨VA,VC,d2⟩:=HI.out.1.form;subst d2;have Z3:=HI.out.2.2.size;by_cases H9:i<cd.items.length
   ·rename_i d3 d4 d5 d6 d7 d8 d9 dA dB dC DT dZ;revert hL HC W0 w1 E G4 W4 w2 t1 DD E1 E2 AN DT wr u7 u8 u9 u10 u39 u40 u41 u42 u43 u44 u45 u46 u47 u48 u49 u50 u51 u52 u53 u54 u55 u56 u57 u58 u59 u60 u61 u62 u63 u64 u65 u66 u67 u68 u69 u70 u71 u72 u73 u74 u75 u76 u77 u78 u79 u80 u81 u82 u83 u84 u85 u86 u87 u88 u89 u90 u91 u92 u93 i L VA VC;exact HG.out
   ·rename_i d3 d4 d5 d6 d7 d8 d9 dA dB dC DT dZ;revert hL HC W0 w1 E G4 W4 w2 t1 DD E1 E2 AN DT wr u7 u8 u9 u10 u39 u40 u41 u42 u43 u44 u45 u46 u47 u48 u49 u50 u51 u52 u53 u54 u55 u56 u57 u58 u59 u60 u61 u62 u63 u64 u65 u66 u67 u68 u69 u70 u71 u72 u73 u74 u75 u76 u77 u78 u79 u80 u81 u82 u83 u84 u85 u86 u87 u88 u89 u90 u91 u92 u93 i L VA VC;exact bZ.out
theorem Ww (cd:Cd) (A:Option Addr) (cc:Nat) (w:World):(Tg cd A cc w).G1:=by
 intro hL HC W0 HO L1 Q2 _ _ _ w1 E HE X1 H1 G4 W4 HP X2 H3 _ _ _ w2 X3 AL HA HR HF HS HW Y1 _ _ _ _ _ t1 DD E1 E2 AN R0 _ _ wr _ _ _ _ _ _ _ _ _ _ _ _ _ _ _ _ _ _ _ _ _ _ _ _ _ _ _ _ _ _ _ _ _ _ _ _ _ _ _ _ _ _ _ _ _ _ _ _ _ _ _ _ _ _ _ _ _ _ _ i L hi VA VC HI Z3 H9;obtain ⟨bb,o,x,pv,qv,rfl,E3,hd,cD,bA,Z4⟩:=R0.out.at_ H9;have gP:=cD.keep HI.out.2.2 (by omega);have eM:cd.items[i]? =some x:=by
  have:=congrArg List.head? hd
  rwa [List.head?_drop] at this
 have jA:=hid (DD.out x (List.mem_of_getElem? eM));have gQ:=hid (Gz eM);obtain ⟨A1,k1,jB⟩:=bA.form;obtain ⟨A2,k2,jC⟩:=Z4.form;subst jB jC;have jD:=hid bA;have jE:=hid Z4;have lD:x.name.length<=10000:=by have:=jA.out.name;omega
 have lI:L.length<=cd.items.length:=by have h1:L.length=(BQ (cd.items.take i)).length:=(by rw[<-HI.out.2.1,List.length_map]);have h2:=Cu (cd.items.take i);rw[List.length_take] at h2;omega
 have jF:=hid (show L.length<=1073741824 by omega);obtain ⟨h0,h1,h2,h3,h4,h5,h6,h7,h8,h9,eN,eO,eP,eQ,eR⟩:=gP;clear cD bA Z4 hd eM;obtain ⟨Wr,cE,L2,HB,bB⟩: ∃W:World,wr.alloc (.cells (IA x (pP A1 x k1) (lP A2 x k2)) 44)=W/\Below wr.heap.size wr W/\Hid (Yx W wr.heap.size x (pP A1 x k1) (lP A2 x k2))/\W.heap.size=wr.heap.size+1:=
  ⟨_,rfl,zA,hid (Yx.new _ _ _ _),by simp⟩
 obtain ⟨XB,N2⟩: ∃XB,wr.heap.size=XB:=⟨_,rfl⟩;have L6:=hid (HI.out.1.keep L2);have S1:=hid (HI.out.2.2.trans (L2.mono (show w2.heap.size<=wr.heap.size by omega)));rw[N2] at L2 HB bB;have ZV:w.heap.size<=Wr.heap.size:=(by omega);have ZW:=hid (show∀k,k<w.heap.size->Wr.heap[k]? =w2.heap[k]? from fun k hk=>S1.out.block k (by omega));have bC:w2.heap.size<=Wr.heap.size:=(by omega);have HD:=HB;have ZX:=hid (show∀y∈L.map (·.1),Y7 y from by rw[HI.out.2.1];exact D1 fun z hz=>DD.out z (List.mem_of_mem_take hz));obtain ⟨M,hM⟩: ∃M,L.map (·.1)=M:=⟨_,rfl⟩;have HM:=hid hM;have lJ:M.length<=L.length:=by rw[<-hM,List.length_map];exact Nat.le_refl _
 have lE:L.length<=M.length:=by rw[<-hM,List.length_map];exact Nat.le_refl _
 have gR:L.length<=1000000:=(by omega);rw[hM] at ZX;clear hM HB;go_upto_region 10 with fail;(try rw[cE]);(try rw[N2]);clear cE h0 h1 h2 h3 h4 h5 h6 h7 h8 h9 eN eO eP eQ eR;go_wp2_with fail;obtain ⟨w5,rfl⟩: ∃w5,w5=Wr:=⟨_,rfl⟩;go_loopw [8,9,10,44] (fun s8 _ _ eS wq=> ∃j:Nat,j<=L.length/\eS=Iv j/\s8=Iv (CB (M.take j))/\Below w5.heap.size w5 wq) (fun _ _ _ eS _=>L.length-(intOf eS).toNat);case atStart=>exact ⟨0,by omega,rfl,rfl,zB⟩
 case round=>
  obtain ⟨j,hj,rfl,rfl,F2⟩:=hrel;have jG:=F2.size;by_cases gS:j<L.length
  ·obtain ⟨g,gc,y,yp,yq,hv,Z5,Z6,gT,Z7,L7,bD⟩:=(L6.out.keep F2).at_ gS;have eT:M[j]? =some y:=by rw[<-HM.out,List.getElem?_map,gT];rfl
   have eU:=hid (Ij eT);have lK:y.name.length<=10000:=by have:=(ZX.out y (List.mem_of_getElem? eT)).name;omega
   obtain ⟨B1,b1,rfl⟩:=L7.form;obtain ⟨B2,b2,rfl⟩:=bD.form;simp only[Value.slice.injEq,true_and] at hv;obtain ⟨rfl,rfl⟩:=hv;obtain ⟨k0,k1',k2',k3,k4,k5,k6,k7,k8,k9,jH,jI,jJ,jK,jL⟩:=Z7;obtain ⟨KI,Z8⟩: ∃KI,CB (M.take j)=KI:=⟨_,rfl⟩;rw[Z8] at eU;rw[Z8];obtain ⟨YB,Z9⟩: ∃YB,wr.heap.size=YB:=⟨_,rfl⟩;obtain ⟨Wy,gU,A8,bE,jM⟩: ∃W:World,wr.alloc (.cells (IA y (pP B1 y b1) (lP B2 y b2)) 44)=W/\Below wr.heap.size wr W/\Hid (Yx W wr.heap.size y (pP B1 y b1) (lP B2 y b2))/\W.heap.size=wr.heap.size+1:=
    ⟨_,rfl,zA,hid (Yx.new _ _ _ _),by simp⟩
   rw[Z9] at A8 bE jM;obtain ⟨g0,g1,g2,g3,g4,g5,g6,g7,g8,g9,eV,eW,eX,eY,eZ,gl⟩:=bE.out.c;clear gT eT L7 bD Z8;go_wp2_with fail;(try rw[gU]);(try rw[Z9]);clear gU k0 k1' k2' k3 k4 k5 k6 k7 k8 k9 jH jI jJ jK jL;go_wp2_with fail;refine (Ay y.name [97,100,114] Wy (by omega) (by decide)).mono ?_;rintro e w4 ⟨rfl,A0⟩;rw[QP];have H2:=hid (F2.trans (A8.trans (A0.mono (by omega))|>.mono (show w5.heap.size<=YB by omega)));clear A8 A0 bE g0 g1 g2 g3 g4 g5 g6 g7 g8 g9 eV eW eX eY eZ gl;cases gV:AF y.name O3 with
   |true=>
    go_wp2
    go_roundw;case rel=>exact ⟨j+1,by omega,by go_num,by rw[eU.out,if_pos gV],H2.out⟩
    case measure=>simp[intOf];omega
   |false=>
    go_wp2
    go_roundw;case rel=>exact ⟨j+1,by omega,by go_num,by rw[eU.out,if_neg (by rw[gV];decide)],H2.out⟩
    case measure=>simp[intOf];omega
  ·have jN:j=M.length:=(by omega);subst jN;rw[List.take_length];replace L6:=hid (L6.out.keep F2);replace HD:=hid (HD.out.keep F2 HD.out.lt);replace S1:=hid (S1.out.trans (F2.mono bC));clear hj gS bC ZV ZW;obtain ⟨w7,rfl⟩: ∃w7,w7=wr:=⟨_,rfl⟩;have bC:w2.heap.size<=w7.heap.size:=(by omega);clear F2 jG;have hdl:decide (M.length<L.length)=false:=decide_eq_false (by omega);obtain ⟨KI,Z8⟩: ∃KI,CB M=KI:=⟨_,rfl⟩;rw[Z8];have f2:=hid Z8;clear Z8;go_upto_region 17 with fail;go_cut [75] from 54 to 74 (fun jO wz=> ∃q:Bool,jO= .bool q/\Hid ((CP M x).isSome=q/\Below w7.heap.size w7 wz));case first=>
    as_aux_lemma=>
     obtain ⟨c0,c1,c2,c3,c4,c5,c6,c7,c8,c9,c10,c11,c12,c13,c14,B3⟩:=HD.out.c;go_wp2_with fail;refine (Ay x.name [108,97,98,101,108] w7 (by omega) (by decide)).mono ?_;rintro e w8 ⟨rfl,F1⟩;rw[MC];have f4:=F1.size;have gW:=hid (HD.out.keep F1 HD.out.lt);have gX:=hid (L6.out.keep F1);clear c0 c1 c2 c3 c4 c5 c6 c7 c8 c9 c10 c11 c12 c13 c14 B3;obtain ⟨c0,c1,c2,c3,c4,c5,c6,c7,c8,c9,c10,c11,c12,c13,c14,B3⟩:=gW.out.c;cases f5:AF x.name AZ with
     |false=>
      go_wp2
      go_meet;exact ⟨false,rfl,hid ⟨by rw[Nw f5];rfl,F1⟩⟩
     |true=>
      cases gY:(x.val.type==1) with
      |false=>
       go_wp2
       go_meet;exact ⟨false,rfl,hid ⟨by rw[Nx gY];rfl,F1⟩⟩
      |true=>
       rcases G3 M with hm|⟨k,hm,lL⟩
       ·have dD:=hid hm;obtain rfl:KI= -1:=f2.out.symm.trans hm;clear hm;go_wp2
        go_meet;exact ⟨false,rfl,hid ⟨by rw[QQ dD.out];rfl,F1⟩⟩
       ·have dD:=hid hm;obtain rfl:KI=(k:Int):=f2.out.symm.trans hm;have f6:k<L.length:=(by omega);obtain ⟨g,gc,y,yp,yq,hv,Z5,Z6,bF,Z7,L7,bD⟩:=gX.out.at_ f6;have ZI:M[k]? =some y:=by rw[<-HM.out,List.getElem?_map,bF];rfl
        have f7:=ZX.out y (List.mem_of_getElem? ZI);have dE:=hid (show M.getD k default=y by simp[List.getD,ZI]);obtain ⟨B1,b1,rfl⟩:=L7.form;simp only[Value.slice.injEq,true_and] at hv;obtain ⟨rfl,rfl⟩:=hv;have jP:=f7.ps2;have gZ:=Bq y.ps;have hA:=Z7.c2;have jQ:=hid L7;have jR:(k:Int)<(L.length:Int):=(by omega);have jS:(0:Int)<=(k:Int):=(by omega);have jT:=hid (show∀p∈y.ps,p.name.length<=1073741824 from fun p hp=>by have:=Bd p;have:=Bp hp;omega);clear bF ZI L7 bD Z7 hm;go_wp2_with fail;refine (D0 y.ps AZ B1 b1 w8 (jQ.out.pms fun b hb=>by rcases hb with hb|hb;(· have:b<w.heap.size:=hb;omega);(· exact hb.2.1)) (by omega) jT.out (by decide)).mono ?_;rintro e w9 ⟨⟨m,rfl,dF⟩,B0⟩;have bG:=Iu dF.out;have HZ:=hid (F1.trans (B0.mono f4));clear B0;cases dG:F7 AZ y.ps with
        |true=>
         rw[dG] at bG;have f8: ¬m<0:=of_decide_eq_false bG;go_wp2
         go_meet;exact ⟨_,rfl,hid ⟨by rw[QR dD.out (by rw[dE.out];exact dG)];simp[f8],HZ.out⟩⟩
        |false=>
         rw[dG] at bG;have f8:m<0:=of_decide_eq_true bG;go_wp2
         go_meet;exact ⟨_,rfl,hid ⟨by rw[QS f5 gY dD.out (by rw[dE.out];exact dG)];simp[f8],HZ.out⟩⟩
   case rest=>
    obtain ⟨q,rfl,I0⟩:=hcut;obtain ⟨w6,rfl⟩: ∃w6,w6=wc:=⟨_,rfl⟩;have SS:=I0.out.2;replace L6:=hid (L6.out.keep SS);replace HD:=hid (HD.out.keep SS HD.out.lt);replace S1:=hid (S1.out.trans (SS.mono bC));have lF:=SS.size;have ZV:w.heap.size<=w6.heap.size:=(by omega);have ZW:=hid (show∀k,k<w.heap.size->w6.heap[k]? =w2.heap[k]? from fun k hk=>S1.out.block k (by omega));replace bC:w2.heap.size<=w6.heap.size:=(by omega);clear SS;cases M2:CP M x with
    |none=>
     obtain rfl:false=q:=by have:=I0.out.1;rw[M2] at this;exact this
     have dH:=hid M2;clear M2 I0;focus
      have jU:=hid (L6.out.keep ((Below.refl w6.heap.size w6).alloc zL (.cells (IA x (pP A1 x k1) (lP A2 x k2)) 44)));have jV:=hid (jD.out.x.move (w':=w6.alloc (.cells (IA x (pP A1 x k1) (lP A2 x k2)) 44)) (S':=InJ (w6.alloc (.cells (IA x (pP A1 x k1) (lP A2 x k2)) 44)) (· <w.heap.size) w2.heap.size (.slice VA L.length VC)) (fun k hk=>(Below.heap_alloc _ _ _ (by have:=ZV;omega)).trans (ZW.out k hk)) fun k hk=> .inl hk);have jW:=hid (jE.out.x.move (w':=w6.alloc (.cells (IA x (pP A1 x k1) (lP A2 x k2)) 44)) (S':=InJ (w6.alloc (.cells (IA x (pP A1 x k1) (lP A2 x k2)) 44)) (· <w.heap.size) w2.heap.size (.slice VA L.length VC)) (fun k hk=>(Below.heap_alloc _ _ _ (by have:=ZV;omega)).trans (ZW.out k hk)) fun k hk=> .inl hk);obtain ⟨c0,c1,c2,c3,c4,c5,c6,c7,c8,c9,c10,c11,c12,c13,c14,B3⟩:=HD.out.c;have f9:=L6.out.row.row;go_wp2_with (at_builtin;refine Fj rfl _ _ rfl w2.heap.size (.slice VA L.length VC) L.length _ (by rfl) (f9.alloc _) x A1 A2 x.ps.length x.val.parts.length k1 k2 w6.heap.size 1 (by rfl) (G9 _ _ rfl _ _ _) jF.out (by simp;omega) ?_;intro g cap w8 AB F3 HH _ E3;refine Hid.out ?_);refine hid ?_;have N3:=hid (jU.out.snoc F3 HH.out rfl jV.out jW.out AB);have F1:=hid (E3.out w2 (S1.out.alloc (by omega) _));clear AB F3 HH E3;go_wp2
      go_roundw;case rel=>exact ⟨i+1,_,_,by go_num,by omega,rfl,hid ⟨N3.out,by rw[List.map_append,HM.out,gQ.out,<-HI.out.2.1,HM.out,Nz dH.out];rfl,F1.out⟩⟩
      case measure=>simp[intOf];omega
    |some k=>
     obtain rfl:true=q:=by have:=I0.out.1;rw[M2] at this;exact this
     have dH:=hid M2;clear M2 I0;focus
      obtain ⟨hB,lM⟩:=Is dH.out;have f6:k<L.length:=(by omega);obtain ⟨g,gc,y,yp,yq,hv,Z5,Z6,bF,Z7,L7,bD⟩:=L6.out.at_ f6;have ZI:M[k]? =some y:=by rw[<-HM.out,List.getElem?_map,bF];rfl
      have f7:=ZX.out y (List.mem_of_getElem? ZI);have dE:=hid (show M.getD k default=y by simp[List.getD,ZI]);obtain ⟨B1,b1,rfl⟩:=L7.form;simp only[Value.slice.injEq,true_and] at hv;obtain ⟨rfl,rfl⟩:=hv;have jP:=f7.ps2;have gZ:=Bq y.ps;have hA:=Z7.c2;have jR:(k:Int)<(L.length:Int):=(by omega);have jS: ¬(k:Int)<0:=(by omega);have jX:=hid bF;have fA:EK w6.drew (· <w.heap.size) w2.heap.size (.slice (some (Ad g 0)) L.length VC) L:=L6.out.move (fun _ _ _=>rfl) zL;have jY:=hid (R7 fA y.ps (pP B1 y b1) L7 AZ x.val.text (by omega));have hC:=hid fA;have jZ:w6.drew.cell? (Ad g (k*15+2))=some (pP B1 y b1):=hA;have lN:w6.drew.cell? (Ad XB 4)=some (Sv x.val.text):=HD.out.c.c4;have lO:w6.cell? (Ad XB 4)=some (Sv x.val.text):=HD.out.c.c4;obtain rfl:KI=(k:Int):=f2.out.symm.trans hB;clear fA L7 bD Z7 ZI bF hB;go_wp2_with fail;go_region_with (go_at_call 16;refine jY.out.mono ?_;rintro e9 w9 ⟨A9,n9,k9,rfl,hD,B0⟩;have HZ:=hid B0;have kA:=hid hD;have lQ:=(B0.cell (p:=(Ad g (k*15+2))) (show g<w6.drew.heap.size from Z6)).trans jZ;have lR:=(hC.out.keep B0).row.frozen (k*15+2);clear B0 hD);all_goals
       go_wp2
       go_roundw;case rel=>
        refine ⟨i+1,_,_,by go_num,by omega, ?_,hid ⟨(hC.out.keep HZ.out).setP jX.out _ _ kA.out, ?_, ?_⟩⟩
        ·rfl
        ·rw[List.map_set,HM.out,gQ.out,<-HI.out.2.1,HM.out,Ny dH.out,dE.out];rfl
        ·exact (S1.out.drew.trans (HZ.out.mono (show w2.heap.size<=w6.drew.heap.size from bC))).setCell (p:=(Ad g (k*15+2))) Z5 _
       case measure=>simp[intOf];omega
noncomputable def VI (cd:Cd) (A:Option Addr) (cc:Nat) (w:World):Put (Tg cd A cc w).G2:=by
 apply Put.mk;case pf=>
  intro hG;have HG:=PG.mk hG;clear hG;intro hL HC W0 HO L1 Q2 d3 d4 d5 w1 E HE X1 H1 G4 W4 HP X2 H3 d6 d7 d8 w2 X3 AL HA HR HF HS HW Y1 d9 dA dB dC u1 t1 DD E1 E2 AN R0 DT dZ wr u7 u8 u9 u10 u39 u40 u41 u42 u43 u44 u45 u46 u47 u48 u49 u50 u51 u52 u53 u54 u55 u56 u57 u58 u59 u60 u61 u62 u63 u64 u65 u66 u67 u68 u69 u70 u71 u72 u73 u74 u75 u76 u77 u78 u79 u80 u81 u82 u83 u84 u85 u86 u87 u88 u89 u90 u91 u92 u93 i L hi VA VC HI Z3 H9;obtain ⟨w3,rfl⟩: ∃w3,w3=wr:=⟨_,rfl⟩;have e2:i=cd.items.length:=(by omega);obtain ⟨LL,rfl⟩: ∃LL,LL=L:=⟨_,rfl⟩;obtain ⟨M,hM⟩: ∃M,BQ cd.items=M:=⟨_,rfl⟩;have HM:=hid hM;have ZJ:=hid (show∀y∈M,Y7 y from by rw[<-hM];exact D1 DD.out);have bH:=hid (show∀y∈M,∀c∈Xs y.name,c≠32 from by rw[<-hM];exact K4 (P:=fun n=> ∀c∈Xs n,c≠32) E1.out);have I1:M.length<=60:=by rw[<-hM];exact Nat.le_trans (Cu _) E2
  have TT:=hid (show LL.map (·.1)=M by rw[<-hM,HI.out.2.1,e2,List.take_length]);have TX:LL.length<=M.length:=by rw[<-TT.out,List.length_map];exact Nat.le_refl _
  have I2:M.length<=LL.length:=by rw[<-TT.out,List.length_map];exact Nat.le_refl _
  clear e2;have HJ:=hid (show EK w3 (· <w.heap.size) w2.heap.size (.slice VA LL.length VC) LL from HI.out.1);have ZY:=HI.out.2.2;have cF:=AL.trans (ZY.mono (show w.heap.size<=w2.heap.size by omega));obtain ⟨T5,ZK⟩: ∃T5,w3.heap.size=T5:=⟨_,rfl⟩;obtain ⟨W5,hH,A0,U1,IB⟩: ∃W:World,w3.alloc (.cells #[Iv 4,.slice none 0 0] 24)=W/\Below T5 w3 W/\Hid (W.heap[T5]? =some (.cells #[Iv 4,.slice none 0 0] 24 (0,0)))/\W.heap.size=T5+1:=
   ⟨_,rfl,by rw[<-ZK];exact zA,hid (by rw[<-ZK];exact heap_alloc_new w3 _),by rw[<-ZK];simp⟩
  have MM:Below w.heap.size w w3:=cF;have bI:=hid ((ZY.block (w.heap.size+1) (by omega)).trans HR.out);have bJ:=hid ((ZY.block (w.heap.size+2) (by omega)).trans HF.out);have U2:w.heap.size+4<=T5:=(by omega);obtain ⟨cL,rfl⟩: ∃cL,cL=VC:=⟨_,rfl⟩;have hI:=hid hH;have N0:=hid ZK;have V5:w3.heap.size<=T5:=Nat.le_of_eq ZK;have V6:T5<=w3.heap.size:=Nat.le_of_eq ZK.symm;clear hM ZY cF hH ZK;go_upto_region 22 with fail;rw[hI.out,N0.out];clear hI;go_wp2
  go_loopw [12,13,14,15,17,18,20,21,22,97] (fun _ _ _ _ _ _ _ _ _ fB wr=> ∃(i:Nat) (v:Value) (L:List (It×Value×Value)) (Y:List It),fB=Iv i/\i<=LL.length/\Hid (EK wr (fun k=>k<w.heap.size∨(w2.heap.size<=k/\k<w3.heap.size)) (T5+1) v L/\L.map (·.1)=Y/\(M.take i).map Bi=Y.map some/\wr.heap[T5]? =some (.cells #[Iv 4,v] 24 (0,0))/\Below T5 w3 wr/\T5+1<=wr.heap.size)) (fun _ _ _ _ _ _ _ _ _ fB _=>LL.length-(intOf fB).toNat);case atStart=>exact ⟨0,_,[],[],rfl,by omega,hid ⟨EK.nil (fun k hk=>by have hJ:k<w.heap.size∨(w2.heap.size<=k/\k<w3.heap.size):=hk;omega) (by omega),rfl,rfl,U1.out,A0,by omega⟩⟩
  case round=>
   rename_i ZL ZM hN ZN hU;revert hL HC W0 w1 E G4 W4 w2 t1 DD E1 E2 AN DT u7 u8 u9 u10 u39 u40 u41 u42 u43 u44 u45 u46 u47 u48 u49 u50 u51 u52 u53 u54 u55 u56 u57 u58 u59 u60 u61 u62 u63 u64 u65 u66 u67 u68 u69 u70 u71 u72 u73 u74 u75 u76 u77 u78 u79 u80 u81 u82 u83 u84 u85 u86 u87 u88 u89 u90 u91 u92 u93 i VA w3 LL M T5 W5 cL ZL ZM ZN wr u12 u13 u14 u15 u17 u18 u20 u21 u22 u97 u98 u99 u100 u101 u102 u103 u104 u105 u106 u107 u108 u109 u110 u111 u112 u113 u114 u115 u116 u117 u118 u119 u120 u121 u122 u123 u124 u125 u126 u127 u128 u129 u130 u131 u132 u133 u134 u135 u136 u137 u138 u139 u140 u141 u142 u143 u144 u145 u146 u147 u148 u149 u150 u151 u152 u153 u154 u155 u156 u157 u158 u159 u160 u161 u162 u163 u164 u165;exact HG.out
noncomputable def Th (cd:Cd) (A:Option Addr) (cc:Nat) (w:World):Tz (VI cd A cc w).G:=by
 apply Tz.mk;case pf=>
  intro hG P2;have HG:=PG.mk hG;have bZ:=PG.mk P2;clear hG P2;intro hL HC W0 HO L1 Q2 d3 d4 d5 w1 E HE X1 H1 G4 W4 HP X2 H3 d6 d7 d8 w2 X3 AL HA HR HF HS HW Y1 d9 dA dB dC u1 t1 DD E1 E2 AN R0 DT u7 u8 u9 u10 u39 u40 u41 u42 u43 u44 u45 u46 u47 u48 u49 u50 u51 u52 u53 u54 u55 u56 u57 u58 u59 u60 u61 u62 u63 u64 u65 u66 u67 u68 u69 u70 u71 u72 u73 u74 u75 u76 u77 u78 u79 u80 u81 u82 u83 u84 u85 u86 u87 u88 u89 u90 u91 u92 u93 i hi VA H9 w3 Z3 LL M HM ZJ bH I1 TT TX I2 T5 W5 A0 U1 IB MM bI bJ U2 cL HI HJ N0 V5 V6 ZL ZM hN ZN hU wr u12 u13 u14 u15 u17 u18 u20 u21 u22 u97 u98 u99 u100 u101 u102 u103 u104 u105 u106 u107 u108 u109 u110 u111 u112 u113 u114 u115 u116 u117 u118 u119 u120 u121 u122 u123 u124 u125 u126 u127 u128 u129 u130 u131 u132 u133 u134 u135 u136 u137 u138 u139 u140 u141 u142 u143 u144 u145 u146 u147 u148 u149 u150 u151 u152 u153 u154 u155 u156 u157 u158 u159 u160 u161 u162 u163 u164 u165 hrel;obtain ⟨i,v,L,Y,rfl,dI,AV⟩:=hrel;obtain ⟨VA,VC,d2⟩:=AV.out.1.form;have ZO:=hid (show L.length=Y.length by rw[<-AV.out.2.1,List.length_map]);have ZZ:L.length<=Y.length:=Nat.le_of_eq ZO.out;have a2:Y.length<=L.length:=Nat.le_of_eq ZO.out.symm;have dJ:Y.length<=60:=by have h1:=congrArg List.length AV.out.2.2.1;simp only[List.length_map,List.length_take] at h1;omega
  rw[ZO.out] at d2;subst d2;have bB:=AV.out.2.2.2.2.2;have L8:=hid AV.out.2.2.2.2.1;have H8:=MM.trans (L8.out.mono (show w.heap.size<=T5 by omega));have ZP:=hid AV.out.2.2.2.1;have bK:=hid ((L8.out.block (w.heap.size+1) (by omega)).trans bI.out);have bL:=hid ((L8.out.block (w.heap.size+2) (by omega)).trans bJ.out);by_cases H9:i<LL.length
  ·obtain ⟨wq,rfl⟩: ∃wq,wq=wr:=⟨_,rfl⟩;obtain ⟨g,gc,x,pv,qv,hv,Z5,Z6,hY,cD,fC,fD⟩:=HJ.out.at_ H9;have dK:M[i]? =some x:=by rw[<-TT.out,List.getElem?_map,hY];rfl
   have cG:=hid (ZJ.out x (List.mem_of_getElem? dK));have a3:=hid (bH.out x (List.mem_of_getElem? dK));have cH:=hid dK;obtain ⟨A1,k1,rfl⟩:=fC.form;obtain ⟨A2,k2,rfl⟩:=fD.form;simp only[Value.slice.injEq,true_and] at hv;obtain ⟨rfl,rfl⟩:=hv;have fE: ∀k,InJ w3 (· <w.heap.size) w2.heap.size (.slice (some (Ad g 0)) LL.length cL) k->(fun k=>k<w.heap.size∨(w2.heap.size<=k/\k<w3.heap.size)) k:=fun k hk=>by
    rcases hk with hk|hk
    ·exact .inl hk
    ·exact .inr ⟨hk.1,hk.2.1⟩
   have FB:=hid (show∀k,(fun k=>k<w.heap.size∨(w2.heap.size<=k/\k<w3.heap.size)) k->k<T5/\k≠w.heap.size+1/\k≠w.heap.size+2 from fun k hk=>by have hJ:k<w.heap.size∨(w2.heap.size<=k/\k<w3.heap.size):=hk;omega);have cI:=hid (show∀k,(fun k=>k<w.heap.size∨(w2.heap.size<=k/\k<w3.heap.size)) k->wq.heap[k]? =w3.heap[k]? from fun k hk=>L8.out.block k (FB.out k hk).1);have dL:=hid (fC.more fE);have dM:=hid (fD.more fE);have N1:=cG.out.ps2;have cJ:=Nat.le_trans (Bq x.ps) N1;obtain ⟨h0,h1,h2,h3,h4,h5,h6,h7,h8,h9,eN,eO,eP,eQ,eR⟩:=cD.same (L8.out.block g (by omega));obtain ⟨XB,N2⟩: ∃XB,wq.heap.size=XB:=⟨_,rfl⟩;obtain ⟨Wr,cE,A8,HB,a4⟩: ∃W:World,wq.alloc (.cells (IA x (pP A1 x k1) (lP A2 x k2)) 44)=W/\Below wq.heap.size wq W/\Hid (Yx W wq.heap.size x (pP A1 x k1) (lP A2 x k2))/\W.heap.size=wq.heap.size+1:=
    ⟨_,rfl,zA,hid (Yx.new _ _ _ _),by simp⟩
   rw[N2] at A8 HB a4;have dN:=hid (show Xv Wr Wr.heap.size (pP A1 x k1) x.ps from (dL.out.move (w':=Wr) (S':=(fun k=>k<w.heap.size∨(w2.heap.size<=k/\k<w3.heap.size))) (fun k hk=>(A8.block k (by have:=FB.out k hk;omega)).trans (cI.out k hk)) fun _ h=>h).pms fun k hk=>by have:=FB.out k hk;omega);obtain ⟨g0,g1,g2,g3,g4,g5,g6,g7,g8,g9,eV,eW,eX,eY,eZ,gl⟩:=HB.out.c;clear hY dK fC fD cD fE;go_upto_region 25 with fail;(try rw[cE]);(try rw[N2]);clear cE h0 h1 h2 h3 h4 h5 h6 h7 h8 h9 eN eO eP eQ eR;go_wp2_with fail;clear g0 g1 g2 g3 g4 g5 g6 g7 g8 g9 eV eW eX eY eZ gl;go_loopw [14,15,17,18,20,105] (fun fF fG _ _ _ cK wr=> ∃(m:Nat) (v4:Value) (L4:List (Pm×Value)),cK=Iv m/\m<=x.ps.length/\fF=v4/\fG= .bool (Fr (x.ps.take m))/\Hid (Ys wr Wr.heap.size v4 (Bo (x.ps.take m)) L4/\Below Wr.heap.size Wr wr)) (fun _ _ _ _ _ cK _=>x.ps.length-(intOf cK).toNat);case atStart=>exact ⟨0,_,[],rfl,by omega,rfl,rfl,hid ⟨Ys.nil _ _,zB⟩⟩
   case round=>
    rename_i bM fH cM dO dP dQ dR dS dT dU a5 a6 a7 a8 a9 aA aB aC aD aE aF aG aH aI aJ aK aL aM aN aO aP aQ id32 aR aS aT aU aV aW aX aY aZ b0 hZ b3 i0;revert hL HC W0 w1 E G4 W4 w2 t1 DD E1 E2 AN DT u7 u8 u9 u10 u39 u40 u41 u42 u43 u44 u45 u46 u47 u48 u49 u50 u51 u52 u53 u54 u55 u56 u57 u58 u59 u60 u61 u62 u63 u64 u65 u66 u67 u68 u69 u70 u71 u72 u73 u74 u75 u76 u77 u78 u79 u80 u81 u82 u83 u84 u85 u86 u87 u88 u89 u90 u91 u92 u93 bM w3 LL M T5 W5 cL ZM ZN u12 u13 cM dO dP dQ dR u21 u22 u98 u99 u100 u101 u102 u103 u104 dS dT dU a5 a6 a7 a8 a9 aA aB aC aD aE aF aG aH aI aJ aK aL aM aN aO aP aQ id32 aR aS aT aU aV aW aX aY u139 u140 u141 u142 u143 u144 u145 u146 u147 u148 u149 u150 u151 u152 u153 u154 u155 u156 u157 u158 u159 u160 u161 u162 u163 u164 u165 i L Y VA VC wq g x A1 k1 A2 k2 ZL XB Wr aZ b0 b3 wr u14 u15 u17 u18 u20 u105 u106 u107 u108 u109 u110 u111 u112 u113 u114 u115 u116 u117 u118 u119 u120 u121 u122 u123 u124 u125 u126 u127 u128 u129 u130 u131 u132 u133 u134 u135 u136 u137 u138;exact HG.out
  ·rename_i bM fH cM;revert hL HC W0 w1 E G4 W4 w2 t1 DD E1 E2 AN DT u7 u8 u9 u10 u39 u40 u41 u42 u43 u44 u45 u46 u47 u48 u49 u50 u51 u52 u53 u54 u55 u56 u57 u58 u59 u60 u61 u62 u63 u64 u65 u66 u67 u68 u69 u70 u71 u72 u73 u74 u75 u76 u77 u78 u79 u80 u81 u82 u83 u84 u85 u86 u87 u88 u89 u90 u91 u92 u93 bM fH w3 LL M T5 W5 cL ZL ZM ZN wr u12 u13 u14 u15 u17 u18 u20 u21 u22 u98 u99 u100 u101 u102 u103 u104 u105 u106 u107 u108 u109 u110 u111 u112 u113 u114 u115 u116 u117 u118 u119 u120 u121 u122 u123 u124 u125 u126 u127 u128 u129 u130 u131 u132 u133 u134 u135 u136 u137 u138 u139 u140 u141 u142 u143 u144 u145 u146 u147 u148 u149 u150 u151 u152 u153 u154 u155 u156 u157 u158 u159 u160 u161 u162 u163 u164 u165 i L Y VA VC;exact bZ.out
noncomputable def Ti (cd:Cd) (A:Option Addr) (cc:Nat) (w:World):Tz (Th cd A cc w).G1:=by
 apply Tz.mk;case pf=>
  intro hG P2;have HG:=PG.mk hG;have bZ:=PG.mk P2;clear hG P2;intro hL HC W0 HO L1 Q2 d3 d4 d5 w1 E HE X1 H1 G4 W4 HP X2 H3 d6 d7 d8 w2 X3 AL HA HR HF HS HW Y1 d9 dA dB dC u1 t1 DD E1 E2 AN R0 DT u7 u8 u9 u10 u39 u40 u41 u42 u43 u44 u45 u46 u47 u48 u49 u50 u51 u52 u53 u54 u55 u56 u57 u58 u59 u60 u61 u62 u63 u64 u65 u66 u67 u68 u69 u70 u71 u72 u73 u74 u75 u76 u77 u78 u79 u80 u81 u82 u83 u84 u85 u86 u87 u88 u89 u90 u91 u92 u93 bM hi fH w3 Z3 LL M HM ZJ bH I1 TT TX I2 T5 W5 A0 U1 IB MM bI bJ U2 cL N0 V5 V6 ZM ZN hU u12 u13 cM dO dP dQ dR u21 u22 u98 u99 u100 u101 u102 u103 u104 dS dT dU a5 a6 a7 a8 a9 aA aB aC aD aE aF aG aH aI aJ aK aL aM aN aO aP aQ id32 aR aS aT aU aV aW aX aY u139 u140 u141 u142 u143 u144 u145 u146 u147 u148 u149 u150 u151 u152 u153 u154 u155 u156 u157 u158 u159 u160 u161 u162 u163 u164 u165 i L Y dI VA VC ZO ZZ a2 dJ H9 wq AV bB L8 H8 ZP bK bL g x Z5 Z6 cG a3 cH A1 k1 A2 k2 HI HJ ZL hN FB cI dL dM N1 cJ XB N2 Wr A8 HB a4 dN aZ b0 hZ b3 i0 wr u14 u15 u17 u18 u20 u105 u106 u107 u108 u109 u110 u111 u112 u113 u114 u115 u116 u117 u118 u119 u120 u121 u122 u123 u124 u125 u126 u127 u128 u129 u130 u131 u132 u133 u134 u135 u136 u137 u138 hrel;obtain ⟨m,v4,L4,rfl,hm,cN,rfl,H4⟩:=hrel;have fI:=cN.symm;subst fI;obtain ⟨wp,rfl⟩: ∃wp,wp=wr:=⟨_,rfl⟩;have L9:=hid H4.out.1;have cO:=hid H4.out.2;have cP:=H4.out.2.size;clear H4;by_cases Z4:m<x.ps.length
  ·revert hL HC W0 w1 E G4 W4 w2 t1 DD E1 E2 AN DT u7 u8 u9 u10 u39 u40 u41 u42 u43 u44 u45 u46 u47 u48 u49 u50 u51 u52 u53 u54 u55 u56 u57 u58 u59 u60 u61 u62 u63 u64 u65 u66 u67 u68 u69 u70 u71 u72 u73 u74 u75 u76 u77 u78 u79 u80 u81 u82 u83 u84 u85 u86 u87 u88 u89 u90 u91 u92 u93 bM w3 LL M T5 W5 cL ZM ZN u12 u13 cM dO dP dQ dR u21 u22 u98 u99 u100 u101 u102 u103 u104 dS dT dU a5 a6 a7 a8 a9 aA aB aC aD aE aF aG aH aI aJ aK aL aM aN aO aP aQ id32 aR aS aT aU aV aW aX aY u139 u140 u141 u142 u143 u144 u145 u146 u147 u148 u149 u150 u151 u152 u153 u154 u155 u156 u157 u158 u159 u160 u161 u162 u163 u164 u165 i L Y VA VC wq g x A1 k1 A2 k2 ZL XB Wr aZ b0 b3 u17 u18 u20 u106 u107 u108 u109 u110 u111 u112 u113 u114 u115 u116 u117 u118 u119 u120 u121 u122 u123 u124 u125 u126 u127 u128 u129 u130 u131 u132 u133 u134 u135 u136 u137 u138 m v4 L4 wp;exact HG.out
  ·revert hL HC W0 w1 E G4 W4 w2 t1 DD E1 E2 AN DT u7 u8 u9 u10 u39 u40 u41 u42 u43 u44 u45 u46 u47 u48 u49 u50 u51 u52 u53 u54 u55 u56 u57 u58 u59 u60 u61 u62 u63 u64 u65 u66 u67 u68 u69 u70 u71 u72 u73 u74 u75 u76 u77 u78 u79 u80 u81 u82 u83 u84 u85 u86 u87 u88 u89 u90 u91 u92 u93 bM w3 LL M T5 W5 cL ZM ZN u12 u13 cM dO dP dQ dR u21 u22 u98 u99 u100 u101 u102 u103 u104 dS dT dU a5 a6 a7 a8 a9 aA aB aC aD aE aF aG aH aI aJ aK aL aM aN aO aP aQ id32 aR aS aT aU aV aW aX aY u139 u140 u141 u142 u143 u144 u145 u146 u147 u148 u149 u150 u151 u152 u153 u154 u155 u156 u157 u158 u159 u160 u161 u162 u163 u164 u165 i L Y VA VC wq g x A1 k1 A2 k2 ZL XB Wr aZ b0 b3 u17 u18 u20 u106 u107 u108 u109 u110 u111 u112 u113 u114 u115 u116 u117 u118 u119 u120 u121 u122 u123 u124 u125 u126 u127 u128 u129 u130 u131 u132 u133 u134 u135 u136 u137 u138 m v4 L4 wp;exact bZ.out
theorem Wz (cd:Cd) (A:Option Addr) (cc:Nat) (w:World):(Ti cd A cc w).G1:=by
 intro hL HC W0 HO L1 Q2 _ _ _ w1 E HE X1 H1 G4 W4 HP X2 H3 _ _ _ w2 X3 AL HA HR HF HS HW Y1 _ _ _ _ _ t1 DD E1 E2 AN R0 _ _ _ _ _ _ _ _ _ _ _ _ _ _ _ _ _ _ _ _ _ _ _ _ _ _ _ _ _ _ _ _ _ _ _ _ _ _ _ _ _ _ _ _ _ _ _ _ _ _ _ _ _ _ _ _ _ _ _ _ _ hi _ w3 Z3 LL M HM ZJ bH I1 TT TX I2 T5 W5 A0 U1 IB MM bI bJ U2 cL N0 V5 V6 _ _ _ _ _ _ _ _ _ _ _ _ _ _ _ _ _ _ _ _ _ _ _ _ _ _ _ _ _ _ _ _ _ _ _ _ _ _ _ _ _ _ _ _ _ _ _ _ _ _ _ _ _ _ _ _ _ _ _ _ _ _ _ _ _ _ _ _ _ _ _ _ _ _ _ _ _ _ _ _ i L Y dI VA VC ZO ZZ a2 dJ H9 wq AV bB L8 H8 ZP bK bL g x Z5 Z6 cG a3 cH A1 k1 A2 k2 HI HJ _ _ FB cI dL dM N1 cJ XB N2 Wr A8 HB a4 dN _ _ _ _ _ _ _ _ _ _ _ _ _ _ _ _ _ _ _ _ _ _ _ _ _ _ _ _ _ _ _ _ _ _ _ _ _ _ _ _ _ m v4 L4 hm cN wp L9 cO cP Z4;obtain ⟨b,o,p,u,he,hb,i1,c0',c1',LB⟩:=(dN.out.keep cO.out zL).at_ Z4;have dV:x.ps[m]? =some p:=by
  have:=congrArg List.head? i1
  rwa [List.head?_drop] at this
 have bA:p∈x.ps:=List.mem_of_getElem? dV;have i2:=Nat.le_trans (Bp bA) N1;have lS:=Nat.le_trans (Bd p) i2;have i3:=Nat.le_trans (DC p) i2;have lT:=Nat.le_trans (C3 p.vals) i3;have kB:=hid fun s (hs:s∈p.vals)=>Nat.le_trans (Nat.le_of_lt (C2 hs)) i3;have bN:=hid (Ic dV);have kC:=hid (Id dV);have i4:=hid (show L4.length<=1073741824 by rw[L9.out.len];have h1:=List.length_filter_le (fun p:Pm=> !p.vals.isEmpty) ((x.ps.take m).map fun p=>(⟨p.name,Cw p⟩:Pm));rw[List.length_map,List.length_take] at h1;have h2:=Bq x.ps;unfold Bo;omega);obtain ⟨B,d,rfl⟩:=LB.form;obtain ⟨PB,bO⟩: ∃PB,wp.heap.size=PB:=⟨_,rfl⟩;obtain ⟨Wp,i5,fJ,p0,p1,lU⟩: ∃W:World,wp.alloc (.cells #[Sv p.name,vP B p d] 57)=W/\Below PB wp W/\W.cell? (Ad PB 0)=some (Sv p.name)/\W.cell? (Ad PB 1)=some (vP B p d)/\W.heap.size=PB+1:=
  ⟨_,rfl,by rw[<-bO];exact zA,by rw[<-bO];simp,by rw[<-bO];simp,by rw[<-bO];simp⟩
 have kD:=hid (LB.keep (fJ.mono (show Wr.heap.size<=PB by omega)) zL);have i6:=hid fJ;subst he;clear LB i1 dV bA fJ;go_upto_region 30 with fail;(try rw[i5]);(try rw[bO]);clear i5 c0' c1';go_wp2
 go_loopw [15,18,20,112] (fun fG kE _ cQ wr=> ∃(n:Nat) (v:Value),cQ=Iv n/\n<=p.vals.length/\v=kE/\fG= .bool (Fr (x.ps.take m)||EX p n)/\Hid (Ce wr Wp.heap.size v (Ek p n).length (Ek p n)/\Below Wp.heap.size Wp wr)) (fun _ _ _ cQ _=>p.vals.length-(intOf cQ).toNat);case atStart=>exact ⟨0,_,rfl,by omega,rfl,by rw[ME,Bool.or_false],hid ⟨by rw[N5];exact Ce.nil _ _,zB⟩⟩
 case round=>
  as_aux_lemma=>
   obtain ⟨n,v,rfl,hn,rfl,rfl,H0⟩:=hrel;obtain ⟨ZQ,ZR,i7⟩:=H0.out.1.form;subst i7;obtain ⟨V,hV⟩: ∃V,Ek p n=V:=⟨_,rfl⟩;have lV:V.length<=n:=by rw[<-hV];exact QU p n
   rw[hV] at H0;rw[hV];have HV:=hid hV;clear hV;have IB:=H0.out.2.size;by_cases kF:n<p.vals.length
   ·obtain ⟨b2,o2,s,kG,lW,i8,m2⟩:=kD.out.at_ kF;have ZS:p.vals[n]? =some s:=by
     have:=congrArg List.head? i8
     rwa [List.head?_drop] at this
    have f5:=kB.out s (List.mem_of_getElem? ZS);have m2r:=(H0.out.2.cell (p:=(Ad b2 (o2+n))) (show b2<Wp.heap.size by omega)).trans m2;have p0r:=(H0.out.2.cell (p:=(Ad PB 0)) (show PB<Wp.heap.size by omega)).trans p0;have kH:=hid H0.out.1;have kI:=hid H0.out.2;subst kG;clear i8 m2 H0;go_wp2_with fail;refine (Ay p.name [116,121,112,101] wr (by omega) (by decide)).mono ?_;rintro e w6 ⟨rfl,DA⟩;rw[Nv];have bW:=DA.size;have VX:=hid (kI.out.trans (DA.mono IB));have e3:=hid (Cq kH.out DA);clear DA p0r m2r;cases LB:AF p.name Ae with
    |false=>
     obtain ⟨OV,W1⟩:=Hh ZS (show (AF p.name Ae&&AF s CA)=false by rw[LB];rfl);clear LB ZS
     as_aux_lemma=>
      have ZT:=hid OV;have cR:=hid W1;clear OV W1;rw[HV.out] at ZT;have bP:=hid (show Ce w6 Wp.heap.size (.slice ZQ V.length ZR) V.length V from e3.out);go_wp2_with (at_builtin;refine AU rfl _ _ 55 rfl Wp.heap.size 9 (.string ⟨#[]⟩) 1 16 underlying55 Fm rfl (by decide) (by decide) _ V.length _ rfl (bP.out.alloc _) w6.heap.size 1 [sV s] rfl rfl (Ed _ _ _) (by simp[sV,Value.oneCell']) (by omega) (by simp;omega) ?_;intro g cap w8 AB F3 HH _ E3;refine Hid.out ?_);refine hid ?_;have N3:=hid (Ce.snoc AB);have F1:=hid (E3.out Wp (VX.out.alloc (by omega) _));clear AB F3 HH E3;go_wp2
      go_roundw;case rel=>exact ⟨n+1,_,by go_num,by omega,rfl,by rw[cR.out],hid ⟨by rw[ZT.out,List.length_append];exact N3.out,F1.out⟩⟩
      case measure=>simp[intOf];omega
    |true=>
     go_wp2_with fail;refine (Ay s CA w6 (by omega) (by decide)).mono ?_;rintro e w7 ⟨rfl,E0⟩;have bQ:=hid (VX.out.trans (E0.mono (by omega)));have e8:=hid (Cq e3.out E0);have b6:=E0.size;clear E0;cases AW:AF s CA with
     |false=>
      obtain ⟨OV,W1⟩:=Hh ZS (show (AF p.name Ae&&AF s CA)=false by rw[LB,AW];rfl);clear LB ZS AW
      as_aux_lemma=>
       have ZT:=hid OV;have cR:=hid W1;clear OV W1;rw[HV.out] at ZT;have bP:=hid (show Ce w7 Wp.heap.size (.slice ZQ V.length ZR) V.length V from e8.out);go_wp2_with (at_builtin;refine AU rfl _ _ 55 rfl Wp.heap.size 9 (.string ⟨#[]⟩) 1 16 underlying55 Fm rfl (by decide) (by decide) _ V.length _ rfl (bP.out.alloc _) w7.heap.size 1 [sV s] rfl rfl (Ed _ _ _) (by simp[sV,Value.oneCell']) (by omega) (by simp;omega) ?_;intro g cap w8 AB F3 HH _ E3;refine Hid.out ?_);refine hid ?_;have N3:=hid (Ce.snoc AB);have F1:=hid (E3.out Wp (bQ.out.alloc (by omega) _));clear AB F3 HH E3;go_wp2
       go_roundw;case rel=>exact ⟨n+1,_,by go_num,by omega,rfl,by rw[cR.out],hid ⟨by rw[ZT.out,List.length_append];exact N3.out,F1.out⟩⟩
       case measure=>simp[intOf];omega
     |true=>
      obtain ⟨OV,W1⟩:=N6 ZS LB AW;rw[HV.out] at OV;have ZT:=hid OV;have cR:=hid W1;clear OV W1 LB ZS AW;go_wp2
      go_roundw;case rel=>exact ⟨n+1,_,by go_num,by omega,rfl,by rw[cR.out,Bool.or_true],hid ⟨by rw[ZT.out];exact e8.out,bQ.out⟩⟩
      case measure=>simp[intOf];omega
   ·obtain rfl:n=p.vals.length:=by omega
    as_aux_lemma=>
     obtain ⟨w6,rfl⟩: ∃w6,w6=wr:=⟨_,rfl⟩;have i9:V=Cw p:=(by rw[<-HV.out,QT]);rw[N4,<-kC.out];rw[<-i9] at bN;have bP:=hid H0.out.1;have VX:=hid (cO.out.trans ((i6.out.trans (H0.out.2.mono (by omega))).mono (show Wr.heap.size<=PB by omega)));have fK:=hid (L9.out.hi (Below.hi (show Below wp.heap.size wp w6 from bO▸i6.out.trans (H0.out.2.mono (by omega)))));have lX:=(H0.out.2.cell (p:=(Ad PB 0)) (show PB<Wp.heap.size by omega)).trans p0;clear H0 HV i9 p0;cases V with
     |nil=>
      have iA:=hid (show Bo (x.ps.take (m+1))=Bo (x.ps.take m) by rw[bN.out];simp);clear bN;go_wp2
      go_roundw;case rel=>exact ⟨m+1,_,_,by go_num,by omega,rfl,rfl,hid ⟨by rw[iA.out];exact fK.out,VX.out⟩⟩
      case measure=>simp[intOf];omega
     |cons s5 r5=>
      obtain ⟨V,hV⟩: ∃V,s5::r5=V:=⟨_,rfl⟩;have iB:V.isEmpty=false:=by rw[<-hV];rfl
      have lY:(0:Int)<(V.length:Int):=by rw[<-hV];simp
      rw[hV] at bN bP;rw[hV];rw[iB] at bN;clear hV iB;have kJ:=hid (show Bj w6 (fun k=>Wr.heap.size<=k/\Off w6 v4 k) (.slice ZQ V.length ZR) V from Ce.sx bP.out fun k I3 fL=>⟨by omega,fL,fun e=>by have:=(L9.out.row.row.lt k e).2;omega⟩);have kK:=hid (fK.out.hi (Below.hi ((Below.refl w6.heap.size w6).alloc zL (.cells #[Sv p.name,.slice ZQ V.length ZR] 57))));have dW:=hid (kJ.out.move (w':=w6.alloc (.cells #[Sv p.name,.slice ZQ V.length ZR] 57)) (S':=fun k=>Wr.heap.size<=k/\Off (w6.alloc (.cells #[Sv p.name,.slice ZQ V.length ZR] 57)) v4 k) (fun k hk=>Below.heap_alloc _ _ _ hk.2.1) fun k hk=>⟨hk.1,by have:=hk.2.1;simp;omega,hk.2.2⟩);go_wp2_with (at_builtin;refine AU rfl _ _ 37 rfl Wr.heap.size 57 (.agg #[.string ⟨#[]⟩,.slice none 0 0]) 2 40 underlying37 EU rfl (by decide) (by decide) _ L4.length _ rfl (fK.out.row.row.alloc _) w6.heap.size 1 [Sv p.name,.slice ZQ V.length ZR] rfl rfl (E6 _ _ _ _ _ (by omega)) (by simp[Value.oneCell']) i4.out (by simp;omega) ?_;intro g cap w8 AB F3 HH _ E3;refine Hid.out ?_);refine hid ?_;have N3:=hid (kK.out.snoc (p:=⟨p.name,V⟩) dW.out F3 HH.out rfl AB);have F1:=hid (E3.out Wr (VX.out.alloc (by omega) _));clear AB F3 HH E3;go_wp2
      go_roundw;case rel=>exact ⟨m+1,_,_,by go_num,by omega,rfl,rfl,hid ⟨by rw[bN.out];exact N3.out,F1.out⟩⟩
      case measure=>simp[intOf];omega
theorem XA (cd:Cd) (A:Option Addr) (cc:Nat) (w:World):(Ti cd A cc w).G2:=by
 intro hL HC W0 HO L1 Q2 _ _ _ w1 E HE X1 H1 G4 W4 HP X2 H3 _ _ _ w2 X3 AL HA HR HF HS HW Y1 _ _ _ _ _ t1 DD E1 E2 AN R0 _ _ _ _ _ _ _ _ _ _ _ _ _ _ _ _ _ _ _ _ _ _ _ _ _ _ _ _ _ _ _ _ _ _ _ _ _ _ _ _ _ _ _ _ _ _ _ _ _ _ _ _ _ _ _ _ _ _ _ _ _ hi _ w3 Z3 LL M HM ZJ bH I1 TT TX I2 T5 W5 A0 U1 IB MM bI bJ U2 cL N0 V5 V6 _ _ _ _ _ _ _ _ _ _ _ _ _ _ _ _ _ _ _ _ _ _ _ _ _ _ _ _ _ _ _ _ _ _ _ _ _ _ _ _ _ _ _ _ _ _ _ _ _ _ _ _ _ _ _ _ _ _ _ _ _ _ _ _ _ _ _ _ _ _ _ _ _ _ _ _ _ _ _ _ i L Y dI VA VC ZO ZZ a2 dJ H9 wq AV bB L8 H8 ZP bK bL g x Z5 Z6 cG a3 cH A1 k1 A2 k2 HI HJ _ _ FB cI dL dM N1 cJ XB N2 Wr A8 HB a4 dN _ _ _ _ _ _ _ _ _ _ _ _ _ _ _ _ _ _ _ _ _ _ _ _ _ _ _ _ _ _ _ _ _ _ _ _ _ _ _ _ _ m v4 L4 hm cN wp L9 cO cP Z4;obtain rfl:m=x.ps.length:=(by omega);rw[List.take_length] at L9;rw[List.take_length];obtain ⟨A3,c3,kL⟩:=L9.out.row.form;subst kL;have fM:L4.length=(Bo x.ps).length:=L9.out.len;have HX:=hid (L9.out.x (S:=fun k=>Wr.heap.size<=k/\k<wp.heap.size) fun k I3 fL=>⟨I3,fL⟩);rw[fM] at HX;rw[fM];have kM:(Bo x.ps).length<=x.ps.length:=by have h1:=List.length_filter_le (fun p:Pm=> !p.vals.isEmpty) (x.ps.map fun p=>(⟨p.name,Cw p⟩:Pm));rw[List.length_map] at h1;exact h1
 have lZ:=Bq x.ps;have fN:=hid (show∀p∈Bo x.ps,p.name.length<=1073741824 from fun p hp=>by obtain ⟨q,hq,e⟩:=Kh hp;have h1:=Nat.le_trans (Bd q) (Nat.le_trans (Bp hq) N1);rw[<-e];omega);obtain ⟨Q,hQ⟩: ∃Q,Bo x.ps=Q:=⟨_,rfl⟩;have HQ:=hid hQ;rw[hQ] at HX fN kM;rw[hQ];clear hQ L9 fM;obtain ⟨PF,fO⟩: ∃PF,Fr x.ps=PF:=⟨_,rfl⟩;have fP:=hid fO;rw[fO];clear fO;go_upto_region 41 with fail;go_cut [144] from 139 to 143 (fun iC wz=> ∃q:Bool,iC= .bool q/\Hid ((PF&& !F7 CM Q)=q/\Below wp.heap.size wp wz));case first=>
  cases PF with
  |false=>
   go_wp2
   go_meet;exact ⟨false,rfl,hid ⟨rfl,zB⟩⟩
  |true=>
   go_wp2_with fail;refine (D0 Q CM A3 c3 wp (HX.out.pms fun k hk=>hk.2) (by omega) fN.out (by decide)).mono ?_;rintro e w9 ⟨⟨r,rfl,dF⟩,B0⟩;have bG:=Iu dF.out;have HZ:=hid B0;clear B0 dF;go_wp2
   go_meet;exact ⟨_,rfl,hid ⟨by rw[<-bG];simp,HZ.out⟩⟩
 case rest=>
  obtain ⟨q,rfl,I0⟩:=hcut;obtain ⟨w6,rfl⟩: ∃w6,w6=wc:=⟨_,rfl⟩;have bW:=I0.out.2.size;have VX:=hid (cO.out.trans (I0.out.2.mono cP));have fQ:=hid (HX.out.move (w':=w6) (S':=fun k=>Wr.heap.size<=k/\k<w6.heap.size) (fun k hk=>I0.out.2.block k hk.2) fun k hk=>⟨hk.1,by omega⟩);have fR:=hid I0.out.1;clear HX I0;go_upto_if 144 with fail;go_cut [14] from 145 to 146 (fun fF wz=> ∃(A4:Option Addr) (k4:Nat),fF= .slice A4 (Cb x.ps).length k4/\Hid (Ah wz (fun k=>Wr.heap.size<=k/\k<wz.heap.size) (.slice A4 (Cb x.ps).length k4) (Cb x.ps)/\Below w6.heap.size w6 wz));case first=>
   cases q with
   |false=>
    have W2:=hid (show Cb x.ps=Q by unfold Cb;rw[fP.out,HQ.out,fR.out];rfl);go_wp2
    go_meet;exact ⟨A3,c3,by rw[W2.out],hid ⟨by rw[W2.out];exact fQ.out,zB⟩⟩
   |true=>
    have W2:=hid (show Cb x.ps=Q++[⟨CM,[[49]]⟩] by unfold Cb;rw[fP.out,HQ.out,fR.out];rfl);go_wp2_with fail;refine (Jf (S:=fun k=>Wr.heap.size<=k/\k<w6.heap.size) Q CM [49] (.slice A3 Q.length c3) w6 (fun k hk=>hk.2) fQ.out (by omega)).mono ?_;rintro e w9 ⟨v9,rfl,fS,B0⟩;obtain ⟨A9,k9,rfl⟩:=fS.form;have m0:=B0.size;have kN:=hid (fS.more (S':=fun k=>Wr.heap.size<=k/\k<w9.heap.size) fun k hk=>by
     rcases hk with hk|hk
     ·exact ⟨hk.1,by omega⟩
     ·exact ⟨by have:=hk.1;omega,hk.2⟩)
    have HZ:=hid B0;clear fS B0;go_wp2
    go_meet;exact ⟨A9,k9,by rw[W2.out,List.length_append];rfl,hid ⟨by rw[W2.out];exact kN.out,HZ.out⟩⟩
  case rest=>
   obtain ⟨A4,k4,rfl,dX⟩:=hcut;obtain ⟨w7,rfl⟩: ∃w7,w7=wc:=⟨_,rfl⟩;have b6:=dX.out.2.size;have bQ:=hid (VX.out.trans (dX.out.2.mono (by omega)));have fT:=hid dX.out.1;clear dX fQ VX fR HQ fN fP;focus
    have I6:=hid (HB.out.keep bQ.out HB.out.lt);have q2:=I6.out.frozen 2;have k2c:=I6.out.c.c2;obtain ⟨P,hP⟩: ∃P,Cb x.ps=P:=⟨_,rfl⟩;have W2:=hid hP;rw[hP] at fT;rw[hP];obtain ⟨W8,bR⟩: ∃W8,w7.setCell (Ad XB 2) (.slice A4 P.length k4)=W8:=⟨_,rfl⟩;have iD:=hid (show Yx W8 XB {x with ps:=P} (.slice A4 P.length k4) (lP A2 x k2) from bR▸I6.out.setP _ _);have iE:=hid (show∀k,k≠XB->W8.heap[k]? =w7.heap[k]? from fun k hk=>bR▸heap_setCell_other w7 _ k _ hk);have f4:W8.heap.size=w7.heap.size:=by rw[<-bR];simp[World.setCell]
    have I4:Below XB wq W8:=bR▸(A8.trans (bQ.out.mono (by omega))).setCell (p:=(Ad XB 2)) zL _;have kO:=hid (show Ah W8 (fun k=>Wr.heap.size<=k/\k<W8.heap.size) (.slice A4 P.length k4) P from fT.out.move (fun k hk=>iE.out k (by have:=hk.1;omega)) fun k hk=>⟨hk.1,by rw[f4];exact hk.2⟩);have iF:=H8.trans (I4.mono (show w.heap.size<=XB by omega));have kP:=hL.below iF;have iG:=hid (show Y4 {x with ps:=P} from W2.out▸cG.out.p.t);have kQ:=hid ((I4.block T5 (by omega)).trans ZP.out);have kR:=hid ((I4.block (w.heap.size+1) (by omega)).trans bK.out);have kS:=hid ((I4.block (w.heap.size+2) (by omega)).trans bL.out);have iH:=hid bR;clear hP fT bQ;go_upto_region 44 with fail;(try rw[iH.out]);clear bR iH q2 k2c I6;obtain ⟨c0,c1,c2,c3,c4,c5,c6,c7,c8,c9,c10,c11,c12,c13,c14,B3⟩:=iD.out.c;simp only at c0 c1 c2 c3 c4 c5 c6 c7 c8 c9 c10 c11 c12 c13 c14;go_wp2_with fail;refine (OA (S:=fun k=>(fun k=>k<w.heap.size∨(w2.heap.size<=k/\k<w3.heap.size)) k∨(Wr.heap.size<=k/\k<W8.heap.size)) {x with ps:=P} A4 k4 A2 k2 W8 kP (fun k hk=>by rcases hk with hk|hk;(· have:=FB.out k hk;omega);(· exact hk.2)) (kO.out.more fun k hk=> .inr hk) (dM.out.move (fun k hk=>(I4.block k (by have:=FB.out k hk;omega)).trans (cI.out k hk)) fun k hk=> .inl hk) iG.out a3.out).mono ?_;rintro e w5' ⟨y,A6,n6,k6,A7,n7,k7,bo,rfl,eA,bY,A0⟩;simp only[Yp];have IB:=A0.size;have cS:Below XB wq w5':=I4.trans (A0.mono (by omega));have HY:=hid eA;have HN:=hid bY;have U1:=hid ((A0.block T5 (by omega)).trans kQ.out);have cB:=hid ((A0.block (w.heap.size+1) (by omega)).trans kR.out);have cC:=hid ((A0.block (w.heap.size+2) (by omega)).trans kS.out);have cA:=H8.trans (cS.mono (show w.heap.size<=XB by omega));have iI:=hid (show Bi x=CE (Xs x.name) {x with ps:=P} by unfold Bi;rw[W2.out]);clear eA bY c0 c1 c2 c3 c4 c5 c6 c7 c8 c9 c10 c11 c12 c13 c14 B3 iD HB A0 I4;obtain ⟨YB,Z9⟩: ∃YB,w5'.heap.size=YB:=⟨_,rfl⟩;obtain ⟨W6,dY,DA,bE,bW⟩: ∃W:World,w5'.alloc (.cells (IA y (.slice A6 n6 k6) (.slice A7 n7 k7)) 44)=W/\Below w5'.heap.size w5' W/\Hid (Yx W w5'.heap.size y (.slice A6 n6 k6) (.slice A7 n7 k7))/\W.heap.size=w5'.heap.size+1:=
     ⟨_,rfl,zA,hid (Yx.new _ _ _ _),by simp⟩
    rw[Z9] at DA bE bW;have iJ:=hid ((DA.block T5 (by omega)).trans U1.out);have fU:=hid ((DA.block (w.heap.size+1) (by omega)).trans cB.out);have fV:=hid ((DA.block (w.heap.size+2) (by omega)).trans cC.out);have iK:=cA.trans (DA.mono (show w.heap.size<=YB by omega));have m8:(i:Int)+1<=100:=(by omega);cases hu:Bi x with
    |none=>
     obtain rfl:=HN.out (iI.out▸hu);have kT:=hid (Pw AN.out.1 AN.out.2 (by rw[HM.out];exact Kq AV.out.2.2.1 cH.out hu));obtain ⟨r0,r1,Y2,Y3,rl⟩:=Ak fU.out;obtain ⟨e0,e1,Z0,Z1,el⟩:=Ak fV.out;go_upto_region 45 with fail;(try rw[dY]);(try rw[Z9]);clear dY;go_wp2
     refine bodyPost_ret (Cj (x0:=Iv 0) (x1:= .slice none 0 0) (e:=Iv 13) (p:=Iv i) (G:=w.heap.size+1) (F:=w.heap.size+2) rfl (by first|(simp;done)|rfl) (by first|(simp;done)|rfl) (D6 fU.out fV.out (by omega) _ _ _ _).1 (D6 fU.out fV.out (by omega) _ _ _ _).2) rfl ?_;exact He kT.out (EN iK (by omega) (by omega) _ _ _ _)
    |some z=>
     obtain ⟨rfl,rfl,fW,fX⟩:=HY.out z (iI.out▸hu);obtain ⟨_,_,e6⟩:=fW.form;obtain ⟨_,_,e7⟩:=fX.form;simp only[Value.slice.injEq] at e6 e7;obtain ⟨-,rfl, -⟩:=e6;obtain ⟨-,rfl, -⟩:=e7;have kU:=hid (M6 AV.out.2.2.1 cH.out hu);have fY: ∀k,(Value.slice VA Y.length VC).ownBlock=some k->T5+1<=k/\k<XB:=fun k hk=>by have:=AV.out.1.row.row.lt k hk;omega
     have fZ: ∀W:World,w5'.heap.size<=W.heap.size-> ∀k,(((fun k=>k<w.heap.size∨(w2.heap.size<=k/\k<w3.heap.size)) k∨(Wr.heap.size<=k/\k<W8.heap.size))∨Cy W8 w5' k)->InJ W (fun k=>k<w.heap.size∨(w2.heap.size<=k/\k<w3.heap.size)) (T5+1) (.slice VA Y.length VC) k:=fun W hW k hk=>by
      have kV:(fun k=>k<w.heap.size∨(w2.heap.size<=k/\k<w3.heap.size)) k∨(XB<k/\k<w5'.heap.size):=by
       rcases hk with (hk|hk)|hk
       ·exact .inl hk
       ·exact .inr ⟨by omega,by omega⟩
       ·exact .inr ⟨by have:=hk.1;omega,hk.2⟩
      rcases kV with hk|hk
      ·exact .inl hk
      ·refine .inr ⟨by omega,by omega,fun e=> ?_⟩;have:=fY k e;omega
     have cT: ∀k,(((fun k=>k<w.heap.size∨(w2.heap.size<=k/\k<w3.heap.size)) k∨(Wr.heap.size<=k/\k<W8.heap.size))∨Cy W8 w5' k)->k<w5'.heap.size:=fun k hk=>by
      rcases hk with (hk|hk)|hk
      ·have:=FB.out k hk;omega
      ·omega
      ·exact hk.2
     have kW:=hid (AV.out.1.keep (N2▸cS)|>.keep (Z9▸DA));obtain ⟨WA,iL,E0,b6⟩: ∃W:World,W6.alloc (.cells (IA y (pP A6 y k6) (lP A7 y k7)) 44)=W/\Below W6.heap.size W6 W/\W.heap.size=W6.heap.size+1:=⟨_,rfl,zA,by simp⟩;have iM:=hid (kW.out.keep E0);have kX:=hid ((E0.block T5 (by omega)).trans iJ.out);have eI:=hid (fW.move (w':=WA) (S':=InJ WA (fun k=>k<w.heap.size∨(w2.heap.size<=k/\k<w3.heap.size)) (T5+1) (.slice VA Y.length VC)) (fun k hk=>(E0.block k (by have:=cT k hk;omega)).trans (DA.block k (by have:=cT k hk;omega))) (fZ WA (by omega)));have kY:=hid (fX.move (w':=WA) (S':=InJ WA (fun k=>k<w.heap.size∨(w2.heap.size<=k/\k<w3.heap.size)) (T5+1) (.slice VA Y.length VC)) (fun k hk=>(E0.block k (by have:=cT k hk;omega)).trans (DA.block k (by have:=cT k hk;omega))) (fZ WA (by omega)));have iN:=hid ((L8.out.trans (cS.mono (show T5<=XB by omega))).trans ((DA.mono (show T5<=YB by omega)).trans (E0.mono (show T5<=W6.heap.size by omega))));have kZ:=hid fY;have gR:L.length<=1073741824:=(by omega);have iO:Hid (∀(j:Nat) u,(Xx y (pP A6 y k6) (lP A7 y k7))[j]? =some u->WA.cell? (Ad (YB+1) j)=some u):=hid (by rw[<-iL];exact G9 W6 _ bW.symm y _ _);have iP:=hid iL;obtain ⟨y0,y1,y2,y3,y4,y5,y6,y7,y8,y9,l0,l1,l2,l3,l4,yl⟩:=bE.out.c;obtain ⟨t0,t1',gA,gB,tl⟩:=Ak iJ.out;have l5:T5<W6.heap.size:=(by omega);clear fW fX fZ cT fY;go_upto_region 45 with fail;(try rw[dY]);(try rw[Z9]);clear dY;have f9:=iM.out.row.row;go_wp2_with (at_builtin;(try rw[iP.out]);refine Fj rfl _ _ rfl (T5+1) (.slice VA Y.length VC) L.length _ (by rfl) f9 y A6 A7 y.ps.length y.val.parts.length k6 k7 (YB+1) 1 (by rfl) iO.out gR (by omega) ?_;intro g2 cap w8 AB F3 HH _ E3;refine Hid.out ?_);refine hid ?_;have N3:=hid (iM.out.snoc (x:=y) F3 HH.out rfl eI.out kY.out AB);have eB:=hid ((F3.block T5 (by omega) (fun e=>by have:=kZ.out T5 e.symm;omega)).trans kX.out);have iQ:=hid (iN.out.trans ((E3.out WA zB).mono (show T5<=T5+1 by omega)));have lG:WA.heap.size<=w8.heap.size:=F3.size;obtain ⟨z0,z1,m9,mA,zl⟩:=Ak eB.out;clear AB F3 HH E3 t0 t1' gA gB tl y0 y1 y2 y3 y4 y5 y6 y7 y8 y9 l0 l1 l2 l3 l4 yl;go_wp2
     go_roundw;case rel=>
      refine ⟨i+1,_,L++[(y,pP A6 y k6,lP A7 y k7)],Y++[y],by go_num,by omega,hid ⟨N3.out.move (fun k hk hl=>heap_setCell_other w8 (Ad T5 1) k _ (by rcases hk with hk|hk;(· have:=FB.out k hk;simp only;omega);(· simp only;omega))) (by simp[World.setCell]), ?_,kU.out,Px eB.out _,iQ.out.setCell (p:=(Ad T5 1)) zL _,by simp[World.setCell];omega⟩⟩;rw[List.map_append,AV.out.2.1];rfl
     case measure=>simp[intOf];omega
theorem XC (cd:Cd) (A:Option Addr) (cc:Nat) (w:World):(Th cd A cc w).G2:=by
 intro hL HC W0 HO L1 Q2 _ _ _ w1 E HE X1 H1 G4 W4 HP X2 H3 _ _ _ w2 X3 AL HA HR HF HS HW Y1 _ _ _ _ _ t1 DD E1 E2 AN R0 _ _ _ _ _ _ _ _ _ _ _ _ _ _ _ _ _ _ _ _ _ _ _ _ _ _ _ _ _ _ _ _ _ _ _ _ _ _ _ _ _ _ _ _ _ _ _ _ _ _ _ _ _ _ _ _ _ _ _ _ _ hi _ _ w3 Z3 LL M HM ZJ bH I1 TT TX I2 T5 W5 A0 U1 IB MM bI bJ U2 cL HI HJ N0 V5 V6 _ _ _ _ _ wr _ _ _ _ _ _ _ _ _ _ _ _ _ _ _ _ _ _ _ _ _ _ _ _ _ _ _ _ _ _ _ _ _ _ _ _ _ _ _ _ _ _ _ _ _ _ _ _ _ _ _ _ _ _ _ _ _ _ _ _ _ _ _ _ _ _ _ _ _ _ _ _ _ _ _ _ _ i L Y dI VA VC ZO ZZ a2 dJ AV bB L8 H8 ZP bK bL H9;have FB:=hid (show∀k,(fun k=>k<w.heap.size∨(w2.heap.size<=k/\k<w3.heap.size)) k->k<T5/\k≠w.heap.size+1/\k≠w.heap.size+2 from fun k hk=>by have hJ:k<w.heap.size∨(w2.heap.size<=k/\k<w3.heap.size):=hk;omega);have iR:=hid (show M.map Bi=Y.map some from by have:=AV.out.2.2.1;rwa [show i=M.length by omega,List.take_length] at this);have dW:=hid (M5 iR.out);have l6:=hid (show Its wr wr.heap.size (.slice VA Y.length VC) Y from by have:=AV.out.1.its;rwa [AV.out.2.1] at this);have l7:=hid (show Qf wr ⟨4,Y⟩ VA VC from ⟨l6.out,fun y hy=>by obtain ⟨x,hx,e⟩:=D3 iR.out y hy;exact Lt (ZJ.out x hx).p e⟩);obtain ⟨t0,t1',gA,gB,tl⟩:=Ak ZP.out;have l8:=hL.below H8;go_wp2_with fail;refine (Hc ⟨4,Y⟩ VA VC wr l8 l7.out).mono ?_;rintro e w9 ⟨rfl,B0⟩;obtain ⟨E9,gC⟩: ∃E9,BM ⟨4,Y⟩=E9:=⟨_,rfl⟩;have iS:=hid gC;rw[gC];clear gC;go_wp2_with fail;refine (CU E9.1 E9.2 w9).mono ?_;rintro e HL ⟨rfl,eC⟩;have I5:Below wr.heap.size wr HL:=eC▸B0.trans (zA.mono B0.size);have lH:=I5.size;have l9:=hid ((I5.block T5 (by omega)).trans ZP.out);have gD:=hid ((I5.block (w.heap.size+1) (by omega)).trans bK.out);have gE:=hid ((I5.block (w.heap.size+2) (by omega)).trans bL.out);have eD:=H8.trans (I5.mono (show w.heap.size<=wr.heap.size by omega));have HZ:=hid I5;clear t0 t1' gA gB tl B0 I5 eC;obtain ⟨q0,q1,mB,mC,ql⟩:=Ak l9.out;obtain ⟨r0,r1,Y2,Y3,rl⟩:=Ak gD.out;obtain ⟨e0,e1,Z0,Z1,el⟩:=Ak gE.out;by_cases he:E9.1=0
 ·have u2:(E9.1==0)=true:=(by simpa using he);rw[u2];have HU:=hid (SQ AN.out.1 AN.out.2 (by rw[HM.out];exact dW.out) (by rw[iS.out];exact he));have lA:=hid (show∀W:World,HL.heap.size<=W.heap.size->(∀k,k≠w.heap.size+1->k≠w.heap.size+2->k<HL.heap.size->W.heap[k]? =HL.heap[k]?)->Its W W.heap.size (.slice VA Y.length VC) Y from fun W hW hk=>by
   have lB:=AV.out.1.move (w':=W) (fun k I3 hl=>(hk k (by rcases I3 with I3|I3;(· have:=FB.out k I3;omega);(· omega)) (by rcases I3 with I3|I3;(· have:=FB.out k I3;omega);(· omega)) (by omega)).trans (HZ.out.block k hl)) (by omega);have lC:=lB.its
   rwa [AV.out.2.1] at lC)
  clear he;go_upto_region 51 with fail;have m1:w.heap.size+1≠HL.heap.size:=(by omega);have m2:w.heap.size+2≠HL.heap.size:=(by omega);have m3:T5≠HL.heap.size:=(by omega);have m4:T5≠w.heap.size+1:=(by omega);have m5:T5≠w.heap.size+2:=(by omega);go_region_with (first
   |(go_at_call 18;refine (Cm _).mono ?_;rintro mD iT ⟨rfl,rfl⟩))
  all_goals
   go_wp2_with fail;have hX:=D6 (w:=HL) gD.out gE.out (by omega) (Iv 4) (.slice VA Y.length VC) (Iv 0) (Iv (-1));refine bodyPost_ret (Cj (x0:=Iv 4) (x1:= .slice VA Y.length VC) (e:=Iv 0) (p:=Iv (-1)) (G:=w.heap.size+1) (F:=w.heap.size+2) rfl (by first|(simp;done)|rfl) (by first|(simp;done)|rfl) ((Below.heap_alloc _ _ _ (by simp[World.setCell];omega)).trans hX.1) ((Below.heap_alloc _ _ _ (by simp[World.setCell];omega)).trans hX.2)) rfl ?_;refine ⟨.slice VA Y.length VC,by rw[HU.out], ?_, ?_⟩
   ·rw[HU.out];exact lA.out _ (by simp[World.setCell]) (fun k h1 h2 hk=>(Below.heap_alloc _ _ _ (by simp[World.setCell];omega)).trans ((heap_setCell_other _ (Ad (w.heap.size+2) 1) k _ h2).trans ((heap_setCell_other _ (Ad (w.heap.size+2) 0) k _ h2).trans ((heap_setCell_other _ (Ad (w.heap.size+1) 1) k _ h1).trans (heap_setCell_other _ (Ad (w.heap.size+1) 0) k _ h1)))))
   ·exact ((EN eD (show w.heap.size<=w.heap.size+1 by omega) (show w.heap.size<=w.heap.size+2 by omega) _ _ _ _).alloc (by simp[World.setCell];omega) _).drew
 ·have u2:(E9.1==0)=false:=(by simpa using he);rw[u2];have HU:=hid (G7 AN.out.1 AN.out.2 (by rw[HM.out];exact dW.out) (by rw[iS.out];exact he));clear he;go_wp2_with fail;refine (CG 13 HL).mono ?_;rintro e iT ⟨rfl,eE⟩;have b4:Below HL.heap.size HL iT:=eE▸zA;have cU:=hid ((b4.block (w.heap.size+1) (by omega)).trans gD.out);have cV:=hid ((b4.block (w.heap.size+2) (by omega)).trans gE.out);have gF:=eD.trans (b4.mono (show w.heap.size<=HL.heap.size by omega));clear b4 eE r0 r1 Y2 Y3 rl e0 e1 Z0 Z1 el;obtain ⟨r0,r1,Y2,Y3,rl⟩:=Ak cU.out;obtain ⟨e0,e1,Z0,Z1,el⟩:=Ak cV.out;go_wp2
  refine bodyPost_ret (Cj (x0:=Iv 0) (x1:= .slice none 0 0) (e:=Iv 13) (p:=Iv (-1)) (G:=w.heap.size+1) (F:=w.heap.size+2) rfl (by first|(simp;done)|rfl) (by first|(simp;done)|rfl) (D6 cU.out cV.out (by omega) _ _ _ _).1 (D6 cU.out cV.out (by omega) _ _ _ _).2) rfl ?_;exact He HU.out (EN gF (by omega) (by omega) _ _ _ _)
theorem Tj (cd:Cd) (A:Option Addr) (cc:Nat) (w:World) (hL:LD w) (hc:Y9 w cd A cc):Calls prog 5 #[.agg #[Iv cd.version,.slice A cd.items.length cc]] w (WJ cd w):=
 (Tg cd A cc w).pf (Ww cd A cc w) ((VI cd A cc w).pf ((Th cd A cc w).pf ((Ti cd A cc w).pf (Wz cd A cc w) (XA cd A cc w)) (XC cd A cc w))) hL hc
end Go.Proofs.YtjhpdljphchfaaaGreatDoor
