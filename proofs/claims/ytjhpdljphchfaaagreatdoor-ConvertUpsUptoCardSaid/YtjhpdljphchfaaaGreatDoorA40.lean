/- A part of the proof of ConvertUps: one of package convert walked: the beginning that all its ways share. -/
import Derived.Test.YtjhpdljphchfaaaGreatDoorA01
import Derived.Test.YtjhpdljphchfaaaGreatDoorA33
import Derived.Test.YtjhpdljphchfaaaGreatDoorA35
import Derived.Test.YtjhpdljphchfaaaGreatDoorA07
import Derived.Test.YtjhpdljphchfaaaGreatDoorA14
import Derived.Test.YtjhpdljphchfaaaGreatDoorA36
import Derived.Test.YtjhpdljphchfaaaGreatDoorA27
import Derived.Test.YtjhpdljphchfaaaGreatDoorA26
set_option maxHeartbeats 40000000
set_option maxRecDepth 1000000
set_option linter.all false
namespace Go.Proofs.YtjhpdljphchfaaaGreatDoor
open Go.RowKit
open Go.Proofs.Tryz
section
attribute [local go_sem ↓] zPe
attribute [local go_sem] XR WH Xm Xp
theorem Br {S:Nat->Prop} {w W3 w4:World} {r q:Option It} {y:It} {A6 A7:Option Addr} {n6 k6 n7 k7:Nat} {bb:Bool} {cs:Array Value} (hS:sW S w) (h1:r=q) {q':Option It} (h2:q=q') (A9:Below w.heap.size w W3) (DT:Below W3.heap.size W3 w4) (hz:w.heap.size+2<=W3.heap.size)
 (hy: ∀z,q'=some z->bb=true/\y=z/\Ah w4 (fun k=>(S k∨(w.heap.size+2<=k/\k<W3.heap.size))∨Cy W3 w4 k) (.slice A6 n6 k6) z.ps/\BY w4 (fun k=>(S k∨(w.heap.size+2<=k/\k<W3.heap.size))∨Cy W3 w4 k) (.slice A7 n7 k7) z.val.parts) (hn:q'=none->bb=false):
 BJ S w r (.returned (.tuple #[Yp y (.slice A6 n6 k6) (.slice A7 n7 k7),.bool bb])) (w4.setRow (w.heap.size+1) cs):=by
 have Y2:=DT.size;have hb:=AC (A9.trans (DT.mono (show w.heap.size<=W3.heap.size by omega))) (show w.heap.size<=w.heap.size+1 by omega) cs;subst h1 h2;refine ⟨y,A6,n6,k6,A7,n7,k7,bb,rfl,fun z AV=> ?_,hn,hb⟩;obtain ⟨e1,e2,e3,e4⟩:=hy z AV;have hm: ∀k,((S k∨(w.heap.size+2<=k/\k<W3.heap.size))∨Cy W3 w4 k)->(w4.setRow (w.heap.size+1) cs).heap[k]? =w4.heap[k]? :=fun k hk=>AH _ _ _ (by
  rcases hk with (hk|hk)|hk
  ·have:=hS k hk;omega
  ·omega
  ·have:=hk.1;omega)
 have hs: ∀k,((S k∨(w.heap.size+2<=k/\k<W3.heap.size))∨Cy W3 w4 k)->S k∨Cy w (w4.setRow (w.heap.size+1) cs) k:=fun k hk=>by
  rcases hk with (hk|hk)|hk
  ·exact .inl hk
  ·exact .inr ⟨by omega,by simp;omega⟩
  ·exact .inr ⟨by have:=hk.1;omega,by simp;exact hk.2⟩
 exact ⟨e1,e2,e3.move hm hs,e4.move hm hs⟩
noncomputable def Dh {S:Nat->Prop} (x:It) (A:Option Addr) (c:Nat) (A':Option Addr) (c':Nat) (w:World):
 Put ((sW S w)->Ah w S (pP A x c) x.ps->BY w S (lP A' x c') x.val.parts->Y5 x->Calls prog 21 #[Yp x (pP A x c) (lP A' x c')] w (BJ S w (Bi x))):=by
 apply Put.mk;intro hG;have HG:=PG.mk hG;clear hG;intro hS hp hl hT;have HP:=hid hp;have HL:=hid hl;have HT:=hid hT;have E0:x.name.length<=10000:=hT.name;clear hp hl hT;simp only[Yp];obtain ⟨N,hN⟩: ∃N,Xs x.name=N:=⟨_,rfl⟩;have H2:N.length<=10000:=by rw[<-hN,FU];exact E0
 have HN:=hid hN;go_enter func21,ntmps21;go_upto_region 1 with fail;obtain ⟨W0,AB⟩: ∃W0,(w.alloc (.cells (IA x (pP A x c) (lP A' x c')) 44)).alloc (.cells Z15 44)=W0:=⟨_,rfl⟩;have AW:W0.heap.size=w.heap.size+2:=by rw[<-AB];simp
 have A4:Below w.heap.size w W0:=by rw[<-AB];exact zA.alloc (by simp) _
 have HM:=hid (show Yx W0 w.heap.size x (pP A x c) (lP A' x c') by rw[<-AB];exact (Yx.new w x _ _).same (Below.heap_alloc _ _ _ (by simp)));have hB:Yt W0 (w.heap.size+1) 15:=by rw[<-AB];exact ⟨_,44,heap_alloc2_new w _ _,rfl⟩
 (try rw[AB]);clear AB;obtain ⟨c0,c1,c2,c3,c4,c5,c6,c7,c8,c9,c10,c11,c12,c13,c14,B0⟩:=HM.out.c;go_wp2_with fail;refine (Cl x.name W0 (by omega)).mono ?_;rintro e w1 ⟨rfl,A3⟩;have F1:=A3.size;replace A4:=A4.trans (A3.mono (show w.heap.size<=W0.heap.size by omega));replace HM:=hid (HM.out.keep A3 (by omega));replace hB:=hB.low A3 (by omega);replace AW:w.heap.size+2<=w1.heap.size:=(by omega);clear c0 c1 c2 c3 c4 c5 c6 c7 c8 c9 c10 c11 c12 c13 c14 B0 A3 F1;obtain ⟨c0,c1,c2,c3,c4,c5,c6,c7,c8,c9,c10,c11,c12,c13,c14,B0⟩:=HM.out.c;rw[hN];clear hN;go_wp2_with fail;refine (Lm (S:=S) x.ps (pP A x c) w1 (fun k hk=>by have:=hS k hk;omega) (HP.out.move (fun k hk=>A4.block k (hS k hk)) fun _ h=>h) HT.out.ne (by have:=HT.out.ps;omega)).mono ?_;rintro e w2 ⟨v2,rfl,B2,A0⟩;obtain ⟨A5,k5,rfl⟩:=B2.form;have AV:=A0.size;have F2:=HM.out.keep A0 (by omega);have q2:=F2.frozen 2;have k2:=F2.c.c2;have I6:=A4.trans (A0.mono (show w.heap.size<=w1.heap.size by omega));have IB:=hid HT.out.t;have KI:=hid (show Bi x=CE N {x with ps:=Cb x.ps} by unfold Bi;rw[HN.out]);clear c0 c1 c2 c3 c4 c5 c6 c7 c8 c9 c10 c11 c12 c13 c14 B0;obtain ⟨W3,B3⟩: ∃W3,w2.setCell (Ad w.heap.size 2) (.slice A5 (Cb x.ps).length k5)=W3:=⟨_,rfl⟩;obtain ⟨P,hP⟩: ∃P,Cb x.ps=P:=⟨_,rfl⟩;rw[hP] at B3 B2 IB KI;have PB:=hid (show Yx W3 w.heap.size {x with ps:=P} (.slice A5 P.length k5) (lP A' x c') from B3▸F2.setP _ _);have PF:Yt W3 (w.heap.size+1) 15:=B3▸(hB.low A0 (by omega)).setCell _ _ (by simp);have G4: ∀k,k≠w.heap.size->W3.heap[k]? =w2.heap[k]? :=fun k hk=>B3▸heap_setCell_other w2 _ k _ hk;have F3:W3.heap.size=w2.heap.size:=by rw[<-B3];simp[World.setCell]
 have A9:Below w.heap.size w W3:=B3▸I6.setCell (p:=(Ad w.heap.size 2)) zL _;have Q1:=hid (show Ah W3 (fun k=>w.heap.size+2<=k/\k<W3.heap.size) (.slice A5 P.length k5) P from B2.move (fun k hk=>G4 k (by have:=hk.1;omega)) fun k hk=>⟨by have:=hk.1;omega,by rw[F3];exact hk.2⟩);have Q2:=hid (show BY W3 S (lP A' x c') x.val.parts from HL.out.move (fun k hk=>A9.block k (hS k hk)) fun _ h=>h);have H0:w.heap.size+2<=W3.heap.size:=(by omega);clear B2 G4 I6 A0 HP HL HT A4 HM hB;go_upto_region 3 with fail;(try rw[hP]);(try rw[B3]);clear B3 hP q2 k2 F2 F3 AV AW;have AW:=H0;clear H0;rename_i ia ib ic id;revert E0 N H2 HN A5 k5 W3 P KI IB PB PF A9 Q1 Q2 ia ib ic id AW;exact HG.out
end
structure ZC (w:World) (G:Nat) (v:Vl) (qv:Value):Prop where
 c0:w.cell? (Ad G 0)=some (Iv v.type)
 c1:w.cell? (Ad G 1)=some (Sv v.text)
 c2:w.cell? (Ad G 2)=some qv
 c3:w.cell? (Ad G 3)=some (Iv v.st.y)
 c4:w.cell? (Ad G 4)=some (Iv v.st.mo)
 c5:w.cell? (Ad G 5)=some (Iv v.st.d)
 c6:w.cell? (Ad G 6)=some (Iv v.st.h)
 c7:w.cell? (Ad G 7)=some (Iv v.st.mi)
 c8:w.cell? (Ad G 8)=some (Iv v.st.s)
 c9:w.cell? (Ad G 9)=some (.bool v.st.zoned)
 c10:w.cell? (Ad G 10)=some (Iv v.st.zone)
 c11:w.cell? (Ad G 11)=some (Iv v.n)
theorem Yy.c {w:World} {G:Nat} {v:Vl} {qv:Value} (h:Yy w G v qv):ZC w G v qv:=by obtain ⟨t,h⟩:=h;have hc:=fun j=>cell_of_row w G j _ t (0,0) h;exact ⟨hc 0,hc 1,hc 2,hc 3,hc 4,hc 5,hc 6,hc 7,hc 8,hc 9,hc 10,hc 11⟩
theorem Yy.same {w w':World} {G:Nat} {v:Vl} {qv:Value} (h:Yy w G v qv) (e:w'.heap[G]? =w.heap[G]?):Yy w' G v qv:=let ⟨t,h⟩:=h;⟨t,e.trans h⟩
theorem Yy.lt {w:World} {G:Nat} {v:Vl} {qv:Value} (h:Yy w G v qv):G<w.heap.size:=let ⟨_,h⟩:=h;(Array.getElem?_eq_some_iff.1 h).1
theorem Lx (s:St):GQ s s=true:=by unfold GQ;simp
theorem P7 {w W0 wr:World} (h1:Below w.heap.size w W0) (h2:Below W0.heap.size W0 wr):Below w.heap.size w wr:=h1.trans (h2.mono h1.size)
theorem VU (w:World) (G n:Nat):Yt w.drew G n=Yt w G n:=rfl
theorem Ja (w:World) (o:Obj):Yt ((w.alloc o).alloc (.cells Z15 44)) (w.heap.size+1) 15:=⟨_,44,heap_alloc2_new w _ _,rfl⟩
theorem Jb (w:World) (o:Obj):Yt ((w.alloc (.cells Z15 44)).alloc o) w.heap.size 15:=⟨_,44,heap_alloc2_old w _ _,rfl⟩
theorem VV {W:World} {b:Nat} (cs:Array Value) (h:Yt W (b+1) 15):Yt (W.setRow b cs) (b+1) 15:=h.same (AH W b cs (by omega))
theorem VW {W:World} {b:Nat} (cs:Array Value) (h:Yt W b 15):Yt (W.setRow (b+1) cs) b 15:=h.same (AH W (b+1) cs (by omega))
theorem XT (a v:Value):Instr.storeAt 42 a v=(do storeVar 42 (<-Instr.sureAddr a) v):=rfl
theorem Tv (W:World) (G:Nat) (cs:Array Value) (b o:Nat) (R0:b≠G):(W.setRow G cs).cell? (Ad b o)=W.cell? (Ad b o):=World.cell?_of_block (w:=W) (a:=(Ad b o)) (AH W G cs R0)
theorem Ah.at_ {w:World} {S:Nat->Prop} {ps:List Pm} {A:Option Addr} {c k:Nat} (h:Ah w S (.slice A ps.length c) ps) (hk:k<ps.length):
 ∃b o p u,A=some (Ad b o)/\S b/\ps.drop k=p::ps.drop (k+1)/\w.cell? (Ad b (o+k*2))=some (Sv p.name)/\w.cell? (Ad b (o+k*2+1))=some u/\Bj w S u p.vals:=by
 obtain ⟨vs,⟨A',c',e,hc,h1⟩,h2⟩:=h;simp only[Value.slice.injEq] at e;obtain ⟨b,o,e2,hl,h1⟩:=h1 (by omega);have c0:=h1 k hk 0 (by omega);have c1:=h1 k hk 1 (by omega);have h2:=h2 k hk;have hg:ps.getD k default=ps[k]:=(by simp[List.getD,List.getElem?_eq_getElem hk]);rw[hg] at h2;simp only[hg] at c0;exact ⟨b,o,ps[k],vs k,e.1.trans e2,hl,List.drop_eq_getElem_cons hk,by simpa using c0,by simpa using c1,h2⟩
def Ft (names:List Str) (p:Pm):Bool:=names.any fun n=>AF p.name n
def EW (names:List Str) (ps:List Pm):List Pm:=ps.filter fun p=> !Ft names p
theorem QL (n:Str) (ps:List Pm):EW [n] ps=noP n ps:=by
 unfold EW noP Ft
 congr 1
 funext p;simp
theorem MA (a b c:Str) (ps:List Pm):EW [a,b,c] ps=noP c (noP b (noP a ps)):=by
 unfold EW noP Ft;rw[List.filter_filter,List.filter_filter]
 congr 1
 funext p;simp only[List.any_cons,List.any_nil,Bool.or_false,Bool.not_or];cases AF p.name a<;>cases AF p.name b<;>cases AF p.name c<;>rfl
theorem MB {names:List Str} {l:List Pm} {i:Nat} {p:Pm} (h:l[i]? =some p):EW names (l.take (i+1))=EW names (l.take i)++(if Ft names p then [] else [p]):=by
 unfold EW;rw[List.take_add_one,h,List.filter_append]
 congr 1
 cases hg:Ft names p<;>simp[hg]
theorem K3 {S:Nat->Prop} (ps:List Pm) (names:List Str) (v u:Value) (w:World) (hS:sW S w) (h:Ah w S v ps) (hu:CD w w.heap.size u names) (hn:ps.length<=1000000000) (Y3:names.length<=1073741824) (E1: ∀p∈ps,p.name.length<=1073741824) (L2: ∀n∈names,n.length<=1073741824):
 Calls prog 30 #[v,u] w fun e w'=> ∃(v':Value) (L:List (Pm×Value)),e= .returned v'/\Yr w' w.heap.size S v' (EW names ps) L/\Below w.heap.size w w':=by
 obtain ⟨A,c,rfl⟩:=h.form;obtain ⟨A',c',rfl⟩:=hu.form;have HP:=hid h;have HU:=hid hu;have F4:=hid E1;have S1:=hid L2;clear h hu E1 L2;go_enter func30,ntmps30;go_wp2
 go_loopw [5,7,8,10,13] (fun s5 _ _ _ H3 wr=> ∃(i:Nat) (v:Value) (L:List (Pm×Value)),H3=Iv i/\i<=ps.length/\v=s5/\Hid (Yr wr w.heap.size S v (EW names (ps.take i)) L/\Below w.heap.size w wr)) (fun _ _ _ _ H3 _=>ps.length-(intOf H3).toNat);case atStart=>exact ⟨0,_,[],rfl,by omega,rfl,hid ⟨⟨BN.nil _ _ _ _,rfl,fun _ h=>by simp at h⟩,zB⟩⟩
 case round=>
  obtain ⟨i,v,L,rfl,hi,rfl,HI⟩:=hrel;have SS:=HI.out.2.size;by_cases T5:i<ps.length
  ·obtain ⟨b,o,p,uu,rfl,TT,L4,c0,c1,DA⟩:=HP.out.at_ T5;have AL:=hS b TT;have d0:=(HI.out.2.cell (p:=(Ad b (o+i*2))) AL).trans c0;have d1:=(HI.out.2.cell (p:=(Ad b (o+i*2+1))) AL).trans c1;have H4:ps[i]? =some p:=by
    have:=congrArg List.head? L4
    rwa [List.head?_drop] at this
   have E1:=F4.out p (List.mem_of_getElem? H4);have FB:=hid (MB (names:=names) H4);have H9:=hid (DA.move (w':=wr) (S':=S) (fun k hk=>HI.out.2.block k (hS k hk)) fun _ h=>h);obtain ⟨B,d,rfl⟩:=DA.form;have L5:L.length<=1073741824:=by have h1:=HI.out.1.len;have h2:=List.length_filter_le (fun p=> !Ft names p) (ps.take i);rw[List.length_take] at h2;unfold EW at h1;omega
   have TX:=hid L5;obtain ⟨bq,G1⟩: ∃bq,wr.heap.size=bq:=⟨_,rfl⟩;obtain ⟨Wr,HA,A3,p0,p1,L6⟩: ∃W:World,wr.alloc (.cells #[Sv p.name,vP B p d] 57)=W/\Below wr.heap.size wr W/\W.cell? (Ad bq 0)=some (Sv p.name)/\W.cell? (Ad bq 1)=some (vP B p d)/\bq<W.heap.size:=
    ⟨_,rfl,zA,by rw[<-G1];simp,by rw[<-G1];simp,by rw[<-G1];simp⟩
   clear DA L4 H4 c0 c1 L5;go_wp2_with fail;(try rw[HA]);go_wp2_with fail;(try rw[HA]);(try rw[G1]);have U1:=hid (A3);have U2:=HI.out.2.trans (A3.mono SS);have YB:=A3.size;clear d0 d1 HA A3;go_loopw [8,10,19] (fun s8 _ HB V6=> ∃j:Nat,j<=names.length/\HB=Iv j/\s8= .bool (Ft (names.take j) p)/\Below Wr.heap.size Wr V6) (fun _ _ HB _=>names.length-(intOf HB).toNat);case atStart=>exact ⟨0,by omega,rfl,rfl,zB⟩
   case round=>
    obtain ⟨j,hj,rfl,rfl,A0⟩:=hrel;have L7:=A0.size;have q0:=(A0.cell (p:=(Ad bq 0)) L6).trans p0;have q1:=(A0.cell (p:=(Ad bq 1)) L6).trans p1;have E2:=U2.trans (A0.mono (show w.heap.size<=Wr.heap.size by omega));by_cases VX:j<names.length
    ·obtain ⟨b2,o2,nn,rfl,DD,L8,e0⟩:=HU.out.at_ VX;have f0:=(E2.cell (p:=(Ad b2 (o2+j))) DD).trans e0;have HD:names[j]? =some nn:=by
      have:=congrArg List.head? L8
      rwa [List.head?_drop] at this
     have Z0:=S1.out nn (List.mem_of_getElem? HD);have HF:=hid (show Ft (names.take (j+1)) p=(Ft (names.take j) p||AF p.name nn) from by unfold Ft;rw[List.take_add_one,HD,List.any_append];simp);obtain ⟨bg,HH⟩: ∃bg,Ft (names.take j) p=bg:=⟨_,rfl⟩;rw[HH] at HF;rw[HH];clear L8 e0 HD HH;cases bg with
     |true=>
      go_wp2
      go_roundw;case rel=>exact ⟨j+1,by omega,by go_num,by rw[HF.out];rfl,A0⟩
      case measure=>simp[intOf];omega
     |false=>
      go_wp2_with fail;refine (Ay p.name nn wr (by omega) (by omega)).mono ?_;rintro e w5 ⟨rfl,L9⟩;have LB:=A0.trans (L9.mono L7);clear L9;go_wp2
      go_roundw;case rel=>exact ⟨j+1,by omega,by go_num,by rw[HF.out];rfl,LB⟩
      case measure=>simp[intOf];omega
    ·have W1:j=names.length:=(by omega);subst W1;rw[List.take_length];have E3:=hid (U1.out.trans (A0.mono (by omega)));have G2:=hid (HI.out.1.low E3.out (fun k hk=>by have:=hS k hk;omega));have LL:=hid (H9.out.move (w':=wr) (S':=S) (fun k hk=>E3.out.block k (by have:=hS k hk;omega)) fun _ h=>h);obtain ⟨VA,VC,W4⟩:=G2.out.row.form;subst W4;cases hg:Ft names p with
     |true=>
      rw[hg] at FB;clear hg;go_wp2
      go_roundw;case rel=>exact ⟨i+1,_,L,by go_num,by omega,rfl,hid ⟨by rw[FB.out];simpa using G2.out,E2⟩⟩
      case measure=>simp[intOf];omega
     |false=>
      rw[hg] at FB;clear hg;have M2:=hid (G2.out.low ((Below.refl wr.heap.size wr).alloc zL (.cells #[Sv p.name,vP B p d] 57)) (fun k hk=>by have:=hS k hk;omega));have W5:=hid (LL.out.move (w':=wr.alloc (.cells #[Sv p.name,vP B p d] 57)) (S':=S) (fun k hk=>Below.heap_alloc _ _ _ (by have:=hS k hk;omega)) fun _ h=>h);go_wp2_with (at_builtin;refine AU rfl _ _ 37 rfl w.heap.size 57 (.agg #[.string ⟨#[]⟩,.slice none 0 0]) 2 40 underlying37 EU rfl (by decide) (by decide) _ L.length _ rfl (G2.out.row.row.alloc _) wr.heap.size 1 [Sv p.name,vP B p d] rfl rfl (Ll _ _ _ _) (by simp[Value.oneCell']) TX.out (by simp;omega) ?_;intro g cap w8 A8 AN E9 _ AL;refine Hid.out ?_);refine hid ?_;have HJ:=hid (AL.out w (E2.alloc (by omega) _));have W6:=hid (M2.out.snoc (p:=⟨p.name,p.vals⟩) W5.out AN (fun k hk=>⟨by have:=hS k hk;simp;omega,Ct M2.out.row.row (hS k hk)⟩) A8);clear A8 AN E9 AL;go_wp2
      go_roundw;case rel=>exact ⟨i+1,_,_,by go_num,by omega,rfl,hid ⟨by rw[FB.out];exact W6.out,HJ.out⟩⟩
      case measure=>simp[intOf];omega
  ·have W7:i=ps.length:=(by omega);subst W7;go_wp2
   go_ret;exact ⟨_,L,rfl,by have:=HI.out.1;rwa [List.take_length] at this,HI.out.2⟩
theorem Je {w:World} {ops:Array Oper} {rest:List Oper} {o:Oper} {a:Act} {Q:Exit->Act->World->Prop} (W8:o.guard=none) (s x:Operand) (T:TypeId)
 (ho:o.op= .call {callee:= .builtin .append,args:= #[s,x],argTypes:= #[T,T]})
 (E:TypeId) (z:Value) (size bytes:Nat) (hT:prog.underlying T=some (.slice E)) (HK:(prog.info? E).map (fun i=>(i.zero,i.size,i.bytes))=some (some z,size,bytes))
 (hs:a.eval s= .slice none 0 0) (c:Nat) (hx:a.eval x= .slice none 0 c)
 (h:wpList prog ops Q rest (a.put o.dst (.slice none 0 0)) w):wpList prog ops Q (o::rest) a w:=by
 obtain ⟨i0,hi,AW,F1,AV⟩:=info_parts HK;have hr: ∀ty,(Builtin.append_ #[T,T] ty #[.slice none 0 0,.slice none 0 c]).run prog w= .ok (.slice none 0 0) w:=by intro ty;have MM:Src prog i0.size T (.slice none 0 c) 0 [] w:=Src.ofNil w hT c;exact run_append_nothing w T T ty E i0 hT hi none 0 0 zL _ MM
 refine wpList_plain W8 fun _ hK=> ?_;unfold Oper.wp execOp;simp only[ho,resolve,invoke,builtin,Sem.run_bind,Sem.run_pure,Result.andThen_ok,List.map_toArray,List.map_cons,List.map_nil,hs,hx,hr];exact hK _ _ h
theorem R6 {w:World} {S:Nat->Prop} {ps:List Pm} {A:Option Addr} {c:Nat} (h:Ah w S (.slice A ps.length c) ps):
 ∃L:List (Pm×Value),L.map (·.1)=ps/\(∀q∈L,Bj w S q.2 q.1.vals)/\(0<ps.length-> ∃b o,A=some (Ad b o)/\S b/\ ∀i,i<ps.length-> ∀j,j<2->w.cell? (Ad b (o+i*2+j))=((L.map Ya).getD i [])[j]?):=by
 obtain ⟨vs,⟨A',c',e,hc,B1⟩,W9⟩:=h;simp only[Value.slice.injEq] at e;have N0:((List.range ps.length).map fun i=>(ps.getD i default,vs i)).length=ps.length:=(by simp);have N1: ∀i,i<ps.length->(((List.range ps.length).map fun i=>(ps.getD i default,vs i)).map Ya).getD i []=Ya (ps.getD i default,vs i):=fun i hi=>by rw[Aw Ya _ i (default,undef) [] (by rw[N0];exact hi),Aw (fun i=>(ps.getD i default,vs i)) _ i 0 _ (by simpa using hi)];simp[List.getD,List.getElem?_range hi]
 refine ⟨(List.range ps.length).map fun i=>(ps.getD i default,vs i), ?_,fun q hq=> ?_,fun h0=> ?_⟩
 ·apply List.ext_getElem
  ·simp
  ·intro i h1 h2;simp[List.getD,List.getElem?_eq_getElem h2]
 ·obtain ⟨i,hi,rfl⟩:=List.mem_map.1 hq;exact W9 i (List.mem_range.1 hi)
 ·obtain ⟨b,o,e2,hb,hc⟩:=B1 h0;refine ⟨b,o,e.1.trans e2,hb,fun i hi j hj=> ?_⟩;rw[hc i hi j hj,N1 i hi];rcases (show j=0∨j=1 by omega) with rfl|rfl<;>rfl
def Vc (S:Nat->Prop) (ps:List Pm) (N V:Str) (w:World) (e:Ending) (w':World):Prop:= ∃v',e= .returned v'/\Ah w' (fun k=>S k∨Cy w w' k) v' (ps++[⟨N,[V]⟩])/\Below w.heap.size w w'
theorem QM {S:Nat->Prop} {ps:List Pm} {N V:Str} {w w2 w8:World} {v2 v8:Value} {L:List (Pm×Value)} (hS:sW S w) (hb:Below w.heap.size w w2) (hO:Yr w2 w.heap.size S v2 ps L)
 (AN:((w2.alloc (.cells #[Sv V] 9)).alloc (.cells #[Sv N,.slice (some (Ad w2.heap.size 0)) 1 1] 57)).grownBy w8 v2.ownBlock) (HJ:Below w.heap.size w w8)
 (A8:w8.ownsRow w.heap.size 57 2 v8 (L.length+1) ((L.map Ya).flatten++[Sv N,.slice (some (Ad w2.heap.size 0)) 1 1])):Vc S ps N V w (.returned v8) w8:=by
 have AV:=hb.size;have WA:=AN.size;simp only[World.size_alloc] at WA;have A9:=(Below.refl w2.heap.size w2).alloc zL (.cells #[Sv V] 9);have DT:=A9.alloc (by simp) (.cells #[Sv N,.slice (some (Ad w2.heap.size 0)) 1 1] 57);have WF:Yr ((w2.alloc (.cells #[Sv V] 9)).alloc (.cells #[Sv N,.slice (some (Ad w2.heap.size 0)) 1 1] 57)) w.heap.size (fun k=>S k∨k=w2.heap.size) v2 ps L:=
  ⟨hO.row.low DT,hO.eq,fun q hq=>(hO.strs q hq).move (fun k hk=>DT.block k (by have:=hS k hk;omega)) fun _ hk=> .inl hk⟩
 have hu:Bj ((w2.alloc (.cells #[Sv V] 9)).alloc (.cells #[Sv N,.slice (some (Ad w2.heap.size 0)) 1 1] 57)) (fun k=>S k∨k=w2.heap.size) (.slice (some (Ad w2.heap.size 0)) 1 1) [V]:=
  ⟨_,1,rfl,Nat.le_refl _,fun _=>⟨w2.heap.size,0,rfl,.inr rfl,fun i hi j hj=>by
   obtain rfl:i=0:=by have:i<1:=hi;omega
   obtain rfl:j=0:=(by omega);simp⟩⟩
 have hn:=WF.snoc (p:=⟨N,[V]⟩) hu AN (fun k hk=>by
  rcases hk with hk|hk
  ·exact ⟨by have:=hS k hk;simp;omega,Ct hO.row.row (hS k hk)⟩
  ·refine ⟨by simp;omega,fun e=> ?_⟩;have:=(hO.row.row.lt k e).2;omega) A8
 refine ⟨_,rfl,hn.x (fun k hk=> ?_) (fun k h1 h2=> .inr ⟨h1,h2⟩),HJ⟩;rcases hk with hk|hk
 ·exact .inl hk
 ·exact .inr ⟨by omega,by omega⟩
theorem QN {S:Nat->Prop} (ps:List Pm) (N V:Str) (ad:Addr) (c:Nat) (w:World) (hS:sW S w) (h:Ah w S (.slice (some ad) ps.length c) ps) (hn:ps.length<=1000000000):
 Calls prog 16 #[.slice (some ad) ps.length c,Sv N,Sv V] w (Vc S ps N V w):=by
 obtain ⟨L,hL,DA,B1⟩:=R6 h;have HQ:L.length=ps.length:=(by rw[<-hL,List.length_map]);have HL:=hid hL;have H9:=hid DA;have H1:=hid (show∀x∈L.map Ya,∀u∈x,u.oneCell'=true from fun x hx u hu=>by
  obtain ⟨q,hq,rfl⟩:=List.mem_map.1 hx;obtain ⟨A',c',hf⟩:=(DA q hq).form;rcases List.mem_cons.1 hu with rfl|hu
  ·rfl
  ·rw[List.mem_singleton.1 hu,hf];rfl)
 have HC:=hid B1;have HE:=hid (show∀x∈L.map Ya,x.length=2 from fun x hx=>by obtain ⟨q,_,rfl⟩:=List.mem_map.1 hx;rfl);clear hL DA B1 h;go_enter func16,ntmps16;go_wp2_with (at_builtin;refine Db rfl _ _ 37 rfl w.heap.size 57 (.agg #[.string ⟨#[]⟩,.slice none 0 0]) 2 40 underlying37 EU rfl (by decide) (by decide) (.slice none 0 0) rfl (World.ownsRow_nil _ _ _ _) ad ps.length c (L.map Ya) rfl (by rw[List.length_map,HQ]) HE.out (fun h=>by obtain ⟨b,o,e,_,hc⟩:=HC.out h;exact ⟨b,o,Option.some.inj e,hc⟩) H1.out (by omega) zL ?_;intro v2 w2 B2 DD;refine Hid.out ?_);refine hid ?_;have A0:=DD.out w zB;have AV:=A0.size;have HO:=hid (show Yr w2 w.heap.size S v2 ps L from ⟨by rw[HQ];exact B2,HL.out,fun q hq=>(H9.out q hq).move (fun k hk=>A0.block k (hS k hk)) fun _ h=>h⟩);obtain ⟨A2,c2,rfl⟩:=B2.form;have E3:=hid A0;clear B2 DD A0;go_wp2_with (at_builtin;refine AU rfl _ _ 37 rfl w.heap.size 57 (.agg #[.string ⟨#[]⟩,.slice none 0 0]) 2 40 underlying37 EU rfl (by decide) (by decide) _ L.length _ rfl ((HO.out.row.row.alloc _).alloc _) (w2.heap.size+1) 1 [Sv N,.slice (some (Ad w2.heap.size 0)) 1 1] rfl rfl (E6 _ _ _ _ _ (by simp)) (by simp[Value.oneCell']) (by omega) (by simp;omega) ?_;intro g cap w8 A8 AN E9 _ AL;refine Hid.out ?_);refine hid ?_;have H8:=hid (QM hS E3.out HO.out AN (AL.out w ((E3.out.alloc AV _).alloc (by simp;omega) _)) A8);clear A8 AN E9 AL;go_wp2
 go_ret;have h8:=H8.out;rw[HQ] at h8;exact h8
theorem QO {S:Nat->Prop} (N V:Str) (c:Nat) (w:World) (hS:sW S w):
 Calls prog 16 #[.slice none 0 c,Sv N,Sv V] w (Vc S [] N V w):=by
 have HO:=hid (show Yr w w.heap.size S (.slice none 0 0) [] [] from ⟨BN.nil _ _ _ _,rfl,fun _ h=>by simp at h⟩);go_enter func16,ntmps16;go_wp2_with (at_builtin;refine Je rfl _ _ 37 rfl 57 (.agg #[.string ⟨#[]⟩,.slice none 0 0]) 2 40 underlying37 EU rfl c rfl ?_;refine Hid.out ?_);refine hid ?_;go_wp2_with (at_builtin;refine AU rfl _ _ 37 rfl w.heap.size 57 (.agg #[.string ⟨#[]⟩,.slice none 0 0]) 2 40 underlying37 EU rfl (by decide) (by decide) (.slice none 0 0) 0 [] rfl ((HO.out.row.row.alloc _).alloc _) (w.heap.size+1) 1 [Sv N,.slice (some (Ad w.heap.size 0)) 1 1] rfl rfl (E6 _ _ _ _ _ (by simp)) (by simp[Value.oneCell']) (by omega) (by simp;omega) ?_;intro g cap w8 A8 AN E9 _ AL;refine Hid.out ?_);refine hid ?_;have H8:=hid (QM hS zB HO.out AN (AL.out w (zA.alloc (by simp) _)) A8);clear A8 AN E9 AL;go_wp2
 go_ret;exact H8.out
theorem Jf {S:Nat->Prop} (ps:List Pm) (N V:Str) (v:Value) (w:World) (hS:sW S w) (h:Ah w S v ps) (hn:ps.length<=1000000000):
 Calls prog 16 #[v,Sv N,Sv V] w (Vc S ps N V w):=by
 obtain ⟨A,c,rfl⟩:=h.form;cases A with
 |some ad=>exact QN ps N V ad c w hS h hn
 |none=>
  have:ps=[]:=by
   rcases Nat.eq_zero_or_pos ps.length with h0|h0
   ·exact List.eq_nil_of_length_eq_zero h0
   ·obtain ⟨b,o,p,u,e,_⟩:=h.at_ (k:=0) h0;exact absurd e (by simp)
  subst this;exact QO N V c w hS
def XY:Str:=[32,65,71,69,78,84,32,67,76,65,83,83,32,77,65,73,76,69,82,32,78,65,77,69,32,83,79,82,84,45,83,84,82,73,78,71,32,76,65,66,69,76,32]
theorem B9 (U:Str) (x:Bool) (hU: ∀c∈U,c≠32) (h:Eu U=x) (w:World) (hL:LD w):Calls prog 33 #[Sv XY,.string ⟨(YD U).toArray⟩] w fun e w'=>e= .returned (.bool x)/\w'=w:=
 Ir XY U x (by rw[<-h];exact PL U hU) w hL (by decide)
theorem MF (a:Array Obj) (o:Obj) (f:Obj->Obj):(a.push o).modify a.size f=a.push (f o):=by
 apply Array.ext
 ·simp
 ·intro i h1 h2;rw[Array.getElem_modify];by_cases h:a.size=i
  ·subst h;simp
  ·rw[if_neg h];have hi:i<a.size:=by simp at h2;omega
   rw[Array.getElem_push_lt hi,Array.getElem_push_lt hi]
theorem N7 (w:World) (old cs:Array Value) (t:TypeId):(w.alloc (.cells old t)).setRow w.heap.size cs=w.alloc (.cells cs t):=by
 have h:=MF w.heap (.cells old t) (fun o=>match o with
  | .cells _ elem frozen=> .cells cs elem frozen
  |o=>o)
 show ({w with heap:=_}:World)={w with heap:=_}
 congr 1
theorem We (w:World) (a4:ByteArray) (p5:Option Addr) (l5 c5:Nat) (k3 k6 k7 k8 k9 HR HS HW HX:IntKind) (a3 a6 a7 a8 a9 HY HZ I0 I1:Int) (I2:Bool):
 (Yz (Ad w.heap.size 0) (#[.int k3 a3,.string a4,.slice p5 l5 c5,.int k6 a6,.int k7 a7,.int k8 a8,.int k9 a9,.int HR HY,.int HS HZ,.bool I2,.int HW I0,.int HX I1])).run prog (w.alloc (.cells #[Iv 0,.string ⟨#[]⟩,.slice none 0 0,Iv 0,Iv 0,Iv 0,Iv 0,Iv 0,Iv 0,.bool false,Iv 0,Iv 0] 42))= .ok () (w.alloc (.cells #[.int k3 a3,.string a4,.slice p5 l5 c5,.int k6 a6,.int k7 a7,.int k8 a8,.int k9 a9,.int HR HY,.int HS HZ,.bool I2,.int HW I0,.int HX I1] 42)):=by
 have h2:=run_storeCells_at (P:=prog) w.heap.size 0 42 (#[.int k3 a3,.string a4,.slice p5 l5 c5,.int k6 a6,.int k7 a7,.int k8 a8,.int k9 a9,.int HR HY,.int HS HZ,.bool I2,.int HW I0,.int HX I1]:Array Value).toList 0 _ _ (heap_alloc_new w (.cells #[Iv 0,.string ⟨#[]⟩,.slice none 0 0,Iv 0,Iv 0,Iv 0,Iv 0,Iv 0,Iv 0,.bool false,Iv 0,Iv 0] 42)) (by simp) (by simp[Value.oneCell']);have h3:(Instr.sureAddr (.pointer (some (Ad w.heap.size 0)))).run prog (w.alloc (.cells #[Iv 0,.string ⟨#[]⟩,.slice none 0 0,Iv 0,Iv 0,Iv 0,Iv 0,Iv 0,Iv 0,.bool false,Iv 0,Iv 0] 42))= .ok (Ad w.heap.size 0) (w.alloc (.cells #[Iv 0,.string ⟨#[]⟩,.slice none 0 0,Iv 0,Iv 0,Iv 0,Iv 0,Iv 0,Iv 0,.bool false,Iv 0,Iv 0] 42)):=rfl;rw[Yz,Instr.storeAt,Sem.run_bind,h3,Result.andThen_ok];simp[storeVar,Value.cells,sizeOf42,h2,N7]
section
attribute [local go_sem ↓] zPe zQe
attribute [local go_sem] XR WH XS WI We Xm Xp
noncomputable def CS {S:Nat->Prop} (x:It) (A:Option Addr) (c:Nat) (A':Option Addr) (c':Nat) (w:World):
 Put (LD w->(sW S w)->Ah w S (pP A x c) x.ps->BY w S (lP A' x c') x.val.parts->Y4 x->(∀c∈Xs x.name,c≠32)->Calls prog 17 #[Yp x (pP A x c) (lP A' x c')] w (BJ S w (CE (Xs x.name) x))):=by
 apply Put.mk;intro hG;have HG:=PG.mk hG;clear hG;intro hL hS hp hl hT I3;have HP:=hid hp;have I4:=hid hl;have HT:=hid hT;have E0:x.name.length<=10000:=hT.name;have X1:=(Kx hT).1;have F4:=hid (Kx hT).2;clear hp hl hT;simp only[Yp];obtain ⟨N,hN⟩: ∃N,Xs x.name=N:=⟨_,rfl⟩;have H2:N.length<=10000:=by rw[<-hN,FU];exact E0
 rw[hN] at I3;have X2:=hid I3;have HN:=hid hN;clear I3;go_enter func17,ntmps17;go_upto_region 1 with fail;obtain ⟨W0,AB⟩: ∃W0,(w.alloc (.cells (IA x (pP A x c) (lP A' x c')) 44)).alloc (.cells Z15 44)=W0:=⟨_,rfl⟩;have AW:W0.heap.size=w.heap.size+2:=by rw[<-AB];simp
 have A4:Below w.heap.size w W0:=by rw[<-AB];exact zA.alloc (by simp) _
 have HM:=hid (show Yx W0 w.heap.size x (pP A x c) (lP A' x c') by rw[<-AB];exact (Yx.new w x _ _).same (Below.heap_alloc _ _ _ (by simp)));have hB:Yt W0 (w.heap.size+1) 15:=by rw[<-AB];exact ⟨_,44,heap_alloc2_new w _ _,rfl⟩
 (try rw[AB]);clear AB;obtain ⟨c0,c1,c2,c3,c4,c5,c6,c7,c8,c9,c10,c11,c12,c13,c14,B0⟩:=HM.out.c;go_wp2_with fail;refine (Hv x.name W0 (by omega)).mono ?_;rintro e w1 ⟨rfl,A3⟩;have F1:=A3.size;replace A4:=A4.trans (A3.mono (show w.heap.size<=W0.heap.size by omega));replace HM:=hid (HM.out.keep A3 (by omega));replace hB:=hB.low A3 (by omega);replace AW:w.heap.size+2<=w1.heap.size:=(by omega);clear c0 c1 c2 c3 c4 c5 c6 c7 c8 c9 c10 c11 c12 c13 c14 B0 A3 F1;obtain ⟨c0,c1,c2,c3,c4,c5,c6,c7,c8,c9,c10,c11,c12,c13,c14,B0⟩:=HM.out.c;rw[hN];clear hN;obtain ⟨V5,I5⟩: ∃V5,w1.heap.size=V5:=⟨_,rfl⟩;obtain ⟨W2,N2,A0,HV,AV⟩: ∃W:World,w1.alloc (.cells (VA x.val (lP A' x c')) 42)=W/\Below w1.heap.size w1 W/\Hid (Yy W w1.heap.size x.val (lP A' x c'))/\W.heap.size=w1.heap.size+1:=
  ⟨_,rfl,zA,hid ⟨42,heap_alloc_new w1 _⟩,by simp⟩
 rw[I5] at A0 HV AV AW;replace A4:=A4.trans (A0.mono (show w.heap.size<=V5 by omega));replace HM:=hid (HM.out.keep A0 (by omega));replace hB:=hB.low A0 (by omega);have N3:=hid (HP.out.move (w':=W2) (S':=S) (fun k hk=>A4.block k (hS k hk)) fun _ h=>h);have OV:=hid N2;have P1:=hid I5;clear N2 I5 A0;go_upto_region 3 with fail;(try rw[OV.out]);(try rw[P1.out]);clear c0 c1 c2 c3 c4 c5 c6 c7 c8 c9 c10 c11 c12 c13 c14 B0;obtain ⟨c0,c1,c2,c3,c4,c5,c6,c7,c8,c9,c10,c11,c12,c13,c14,B0⟩:=HM.out.c;go_wp2_with fail;refine (D0 x.ps AE A c W2 (N3.out.pms fun k hk=>by have:=hS k hk;omega) (by omega) (fun p hp=>Nat.le_trans (F4.out p hp) (by omega)) (by decide)).mono ?_;rintro e w3 ⟨⟨E,rfl,hE⟩,A9⟩;have HE:=hE;clear hE;have F3:=A9.size;replace A4:=A4.trans (A9.mono (show w.heap.size<=W2.heap.size by omega));replace HM:=hid (HM.out.keep A9 (by omega));replace hB:=hB.low A9 (by omega);replace HV:=hid (HV.out.same (A9.block V5 (by omega)));replace HP:=hid (HP.out.move (w':=w3) (S':=S) (fun k hk=>A4.block k (hS k hk)) fun _ h=>h);replace I4:=hid (I4.out.move (w':=w3) (S':=S) (fun k hk=>A4.block k (hS k hk)) fun _ h=>h);have X3:w.heap.size+3<=w3.heap.size:=(by omega);have XB:w.heap.size+2<=V5:=AW;have P2:V5<w3.heap.size:=(by omega);have Y1:=hL.below A4;clear c0 c1 c2 c3 c4 c5 c6 c7 c8 c9 c10 c11 c12 c13 c14 B0 A9 N3 F3 AV AW;clear OV P1;rename_i ia ib ic id;revert HT E0 X1 F4 N H2 X2 HN V5 ia ib ic id w3 E HE A4 HM hB HV HP I4 X3 XB P2 Y1;exact HG.out
end
theorem CJ {S:Nat->Prop} (P:List Pm) (v:Value) (w:World) (hS:sW S w) (h:Ah w S v P) (hn:P.length<=100000) (E1: ∀p∈P,p.name.length<=100000):
 Calls prog 30 #[v,.slice (some (Ad w.heap.size 0)) 1 1] (w.alloc (.cells #[.string ⟨#[86,65,76,85,69]⟩] 9)) fun e w'=> ∃A n c,e= .returned (.slice A n c)/\Ah w' (fun k=>S k∨(w.heap.size<=k/\k<w'.heap.size)) (.slice A n c) (noP AA P)/\Below w.heap.size w w':=by
 have hb:=(Below.refl w.heap.size w).alloc zL (.cells #[.string ⟨#[86,65,76,85,69]⟩] 9);have hu:CD (w.alloc (.cells #[.string ⟨#[86,65,76,85,69]⟩] 9)) (w.alloc (.cells #[.string ⟨#[86,65,76,85,69]⟩] 9)).heap.size (.slice (some (Ad w.heap.size 0)) 1 1) [AA]:=
  ⟨_,1,rfl,Nat.le_refl _,fun _=>⟨w.heap.size,0,rfl,by simp,fun i hi j hj=>by
   obtain rfl:i=0:=by have:i<1:=hi;omega
   obtain rfl:j=0:=(by omega);simp[AA]⟩⟩
 refine (K3 P [AA] v _ _ (fun k hk=>by have:=hS k hk;simp;omega) (h.move (fun k hk=>hb.block k (hS k hk)) fun _ h=>h) hu (by omega) (by simp) (fun p hp=>Nat.le_trans (E1 p hp) (by decide)) (by simp[AA])).mono ?_;rintro e w1 ⟨v1,L1,rfl,hO,A3⟩;obtain ⟨A1,k1,rfl⟩:=hO.row.form;refine ⟨A1,_,k1,rfl, ?_,hb.trans (A3.mono (by simp))⟩;rw[<-QL];exact hO.x (fun k hk=> .inl hk) (fun k h2 h3=> .inr ⟨by simp at h2;omega,h3⟩)
theorem Jh {S:Nat->Prop} (P:List Pm) (K:Str) (v:Value) (w:World) (hS:sW S w) (h:Ah w S v P) (hn:P.length<=100000):
 Calls prog 16 #[v,.string ⟨#[86,65,76,85,69]⟩,Sv K] w fun e w'=> ∃A n c,e= .returned (.slice A n c)/\Ah w' (fun k=>S k∨(w.heap.size<=k/\k<w'.heap.size)) (.slice A n c) (P++[⟨AA,[K]⟩])/\Below w.heap.size w w':=by
 refine (Jf P AA K v w hS h (by omega)).mono ?_;rintro e w1 ⟨v1,rfl,hO,A3⟩;obtain ⟨A1,k1,rfl⟩:=hO.form;exact ⟨A1,_,k1,rfl,hO,A3⟩
theorem GD {N:Str} (h:Eu N=true):(N==BV)=false/\(N==CN)=false/\(N==Bn)=false/\(N==K8)=false:=by simp only[Eu,Bool.or_eq_true,beq_iff_eq] at h;rcases h with ((((h|h)|h)|h)|h)|h<;>subst h<;>decide
theorem Ji {N:Str} {x:It} (h:Eu N=true):CE N x=Cx N x:=by obtain ⟨h0,h1,h2,h3⟩:=GD h;unfold CE;rw[if_neg (by simp[KH,h0,h1,h2,h3]),if_pos h]
theorem MG (N:Str):((⟨#[88,45]⟩:ByteArray)++⟨N.toArray⟩)=⟨(YY++N).toArray⟩:=by rw[show (⟨#[88,45]⟩:ByteArray)=⟨YY.toArray⟩ from rfl,AM]
end Go.Proofs.YtjhpdljphchfaaaGreatDoor
