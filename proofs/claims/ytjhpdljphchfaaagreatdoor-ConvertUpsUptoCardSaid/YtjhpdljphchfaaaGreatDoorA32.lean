/- A part of the proof of ConvertUps: Rule and Names of the reference walked. -/
import Derived.Test.YtjhpdljphchfaaaGreatDoorA26
import Derived.Test.YtjhpdljphchfaaaGreatDoorA31
import Derived.Laws.ResultCell
import Derived.Test.YtjhpdljphchfaaaGreatDoorA21
import Derived.Test.YtjhpdljphchfaaaGreatDoorA18
set_option maxHeartbeats 40000000
set_option maxRecDepth 1000000
set_option linter.all false
namespace Go.Proofs.YtjhpdljphchfaaaGreatDoor
open Go.RowKit
open Go.Proofs.Tryz
theorem EH {W:World} {S j:Nat} {p:Addr} (v:Value) (h:p.block≠S):(W.setCell (Ad S j) v).cell? p=W.cell? p:=by unfold World.cell?;rw[Below.heap_setCell _ _ _ p.block h]
theorem E5 {W:World} {S n j:Nat} (a b c d:Value) (h:n≠S):((((W.setCell (Ad S 0) a).setCell (Ad S 1) b).setCell (Ad S 2) c).setCell (Ad S 3) d).drew.cell? (Ad n j)=W.cell? (Ad n j):=
 ((EH d h).trans (EH c h)).trans ((EH b h).trans (EH a h))
theorem Mv {S:Nat} {cs:Array Value} (tmps:Array Value) (W:World) {v:Value} (hW:W.heap[S]? =some (.cells cs 74 (0,0))) (hp:tmps.getD 4 undef= .pointer (some (Ad S 0))) (hv:tmps.getD 5 undef=v) (h4:(prog.info? 74).map (·.size)=some cs.size:=by kernel_rfl):
 (results Tryz.f27 tmps).run prog W= .ok (.tuple #[.agg cs,v]) W:=by
 have h1:=run_loadVar_row (P:=prog) W S 74 74 cs (0,0) _ hW underlying74 rfl h4;have ha:(asAddr (tmps.getD 4 undef)).run prog W= .ok (Ad S 0) W:=(by rw[hp];rfl);rw[results_cell_tmp (fn:=Tryz.f27) (p:=4) (u:=5) (ty:=74) rfl,ha,hv];simp only[Result.andThen,h1]
theorem GB (prop:Str) (v:Int) (hv:v=3∨v=4) (hp:prop.length<=1073741824) (w:World) (hL:LD w):Calls prog 27 #[Sv prop,Iv v] w fun e w'=>e= .returned (.tuple #[.agg (Ym (AR prop v)),Iv 0])/\Below w.heap.size w w':=by
 have HR:=hid (JR prop v hv);go_enter func27,ntmps27;go_upto_region 1 with fail;obtain ⟨Wa,HC⟩: ∃Wa,w.alloc (.cells #[Iv 0,Iv 0,Iv 0,Iv 0] 74)=Wa:=⟨_,rfl⟩;have H9:Wa.heap.size=w.heap.size+1:=(by rw[<-HC];simp);have L1:Below w.heap.size w Wa:=(by rw[<-HC];exact zA);have hS:Wa.heap[w.heap.size]? =some (.cells #[Iv 0,Iv 0,Iv 0,Iv 0] 74):=(by rw[<-HC];exact heap_alloc_new w _);(try rw[HC]);clear HC;go_cut [14] from 9 to 15 (fun W1 wz=>W1= .bool false/\Wa=wz);case first=>
  rcases hv with rfl|rfl;all_goals
   go_wp2
   go_meet;exact ⟨rfl,rfl⟩
 case rest=>
 obtain ⟨rfl,rfl⟩:=hcut;go_wp2_with fail;refine (Gt _).mono ?_;rintro e w0 ⟨rfl,rfl⟩;have B2:=hid (JQ Wa);have L2:=hid (Rf Wa);have A4:=Lj Wa;have AW:=JP Wa;obtain ⟨W0,E3⟩: ∃W0,Yi Wa=W0:=⟨_,rfl⟩;rw[E3] at B2 L2 A4 AW⊢;clear E3;have W2:W0.heap[w.heap.size]? =some (.cells #[Iv 0,Iv 0,Iv 0,Iv 0] 74):=(AW.block _ (by omega)).trans hS;have PF:Below w.heap.size w W0:=L1.trans (AW.mono L1.size);clear hS L1;obtain ⟨n,hn⟩: ∃n,Wa.heap.size=n:=⟨_,rfl⟩;rw[hn] at B2 L2 A4 H9⊢;clear hn;have Q1:=hid H9;have G2:=hid A4;clear H9 A4 AW;go_wp2
 go_loopw [18] (fun i wr=> ∃k:Nat,k<=36/\i=Iv k/\Hid (AR prop v=CV v (Xs prop) k)/\Below W0.heap.size W0 wr) (fun i _=>36-(intOf i).toNat);case atStart=>exact ⟨0,by omega,rfl,HR,zB⟩
 case round=>
  obtain ⟨k,hk,rfl,HX,hb⟩:=hrel;have I1:=hb.size;have A4:=G2.out;have H9:=Q1.out;have B0:wr.heap[w.heap.size]? =some (.cells #[Iv 0,Iv 0,Iv 0,Iv 0] 74):=(hb.block _ (by omega)).trans W2;have L4:=PF.trans (hb.mono PF.size);by_cases G4:k<36
  ·obtain ⟨r,hr⟩: ∃r,Yg[k]? =some r:=⟨_,List.getElem?_eq_getElem (by rw[IW];exact G4)⟩;obtain ⟨c0,c1,c2⟩:=B2.out k r hr;obtain ⟨L5,E9,L6,L7⟩:=Ur hr;obtain ⟨nm,o1,o2⟩:=r;simp only at c0 c1 c2 L5 E9 L6 L7;have c0':=(hb.cell (p:=(Ad (n+59) (k*3))) (show n+59<W0.heap.size by omega)).trans c0;have c1':=(hb.cell (p:=(Ad (n+59) (k*3+1))) (show n+59<W0.heap.size by omega)).trans c1;have c2':=(hb.cell (p:=(Ad (n+59) (k*3+2))) (show n+59<W0.heap.size by omega)).trans c2;obtain ⟨A1,m1,e1,F1,AN⟩:=EG n o1;obtain ⟨A2,m2,e2,F2,AV⟩:=EG n o2;rw[e1] at c1';rw[e2] at c2';simp only[sV] at c0';have E0:=hid hr;have W3:nm.length<=1073741824:=(by omega);have W4:w.heap.size<wr.heap.size:=(by omega);have W6:=hid L5;have Q2:=hid (show∀i,Nc v (nm,o1,o2)=some i->i<59 from fun i h=>by
    unfold Nc at h;split at h
    ·exact L6 i h
    ·exact L7 i h)
   obtain ⟨o,L8⟩: ∃o,Nc v (nm,o1,o2)=o:=⟨_,rfl⟩;have HO:=hid L8;have L9:=hid (show (if v=3 then o1 else o2)=o from L8);have R0:=hid F1;have I5:=hid AN;have S1:=hid F2;have I6:=hid AV;clear c0 c1 c2 hr e1 e2 L6 L7 F1 AN F2 AV L5 E9 A4 H9 L8;have W7:=hid B0;have SS:=hid L4;have HB:=hid hb;clear B0 L4 hb;have LB:Below wr.heap.size wr (wr.alloc (.cells #[Sv nm,.slice A1 m1 m1,.slice A2 m2 m2] 106)):=zA;obtain ⟨W5,HA⟩: ∃W5,wr.alloc (.cells #[Sv nm,.slice A1 m1 m1,.slice A2 m2 m2] 106)=W5:=⟨_,rfl⟩;have g0:W5.cell? (Ad wr.heap.size 0)=some (Sv nm):=(by rw[<-HA];simp);have g1:W5.cell? (Ad wr.heap.size 1)=some (.slice A1 m1 m1):=(by rw[<-HA];simp);have g2:W5.cell? (Ad wr.heap.size 2)=some (.slice A2 m2 m2):=(by rw[<-HA];simp);rw[HA] at LB;go_upto_if 25 with fail;(try rw[HA]);clear HA;go_cut [8] from 19 to 49 (fun s8 wz=>(∃(A:Option Addr) (m:Nat),s8= .slice A m m/\Hid ((o=none->A=none/\m=0)/\ ∀i,o=some i->A=some ⟨n+i,0,none⟩/\m=4))/\W5=wz);case first=>
    rcases hv with rfl|rfl
    ·obtain rfl:o1=o:=L9.out;have HZ:=hid (And.intro R0.out I5.out);go_wp2
     go_meet;exact ⟨⟨_,_,rfl,HZ⟩,rfl⟩
    ·obtain rfl:o2=o:=L9.out;have HZ:=hid (And.intro S1.out I6.out);go_wp2
     go_meet;exact ⟨⟨_,_,rfl,HZ⟩,rfl⟩
   case rest=>
   obtain ⟨⟨A,m,rfl,HZ⟩,rfl⟩:=hcut;clear R0 I5 S1 I6 L9;go_wp2_with fail;refine (Ay nm prop _ W3 hp).mono ?_;rintro e w1 ⟨rfl,DT⟩;have AL:Below wr.heap.size wr w1:=LB.trans (DT.mono LB.size);have A9:=HB.out.trans (AL.mono HB.out.size);have HD:AF nm prop=(nm==Xs prop):=(by unfold AF;rw[W6.out]);have W8:Below w.heap.size w w1:=SS.out.trans (AL.mono SS.out.size);have B1:w1.heap[w.heap.size]? =some (.cells #[Iv 0,Iv 0,Iv 0,Iv 0] 74):=(AL.block _ W4).trans W7.out;clear DT c0' c1' c2';cases hm:AF nm prop with
   |false=>
    have HY:=hid (HX.out.trans (E4 E0.out (.inr (by rw[<-HD];exact hm))));clear HD hm B1;go_wp2
    go_roundw;case rel=>exact ⟨k+1,by omega,by go_num,HY,A9⟩
    case measure=>simp[intOf];omega
   |true=>
    cases ho:o with
    |none=>
     have HY:=hid (HX.out.trans (E4 E0.out (.inl (HO.out.trans ho))));obtain ⟨rfl,rfl⟩:=HZ.out.1 ho;clear HD hm B1 ho;go_wp2
     go_roundw;case rel=>exact ⟨k+1,by omega,by go_num,HY,A9⟩
     case measure=>simp[intOf];omega
    |some i=>
     have HY:=HX.out.trans (Ka E0.out (HO.out.trans ho) (by rw[<-HD];exact hm));obtain ⟨rfl,rfl⟩:=HZ.out.2 i ho;obtain ⟨a,b,c,d,T5,TT⟩:=L2.out i (Q2.out i (HO.out.trans ho));have X2:=Q2.out i (HO.out.trans ho);have A4:=G2.out;have F3:=(A9.block (n+i) (by omega)).trans T5;have d0:w1.cell? ⟨n+i,0,none⟩=some (Iv a):=BT F3 0;have d1:w1.cell? ⟨n+i,1,none⟩=some (Iv b):=BT F3 1;have d2:w1.cell? ⟨n+i,2,none⟩=some (Iv c):=BT F3 2;have d3:w1.cell? ⟨n+i,3,none⟩=some (Iv d):=BT F3 3;have e0:w1.cell? (Ad w.heap.size 0)=some (Iv 0):=BT B1 0;have e1:w1.cell? (Ad w.heap.size 1)=some (Iv 0):=BT B1 1;have e2:w1.cell? (Ad w.heap.size 2)=some (Iv 0):=BT B1 2;have e3:w1.cell? (Ad w.heap.size 3)=some (Iv 0):=BT B1 3;have f0:w1.frozen? (Ad w.heap.size 0)=false:=Ao B1 0;have f1:w1.frozen? (Ad w.heap.size 1)=false:=Ao B1 1;have f2:w1.frozen? (Ad w.heap.size 2)=false:=Ao B1 2;have f3:w1.frozen? (Ad w.heap.size 3)=false:=Ao B1 3;have I2:n+i≠w.heap.size:=(by have:=Q1.out;omega);have LL:=hid (show Ym (AR prop v)= #[Iv a,Iv b,Iv c,Iv d] by rw[HY,TT];rfl);have W9:=hid B1;clear HD hm ho T5 TT F3 B1 HY A4;go_wp2_with fail
     go_region_held (fun w'=>w'.cell? ⟨n+i,0,none⟩=some (Iv a)/\w'.cell? ⟨n+i,1,none⟩=some (Iv b)/\w'.cell? ⟨n+i,2,none⟩=some (Iv c)/\w'.cell? ⟨n+i,3,none⟩=some (Iv d)) (first|(go_keep;done)|(refine ⟨(E5 _ _ _ _ I2).trans d0,(E5 _ _ _ _ I2).trans d1,(E5 _ _ _ _ I2).trans d2,(E5 _ _ _ _ I2).trans d3⟩)) (fail)
     have HG:=Au (Au (Au (Au W9.out 0 (Iv a)) 1 (Iv b)) 2 (Iv c)) 3 (Iv d);have I3:=((((W8.setCell (p:=(Ad w.heap.size 0)) zL (Iv a)).setCell (p:=(Ad w.heap.size 1)) zL (Iv b)).setCell (p:=(Ad w.heap.size 2)) zL (Iv c)).setCell (p:=(Ad w.heap.size 3)) zL (Iv d)).drew;obtain ⟨Wf,M2⟩: ∃Wf,((((w1.setCell (Ad w.heap.size 0) (Iv a)).setCell (Ad w.heap.size 1) (Iv b)).setCell (Ad w.heap.size 2) (Iv c)).setCell (Ad w.heap.size 3) (Iv d)).drew=Wf:=⟨_,rfl⟩;have TX:Wf.heap[w.heap.size]? =some (.cells #[Iv a,Iv b,Iv c,Iv d] 74):=(by rw[<-M2];exact HG);rw[M2] at I3⊢;clear M2 HG;go_wp2
     refine bodyPost_ret (Mv _ _ TX rfl rfl) rfl ⟨?_,I3⟩;rw[LL.out];rfl
  ·obtain rfl:k=36:=(by omega);have A4:=G2.out;have HY:=HX.out.trans (KZ v _);have LL:=hid (show Ym (AR prop v)= #[Iv 8,Iv 0,Iv 0,Iv 0] by rw[HY];rfl);have e0:wr.cell? (Ad w.heap.size 0)=some (Iv 0):=BT B0 0;have e1:wr.cell? (Ad w.heap.size 1)=some (Iv 0):=BT B0 1;have e2:wr.cell? (Ad w.heap.size 2)=some (Iv 0):=BT B0 2;have e3:wr.cell? (Ad w.heap.size 3)=some (Iv 0):=BT B0 3;have f0:wr.frozen? (Ad w.heap.size 0)=false:=Ao B0 0;have f1:wr.frozen? (Ad w.heap.size 1)=false:=Ao B0 1;have f2:wr.frozen? (Ad w.heap.size 2)=false:=Ao B0 2;have f3:wr.frozen? (Ad w.heap.size 3)=false:=Ao B0 3;have HG:=Au (Au (Au (Au B0 0 (Iv 8)) 1 (Iv 0)) 2 (Iv 0)) 3 (Iv 0);have I3:=(((L4.setCell (p:=(Ad w.heap.size 0)) zL (Iv 8)).setCell (p:=(Ad w.heap.size 1)) zL (Iv 0)).setCell (p:=(Ad w.heap.size 2)) zL (Iv 0)).setCell (p:=(Ad w.heap.size 3)) zL (Iv 0);have WA:=hid HG;clear B0 HY A4 H9 HG;go_wp2
   refine bodyPost_ret (Mv _ _ WA.out rfl rfl) rfl ⟨?_,I3⟩;rw[LL.out];try rfl
theorem Mw (w:World) (x:Value) (t:TypeId) {n:Nat} (hn:w.heap.size=n): ∀(j:Nat) u,[x][j]? =some u->(w.alloc (.cells #[x] t)).cell? (Ad n j)=some u:=by subst hn;exact Ed w x t
def Yo (v:Int) (k:Nat):List Str:=((Yg.take k).filterMap (Qe v)).map (·.1)
theorem Mx {v:Int} {k:Nat} {r:Str×Option Nat×Option Nat} (h:Yg[k]? =some r) (hc:Nc v r=none):Yo v (k+1)=Yo v k:=by obtain ⟨hk,e⟩:=List.getElem?_eq_some_iff.1 h;unfold Yo;rw[List.take_succ_eq_append_getElem hk,e,List.filterMap_append];simp[Qe,hc]
theorem PY {v:Int} {k i:Nat} {r:Str×Option Nat×Option Nat} (h:Yg[k]? =some r) (hc:Nc v r=some i):Yo v (k+1)=Yo v k++[r.1]:=by obtain ⟨hk,e⟩:=List.getElem?_eq_some_iff.1 h;unfold Yo;rw[List.take_succ_eq_append_getElem hk,e,List.filterMap_append];simp[Qe,hc]
theorem PZ (v:Int) (hv:v=3∨v=4):Yo v 36=AI v:=by unfold Yo AI;rw[SP v hv,List.take_of_length_le (by rw[IW];omega)]
theorem Pa (v:Int) (k:Nat):(Yo v k).length<=36:=by unfold Yo;rw[List.length_map];refine Nat.le_trans (List.length_filterMap_le _ _) ?_;rw[List.length_take,IW];omega
theorem Rh (w:World):Calls prog 24 #[Iv 3] w fun e w'=>(∃A c,e= .returned (.tuple #[.slice A (AI 3).length c,Iv 0])/\CD w' w'.heap.size (.slice A (AI 3).length c) (AI 3))/\Below w.heap.size w w':=by
 go_enter func24,ntmps24;go_wp2_with fail;refine (Gt _).mono ?_;rintro e w0 ⟨rfl,rfl⟩;have B2:=hid (JQ w);have A4:=Lj w;have AW:=JP w;obtain ⟨W0,E3⟩: ∃W0,Yi w=W0:=⟨_,rfl⟩;rw[E3] at B2 A4 AW⊢;clear E3;obtain ⟨n,hn⟩: ∃n,w.heap.size=n:=⟨_,rfl⟩;rw[hn] at B2 A4⊢;have G2:=hid A4;have HN:=hid hn;clear A4 hn;go_wp2
 go_loopw [4,15] (fun v i wr=> ∃(k m:Nat) (X:List Str),k<=36/\i=Iv k/\Hid (X=Yo 3 k)/\m<=36/\Ce wr W0.heap.size v m X/\Below W0.heap.size W0 wr) (fun _ i _=>36-(intOf i).toNat);case atStart=>exact ⟨0,0,[],by omega,rfl,hid rfl,by omega,Ce.nil _ _,zB⟩
 case round=>
  obtain ⟨k,m,X,hk,rfl,HX,HH,A6,hb⟩:=hrel;have I1:=hb.size;have A4:=G2.out;by_cases G4:k<36
  ·obtain ⟨r,hr⟩: ∃r,Yg[k]? =some r:=⟨_,List.getElem?_eq_getElem (by rw[IW];exact G4)⟩;obtain ⟨c0,c1,c2⟩:=B2.out k r hr;obtain ⟨nm,o1,o2⟩:=r;simp only at c0 c1 c2;have c0':=(hb.cell (p:=(Ad (n+59) (k*3))) (show n+59<W0.heap.size by omega)).trans c0;have c1':=(hb.cell (p:=(Ad (n+59) (k*3+1))) (show n+59<W0.heap.size by omega)).trans c1;have c2':=(hb.cell (p:=(Ad (n+59) (k*3+2))) (show n+59<W0.heap.size by omega)).trans c2;obtain ⟨A1,m1,e1,F1,AN⟩:=EG n o1;obtain ⟨A2,m2,e2,F2,AV⟩:=EG n o2;rw[e1] at c1';rw[e2] at c2';simp only[sV] at c0';have U1:=hid F1;have IB:=hid AN;have U2:=hid F2;have KI:=hid AV;have E0:=hid hr;have B3:Below W0.heap.size W0 (wr.alloc (.cells #[Sv nm,.slice A1 m1 m1,.slice A2 m2 m2] 106)):=hb.alloc I1 _;have HO:=hid (Cq A6 ((Below.refl _ wr).alloc zL (.cells #[Sv nm,.slice A1 m1 m1,.slice A2 m2 m2] 106)));have MM:=hid (show m=X.length from A6.len.symm);clear c0 c1 c2 hr e1 e2 F1 AN F2 AV A4 A6;cases ho:o1 with
   |none=>
    have HY:=hid (HX.out.trans (Mx E0.out (show Nc 3 (nm,o1,o2)=none from ho)).symm);obtain ⟨rfl,rfl⟩:=U1.out ho;clear ho;go_wp2
    go_roundw;case rel=>exact ⟨k+1,m,X,by omega,by go_num,HY,HH,HO.out,B3⟩
    case measure=>simp[intOf];omega
   |some i=>
    have HY:=hid (show X++[nm]=Yo 3 (k+1) by rw[HX.out,PY E0.out (show Nc 3 (nm,o1,o2)=some i from ho)]);have N0:m+1<=36:=(by have h1:=Pa 3 (k+1);rw[<-HY.out,List.length_append] at h1;have h2:=MM.out;simp at h1;omega);obtain ⟨rfl,rfl⟩:=IB.out i ho;clear ho;go_wp2_with (at_builtin;refine AU rfl _ _ 55 rfl W0.heap.size 9 (.string ⟨#[]⟩) 1 16 underlying55 Fm rfl (by decide) (by decide) _ m _ rfl (HO.out.alloc _) (wr.heap.size+1) 1 [sV nm] rfl rfl (Mw _ _ _ (by simp)) (by simp[sV,Value.oneCell']) (by omega) (by simp;omega) ?_;intro g cap w2 DA _ _ _ AB;refine Hid.out ?_);refine Lib.hid ?_;have H0:=hid (Ce.snoc DA);have A9:=AB.out W0 (B3.alloc B3.size _);clear DA AB;go_wp2
    go_roundw;case rel=>exact ⟨k+1,m+1,X++[nm],by omega,by go_num,HY,N0,H0.out,A9⟩
    case measure=>simp[intOf];omega
  ·obtain rfl:k=36:=(by omega);have N1:X=AI 3:=(by rw[HX.out,PZ 3 (by simp)]);have hS:=hid A6.strs;have HI:=A6.len;obtain ⟨A2,c2,hf⟩:=A6.form;subst hf;subst N1;subst HI;have A7:=AW.trans (hb.mono AW.size);clear A6 HX;go_wp2
   go_ret2;exact ⟨⟨A2,c2,rfl,hS.out⟩,A7⟩
theorem Ri (w:World):Calls prog 24 #[Iv 4] w fun e w'=>(∃A c,e= .returned (.tuple #[.slice A (AI 4).length c,Iv 0])/\CD w' w'.heap.size (.slice A (AI 4).length c) (AI 4))/\Below w.heap.size w w':=by
 go_enter func24,ntmps24;go_wp2_with fail;refine (Gt _).mono ?_;rintro e w0 ⟨rfl,rfl⟩;have B2:=hid (JQ w);have A4:=Lj w;have AW:=JP w;obtain ⟨W0,E3⟩: ∃W0,Yi w=W0:=⟨_,rfl⟩;rw[E3] at B2 A4 AW⊢;clear E3;obtain ⟨n,hn⟩: ∃n,w.heap.size=n:=⟨_,rfl⟩;rw[hn] at B2 A4⊢;have G2:=hid A4;have HN:=hid hn;clear A4 hn;go_wp2
 go_loopw [4,15] (fun v i wr=> ∃(k m:Nat) (X:List Str),k<=36/\i=Iv k/\Hid (X=Yo 4 k)/\m<=36/\Ce wr W0.heap.size v m X/\Below W0.heap.size W0 wr) (fun _ i _=>36-(intOf i).toNat);case atStart=>exact ⟨0,0,[],by omega,rfl,hid rfl,by omega,Ce.nil _ _,zB⟩
 case round=>
  obtain ⟨k,m,X,hk,rfl,HX,HH,A6,hb⟩:=hrel;have I1:=hb.size;have A4:=G2.out;by_cases G4:k<36
  ·obtain ⟨r,hr⟩: ∃r,Yg[k]? =some r:=⟨_,List.getElem?_eq_getElem (by rw[IW];exact G4)⟩;obtain ⟨c0,c1,c2⟩:=B2.out k r hr;obtain ⟨nm,o1,o2⟩:=r;simp only at c0 c1 c2;have c0':=(hb.cell (p:=(Ad (n+59) (k*3))) (show n+59<W0.heap.size by omega)).trans c0;have c1':=(hb.cell (p:=(Ad (n+59) (k*3+1))) (show n+59<W0.heap.size by omega)).trans c1;have c2':=(hb.cell (p:=(Ad (n+59) (k*3+2))) (show n+59<W0.heap.size by omega)).trans c2;obtain ⟨A1,m1,e1,F1,AN⟩:=EG n o1;obtain ⟨A2,m2,e2,F2,AV⟩:=EG n o2;rw[e1] at c1';rw[e2] at c2';simp only[sV] at c0';have U1:=hid F1;have IB:=hid AN;have U2:=hid F2;have KI:=hid AV;have E0:=hid hr;have B3:Below W0.heap.size W0 (wr.alloc (.cells #[Sv nm,.slice A1 m1 m1,.slice A2 m2 m2] 106)):=hb.alloc I1 _;have HO:=hid (Cq A6 ((Below.refl _ wr).alloc zL (.cells #[Sv nm,.slice A1 m1 m1,.slice A2 m2 m2] 106)));have MM:=hid (show m=X.length from A6.len.symm);clear c0 c1 c2 hr e1 e2 F1 AN F2 AV A4 A6;cases ho:o2 with
   |none=>
    have HY:=hid (HX.out.trans (Mx E0.out (show Nc 4 (nm,o1,o2)=none from ho)).symm);obtain ⟨rfl,rfl⟩:=U2.out ho;clear ho;go_wp2
    go_roundw;case rel=>exact ⟨k+1,m,X,by omega,by go_num,HY,HH,HO.out,B3⟩
    case measure=>simp[intOf];omega
   |some i=>
    have HY:=hid (show X++[nm]=Yo 4 (k+1) by rw[HX.out,PY E0.out (show Nc 4 (nm,o1,o2)=some i from ho)]);have N0:m+1<=36:=(by have h1:=Pa 4 (k+1);rw[<-HY.out,List.length_append] at h1;have h2:=MM.out;simp at h1;omega);obtain ⟨rfl,rfl⟩:=KI.out i ho;clear ho;go_wp2_with (at_builtin;refine AU rfl _ _ 55 rfl W0.heap.size 9 (.string ⟨#[]⟩) 1 16 underlying55 Fm rfl (by decide) (by decide) _ m _ rfl (HO.out.alloc _) (wr.heap.size+1) 1 [sV nm] rfl rfl (Mw _ _ _ (by simp)) (by simp[sV,Value.oneCell']) (by omega) (by simp;omega) ?_;intro g cap w2 DA _ _ _ AB;refine Hid.out ?_);refine Lib.hid ?_;have H0:=hid (Ce.snoc DA);have A9:=AB.out W0 (B3.alloc B3.size _);clear DA AB;go_wp2
    go_roundw;case rel=>exact ⟨k+1,m+1,X++[nm],by omega,by go_num,HY,N0,H0.out,A9⟩
    case measure=>simp[intOf];omega
  ·obtain rfl:k=36:=(by omega);have N1:X=AI 4:=(by rw[HX.out,PZ 4 (by simp)]);have hS:=hid A6.strs;have HI:=A6.len;obtain ⟨A2,c2,hf⟩:=A6.form;subst hf;subst N1;subst HI;have A7:=AW.trans (hb.mono AW.size);clear A6 HX;go_wp2
   go_ret2;exact ⟨⟨A2,c2,rfl,hS.out⟩,A7⟩
theorem Nh (v:Int) (hv:v=3∨v=4) (w:World):Calls prog 24 #[Iv v] w fun e w'=>(∃A c,e= .returned (.tuple #[.slice A (AI v).length c,Iv 0])/\CD w' w'.heap.size (.slice A (AI v).length c) (AI v))/\Below w.heap.size w w':=by
 rcases hv with rfl|rfl
 ·exact Rh w
 ·exact Ri w
def Xo:Str:=[86,65,76,85,69]
theorem Kd {prop:Str} {ps:List Pm} {v:Int} (h:ps.find? (fun p=>AF p.name AA)=none):Cs prop ps v=(AR prop v).type:=by unfold Cs;rw[h]
theorem Ke {prop:Str} {ps:List Pm} {v:Int} {p:Pm} (h:ps.find? (fun p=>AF p.name AA)=some p):Cs prop ps v=(match p.vals with|[]=>(AR prop v).type|s::_=>BW (AR prop v).type (loS s)):=by simp only[Cs,h];cases p.vals<;>rfl
theorem Rj (prop:Str) (ps:List Pm) (v:Int) (hv:v=3∨v=4) (A:Option Addr) (c:Nat) (w:World) (hL:LD w) (hp:Xv w w.heap.size (.slice A ps.length c) ps) (h1:prop.length<=1073741824) (h2:ps.length<=1073741824)
 (h3: ∀p∈ps,p.name.length<=1073741824/\ ∀s∈p.vals,s.length<=1073741824):
 Calls prog 80 #[Sv prop,.slice A ps.length c,Iv v] w fun e w'=>e= .returned (.tuple #[Iv (Cs prop ps v),.nilIface])/\Below w.heap.size w w':=by
 have H3:=hid h3;have HP:=hid hp;have HV:=hid hv;clear h3 hp hv;go_enter func80,ntmps80;go_wp2_with fail;refine (Mu prop v HV.out h1 _ hL).mono ?_;rintro e w1 ⟨rfl,DT⟩;obtain ⟨R,hR⟩: ∃R,R=AR prop v:=⟨_,rfl⟩;rw[<-hR];have HR:=hid hR;clear hR;obtain ⟨r0,r1,r2,r3⟩:=R;simp only[Ym];go_wp2_with fail;obtain ⟨Wb,DD⟩: ∃Wb,w1.alloc (.cells #[Iv r0,Iv r1,Iv r2,Iv r3] 74)=Wb:=⟨_,rfl⟩;have E1:Below w.heap.size w Wb:=(by rw[<-DD];exact DT.alloc DT.size _);have H1:Wb.cell? (Ad w1.heap.size 0)=some (Iv r0):=(by rw[<-DD];exact Bc _ _ _ _ rfl);have HJ:w1.heap.size<Wb.heap.size:=(by rw[<-DD];simp);rw[DD];clear DD;obtain ⟨G,hG⟩: ∃G,w1.heap.size=G:=⟨_,rfl⟩;rw[hG] at H1 HJ⊢;clear hG DT;refine (RZ ps AA A c _ (HP.out.keep E1 E1.size) h2 (fun p hp=>(H3.out p hp).1) (by decide)).mono ?_;rintro e w2 ⟨⟨i,rfl,HF⟩,AL⟩;have A7:=E1.trans (AL.mono E1.size);have F4:=(AL.cell (p:=(Ad G 0)) HJ).trans H1;have HK:G<w2.heap.size:=(by have:=AL.size;omega);clear H1 AL;have H2:=hid (show (AR prop v).type=r0 by rw[<-HR.out]);rcases HF.out with ⟨rfl,hn⟩|⟨k,p,rfl,hk,hd,hf⟩
 ·have HE:=hid ((Kd (prop:=prop) (v:=v) hn).trans H2.out);clear hn HF;go_wp2
  go_ret2;exact ⟨by rw[HE.out];rfl,A7⟩
 ·obtain ⟨b,o,p',u,rfl,N2,HM,hc,HQ,hu⟩:=HP.out.at_ hk;rw[hd] at HM;injection HM with N3 _;subst N3;have HS:p∈ps:=List.mem_of_mem_drop (by rw[hd];simp);have E2:=(H3.out p HS).2;have A8:=(A7.cell (p:=(Ad b (o+k*2+1))) N2).trans HQ;have HE:=hid (Ke (prop:=prop) (v:=v) hf);obtain ⟨A2,c2,OV⟩:=hu.form;subst OV;have HU:=hid hu;have WF: ¬((k:Int)<0):=(by omega);have G4:(k:Int)<(ps.length:Int):=(by omega);clear hc HQ hd hf HF HS hu;cases H4:p.vals with
  |nil=>
   rw[H4] at HE A8;simp only[List.length_nil] at A8;have A3:=hid (HE.out.trans H2.out);clear HE E2;go_wp2
   go_ret2;exact ⟨by rw[A3.out];rfl,A7⟩
  |cons s rest=>
   rw[H4] at HE A8 E2 HU;have P1:=E2 s (by simp);obtain ⟨b2,o2,s',rfl,AB,HT,H8⟩:=HU.out.at_ (k:=0) (by simp);simp only[List.drop_zero,List.cons.injEq] at HT;obtain ⟨rfl, -⟩:=HT;rw[Nat.add_zero] at H8;have HW:=(A7.cell (p:=(Ad b2 o2)) AB).trans H8;have HL:=hid (show (s::rest).length=rest.length+1 from rfl);simp only[List.length_cons] at A8;have q1:(((rest.length+1:Nat):Int)==0)=false:=(by simp;omega);have q2:((rest.length:Int)+1==0)=false:=(by simp;omega);clear E2 HU H8 H4;go_wp2_with fail;refine (Em s _ P1).mono ?_;rintro e w3 ⟨rfl,A9⟩;have A0:=A7.trans (A9.mono A7.size);have V5:=(A9.cell (p:=(Ad G 0)) HK).trans F4;have A3:=hid (HE.out.trans (congrArg (fun x=>BW x (loS s)) H2.out));obtain ⟨T,hT⟩: ∃T,T=loS s:=⟨_,rfl⟩;(try simp only at A3);rw[<-hT] at A3⊢;clear HE hT F4 A9 A8 HW;by_cases t0:T=Ca
   ·subst t0;by_cases P2:r0=2
    ·subst P2;go_wp2
     go_ret2;exact ⟨by rw[A3.out];rfl,A0⟩
    by_cases PB:r0=3
    ·subst PB;go_wp2
     go_ret2;exact ⟨by rw[A3.out];rfl,A0⟩
    have q2:(r0==2)=false:=(by simpa using P2);have q3:(r0==3)=false:=(by simpa using PB);have A5:=hid (A3.out.trans (show BW r0 Ca=1 by unfold BW;rw[if_pos (by decide),if_neg (by omega)]));clear A3 P2 PB;go_wp2
    go_ret2;exact ⟨by rw[A5.out];rfl,A0⟩
   have g0:(T==Ca)=false:=(by simpa using t0);by_cases t1:T=JI
   ·subst t1;have A5:=hid (A3.out.trans (show BW r0 JI=4 from rfl));clear A3;go_wp2
    go_ret2;exact ⟨by rw[A5.out];rfl,A0⟩
   have g1:(T==JI)=false:=(by simpa using t1);by_cases t2:T=AK
   ·subst t2;have A5:=hid (A3.out.trans (show BW r0 AK=5 from rfl));clear A3;go_wp2
    go_ret2;exact ⟨by rw[A5.out];rfl,A0⟩
   have g2:(T==AK)=false:=(by simpa using t2);by_cases t3:T=Dw
   ·subst t3;have A5:=hid (A3.out.trans (show BW r0 Dw=5 from rfl));clear A3;go_wp2
    go_ret2;exact ⟨by rw[A5.out];rfl,A0⟩
   have g3:(T==Dw)=false:=(by simpa using t3);by_cases t4:T=At
   ·subst t4;have A5:=hid (A3.out.trans (show BW r0 At=5 from rfl));clear A3;go_wp2
    go_ret2;exact ⟨by rw[A5.out];rfl,A0⟩
   have g4:(T==At)=false:=(by simpa using t4);by_cases t5:T=Ag
   ·subst t5;have A5:=hid (A3.out.trans (show BW r0 Ag=5 from rfl));clear A3;go_wp2
    go_ret2;exact ⟨by rw[A5.out];rfl,A0⟩
   have g5:(T==Ag)=false:=(by simpa using t5);by_cases t6:T=Ac
   ·subst t6;have A5:=hid (A3.out.trans (show BW r0 Ac=6 from rfl));clear A3;go_wp2
    go_ret2;exact ⟨by rw[A5.out];rfl,A0⟩
   have g6:(T==Ac)=false:=(by simpa using t6);by_cases t7:T=AT
   ·subst t7;have A5:=hid (A3.out.trans (show BW r0 AT=7 from rfl));clear A3;go_wp2
    go_ret2;exact ⟨by rw[A5.out];rfl,A0⟩
   have g7:(T==AT)=false:=(by simpa using t7);have A5:=hid (A3.out.trans (show BW r0 T=8 by unfold BW;simp[g0,g1,g2,g3,g4,g5,g6,g7]));unfold Ca at g0;unfold JI at g1;unfold AK at g2;unfold Dw at g3;unfold At at g4;unfold Ag at g5;unfold Ac at g6;unfold AT at g7;clear A3 t0 t1 t2 t3 t4 t5 t6 t7;go_wp2
   go_ret2;exact ⟨by rw[A5.out];rfl,A0⟩
theorem Ap {a b:Str} (h:a≠b):Sv a≠Sv b:=fun e=>h (by injection e with e;injection e with e;exact congrArg Array.toList e)
noncomputable def Y0:Value->Option Value:=Dm (Dm (Dm (Dm (Dm (Dm (Dm (Dm (fun _=>none) (Sv Ca) (Iv 1)) (Sv JI) (Iv 4)) (Sv Dw) (Iv 5)) (Sv At) (Iv 5)) (Sv AK) (Iv 5)) (Sv Ag) (Iv 5)) (Sv Ac) (Iv 6)) (Sv AT) (Iv 7)
theorem Rs (T:Str) (g0:T≠Ca) (g1:T≠JI) (g2:T≠Dw) (g3:T≠At) (g4:T≠AK) (g5:T≠Ag) (g6:T≠Ac) (g7:T≠AT):Y0 (Sv T)=none:=by unfold Y0 Dm;rw[if_neg (Ap g7),if_neg (Ap g6),if_neg (Ap g5),if_neg (Ap g4),if_neg (Ap g3),if_neg (Ap g2),if_neg (Ap g1),if_neg (Ap g0)]
theorem Pi:Y0 (Sv Ca)=some (Iv 1):=by unfold Y0 Dm;rw[if_neg (Ap (a:=Ca) (b:=AT) (by decide)),if_neg (Ap (a:=Ca) (b:=Ac) (by decide)),if_neg (Ap (a:=Ca) (b:=Ag) (by decide)),if_neg (Ap (a:=Ca) (b:=AK) (by decide)),if_neg (Ap (a:=Ca) (b:=At) (by decide)),if_neg (Ap (a:=Ca) (b:=Dw) (by decide)),if_neg (Ap (a:=Ca) (b:=JI) (by decide)),if_pos rfl]
theorem Rt:Y0 (Sv JI)=some (Iv 4):=by unfold Y0 Dm;rw[if_neg (Ap (a:=JI) (b:=AT) (by decide)),if_neg (Ap (a:=JI) (b:=Ac) (by decide)),if_neg (Ap (a:=JI) (b:=Ag) (by decide)),if_neg (Ap (a:=JI) (b:=AK) (by decide)),if_neg (Ap (a:=JI) (b:=At) (by decide)),if_neg (Ap (a:=JI) (b:=Dw) (by decide)),if_pos rfl]
theorem Pj:Y0 (Sv Dw)=some (Iv 5):=by unfold Y0 Dm;rw[if_neg (Ap (a:=Dw) (b:=AT) (by decide)),if_neg (Ap (a:=Dw) (b:=Ac) (by decide)),if_neg (Ap (a:=Dw) (b:=Ag) (by decide)),if_neg (Ap (a:=Dw) (b:=AK) (by decide)),if_neg (Ap (a:=Dw) (b:=At) (by decide)),if_pos rfl]
theorem JU:Y0 (Sv At)=some (Iv 5):=by unfold Y0 Dm;rw[if_neg (Ap (a:=At) (b:=AT) (by decide)),if_neg (Ap (a:=At) (b:=Ac) (by decide)),if_neg (Ap (a:=At) (b:=Ag) (by decide)),if_neg (Ap (a:=At) (b:=AK) (by decide)),if_pos rfl]
theorem E8:Y0 (Sv AK)=some (Iv 5):=by unfold Y0 Dm;rw[if_neg (Ap (a:=AK) (b:=AT) (by decide)),if_neg (Ap (a:=AK) (b:=Ac) (by decide)),if_neg (Ap (a:=AK) (b:=Ag) (by decide)),if_pos rfl]
theorem Hr:Y0 (Sv Ag)=some (Iv 5):=by unfold Y0 Dm;rw[if_neg (Ap (a:=Ag) (b:=AT) (by decide)),if_neg (Ap (a:=Ag) (b:=Ac) (by decide)),if_pos rfl]
theorem Ht:Y0 (Sv Ac)=some (Iv 6):=by unfold Y0 Dm;rw[if_neg (Ap (a:=Ac) (b:=AT) (by decide)),if_pos rfl]
theorem Fs:Y0 (Sv AT)=some (Iv 7):=by unfold Y0 Dm;rw[if_pos rfl]
theorem Ux {T:Str} {o:Option Value} {z u:Value} (h:Y0 (Sv T)=o) (hu:Value.tuple #[o.getD z,.bool o.isSome]=u):(if true=true then .tuple #[(Y0 (Sv T)).getD z,.bool (Y0 (Sv T)).isSome] else (Y0 (Sv T)).getD z)=u:=by rw[if_pos rfl,h,hu]
theorem TN (r0:Int) (T:Str):(T=Ca/\(r0=2∨r0=3))∨(∃val:Int,Y0 (Sv T)=some (Iv val)/\BW r0 T=val/\((T==Ca)=false∨(T=Ca/\(r0==2)=false/\(r0==3)=false)))∨(Y0 (Sv T)=none/\BW r0 T=8/\(T==Ca)=false):=by
 by_cases t0:T=Ca
 ·subst t0;by_cases h2:r0=2
  ·exact .inl ⟨rfl,.inl h2⟩
  by_cases h3:r0=3
  ·exact .inl ⟨rfl,.inr h3⟩
  exact .inr (.inl ⟨1,Pi,by unfold BW;rw[if_pos (by decide),if_neg (by omega)],.inr ⟨rfl,by simpa using h2,by simpa using h3⟩⟩)
 have g0:(T==Ca)=false:=(by simpa using t0);by_cases t1:T=JI
 ·subst t1;exact .inr (.inl ⟨4,Rt,rfl,.inl rfl⟩)
 have g1:(T==JI)=false:=(by simpa using t1);by_cases t2:T=Dw
 ·subst t2;exact .inr (.inl ⟨5,Pj,rfl,.inl rfl⟩)
 have g2:(T==Dw)=false:=(by simpa using t2);by_cases t3:T=At
 ·subst t3;exact .inr (.inl ⟨5,JU,rfl,.inl rfl⟩)
 have g3:(T==At)=false:=(by simpa using t3);by_cases t4:T=AK
 ·subst t4;exact .inr (.inl ⟨5,E8,rfl,.inl rfl⟩)
 have g4:(T==AK)=false:=(by simpa using t4);by_cases t5:T=Ag
 ·subst t5;exact .inr (.inl ⟨5,Hr,rfl,.inl rfl⟩)
 have g5:(T==Ag)=false:=(by simpa using t5);by_cases t6:T=Ac
 ·subst t6;exact .inr (.inl ⟨6,Ht,rfl,.inl rfl⟩)
 have g6:(T==Ac)=false:=(by simpa using t6);by_cases t7:T=AT
 ·subst t7;exact .inr (.inl ⟨7,Fs,rfl,.inl rfl⟩)
 have g7:(T==AT)=false:=(by simpa using t7);exact .inr (.inr ⟨Rs T t0 t1 t2 t3 t4 t5 t6 t7,by unfold BW;simp[g0,g1,g2,g3,g4,g5,g6,g7],g0⟩)
theorem Pk (prop:Str) (ps:List Pm) (v:Int) (hv:v=3∨v=4) (A:Option Addr) (c:Nat) (w:World) (hL:LD w) (hp:Xv w w.heap.size (.slice A ps.length c) ps) (h1:prop.length<=1073741824) (h2:ps.length<=1073741824)
 (h3: ∀p∈ps,p.name.length<=1073741824/\ ∀s∈p.vals,s.length<=1073741824):
 Calls prog 55 #[Sv prop,.slice A ps.length c,Iv v] w fun e w'=>e= .returned (.tuple #[Iv (Cs prop ps v),Iv 0])/\Below w.heap.size w w':=by
 have H3:=hid h3;have HP:=hid hp;have HV:=hid hv;clear h3 hp hv;go_enter func55,ntmps55;go_wp2_with fail;refine (GB prop v HV.out h1 _ hL).mono ?_;rintro e w1 ⟨rfl,DT⟩;obtain ⟨R,hR⟩: ∃R,R=AR prop v:=⟨_,rfl⟩;rw[<-hR];have HR:=hid hR;clear hR;obtain ⟨r0,r1,r2,r3⟩:=R;simp only[Ym];go_wp2_with fail;obtain ⟨Wb,DD⟩: ∃Wb,w1.alloc (.cells #[Iv r0,Iv r1,Iv r2,Iv r3] 74)=Wb:=⟨_,rfl⟩;have E1:Below w.heap.size w Wb:=(by rw[<-DD];exact DT.alloc DT.size _);have H1:Wb.cell? (Ad w1.heap.size 0)=some (Iv r0):=(by rw[<-DD];exact Bc _ _ _ _ rfl);have HJ:w1.heap.size<Wb.heap.size:=(by rw[<-DD];simp);rw[DD];clear DD;obtain ⟨G,hG⟩: ∃G,w1.heap.size=G:=⟨_,rfl⟩;rw[hG] at H1 HJ⊢;clear hG DT;refine (D0 ps AA A c _ (HP.out.keep E1 E1.size) h2 (fun p hp=>(H3.out p hp).1) (by decide)).mono ?_;rintro e w2 ⟨⟨i,rfl,HF⟩,AL⟩;have A7:=E1.trans (AL.mono E1.size);have F4:=(AL.cell (p:=(Ad G 0)) HJ).trans H1;have HK:G<w2.heap.size:=(by have:=AL.size;omega);clear H1 AL;have H2:=hid (show (AR prop v).type=r0 by rw[<-HR.out]);rcases HF.out with ⟨rfl,hn⟩|⟨k,p,rfl,hk,hd,hf⟩
 ·have HE:=hid ((Kd (prop:=prop) (v:=v) hn).trans H2.out);clear hn HF;go_wp2
  go_ret2;exact ⟨by rw[HE.out];rfl,A7⟩
 ·obtain ⟨b,o,p',u,rfl,N2,HM,hc,HQ,hu⟩:=HP.out.at_ hk;rw[hd] at HM;injection HM with N3 _;subst N3;have HS:p∈ps:=List.mem_of_mem_drop (by rw[hd];simp);have E2:=(H3.out p HS).2;have A8:=(A7.cell (p:=(Ad b (o+k*2+1))) N2).trans HQ;have HE:=hid (Ke (prop:=prop) (v:=v) hf);obtain ⟨A2,c2,OV⟩:=hu.form;subst OV;have HU:=hid hu;have WF: ¬((k:Int)<0):=(by omega);have G4:(k:Int)<(ps.length:Int):=(by omega);clear hc HQ hd hf HF HS hu;cases H4:p.vals with
  |nil=>
   rw[H4] at HE A8;simp only[List.length_nil] at A8;have A3:=hid (HE.out.trans H2.out);clear HE E2;go_wp2
   go_ret2;exact ⟨by rw[A3.out];rfl,A7⟩
  |cons s rest=>
   rw[H4] at HE A8 E2 HU;have P1:=E2 s (by simp);obtain ⟨b2,o2,s',rfl,AB,HT,H8⟩:=HU.out.at_ (k:=0) (by simp);simp only[List.drop_zero,List.cons.injEq] at HT;obtain ⟨rfl, -⟩:=HT;rw[Nat.add_zero] at H8;have HW:=(A7.cell (p:=(Ad b2 o2)) AB).trans H8;have HL:=hid (show (s::rest).length=rest.length+1 from rfl);simp only[List.length_cons] at A8;have q1:(((rest.length+1:Nat):Int)==0)=false:=(by simp;omega);have q2:((rest.length:Int)+1==0)=false:=(by simp;omega);clear E2 HU H8 H4;go_wp2_with fail;refine (D8 s _ P1).mono ?_;rintro e w3 ⟨rfl,A9⟩;have A0:=A7.trans (A9.mono A7.size);have V5:=(A9.cell (p:=(Ad G 0)) HK).trans F4;have A3:=hid (HE.out.trans (congrArg (fun x=>BW x (loS s)) H2.out));obtain ⟨T,hT⟩: ∃T,T=loS s:=⟨_,rfl⟩;(try simp only at A3);rw[<-hT] at A3⊢;clear HE hT F4 A9 A8 HW;have A5:=hid (show Cs prop ps v=BW r0 T from A3.out);clear A3;rcases TN r0 T with ⟨rfl,hr⟩|⟨val,I0,FB,X1⟩|⟨I0,FB,ht⟩
   ·rcases hr with rfl|rfl
    ·go_wp2
     go_ret2;exact ⟨by rw[A5.out];rfl,A0⟩
    ·go_wp2
     go_ret2;exact ⟨by rw[A5.out];rfl,A0⟩
   ·have HU:=hid (Ux (z:=Iv 0) I0 (u:= .tuple #[Iv val,.bool true]) rfl);have I4:=hid (A5.out.trans FB);clear A5 FB I0;rcases X1 with ht|⟨rfl,q2',q3'⟩
    ·unfold Ca at ht;go_upto_region 10 with fail;refine wp_region_lit ?_;refine Bg rfl 88 rfl .string ?_;intro wm r hr hw hF;have HB:Below w.heap.size w wm:=(by rw[hw];exact A0.alloc A0.size _);have E9:w.heap.size<=r:=(by rw[hr];exact A0.size);clear hw hr;iterate 8
      refine BA rfl 88 9 3 _ _ _ (.inl rfl) underlying88 .string underlying9 _ _ hF rfl _ _ rfl rfl trivial ?_;clear hF;intro V6 hF G1 _;replace HB:=G1.out _ _ E9 HB;clear G1
     go_wp2_with (at_lookup;refine Al rfl 88 9 3 _ _ true rfl underlying88 .string underlying9 (Iv 0) (fun _=>by kernel_rfl) _ _ hF rfl _ rfl trivial (.tuple #[Iv val,.bool true]) (by exact HU.out) ?_);go_ret2;exact ⟨by rw[I4.out];rfl,HB⟩
    ·go_wp2_with (first|(refine Bg rfl 88 rfl .string ?_;intro wm r hr hw hF;have HB:Below w.heap.size w wm:=(by rw[hw];exact A0.alloc A0.size _);have E9:w.heap.size<=r:=(by rw[hr];exact A0.size);have X3:wm.heap.size=r+1:=(by rw[hw,hr];simp);clear hw hr)|(refine BA rfl 88 9 3 _ _ _ (.inl rfl) underlying88 .string underlying9 _ _ hF rfl _ _ rfl rfl trivial ?_;intro V6 VC G1 _;have VX:=G1.out _ _ E9 HB;clear hF HB G1;have hF:=VC;have HB:=VX;clear VC VX)|(refine Al rfl 88 9 3 _ _ true rfl underlying88 .string underlying9 (Iv 0) (fun _=>by kernel_rfl) _ _ hF rfl _ rfl trivial (.tuple #[Iv val,.bool true]) (by exact HU.out) ?_));go_ret2;exact ⟨by rw[I4.out];rfl,HB⟩
   ·have HU:=hid (Ux (z:=Iv 0) I0 (u:= .tuple #[Iv 0,.bool false]) rfl);have I4:=hid (A5.out.trans FB);clear A5 FB I0;unfold Ca at ht;go_upto_region 10 with fail;refine wp_region_lit ?_;refine Bg rfl 88 rfl .string ?_;intro wm r hr hw hF;have HB:Below w.heap.size w wm:=(by rw[hw];exact A0.alloc A0.size _);have E9:w.heap.size<=r:=(by rw[hr];exact A0.size);clear hw hr;iterate 8
     refine BA rfl 88 9 3 _ _ _ (.inl rfl) underlying88 .string underlying9 _ _ hF rfl _ _ rfl rfl trivial ?_;clear hF;intro V6 hF G1 _;replace HB:=G1.out _ _ E9 HB;clear G1
    go_wp2_with (at_lookup;refine Al rfl 88 9 3 _ _ true rfl underlying88 .string underlying9 (Iv 0) (fun _=>by kernel_rfl) _ _ hF rfl _ rfl trivial (.tuple #[Iv 0,.bool false]) (by exact HU.out) ?_);go_ret2;exact ⟨by rw[I4.out];rfl,HB⟩
end Go.Proofs.YtjhpdljphchfaaaGreatDoor
