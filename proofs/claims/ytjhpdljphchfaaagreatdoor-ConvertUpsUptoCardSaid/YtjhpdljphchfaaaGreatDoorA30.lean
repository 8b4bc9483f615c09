/- A part of the proof of ConvertUps: What LinePrint of the reference stands on. -/
import Derived.Test.YtjhpdljphchfaaaGreatDoorA28
import Derived.Test.YtjhpdljphchfaaaGreatDoorA23
import Derived.Test.YtjhpdljphchfaaaGreatDoorA27
import Derived.Deep.RegionWith
set_option maxHeartbeats 40000000
set_option maxRecDepth 1000000
set_option linter.all false
namespace Go.Proofs.YtjhpdljphchfaaaGreatDoor
open Go.RowKit
open Go.Proofs.Tryz
theorem R3 (c:UInt8) (w:World):Calls prog 163 #[.int .u8 c.toNat] w fun e w'=>e= .returned (.bool (Eg c))/\w=w':=by
 have e1:((c.toNat:Int)==44)=(c==44):=(by rw[Bool.eq_iff_iff,beq_iff_eq,beq_iff_eq];exact ⟨fun h=>UInt8.toNat_inj.1 (by show c.toNat=44;omega),fun h=>by rw[h];rfl⟩);have e2:((c.toNat:Int)==59)=(c==59):=(by rw[Bool.eq_iff_iff,beq_iff_eq,beq_iff_eq];exact ⟨fun h=>UInt8.toNat_inj.1 (by show c.toNat=59;omega),fun h=>by rw[h];rfl⟩);have e3:((c.toNat:Int)==58)=(c==58):=(by rw[Bool.eq_iff_iff,beq_iff_eq,beq_iff_eq];exact ⟨fun h=>UInt8.toNat_inj.1 (by show c.toNat=58;omega),fun h=>by rw[h];rfl⟩);have HS:=hid (show Eg c=(c==44||c==59||c==58) from rfl);obtain ⟨x,hx⟩: ∃x,(c==44)=x:=⟨_,rfl⟩;obtain ⟨y,hy⟩: ∃y,(c==59)=y:=⟨_,rfl⟩;obtain ⟨z,hz⟩: ∃z,(c==58)=z:=⟨_,rfl⟩;rw[hx] at e1 HS;rw[hy] at e2 HS;rw[hz] at e3 HS;clear hx hy hz;cases x<;>cases y<;>cases z<;>
 ·go_enter func163,ntmps163;go_wp2
  go_ret;exact ⟨AD (by rw[HS.out];rfl),rfl⟩
theorem QA (args:Array Value) (w:World):(callFunc 163 args).run prog w= .ok (.enter 163 args) w:=enters_of func163 (by kernel_rfl) rfl args w
theorem QB (l:Str) (w:World) (hs:l.length<=1073741824):
 Calls prog 68 #[Sv l,.func (.func 163) #[] #[]] w fun e w'=>(∃n:Int,e= .returned (Iv n)/\Hid (decide (0<=n)=l.any Eg))/\Below w.heap.size w w':=
 (first_any 163 #[] Eg l w hs QA (fun c wr _=>R3 c wr)).mono fun _ _ ⟨h1,h2⟩=>⟨⟨_,h1,hid (by
   have h:=DK Eg l 0;rw[show decide (0<=CW Eg 0 l)= !decide (CW Eg 0 l<0) by
    by_cases h0:CW Eg 0 l<0
    ·rw[decide_eq_true h0,decide_eq_false (by omega)];rfl
    ·rw[decide_eq_false h0,decide_eq_true (by omega)];rfl,h,List.all_eq_not_any_not]
   simp)⟩,h2⟩
def XW (S:Str) (w:World) (e:Ending) (w':World):Prop:=(∃x y:Int,e= .returned (.tuple #[Sv S,.agg #[Iv x,Iv y]]))/\Below w.heap.size w w'
theorem XX {S S':Str} {x y:Int} {w w':World} (h:S=S') (hb:Below w.heap.size w w'):XW S w (.returned (.tuple #[Sv S',.agg #[Iv x,Iv y]])) w':=⟨⟨x,y,by rw[h]⟩,hb⟩
theorem Vb {w:World} {G:Nat} {a b:Int} (h:Nr w G a b):w.cell? (Ad G 0)=some (Iv a)/\w.cell? (Ad G 1)=some (Iv b):=⟨h.q0,h.q1⟩
theorem Tb (w:World):Calls prog 18 #[] w fun e w'=>e= .returned (.agg #[Iv 0,Iv (-1)])/\Below w.heap.size w w':=(Cm w).mono fun e w' h=>⟨h.1,by rw[<-h.2];exact zA⟩
theorem QC (b:Bool) (p:Pm):GH b p=59::(p.name++61::Bt 44 (p.vals.map (GG b))):=by unfold GH;rw[JM]
theorem Sl.move_heap {w W:World} {B:Nat} {v:Value} {l:List Str} (h:CD w B v l) (e:W.heap=w.heap):CD W B v l:=
 Bj.move (S:=(· <B)) (w:=w) h (fun k _=>by rw[e]) (fun _ hk=>hk)
theorem Lz (g n:Str) (ps:List Pm) (v:Str) (b:Bool) (A:Option Addr) (c:Nat) (w:World) (hL:LD w) (hp:Xv w w.heap.size (.slice A ps.length c) ps) (hg:g.length<=134217728) (hn:n.length<=134217728) (hv:v.length<=536870912) (hw:Yb ps<=134217728):
 Calls prog 108 #[.agg #[Sv g,Sv n,.slice A ps.length c,Sv v],.bool b] w (XW (DH g n ps v b) w):=by
 have HM:=hid fun p (h:p∈ps)=>Bp h;have T5:=Bq ps;have Q2:=Mk b ps;have A8:Below w.heap.size w (w.alloc (.cells #[Sv g,Sv n,.slice A ps.length c,Sv v] 47)):=zA;obtain ⟨Wa,A5⟩: ∃Wa,w.alloc (.cells #[Sv g,Sv n,.slice A ps.length c,Sv v] 47)=Wa:=⟨_,rfl⟩;have DT:Wa.heap.size=w.heap.size+1:=(by rw[<-A5];simp);have a0:Wa.cell? (Ad w.heap.size 0)=some (Sv g):=(by rw[<-A5];simp);have a1:Wa.cell? (Ad w.heap.size 1)=some (Sv n):=(by rw[<-A5];simp);have a2:Wa.cell? (Ad w.heap.size 2)=some (.slice A ps.length c):=(by rw[<-A5];simp);have a3:Wa.cell? (Ad w.heap.size 3)=some (Sv v):=(by rw[<-A5];simp);rw[A5] at A8;obtain ⟨W0,AW⟩: ∃W0,Wa.alloc (.cells #[Iv 0,Iv 0] 28)=W0:=⟨_,rfl⟩;have H4:Nr W0 (w.heap.size+1) 0 0:=(by rw[<-AW,<-DT];exact Nr.new Wa);have TT:W0.heap.size=w.heap.size+2:=(by rw[<-AW];simp[DT]);have AL:Below Wa.heap.size Wa W0:=(by rw[<-AW];exact zA);have b0:=(AL.cell (p:=(Ad w.heap.size 0)) (by simp;omega)).trans a0;have b1:=(AL.cell (p:=(Ad w.heap.size 1)) (by simp;omega)).trans a1;have b2:=(AL.cell (p:=(Ad w.heap.size 2)) (by simp;omega)).trans a2;have b3:=(AL.cell (p:=(Ad w.heap.size 3)) (by simp;omega)).trans a3;have A9:Below w.heap.size w W0:=A8.trans (AL.mono A8.size);have HP:=hid (hp.keep A9 A9.size);have F2:=hL.below A9;have H8:=hid H4;clear hp AL A8 a0 a1 a2 a3 H4 hL;go_enter func108,ntmps108;go_wp2_with fail;(try rw[A5]);(try rw[DT]);(try rw[AW]);clear A5 AW DT;refine (Hb g n ps v b A c _ F2 HP.out hg hn hv hw).mono ?_;rintro e w1 ⟨⟨pp,rfl⟩,A0⟩;have F3:=A0.size;have E2:=A9.trans (A0.mono (by omega));have H9:=hid (H8.out.keep A0 (by omega));have d0:=(A0.cell (p:=(Ad w.heap.size 0)) (by simp;omega)).trans b0;have d1:=(A0.cell (p:=(Ad w.heap.size 1)) (by simp;omega)).trans b1;have d2:=(A0.cell (p:=(Ad w.heap.size 2)) (by simp;omega)).trans b2;have d3:=(A0.cell (p:=(Ad w.heap.size 3)) (by simp;omega)).trans b3;have HB:=hid (HP.out.keep A0 A0.size);have HF:=F2.below A0;clear b0 b1 b2 b3 H8 HP F2 A0;obtain ⟨E,B0⟩: ∃E,(BZ g n ps v b).1=E:=⟨_,rfl⟩;rw[B0];have AB:Below w1.heap.size w1 (w1.alloc (.cells #[Iv E,Iv pp] 28)):=zA;obtain ⟨W2,A6⟩: ∃W2,w1.alloc (.cells #[Iv E,Iv pp] 28)=W2:=⟨_,rfl⟩;have e0:W2.cell? (Ad w1.heap.size 0)=some (Iv E):=(by rw[<-A6];simp);have e1:W2.cell? (Ad w1.heap.size 1)=some (Iv pp):=(by rw[<-A6];simp);have HH:w1.heap.size<W2.heap.size:=(by rw[<-A6];simp);rw[A6] at AB;go_wp2_with fail;(try rw[A6]);refine (CU E pp _).mono ?_;rintro e W3 ⟨rfl,F4⟩;have AN:Below W2.heap.size W2 W3:=(by rw[<-F4];exact zA);have TX:=AN.size;have A1:=AB.trans (AN.mono (by omega));have E3:=E2.trans (A1.mono E2.size);have HI:=hid (H9.out.keep A1 (by omega));replace e0:=(AN.cell (p:=(Ad w1.heap.size 0)) HH).trans e0;replace e1:=(AN.cell (p:=(Ad w1.heap.size 1)) HH).trans e1;by_cases hE:E=0;rotate_left
 ·have HS:=hid (show DH g n ps v b=[] by unfold DH;rw[if_neg (by rw[B0];exact hE)]);have hq:(E==0)=false:=(by simpa using hE);obtain ⟨q0,q1,f0,f1,FB⟩:=HI.out;clear B0 hE F4 AN AB A6;go_wp2_with fail;go_region;all_goals
   go_wp2
   exact bodyPost_ret (v:= .tuple #[.string ⟨([]:Str).toArray⟩,.agg #[Iv E,Iv pp]]) (by simp[results,results108,go_sem,q0,q1,FB]) rfl (XX HS.out (Bs E3.drew (by omega) _ _))
 subst hE;have HS:=hid (show DH g n ps v b=OH g n ps v b by unfold DH;rw[if_pos B0]);have y0:=(A1.cell (p:=(Ad w.heap.size 0)) (by simp;omega)).trans d0;have y1:=(A1.cell (p:=(Ad w.heap.size 1)) (by simp;omega)).trans d1;have y2:=(A1.cell (p:=(Ad w.heap.size 2)) (by simp;omega)).trans d2;have y3:=(A1.cell (p:=(Ad w.heap.size 3)) (by simp;omega)).trans d3;have L8:=hid (HB.out.keep A1 A1.size);have L9:=HF.below A1;clear F4 AN AB A6 e0 e1 d0 d1 d2 d3 HB HF H9 B0;have LB:(⟨g.toArray⟩:ByteArray)++⟨#[46]⟩=⟨(g++[46]).toArray⟩:=AM g [46];have HK:(⟨(g++[46]).toArray⟩:ByteArray)++⟨n.toArray⟩=⟨(g++[46]++n).toArray⟩:=AM _ n;obtain ⟨G,hG⟩: ∃G,(if g.isEmpty then [] else g++[46])=G:=⟨_,rfl⟩;have HG:=hid hG;have U1:G.length<=134217729:=(by rw[<-hG];split<;>simp<;>omega);clear hG;go_upto_if 24 with fail;go_cut [7] from 24 to 29 (fun s7 wz=>s7= .string ⟨(G++n).toArray⟩/\wz=W3);case first=>
  by_cases HL:g=[]
  ·subst HL;go_wp2
   go_meet;exact ⟨Af (by rw[<-HG.out];rfl),rfl⟩
  ·have HN:List.isEmpty g=false:=(by cases g with|nil=>exact absurd rfl HL|cons x r=>rfl);rw[HN];have LL:=hid (show g++[46]=G by rw[<-HG.out,HN];rfl);clear HG;go_wp2
   go_meet;exact ⟨Af (by rw[<-LL.out];simp),rfl⟩
 case rest=>
 obtain ⟨rfl,rfl⟩:=hcut;obtain ⟨W3,rfl⟩: ∃W3,W3=wc:=⟨_,rfl⟩;clear LB HK y0 y1;go_wp2
 go_loopw [7,9,10,12,33] (fun s7 _ _ _ i wr=> ∃(k:Nat) (S:Str),k<=ps.length/\i=Iv k/\s7=Sv S/\Hid (S++(ps.drop k).flatMap (GH b)=(G++n)++ps.flatMap (GH b))/\Below W3.heap.size W3 wr) (fun _ _ _ _ i _=>ps.length-(intOf i).toNat);case atStart=>exact ⟨0,G++n,by omega,rfl,Af (by simp),hid rfl,zB⟩
 case round=>
  obtain ⟨k,S,hk,rfl,rfl,HA,hB⟩:=hrel;have HQ:=hB.size;have M2:=congrArg List.length HA.out;simp only[List.length_append,List.length_cons,List.length_nil] at M2;have U2:=L9.below hB;by_cases MM:k<ps.length
  ·obtain ⟨bb,o,p,u,rfl,HR,hd,hc,G1,hu⟩:=L8.out.at_ MM;have V5:=(hB.cell (p:=(Ad bb (o+k*2))) HR).trans hc;have R0:=(hB.cell (p:=(Ad bb (o+k*2+1))) HR).trans G1;have HV:p∈ps:=List.mem_of_mem_drop (by rw[hd];simp);have V6:=HM.out p HV;have VC:=Bd p;have W1:3*wS p.vals<=wP p:=(by unfold wP;omega);have W4:=C3 p.vals;have S1:=Mj b p;have W5:=Dt 44 (p.vals.map (GG b));have W6:=SN b p.vals;have HD:=hid hd;obtain ⟨A2,c2,hf⟩:=hu.form;subst hf;have HU:=hid (hu.keep hB HQ);clear hc G1 hd hu HV;obtain ⟨bq,E0⟩: ∃bq,wr.heap.size=bq:=⟨_,rfl⟩;obtain ⟨Wr,HW,A0,d0,d1,F3⟩: ∃W:World,wr.alloc (.cells #[Sv p.name,vP A2 p c2] 57)=W/\Below wr.heap.size wr W/\W.cell? (Ad bq 0)=some (Sv p.name)/\W.cell? (Ad bq 1)=some (vP A2 p c2)/\bq<W.heap.size:=
    ⟨_,rfl,zA,by rw[<-E0];simp,by rw[<-E0];simp,by rw[<-E0];simp⟩
   have HZ:=hB.trans (A0.mono HQ);have N0:=hid (HU.out.keep A0 A0.size);have I0:=hid (show (S++GH b p)++(ps.drop (k+1)).flatMap (GH b)=(G++n)++ps.flatMap (GH b) by rw[<-HA.out,HD.out,List.flatMap_cons,List.append_assoc]);have G2:=congrArg List.length I0.out;simp only[List.length_append,List.length_cons,List.length_nil] at G2;clear A0 HU HA HD;go_wp2_with fail;(try rw[HW]);clear HW E0;go_loopw [10,12,40] (fun v _ i wx=> ∃(j:Nat) (X:List Str) (V:Value),j<=p.vals.length/\i=Iv j/\V=v/\Hid (X=(p.vals.take j).map (GG b))/\Ce wx Wr.heap.size V j X/\Below Wr.heap.size Wr wx) (fun _ _ i _=>p.vals.length-(intOf i).toNat);case atStart=>exact ⟨0,[],_,by omega,rfl,rfl,hid rfl,Ce.nil _ _,zB⟩
   case round=>
    obtain ⟨j,X,VX,hj,rfl,rfl,HX,A3,A7⟩:=hrel;have I1:=A7.size;have d0x:=(A7.cell (p:=(Ad bq 0)) F3).trans d0;by_cases B1:j<p.vals.length
    ·obtain ⟨b3,o3,s,rfl,I2,E1,I3⟩:=N0.out.at_ B1;have W7:=C2 (List.mem_of_mem_drop (show s∈p.vals.drop j by rw[E1];simp));have W8:=(A7.cell (p:=(Ad b3 (o3+j))) I2).trans I3;have HT:=hid (show X++[GG b s]=(p.vals.take (j+1)).map (GG b) by
      rw[List.take_succ_eq_append_getElem B1,List.map_append,HX.out];rw[List.drop_eq_getElem_cons B1] at E1;injection E1 with h1 _;rw[h1];rfl)
     have HO:=hid A3;have N1:=JN b s;clear E1 I3 A3 HX;have N2:=Ml b s;have B2:=hid (Mm b s);obtain ⟨Y,hY⟩: ∃Y,Ts b s=Y:=⟨_,rfl⟩;have HY:=hid hY;rw[hY] at N2 B2;clear hY;go_upto_if 44 with fail;go_cut [12] from 41 to 57 (fun G4 wz=>G4=Sv Y/\Hid (Ce wz Wr.heap.size VX j X/\Below Wr.heap.size Wr wz));case first=>
      cases b with
      |false=>
       obtain rfl:=HY.out;go_wp2
       go_meet;exact ⟨rfl,hid ⟨HO.out,A7⟩⟩
      |true=>
       go_wp2_with fail;refine (GM s _ (by omega)).mono ?_;rintro e w4 ⟨rfl,H0⟩;have HC:=hid (show _/\_ from ⟨Cq HO.out H0,A7.trans (H0.mono A7.size)⟩);rw[show Fk s=Y from HY.out];clear H0 HO;go_wp2
       go_meet;exact ⟨rfl,HC⟩
     case rest=>
     obtain ⟨rfl,HC⟩:=hcut;obtain ⟨w4,rfl⟩: ∃w4,w4=wc:=⟨_,rfl⟩;have I4:=hid HC.out.1;have I5:=HC.out.2;clear HC HO;go_wp2_with fail;refine (QB Y _ (by omega)).mono ?_;rintro e w5 ⟨⟨m,rfl,Hm⟩,H1⟩;have I6:=hid (Cq I4.out H1);have IB:=I5.trans (H1.mono I5.size);have KI:=IB.size;clear H1 I4;obtain ⟨V,hV⟩: ∃V,GG b s=V:=⟨_,rfl⟩;rw[hV] at B2 HT N1;obtain ⟨z,hz⟩: ∃z,Y.any Eg=z:=⟨_,rfl⟩;rw[hz] at B2 Hm;have W9:decide (0<=m)=z:=Hm.out;clear hz hV Hm;go_upto_if 49 with fail;go_cut [12] from 41 to 57 (fun G4 wz=>G4=Sv V/\wz=w5);case first=>
      have G1:(⟨#[34]⟩:ByteArray)++⟨Y.toArray⟩=⟨(34::Y).toArray⟩:=AM [34] Y;have WA:(⟨(34::Y).toArray⟩:ByteArray)++⟨#[34]⟩=⟨(34::(Y++[34])).toArray⟩:=AM (34::Y) [34];cases z
      ·obtain rfl:V=Y:=B2.out;go_wp2
       go_meet;exact ⟨rfl,rfl⟩
      ·obtain rfl:V=34::(Y++[34]):=B2.out;go_wp2
       go_meet;exact ⟨rfl,rfl⟩
     case rest=>
     obtain ⟨rfl,rfl⟩:=hcut;obtain ⟨w5,rfl⟩: ∃w5,w5=wc:=⟨_,rfl⟩;go_wp2_with (at_builtin;refine AU rfl _ _ 55 rfl Wr.heap.size 9 (.string ⟨#[]⟩) 1 16 underlying55 Fm rfl (by decide) (by decide) _ j _ rfl (I6.out.alloc _) w5.heap.size 1 [sV V] rfl rfl (Ed _ _ _) (by simp[sV,Value.oneCell']) (by omega) (by simp;omega) ?_;intro g9 cap9 w6 B3 _ _ _ E9;refine Hid.out ?_);refine Lib.hid ?_;have H2:=hid (Ce.snoc B3);have N3:=E9.out Wr (IB.alloc KI _);clear B3 E9 I6;go_wp2
     go_roundw;case rel=>exact ⟨j+1,X++[V],_,by omega,by go_num,rfl,HT,H2.out,N3⟩
     case measure=>simp[intOf];omega
    ·obtain rfl:j=p.vals.length:=(by omega);have DA:=HX.out;rw[List.take_length] at DA;have hS:=hid A3.strs;obtain ⟨A4,c4,hf⟩:=A3.form;subst hf;have F1:(Bt 44 X).length<=1073741824:=(by rw[DA];omega);have L1:X.length<=1073741824:=(by have:=A3.len;omega);have DD:=A3.len;have L2:=hid (show S++(59::(p.name++61::Bt 44 X))=S++GH b p by rw[DA,QC]);have OV:(Bt 44 X).length<=134217728:=(by rw[DA];omega);have H3:=HZ.trans (A7.mono HZ.size);clear A3 DA HX;obtain ⟨J,hJ⟩: ∃J,Bt 44 X=J:=⟨_,rfl⟩;have HJ:=hid hJ;rw[hJ] at L2 F1 OV;clear hJ;have WF:(⟨#[59]⟩:ByteArray)++⟨p.name.toArray⟩=⟨(59::p.name).toArray⟩:=(by rw[show (⟨#[59]⟩:ByteArray)=⟨[59].toArray⟩ from rfl,AM];rfl);have X1:(⟨(59::p.name).toArray⟩:ByteArray)++⟨#[61]⟩=⟨(59::(p.name++[61])).toArray⟩:=AM (59::p.name) [61];have X2:(⟨(59::(p.name++[61])).toArray⟩:ByteArray)++⟨J.toArray⟩=⟨(59::(p.name++61::J)).toArray⟩:=(by rw[AM];simp);have X3:(⟨S.toArray⟩:ByteArray)++⟨(59::(p.name++61::J)).toArray⟩=⟨(S++(59::(p.name++61::J))).toArray⟩:=AM _ _;have P1:=hid (fun (W:World) (h:W.heap=wr.heap)=>show Calls prog 164 #[vP A4 p c4,.string ⟨#[44]⟩] W fun e w'=>e= .returned (Sv J)/\Below W.heap.size W w' from by
      have:=Er X 44 (.slice A4 X.length c4) W (by rw[DD,show W.heap.size=wr.heap.size by rw[h]];exact Sl.move_heap hS.out h) L1 (by rw[HJ.out];exact F1);rw[HJ.out,DD] at this;exact this)
     have d0d:wr.drew.cell? (Ad bq 0)=some (Sv p.name):=d0x;go_wp2_with fail;go_region_with (go_at_call 164;refine (P1.out wr.drew rfl).mono ?_;rintro e w9 ⟨rfl,AV⟩;have P2:=(AV.cell (p:=(Ad bq 0)) (Nat.lt_of_lt_of_le F3 I1)).trans d0d;have PB:=H3.drew.trans (AV.mono H3.size));all_goals
      go_wp2
      go_roundw;case rel=>exact ⟨k+1,S++GH b p,by omega,by go_num,Af (by rw[<-L2.out]),I0,by first|assumption|exact H3.drew⟩
      case measure=>simp[intOf];omega
  ·obtain rfl:k=ps.length:=(by omega);have HE:=hid (show S=(G++n)++ps.flatMap (GH b) by rw[<-HA.out,List.drop_length];simp);have XB:S.length<=1073741824:=by
    have:=congrArg List.length HE.out;simp only[List.length_append,List.length_cons,List.length_nil] at this;omega
   have L4:=(hB.cell (p:=(Ad w.heap.size 3)) (by simp;omega)).trans y3;have L5:=E3.trans (hB.mono (by omega));have PF:=HI.out.keep hB (by omega);have Y1:(⟨S.toArray⟩:ByteArray)++⟨#[58]⟩=⟨(S++[58]).toArray⟩:=AM S [58];have Y2:(⟨(S++[58]).toArray⟩:ByteArray)++⟨v.toArray⟩=⟨(S++[58]++v).toArray⟩:=AM _ v;have HT:=hid (show DH g n ps v b=S++58::v by rw[HS.out,HE.out];unfold OH;rw[HG.out];try simp only[List.append_assoc,List.nil_append,List.cons_append]);obtain ⟨q0,q1,f0,f1,FB⟩:=PF;clear HA HE;go_wp2_with fail;have L6:wr.drew.cell? (Ad w.heap.size 3)=some (Sv v):=L4;have L7:=hid (show Nr wr.drew (w.heap.size+1) 0 0 from ⟨q0,q1,f0,f1,FB⟩);have Q1:w.heap.size<wr.heap.size:=(by omega);clear q0 q1 f0 f1;go_region_with (go_at_call 18;refine (Tb _).mono ?_;rintro e w9 ⟨rfl,AV⟩;have P2:=(AV.cell (p:=(Ad w.heap.size 3)) Q1).trans L6;obtain ⟨q0,q1,f0,f1,SS⟩:=L7.out.keep AV L7.out.lt;have PB:=L5.drew.trans (AV.mono L5.size));all_goals
    go_wp2
    exact bodyPost_ret (v:= .tuple #[.string ⟨(S++58::v).toArray⟩,.agg #[Iv 0,Iv (-1)]]) (by simp[results,results108,go_sem, *]) rfl (XX HT.out (Bs ‹_› (by omega) _ _))
end Go.Proofs.YtjhpdljphchfaaaGreatDoor
