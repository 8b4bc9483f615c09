/- A part of the proof of ConvertUps: Holds and Right of package line walked. -/
import Derived.Test.YtjhpdljphchfaaaGreatDoorA18
import Derived.Test.YtjhpdljphchfaaaGreatDoorA21
import Derived.Test.YtjhpdljphchfaaaGreatDoorA10
set_option maxHeartbeats 40000000
set_option maxRecDepth 1000000
set_option linter.all false
namespace Go.Proofs.YtjhpdljphchfaaaGreatDoor
open Go.RowKit
open Go.Proofs.Tryz
theorem JK (l:Str):(Fk l).length<=2*l.length:=D9 Jn Iz l
theorem Uk (l:Str) (h:(34:UInt8)∈l):0<=Lib.indexByte l 34:=by have:=EA l;rw[decide_eq_true h] at this;exact of_decide_eq_true this
theorem SL (l:Str) (h:(34:UInt8)∉l):Lib.indexByte l 34<0:=by have:=EA l;rw[decide_eq_false h] at this;have:=of_decide_eq_false this;omega
theorem Mf (s:Str) (h:BB s=true):(BB s&& !s.contains 34)= !decide (34∈s):=by rw[h,Bool.true_and,List.contains_eq_mem]
theorem Mg (s:Str) (h:BB s=false):(BB s&& !s.contains 34)=false:=by rw[h,Bool.false_and]
theorem NR (l:Str) (b:Bool) (w:World) (hs:l.length<=268435456):
 Calls prog 128 #[Sv l,.bool b] w fun e w'=>e= .returned (.bool (BI l b))/\Below w.heap.size w w':=by
 have I1:=JK l;cases b with
 |true=>
  have HE:=hid (show BI l true=(BB (Fk l)&& !(Fk l).contains 34) from rfl);go_enter func128,ntmps128;go_wp2_with fail;refine (encode_any l _ (by omega)).mono ?_;rintro e w1 ⟨rfl,hb⟩;obtain ⟨s,I2⟩: ∃s,s=Fk l:=⟨_,rfl⟩;rw[<-I2] at I1 HE⊢;clear I2;by_cases hu:BB s=true
  ·have HN:=hid (HE.out.trans (Mf s hu));clear HE;go_wp2_with fail;refine (Dq s _ (by omega)).mono ?_;rintro e w2 ⟨rfl,rfl⟩;rw[hu];go_wp2_with fail;refine (strings_IndexByte _ _ _).mono ?_;rintro e w3 ⟨rfl,rfl⟩;by_cases hm:(34:UInt8)∈s
   ·have hi:=Uk s hm;have HR:=hid (show BI l true=false by rw[HN.out,decide_eq_true hm];rfl);clear hm HN;go_wp2
    go_ret;exact ⟨AD (by rw[HR.out];exact decide_eq_false (by omega)),hb⟩
   ·have hi:=SL s hm;have HR:=hid (show BI l true=true by rw[HN.out,decide_eq_false hm];rfl);clear hm HN;go_wp2
    go_ret;exact ⟨AD (by rw[HR.out]),hb⟩
  ·have hu:BB s=false:=(by simpa using hu);have HN:=hid (HE.out.trans (Mg s hu));clear HE;go_wp2_with fail;refine (Dq s _ (by omega)).mono ?_;rintro e w2 ⟨rfl,rfl⟩;rw[hu];go_wp2
   go_ret;exact ⟨AD (by rw[HN.out]),hb⟩
 |false=>
  have HE:=hid (show BI l false=(BB l&& !l.contains 34) from rfl);go_enter func128,ntmps128;by_cases hu:BB l=true
  ·have HN:=hid (HE.out.trans (Mf l hu));clear HE;go_wp2_with fail;refine (Dq l _ (by omega)).mono ?_;rintro e w2 ⟨rfl,rfl⟩;rw[hu];go_wp2_with fail;refine (strings_IndexByte _ _ _).mono ?_;rintro e w3 ⟨rfl,rfl⟩;by_cases hm:(34:UInt8)∈l
   ·have hi:=Uk l hm;have HR:=hid (show BI l false=false by rw[HN.out,decide_eq_true hm];rfl);clear hm HN;go_wp2
    go_ret;exact ⟨AD (by rw[HR.out];exact decide_eq_false (by omega)),zB⟩
   ·have hi:=SL l hm;have HR:=hid (show BI l false=true by rw[HN.out,decide_eq_false hm];rfl);clear hm HN;go_wp2
    go_ret;exact ⟨AD (by rw[HR.out]),zB⟩
  ·have hu:BB l=false:=(by simpa using hu);have HN:=hid (HE.out.trans (Mg l hu));clear HE;go_wp2_with fail;refine (Dq l _ (by omega)).mono ?_;rintro e w2 ⟨rfl,rfl⟩;rw[hu];go_wp2
   go_ret;exact ⟨AD (by rw[HN.out]),zB⟩
def wP (p:Pm):Nat:=p.name.length+2+3*wS p.vals
def Yb (l:List Pm):Nat:=(l.map wP).sum
theorem Bp {l:List Pm} {p:Pm} (h:p∈l):wP p<=Yb l:=by
 unfold Yb
 induction l with
 |nil=>simp at h
 |cons x r ih=>
  rw[List.map_cons,List.sum_cons];rcases List.mem_cons.1 h with rfl|h
  ·omega
  ·have:=ih h;omega
theorem Bq (l:List Pm):l.length<=Yb l:=by
 unfold Yb
 induction l with
 |nil=>simp
 |cons x r ih=>rw[List.map_cons,List.sum_cons,List.length_cons];have:2<=wP x:=(by unfold wP;omega);omega
theorem Bd (p:Pm):p.name.length<=wP p:=by unfold wP;omega
theorem DC (p:Pm):wS p.vals<=wP p:=by unfold wP;omega
theorem Gf {b:Bool} {p:Pm} (h:AP p.name=false):Dj b p=5:=by unfold Dj;rw[h];rfl
theorem Gg {b:Bool} {p:Pm} (h:AP p.name=true) (h2:p.vals=[]):Dj b p=8:=by unfold Dj;rw[h,if_pos rfl,if_pos h2]
theorem Gh {b:Bool} {p:Pm} (h:AP p.name=true) (h2:p.vals≠[]):Dj b p=if p.vals.all (BI · b) then 0 else 3:=by unfold Dj;rw[h,if_pos rfl,if_neg h2]
theorem CQ {b:Bool} {p:Pm} {r:List Pm} {k:Nat} {e:Int} (h:Dj b p=e) (he:e≠0):Az b k (p::r)=some (e,(k:Int)):=by unfold Az;rw[h,if_neg he]
theorem IJ {b:Bool} {p:Pm} {r:List Pm} {k:Nat} (h:Dj b p=0):Az b k (p::r)=Az b (k+1) r:=by
 conv=>lhs;unfold Az
 rw[h,if_pos rfl]
def V4 (g:Str):Prop:=g=[]∨AP g=true
theorem IK {g n:Str} {ps:List Pm} {v:Str} {b:Bool} (h:AP n=false):BZ g n ps v b=(5, -1):=by unfold BZ;rw[if_pos (by rw[h];rfl)]
theorem Le {g n:Str} {ps:List Pm} {v:Str} {b:Bool} (hg:g≠[]) (h:AP g=false):BZ g n ps v b=(5, -1):=by unfold BZ;rw[if_pos (by cases g with|nil=>exact absurd rfl hg|cons x r=>rw[h];simp)]
theorem IL {g n:Str} {ps:List Pm} {v:Str} {b:Bool} (hn:AP n=true) (hg:V4 g) (h:20<ps.length):BZ g n ps v b=(4, -1):=by unfold BZ;rw[if_neg (by rcases hg with hg|hg<;>simp[hn,hg]),if_pos h]
theorem Mh {g n:Str} {ps:List Pm} {v:Str} {b:Bool} (hn:AP n=true) (hg:V4 g) (h:ps.length<=20):
 BZ g n ps v b=(match Az b 0 ps with|some f=>f|none=>if BB v then (0, -1) else (3, -1)):=by
 unfold BZ;rw[if_neg (by rcases hg with hg|hg<;>simp[hn,hg]),if_neg (by omega)];rfl
def VP (R:Int×Int) (w:World) (e:Ending) (w':World):Prop:=(∃u,e= .returned u/\Aj w' u R.1 R.2)/\Below w.heap.size w w'
theorem NS {R:Int×Int} {e p:Int} {u:Value} {w w':World} (h:R=(e,p)) (hu:Aj w' u e p) (hb:Below w.heap.size w w'):VP R w (.returned u) w':=⟨⟨u,rfl,by rw[h];exact hu⟩,hb⟩
theorem KO {g n:Str} {ps:List Pm} {v:Str} {b:Bool} (h:(AP n&&(g.isEmpty||AP g))=false):BZ g n ps v b=(5, -1):=by
 cases h1:AP n
 ·exact IK h1
 ·rw[h1] at h;cases g with
  |nil=>cases h
  |cons x r=>exact Le (by simp) h
theorem IM {g n:Str} (h:(AP n&&(g.isEmpty||AP g))=true):AP n=true/\V4 g:=by
 cases h1:AP n
 ·rw[h1] at h;cases h
 ·rw[h1] at h;cases g with
  |nil=>exact ⟨rfl,.inl rfl⟩
  |cons x r=>exact ⟨rfl,.inr h⟩
theorem IN (g n:Str) (ps:List Pm) (v:Str) (b:Bool) (A:Option Addr) (c:Nat) (w:World) (hp:Xv w w.heap.size (.slice A ps.length c) ps) (hg:g.length<=134217728) (hn:n.length<=134217728) (hv:v.length<=536870912) (hw:Yb ps<=134217728):
 Calls prog 76 #[.agg #[Sv g,Sv n,.slice A ps.length c,Sv v],.bool b] w (VP (BZ g n ps v b) w):=by
 have H4:Below w.heap.size w (w.alloc (.cells #[Sv g,Sv n,.slice A ps.length c,Sv v] 47)):=zA;have HP:=hid (hp.keep H4 H4.size);have HM:=hid fun p (h:p∈ps)=>Bp h;have L4:=Bq ps;clear hp;obtain ⟨W0,A8,Q2,E0,R0,L5,hz⟩: ∃W0:World,w.alloc (.cells #[Sv g,Sv n,.slice A ps.length c,Sv v] 47)=W0/\W0.cell? (Ad w.heap.size 0)=some (Sv g)/\W0.cell? (Ad w.heap.size 1)=some (Sv n)/\W0.cell? (Ad w.heap.size 2)=some (.slice A ps.length c)/\W0.cell? (Ad w.heap.size 3)=some (Sv v)/\w.heap.size<W0.heap.size:=
  ⟨_,rfl,by simp,by simp,by simp,by simp,by simp⟩
 have HA:=hid (show Below w.heap.size w W0 by rw[<-A8];exact H4);have L6:=hid (show Xv W0 W0.heap.size (.slice A ps.length c) ps by rw[<-A8];exact HP.out);obtain ⟨q,hq⟩: ∃q,(AP n&&(g.isEmpty||AP g))=q:=⟨_,rfl⟩;have HQ:=hid hq;clear H4 HP hq;go_enter func76,ntmps76;go_upto_region 1 with fail;(try rw[A8]);clear A8;go_cut [10] from 11 to 25 (fun L7 wz=>L7= .bool (!q)/\W0=wz);case first=>
  by_cases h2:g=[]
  ·subst h2;have HN:=hid (show AP n=q by simpa using HQ.out);clear HQ;go_wp2_with fail;refine (Dp n _ (by omega)).mono ?_;rintro e w1 ⟨rfl,rfl⟩;rw[HN.out];clear HN;cases q;all_goals
    go_wp2
    go_meet;exact ⟨rfl,rfl⟩
  ·have HK:List.isEmpty g=false:=(by cases g with|nil=>exact absurd rfl h2|cons x r=>rfl);have hq:=HQ.out;rw[HK,Bool.false_or] at hq;have AN:=hid hq;clear HQ hq;go_wp2_with fail;refine (Dp n _ (by omega)).mono ?_;rintro e w1 ⟨rfl,rfl⟩;obtain ⟨x,hx⟩: ∃x,AP n=x:=⟨_,rfl⟩;rw[hx] at AN⊢;clear hx;cases x
   ·obtain rfl:false=q:=AN.out;go_wp2
    go_meet;exact ⟨rfl,rfl⟩
   ·have HN:=hid (show AP g=q from AN.out);clear AN;go_wp2_with fail;refine (Dp g _ (by omega)).mono ?_;rintro e w1 ⟨rfl,rfl⟩;rw[HN.out];clear HN;cases q;all_goals
     go_wp2
     go_meet;exact ⟨rfl,rfl⟩
 case rest=>
 obtain ⟨rfl,rfl⟩:=hcut;cases q
 ·have HR:=hid (KO (ps:=ps) (v:=v) (b:=b) HQ.out);go_wp2
  go_ret;exact NS HR.out (Aj.bare _ (by decide)) HA.out
 obtain ⟨h1,F2⟩:=IM HQ.out;have HG:=hid F2;clear HQ F2;by_cases B1:20<ps.length
 ·have hq:(20:Int)<(ps.length:Int):=(by omega);have HR:=hid (IL (g:=g) (ps:=ps) (v:=v) (b:=b) h1 HG.out B1);clear B1;go_wp2
  go_ret;exact NS HR.out (Aj.bare _ (by decide)) HA.out
 have hq: ¬(20:Int)<(ps.length:Int):=(by omega);have A4:=hid (Mh (g:=g) (ps:=ps) (v:=v) (b:=b) h1 HG.out (by omega));clear B1 HG;go_wp2
 go_loopw [5,6,7,9,36] (fun _ _ _ _ i wr=> ∃k:Nat,k<=ps.length/\i=Iv k/\Hid (Az b 0 ps=Az b k (ps.drop k))/\Below W0.heap.size W0 wr) (fun _ _ _ _ i _=>ps.length-(intOf i).toNat);case atStart=>exact ⟨0,by omega,rfl,hid rfl,zB⟩
 case round=>
  obtain ⟨k,hk,rfl,HX,hb⟩:=hrel;have F3:=hb.size;have F4:=hid (HA.out.trans (hb.mono (by omega)));by_cases HL:k<ps.length
  ·obtain ⟨bb,o,p,u,rfl,FB,hd,hc,E0,hu⟩:=L6.out.at_ HL;have L8:=(hb.cell (p:=(Ad bb (o+k*2))) FB).trans hc;have G1:=(hb.cell (p:=(Ad bb (o+k*2+1))) FB).trans E0;have G2:p∈ps:=List.mem_of_mem_drop (by rw[hd];simp);have L9:=HM.out p G2;have LB:=Bd p;have LL:=DC p;have HO:=C3 p.vals;have HD:=hid hd;have HU:=hid (hu.keep hb F3);obtain ⟨A2,c2,hf⟩:=hu.form;subst hf;clear hc E0 hd hu G2;obtain ⟨bq,B2⟩: ∃bq,wr.heap.size=bq:=⟨_,rfl⟩;obtain ⟨Wr,A9,A1,d0,d1,M2⟩: ∃W:World,wr.alloc (.cells #[Sv p.name,vP A2 p c2] 57)=W/\Below wr.heap.size wr W/\W.cell? (Ad bq 0)=some (Sv p.name)/\W.cell? (Ad bq 1)=some (vP A2 p c2)/\bq<W.heap.size:=
    ⟨_,rfl,zA,by rw[<-B2];simp,by rw[<-B2];simp,by rw[<-B2];simp⟩
   have E1:=hid (hb.trans (A1.mono F3));have E2:=hid (F4.out.trans (A1.mono F4.out.size));have E3:=hid (HU.out.keep A1 A1.size);clear HU F4;by_cases A3:AP p.name=true;rotate_left
   ·have A3:AP p.name=false:=(by simpa using A3);have HE:=hid (show BZ g n ps v b=(5,(k:Int)) by rw[A4.out,HX.out,HD.out,CQ (Gf A3) (by decide)]);go_wp2_with fail;(try rw[A9]);refine (Dp p.name _ (by omega)).mono ?_;rintro e w1 ⟨rfl,rfl⟩;rw[A3];clear HX HD A4 A9;go_wp2
    go_loop [7,9,54] (fun s7 _ i=>s7=Iv 5/\ ∃j:Nat,j<=p.vals.length/\i=Iv j) (fun _ _ i=>p.vals.length-(intOf i).toNat)
    case atStart=>exact ⟨rfl,0,by omega,rfl⟩
    case round=>
     obtain ⟨rfl,j,hj,rfl⟩:=hrel;by_cases G4:j<p.vals.length
     ·obtain ⟨b3,o3,s,rfl,DA,AV,AB⟩:=E3.out.at_ G4;clear AV;go_wp2
      go_round
      case rel=>exact ⟨rfl,j+1,by omega,by go_num⟩
      case measure=>simp[intOf];omega
     ·obtain rfl:j=p.vals.length:=(by omega);go_wp2
      go_ret;exact NS HE.out (Aj.new _ (e:=5) (p:=k) (by decide) (by omega) 65) (E2.out.alloc E2.out.size _)
   by_cases A5:p.vals=[]
   ·have HE:=hid (show BZ g n ps v b=(8,(k:Int)) by rw[A4.out,HX.out,HD.out,CQ (Gg A3 A5) (by decide)]);have E9:p.vals.length=0:=(by rw[A5];rfl);simp only[vP,E9] at d1 A9;rw[E9] at G1;go_wp2_with fail;(try rw[A9]);refine (Dp p.name _ (by omega)).mono ?_;rintro e w1 ⟨rfl,rfl⟩;rw[A3];clear HX HD A4 A9 A5 E3 HO E9;go_wp2_with fail;refine wp_loop_rounds 1 ?_;rw[rounds_succ];go_wp2
    go_ret;exact NS HE.out (Aj.new _ (e:=8) (p:=k) (by decide) (by omega) 65) (E2.out.alloc E2.out.size _)
   have H0:=hid (Gh (b:=b) A3 A5);have MM:((p.vals.length:Int)==0)=false:=by
    cases HS:p.vals with
    |nil=>exact absurd HS A5
    |cons x r=>simp;omega
   go_wp2_with fail;(try rw[A9]);refine (Dp p.name _ (by omega)).mono ?_;rintro e w1 ⟨rfl,rfl⟩;rw[A3];clear A9 A5;go_wp2
   go_loopw [7,9,54] (fun s7 _ i wx=> ∃(j:Nat) (z:Bool),j<=p.vals.length/\i=Iv j/\s7=Iv (if z=true then 0 else 3)/\Hid (p.vals.all (BI · b)=(z&&(p.vals.drop j).all (BI · b)))/\Below Wr.heap.size Wr wx) (fun _ _ i _=>p.vals.length-(intOf i).toNat);case atStart=>exact ⟨0,true,by omega,rfl,rfl,hid rfl,zB⟩
   case round=>
    obtain ⟨j,z,hj,rfl,rfl,HJ,A6⟩:=hrel;have I3:=A6.size;have d0x:=(A6.cell (p:=(Ad bq 0)) M2).trans d0;by_cases G4:j<p.vals.length
    ·obtain ⟨b3,o3,s,rfl,DA,AV,AB⟩:=E3.out.at_ G4;have N0:=C2 (List.mem_of_mem_drop (show s∈p.vals.drop j by rw[AV];simp));have N1:=(A6.cell (p:=(Ad b3 (o3+j))) DA).trans AB;have AW:=hid (show p.vals.all (BI · b)=(z&&(BI s b&&(p.vals.drop (j+1)).all (BI · b))) by rw[HJ.out,AV,List.all_cons]);clear AV HJ AB;cases z with
     |false=>
      go_wp2
      go_roundw;case rel=>exact ⟨j+1,false,by omega,by go_num,rfl,hid (by rw[AW.out];rfl),A6⟩
      case measure=>simp[intOf];omega
     |true=>
      go_wp2_with fail;refine (NR s b _ (by omega)).mono ?_;rintro e w2 ⟨rfl,A0⟩;have I4:=A6.trans (A0.mono A6.size);obtain ⟨y,hy⟩: ∃y,BI s b=y:=⟨_,rfl⟩;rw[hy] at AW⊢;clear hy;cases y with
      |true=>
       go_wp2
       go_roundw;case rel=>exact ⟨j+1,true,by omega,by go_num,rfl,hid (by rw[AW.out,Bool.true_and]),I4⟩
       case measure=>simp[intOf];omega
      |false=>
       go_wp2
       go_roundw;case rel=>exact ⟨j+1,false,by omega,by go_num,rfl,hid (by rw[AW.out];rfl),I4⟩
       case measure=>simp[intOf];omega
    ·obtain rfl:j=p.vals.length:=(by omega);have HZ:=hid (show p.vals.all (BI · b)=z by rw[HJ.out,List.drop_length,List.all_nil,Bool.and_true]);clear HJ;cases z with
     |true=>
      have HN:=hid (show Az b 0 ps=Az b (k+1) (ps.drop (k+1)) by rw[HX.out,HD.out,IJ (by rw[H0.out,HZ.out];rfl)]);go_wp2
      go_roundw;case rel=>exact ⟨k+1,by omega,by go_num,HN,E1.out.trans (A6.mono E1.out.size)⟩
      case measure=>simp[intOf];omega
     |false=>
      have HE:=hid (show BZ g n ps v b=(3,(k:Int)) by rw[A4.out,HX.out,HD.out,CQ (e:=3) (by rw[H0.out,HZ.out];rfl) (by decide)]);have HF:=hid (E2.out.trans (A6.mono E2.out.size));go_wp2
      go_ret;exact NS HE.out (Aj.new _ (e:=3) (p:=k) (by decide) (by omega) 65) (HF.out.alloc HF.out.size _)
  ·obtain rfl:k=ps.length:=(by omega);have I5:=(hb.cell (p:=(Ad w.heap.size 3)) hz).trans L5;have HE:=hid (show BZ g n ps v b=if BB v then (0, -1) else (3, -1) by rw[A4.out,HX.out,List.drop_length];rfl);clear HX A4;have N2:w.heap.size<wr.heap.size:=(by omega);go_wp2_with fail;refine (Dq v _ (by omega)).mono ?_;rintro e w1 ⟨rfl,rfl⟩;obtain ⟨y,hy⟩: ∃y,BB v=y:=⟨_,rfl⟩;rw[hy] at HE⊢;clear hy;cases y with
   |true=>
    go_wp2
    go_ret;exact NS HE.out (Aj.nil _) F4.out
   |false=>
    go_wp2
    go_ret;exact NS HE.out (Aj.bare _ (by decide)) F4.out
structure Nr (w:World) (G:Nat) (a b:Int):Prop where
 q0:w.cell? (Ad G 0)=some (Iv a)
 q1:w.cell? (Ad G 1)=some (Iv b)
 f0:w.frozen? (Ad G 0)=false
 f1:w.frozen? (Ad G 1)=false
 lt:G<w.heap.size
theorem Nr.keep {w w':World} {G B:Nat} {a b:Int} (h:Nr w G a b) (hb:Below B w w') (hB:G<B):Nr w' G a b:=
 ⟨(hb.cell (p:=(Ad G 0)) hB).trans h.q0,(hb.cell (p:=(Ad G 1)) hB).trans h.q1,(hb.frozen (p:=(Ad G 0)) hB).trans h.f0,(hb.frozen (p:=(Ad G 1)) hB).trans h.f1,Nat.lt_of_lt_of_le h.lt hb.size⟩
theorem Nr.new (w:World):Nr (w.alloc (.cells #[Iv 0,Iv 0] 28)) w.heap.size 0 0:=
 ⟨by simp,by simp,by simp[World.frozen?,World.alloc, -World.alloc_eq],by simp[World.frozen?,World.alloc, -World.alloc_eq],by simp⟩
theorem Bs {B G:Nat} {w w':World} (h:Below B w w') (hG:B<=G) (x y:Value):Below B w ((w'.setCell (Ad G 0) x).setCell (Ad G 1) y):=
 (h.setCell (p:=(Ad G 0)) hG _).setCell (p:=(Ad G 1)) hG _
theorem CC {G:Nat} {w w':World} (h:Below w.heap.size w w') (hG:w.heap.size<=G) (x y:Value) (o:Obj):Below w.heap.size w (((w'.setCell (Ad G 0) x).setCell (Ad G 1) y).alloc o):=
 (Bs h hG x y).alloc (by simpa[World.setCell] using h.size) o
theorem Ly {g n:Str} {ps:List Pm} {v:Str} {b:Bool} (h:AP n=false):(BZ g n ps v b).1=5:=by rw[IK h]
theorem Hb (g n:Str) (ps:List Pm) (v:Str) (b:Bool) (A:Option Addr) (c:Nat) (w:World) (hL:LD w) (hp:Xv w w.heap.size (.slice A ps.length c) ps) (hg:g.length<=134217728) (hn:n.length<=134217728) (hv:v.length<=536870912) (hw:Yb ps<=134217728):
 Calls prog 53 #[.agg #[Sv g,Sv n,.slice A ps.length c,Sv v],.bool b] w (VL (BZ g n ps v b).1 w):=by
 have HM:=hid fun p (h:p∈ps)=>Bp h;have L4:=Bq ps;have DD:Below w.heap.size w (w.alloc (.cells #[Sv g,Sv n,.slice A ps.length c,Sv v] 47)):=zA;obtain ⟨Wa,B0⟩: ∃Wa,w.alloc (.cells #[Sv g,Sv n,.slice A ps.length c,Sv v] 47)=Wa:=⟨_,rfl⟩;have H8:Wa.heap.size=w.heap.size+1:=(by rw[<-B0];simp);have a0:Wa.cell? (Ad w.heap.size 0)=some (Sv g):=(by rw[<-B0];simp);have a1:Wa.cell? (Ad w.heap.size 1)=some (Sv n):=(by rw[<-B0];simp);have a2:Wa.cell? (Ad w.heap.size 2)=some (.slice A ps.length c):=(by rw[<-B0];simp);have a3:Wa.cell? (Ad w.heap.size 3)=some (Sv v):=(by rw[<-B0];simp);rw[B0] at DD;obtain ⟨W0,A8⟩: ∃W0,Wa.alloc (.cells #[Iv 0,Iv 0] 28)=W0:=⟨_,rfl⟩;have I6:Nr W0 (w.heap.size+1) 0 0:=(by rw[<-A8,<-H8];exact Nr.new Wa);have S1:W0.heap.size=w.heap.size+2:=(by rw[<-A8];simp[H8]);have F1:Below Wa.heap.size Wa W0:=(by rw[<-A8];exact zA);have b0:=(F1.cell (p:=(Ad w.heap.size 0)) (by simp;omega)).trans a0;have b1:=(F1.cell (p:=(Ad w.heap.size 1)) (by simp;omega)).trans a1;have b2:=(F1.cell (p:=(Ad w.heap.size 2)) (by simp;omega)).trans a2;have b3:=(F1.cell (p:=(Ad w.heap.size 3)) (by simp;omega)).trans a3;have DT:Below w.heap.size w W0:=DD.trans (F1.mono DD.size);have HP:=hid (hp.keep DT DT.size);have IB:=hL.below DT;have HT:=hid I6;clear hp F1 DD a0 a1 a2 a3 I6 hL;go_enter func53,ntmps53;obtain ⟨q,hq⟩: ∃q,(AP n&&(g.isEmpty||AP g))=q:=⟨_,rfl⟩;have HQ:=hid hq;clear hq;go_upto_region 1 with fail;(try rw[B0]);(try rw[H8]);(try rw[A8]);clear B0 A8 H8;go_cut [23] from 9 to 23 (fun N3 wz=>N3= .bool (!q)/\Hid (Below W0.heap.size W0 wz));case first=>
  by_cases h2:g=[]
  ·subst h2;have HN:=hid (show AP n=q by simpa using HQ.out);clear HQ;go_wp2_with fail;refine (DQ n _ (by omega)).mono ?_;rintro e w1 ⟨rfl,A1⟩;have HB:=hid A1;have d0:=(A1.cell (p:=(Ad w.heap.size 0)) (by simp;omega)).trans b0;clear A1;rw[HN.out];clear HN;cases q;all_goals
    go_wp2
    go_meet;exact ⟨rfl,HB⟩
  ·have HK:List.isEmpty g=false:=(by cases g with|nil=>exact absurd rfl h2|cons x r=>rfl);have hq:=HQ.out;rw[HK,Bool.false_or] at hq;have AN:=hid hq;clear HQ hq;go_wp2_with fail;refine (DQ n _ (by omega)).mono ?_;rintro e w1 ⟨rfl,A1⟩;have HB:=hid A1;have d0:=(A1.cell (p:=(Ad w.heap.size 0)) (by simp;omega)).trans b0;clear A1;obtain ⟨x,hx⟩: ∃x,AP n=x:=⟨_,rfl⟩;rw[hx] at AN⊢;clear hx;cases x
   ·obtain rfl:false=q:=AN.out;go_wp2
    go_meet;exact ⟨rfl,HB⟩
   ·have HN:=hid (show AP g=q from AN.out);clear AN;go_wp2_with fail;refine (DQ g _ (by omega)).mono ?_;rintro e w2 ⟨rfl,A0⟩;have H1:=hid (HB.out.trans (A0.mono HB.out.size));clear A0;rw[HN.out];clear HN;cases q;all_goals
     go_wp2
     go_meet;exact ⟨rfl,H1⟩
 case rest=>
 obtain ⟨rfl,HC⟩:=hcut;obtain ⟨Wx,rfl⟩: ∃Wx,Wx=wc:=⟨_,rfl⟩;have A0:=HC.out;have A6:=DT.trans (A0.mono (by omega));have HV:=hid (HT.out.keep A0 HT.out.lt);have SS:=A0.size;have x2:=(A0.cell (p:=(Ad w.heap.size 2)) (by simp;omega)).trans b2;have x3:=(A0.cell (p:=(Ad w.heap.size 3)) (by simp;omega)).trans b3;have OV:=hid (HP.out.keep A0 A0.size);have P1:=IB.below A0;clear HT HP IB HC A0 b0 b1 b2 b3;cases q
 ·have HR:=hid (show (BZ g n ps v b).1=5 by rw[KO HQ.out]);obtain ⟨q0,q1,f0,f1,A7⟩:=HV.out;go_wp2_with fail;refine (CG 5 _).mono ?_;rintro e w9 ⟨rfl,rfl⟩;go_wp2
  exact bodyPost_ret (v:= .agg #[Iv 5,Iv (-1)]) (by simp[results,results53,go_sem,q0,q1,A7]) rfl (K7 HR.out (CC A6 (by omega) _ _ _))
 obtain ⟨h1,F2⟩:=IM HQ.out;have HG:=hid F2;clear HQ F2;by_cases B1:20<ps.length
 ·have hq:(20:Int)<(ps.length:Int):=(by omega);have HR:=hid (show (BZ g n ps v b).1=4 by rw[IL h1 HG.out B1]);clear B1;obtain ⟨q0,q1,f0,f1,A7⟩:=HV.out;go_wp2_with fail;refine (CG 4 _).mono ?_;rintro e w9 ⟨rfl,rfl⟩;go_wp2
  exact bodyPost_ret (v:= .agg #[Iv 4,Iv (-1)]) (by simp[results,results53,go_sem,q0,q1,A7]) rfl (K7 HR.out (CC A6 (by omega) _ _ _))
 have hq: ¬(20:Int)<(ps.length:Int):=(by omega);have A4:=hid (Mh (g:=g) (ps:=ps) (v:=v) (b:=b) h1 HG.out (by omega));clear B1 HG;go_wp2
 go_loopw [5,6,8,33] (fun _ _ _ i wr=> ∃k:Nat,k<=ps.length/\i=Iv k/\Hid (Az b 0 ps=Az b k (ps.drop k))/\Below Wx.heap.size Wx wr) (fun _ _ _ i _=>ps.length-(intOf i).toNat);case atStart=>exact ⟨0,by omega,rfl,hid rfl,zB⟩
 case round=>
  obtain ⟨k,hk,rfl,HX,hb⟩:=hrel;have F3:=hb.size;have HW:=P1.below hb;have HY:=hid (A6.trans (hb.mono (by omega)));have H2:=hid (HV.out.keep hb (by omega));by_cases HL:k<ps.length
  ·obtain ⟨bb,o,p,u,rfl,FB,hd,hc,E0,hu⟩:=OV.out.at_ HL;have L8:=(hb.cell (p:=(Ad bb (o+k*2))) FB).trans hc;have G1:=(hb.cell (p:=(Ad bb (o+k*2+1))) FB).trans E0;have G2:p∈ps:=List.mem_of_mem_drop (by rw[hd];simp);have L9:=HM.out p G2;have LB:=Bd p;have LL:=DC p;have HO:=C3 p.vals;have HD:=hid hd;have HU:=hid (hu.keep hb F3);obtain ⟨A2,c2,hf⟩:=hu.form;subst hf;clear hc E0 hd hu G2;obtain ⟨bq,B2⟩: ∃bq,wr.heap.size=bq:=⟨_,rfl⟩;obtain ⟨Wr,A9,A1,d0r,d1r,KI⟩: ∃W:World,wr.alloc (.cells #[Sv p.name,vP A2 p c2] 57)=W/\Below wr.heap.size wr W/\W.cell? (Ad bq 0)=some (Sv p.name)/\W.cell? (Ad bq 1)=some (vP A2 p c2)/\bq<W.heap.size:=
    ⟨_,rfl,zA,by rw[<-B2];simp,by rw[<-B2];simp,by rw[<-B2];simp⟩
   have E1:=hid (hb.trans (A1.mono F3));have E3:=hid (HU.out.keep A1 A1.size);have H3:=hid (H2.out.keep A1 H2.out.lt);have HH:=HW.below A1;clear HU H2 HW HY;go_wp2_with fail;(try rw[A9]);clear A9;refine (DQ p.name _ (by omega)).mono ?_;rintro e wq ⟨rfl,A0⟩;have T5:=A0.size;have H1:=hid (E1.out.trans (A0.mono E1.out.size));have L1:=hid (E3.out.keep A0 A0.size);have B3:=hid (H3.out.keep A0 H3.out.lt);have P2:=HH.below A0;have e1:=(A0.cell (p:=(Ad bq 1)) KI).trans d1r;have H9:=hid (A6.trans (H1.out.mono (by omega)));clear E3 H3 HH d0r d1r A1 E1 A0;by_cases A3:AP p.name=true;rotate_left
   ·have A3:AP p.name=false:=(by simpa using A3);have HE:=hid (show (BZ g n ps v b).1=5 by rw[A4.out,HX.out,HD.out,CQ (Gf A3) (by decide)]);rw[A3];clear HX HD A4;obtain ⟨q0,q1,f0,f1,A7⟩:=B3.out;go_wp2
    exact bodyPost_ret (v:= .agg #[Iv 5,Iv k]) (by simp[results,results53,go_sem,q0,q1,A7]) rfl (K7 HE.out (Bs H9.out (by omega) _ _))
   rw[A3];by_cases A5:p.vals=[]
   ·have HE:=hid (show (BZ g n ps v b).1=8 by rw[A4.out,HX.out,HD.out,CQ (Gg A3 A5) (by decide)]);have E9:p.vals.length=0:=(by rw[A5];rfl);simp only[vP,E9] at e1;clear HX HD A4 A5 L1 HO E9 G1;obtain ⟨q0,q1,f0,f1,A7⟩:=B3.out;go_wp2
    exact bodyPost_ret (v:= .agg #[Iv 8,Iv k]) (by simp[results,results53,go_sem,q0,q1,A7]) rfl (K7 HE.out (Bs H9.out (by omega) _ _))
   have H0:=hid (Gh (b:=b) A3 A5);have MM:((p.vals.length:Int)==0)=false:=by
    cases HS:p.vals with
    |nil=>exact absurd HS A5
    |cons x r=>simp;omega
   clear A5;go_wp2
   go_loopw [8,53] (fun _ i wx=> ∃j:Nat,j<=p.vals.length/\i=Iv j/\Hid (p.vals.all (BI · b)=(p.vals.drop j).all (BI · b))/\Below wq.heap.size wq wx) (fun _ i _=>p.vals.length-(intOf i).toNat);case atStart=>exact ⟨0,by omega,rfl,hid rfl,zB⟩
   case round=>
    obtain ⟨j,hj,rfl,HJ,AL⟩:=hrel;have I3:=AL.size;by_cases G4:j<p.vals.length
    ·obtain ⟨b3,o3,s,rfl,DA,AV,AB⟩:=L1.out.at_ G4;have N0:=C2 (List.mem_of_mem_drop (show s∈p.vals.drop j by rw[AV];simp));have N1:=(AL.cell (p:=(Ad b3 (o3+j))) DA).trans AB;have AW:=hid (show p.vals.all (BI · b)=(BI s b&&(p.vals.drop (j+1)).all (BI · b)) by rw[HJ.out,AV,List.all_cons]);have L2:=P2.below AL;clear AV HJ AB;go_wp2_with fail;refine (LO s b _ (by omega) L2).mono ?_;rintro e w3 ⟨rfl,PB⟩;have I0:=AL.trans (PB.mono AL.size);obtain ⟨y,hy⟩: ∃y,BI s b=y:=⟨_,rfl⟩;rw[hy] at AW⊢;clear hy;cases y with
     |true=>
      go_wp2
      go_roundw;case rel=>exact ⟨j+1,by omega,by go_num,hid (by rw[AW.out,Bool.true_and]),I0⟩
      case measure=>simp[intOf];omega
     |false=>
      have HE:=hid (show (BZ g n ps v b).1=3 by rw[A4.out,HX.out,HD.out,CQ (e:=3) (by rw[H0.out,AW.out];rfl) (by decide)]);have PF:=hid (B3.out.keep I0 B3.out.lt);have Q1:=hid (H9.out.trans (I0.mono H9.out.size));obtain ⟨q0,q1,f0,f1,A7⟩:=PF.out;go_wp2
      exact bodyPost_ret (v:= .agg #[Iv 3,Iv k]) (by simp[results,results53,go_sem,q0,q1,A7]) rfl (K7 HE.out (Bs Q1.out (by omega) _ _))
    ·obtain rfl:j=p.vals.length:=(by omega);have HZ:=hid (show p.vals.all (BI · b)=true by rw[HJ.out,List.drop_length,List.all_nil]);have HN:=hid (show Az b 0 ps=Az b (k+1) (ps.drop (k+1)) by rw[HX.out,HD.out,IJ (by rw[H0.out,HZ.out];rfl)]);clear HJ;go_wp2
     go_roundw;case rel=>exact ⟨k+1,by omega,by go_num,HN,H1.out.trans (AL.mono H1.out.size)⟩
     case measure=>simp[intOf];omega
  ·obtain rfl:k=ps.length:=(by omega);have I5:=(hb.cell (p:=(Ad w.heap.size 3)) (by simp;omega)).trans x3;have HE:=hid (show (BZ g n ps v b).1=if BB v then 0 else 3 by rw[A4.out,HX.out,List.drop_length];show (if BB v=true then ((0:Int),(-1:Int)) else (3, -1)).1=_;split<;>rfl);clear HX A4;have N2:w.heap.size<wr.heap.size:=(by omega);go_wp2_with fail;refine (FG v _ (by omega) HW).mono ?_;rintro e wq ⟨rfl,A0⟩;have B3:=hid (H2.out.keep A0 H2.out.lt);have HI:=HY.out.trans (A0.mono HY.out.size);obtain ⟨y,hy⟩: ∃y,BB v=y:=⟨_,rfl⟩;rw[hy] at HE⊢;clear hy;cases y with
   |true=>
    obtain ⟨q0,q1,f0,f1,A7⟩:=B3.out;go_wp2_with fail;refine (Cm _).mono ?_;rintro e w9 ⟨rfl,rfl⟩;go_wp2
    exact bodyPost_ret (v:= .agg #[Iv 0,Iv (-1)]) (by simp[results,results53,go_sem,q0,q1,A7]) rfl (K7 HE.out (CC HI (by omega) _ _ _))
   |false=>
    obtain ⟨q0,q1,f0,f1,A7⟩:=B3.out;go_wp2_with fail;refine (CG 3 _).mono ?_;rintro e w9 ⟨rfl,rfl⟩;go_wp2
    exact bodyPost_ret (v:= .agg #[Iv 3,Iv (-1)]) (by simp[results,results53,go_sem,q0,q1,A7]) rfl (K7 HE.out (CC HI (by omega) _ _ _))
end Go.Proofs.YtjhpdljphchfaaaGreatDoor
