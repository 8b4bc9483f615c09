/- A part of the proof of ConvertUps: Write of the program and ValueWrite of the reference walked, where nothing is wrong with the value. -/
import Derived.Test.YtjhpdljphchfaaaGreatDoorA21
import Derived.Test.YtjhpdljphchfaaaGreatDoorA15
set_option maxHeartbeats 40000000
set_option maxRecDepth 1000000
set_option linter.all false
namespace Go.Proofs.YtjhpdljphchfaaaGreatDoor
open Go.RowKit
open Go.Proofs.Tryz
theorem Xk (a b:Int) (W:World):(Instr.field 28 (.agg #[Iv a,Iv b]) 0).run prog W= .ok (Iv a) W:=by kernel_rfl
def XO (E:Int) (w:World) (e:Ending) (w':World):Prop:=e= .returned (Iv E)/\Below w.heap.size w w'
theorem NW {E E':Int} {w w':World} (h:E=E') (hb:Below w.heap.size w w'):XO E w (.returned (Iv E')) w':=⟨by rw[h],hb⟩
theorem Xl {a b c:Bool} (h:(a&&b&&c)=false):a=false∨(a=true/\b=false)∨(a=true/\b=true/\c=false):=by revert h;cases a<;>cases b<;>cases c<;>simp
theorem Um {a b c:Bool} (h:(a&&b&&c)=true):a=true/\b=true/\c=true:=by revert h;cases a<;>cases b<;>cases c<;>simp
theorem Gk (v:Vl) (A:Option Addr) (c:Nat) (w:World) (hL:LD w) (hv:SM w v A c):Calls prog 56 #[YF v (.slice A v.parts.length c)] w (XO (Bl v) w):=by
 obtain ⟨ty,text,parts,⟨y,mo,d,h,mi,sc,zo,zn⟩,n⟩:=v;have B1:=hv.text;have AN:=hv.parts;have A5:=hv.lls;simp only at B1 AN A5;clear hv;show Calls prog 56 #[.agg #[Iv ty,Sv text,.slice A parts.length c,Iv y,Iv mo,Iv d,Iv h,Iv mi,Iv sc,.bool zo,Iv zn,Iv n]] w _;have A4: ∀o,Below w.heap.size w (w.alloc o):=fun o=>zB.alloc zL o;by_cases h1:1<=ty/\ty<=8;rotate_left
 ·have hw:(decide (1<=ty)&&decide (ty<=8))=false:=(by simp;omega);have HR:=hid (show Bl (⟨ty,text,parts,⟨y,mo,d,h,mi,sc,zo,zn⟩,n⟩:Vl)=1 by unfold Bl;rw[if_pos (by simp only;omega)]);have HW:=hid hw;clear h1 hw;go_enter func56,ntmps56;go_wp2_with fail;refine (AX ty 1 8 _).mono ?_;rintro e w1 ⟨rfl,rfl⟩;rw[HW.out];go_wp2
  go_ret;exact NW HR.out (A4 _)
 obtain ⟨h1,h8⟩:=h1;have HO:=hid (show Iy (⟨ty,text,parts,⟨y,mo,d,h,mi,sc,zo,zn⟩,n⟩:Vl)=((ty==1||ty==4||ty==7||ty==8||text.isEmpty)&&(ty==2||ty==3||parts.isEmpty)&&(ty==5||El ⟨y,mo,d,h,mi,sc,zo,zn⟩)&&(ty==6||n==0)) from rfl);have HE:=hid (show Bl (⟨ty,text,parts,⟨y,mo,d,h,mi,sc,zo,zn⟩,n⟩:Vl)=if Iy (⟨ty,text,parts,⟨y,mo,d,h,mi,sc,zo,zn⟩,n⟩:Vl)=false then 1 else if ty=2∨ty=3 then (if parts=[]∨(ty=2/\parts.length≠1) then 8 else if parts.any (·.isEmpty) then 8 else if parts.all (·.all (AQ · true)) then 0 else 3) else if ty=4 then DG text else if ty=5 then B5 ⟨y,mo,d,h,mi,sc,zo,zn⟩ else if ty=6 then (if Av n then 0 else 2) else if ty=7 then Bf text else if AQ text (ty==1) then 0 else 3 by
  unfold Bl;by_cases hx:Iy (⟨ty,text,parts,⟨y,mo,d,h,mi,sc,zo,zn⟩,n⟩:Vl)=false
  ·rw[if_pos (.inr (.inr hx)),if_pos hx]
  ·rw[if_neg hx];refine if_neg ?_;rintro (hh|hh|hh)
   ·exact absurd (show ty<1 from hh) (by omega)
   ·exact absurd (show 8<ty from hh) (by omega)
   ·exact hx hh)
 have G4:=Vp y mo d h mi sc zo zn;obtain ⟨e3,h3⟩: ∃x,El ⟨y,mo,d,h,mi,sc,zo,zn⟩=x:=⟨_,rfl⟩;obtain ⟨e4,h4⟩: ∃x,(n==0)=x:=⟨_,rfl⟩;obtain ⟨e1,h5⟩: ∃x,text.isEmpty=x:=⟨_,rfl⟩;obtain ⟨e2,h6⟩: ∃x,parts.isEmpty=x:=⟨_,rfl⟩;rw[h3] at G4;rw[h3,h4,h5,h6] at HO;have g1:(text !=[])= !e1:=(by rw[<-h5];cases text<;>rfl);have g2:decide (0<parts.length)= !e2:=(by rw[<-h6];cases parts<;>simp);have g4:(n != 0)= !e4:=(by rw[<-h4];rfl);clear h3 h4 h5 h6;by_cases hO:Iy (⟨ty,text,parts,⟨y,mo,d,h,mi,sc,zo,zn⟩,n⟩:Vl)=false
 ·have HR:=hid (show Bl (⟨ty,text,parts,⟨y,mo,d,h,mi,sc,zo,zn⟩,n⟩:Vl)=1 by rw[HE.out,if_pos hO]);rw[HO.out] at hO;clear HE HO A5;rcases (show ty=1∨ty=2∨ty=3∨ty=4∨ty=5∨ty=6∨ty=7∨ty=8 by omega) with rfl|rfl|rfl|rfl|rfl|rfl|rfl|rfl;all_goals
   first
    |(refine OC (P:=(e2&&e3&&e4)=false) ?_ fun h3=> ?_;(focus rw[<-hO];cases e2<;>cases e3<;>cases e4<;>rfl))
    |(refine OC (P:=(e1&&e3&&e4)=false) ?_ fun h3=> ?_;(focus rw[<-hO];cases e1<;>cases e3<;>cases e4<;>rfl))
    |(refine OC (P:=(e1&&e2&&e4)=false) ?_ fun h3=> ?_;(focus rw[<-hO];cases e1<;>cases e2<;>cases e4<;>rfl))
    |(refine OC (P:=(e1&&e2&&e3)=false) ?_ fun h3=> ?_;(focus rw[<-hO];cases e1<;>cases e2<;>cases e3<;>rfl))
   rcases Xl h3 with rfl|⟨rfl,rfl⟩|⟨rfl,rfl,rfl⟩
  all_goals
   clear h1 h8 h3 hO;(try (have HH: ¬text=[]:=by intro e;rw[e] at g1;cases g1));(try (have F1:text=[]:=by cases text with|nil=>rfl|cons x r=>cases g1));go_enter func56,ntmps56;go_wp2_with fail;refine (AX _ 1 8 _).mono ?_;rintro e w1 ⟨rfl,rfl⟩;go_wp2
   go_ret;exact NW HR.out ((A4 _).alloc (by simp) _)
 have HY:=hid (HE.out.trans (if_neg hO));replace hO:=Bool.not_eq_false _▸hO;rw[HO.out] at hO;clear HE HO;by_cases B0:ty=2∨ty=3
 ·obtain ⟨rfl,rfl,rfl⟩:e1=true/\e3=true/\e4=true:=by
   rcases B0 with rfl|rfl;all_goals
    have h3:(e1&&e3&&e4)=true:=(by rw[<-hO];cases e1<;>cases e3<;>cases e4<;>rfl);exact Um h3
  have F1:text=[]:=(by cases text with|nil=>rfl|cons x r=>cases g1);have A9:=hid (HY.out.trans (if_pos B0));clear HY hO h1 h8;by_cases AB:parts.length=0
  ·have AV:((parts.length:Int)==0)=true:=(by simp;exact List.eq_nil_of_length_eq_zero AB);have HR:=hid (show Bl (⟨ty,text,parts,⟨y,mo,d,h,mi,sc,zo,zn⟩,n⟩:Vl)=8 by rw[A9.out,if_pos (.inl (List.eq_nil_of_length_eq_zero AB))]);clear A9 AB A5;rcases B0 with rfl|rfl;all_goals
    go_enter func56,ntmps56;go_wp2_with fail;refine (AX _ 1 8 _).mono ?_;rintro e w1 ⟨rfl,rfl⟩;go_wp2
    go_ret;exact NW HR.out ((A4 _).alloc (by simp) _)
  have AV:((parts.length:Int)==0)=false:=(by simp;exact fun e=>AB (by rw[e];rfl));by_cases B3:ty=2/\parts.length≠1
  ·have E1:1<parts.length:=(by omega);have HR:=hid (show Bl (⟨ty,text,parts,⟨y,mo,d,h,mi,sc,zo,zn⟩,n⟩:Vl)=8 by rw[A9.out,if_pos (.inr B3)]);obtain ⟨rfl,B3⟩:=B3;clear A9 AB B3 A5 B0;go_enter func56,ntmps56;go_wp2_with fail;refine (AX _ 1 8 _).mono ?_;rintro e w1 ⟨rfl,rfl⟩;go_wp2
   go_ret;exact NW HR.out ((A4 _).alloc (by simp) _)
  have DT:=hid (show Bl (⟨ty,text,parts,⟨y,mo,d,h,mi,sc,zo,zn⟩,n⟩:Vl)=if parts.any (·.isEmpty) then 8 else if parts.all (·.all (AQ · true)) then 0 else 3 by rw[A9.out,if_neg (fun hh=>hh.elim (fun e=>AB (by rw[e];rfl)) B3)]);clear A9;have E1:ty=2-> ¬1<parts.length:=fun h=>(by omega);clear AB B3;rcases B0 with rfl|rfl;all_goals
   (try (replace E1:=E1 rfl));have HI:=GX parts;have HP:=hid A5;clear A5;go_enter func56,ntmps56;go_wp2_with fail;refine (AX _ 1 8 _).mono ?_;rintro e w1 ⟨rfl,rfl⟩;go_wp2
   go_loopw [4,6,8,73] (fun bd _ _ i wr=> ∃(k:Nat) (bad:Bool),k<=parts.length/\i=Iv k/\bd= .bool bad/\Hid ((parts.drop k).any (·.isEmpty)=parts.any (·.isEmpty))/\Hid ((!bad&&(parts.drop k).all (·.all (AQ · true)))=parts.all (·.all (AQ · true)))/\Below w.heap.size w wr) (fun _ _ _ i _=>parts.length-(intOf i).toNat);case atStart=>exact ⟨0,false,by omega,rfl,rfl,hid rfl,hid rfl,((A4 _).alloc (by simp) _)⟩
   case round=>
    obtain ⟨k,bad,hk,rfl,rfl,HF,HG,hb⟩:=hrel;have E2:=hb.size;by_cases H0:k<parts.length
    ·obtain ⟨b,o,x,u,rfl,H1,hd,hc,hu⟩:=HP.out.at_ H0;have H2:=GW (List.mem_of_mem_drop (show x∈parts.drop k by rw[hd];simp));have H3:=C3 x;obtain ⟨A2,c2,hf⟩:=hu.form;subst hf;have F2:=(hb.cell (p:=(Ad b (o+k))) H1).trans hc;have HM:=hid (show parts.any (·.isEmpty)=(x.isEmpty||(parts.drop (k+1)).any (·.isEmpty)) by rw[<-HF.out,hd];rfl);have HN:=hid (show parts.all (·.all (AQ · true))=(!bad&&(x.all (AQ · true)&&(parts.drop (k+1)).all (·.all (AQ · true)))) by rw[<-HG.out,hd];rfl);clear hd HF HG hc;cases x with
     |nil=>
      have HR:=hid (show Bl (⟨_,text,parts,⟨y,mo,d,h,mi,sc,zo,zn⟩,n⟩:Vl)=8 by rw[DT.out,HM.out];rfl);clear HM DT HN hu;go_wp2
      go_ret;exact NW HR.out hb
     |cons x0 xr=>
      obtain ⟨X,hX⟩: ∃X,X=x0::xr:=⟨_,rfl⟩;have HK:((X.length:Int)==0)=false:=(by rw[hX];simp;omega);have H4:=hid (show (parts.drop (k+1)).any (·.isEmpty)=parts.any (·.isEmpty) by rw[HM.out];rfl);rw[<-hX] at F2 hu H2 H3 HN;have HU:=hid hu;clear HM hX hu;go_wp2
      go_loopw [4,8,82] (fun bd _ i wx=> ∃(j:Nat) (bj:Bool),j<=X.length/\i=Iv j/\bd= .bool bj/\Hid ((!bj&&(X.drop j).all (AQ · true))=(!bad&&X.all (AQ · true)))/\Below w.heap.size w wx) (fun _ _ i _=>X.length-(intOf i).toNat);case atStart=>exact ⟨0,bad,by omega,rfl,rfl,hid rfl,hb⟩
      case round=>
       clear hb E2 F2;obtain ⟨j,bj,hj,rfl,rfl,HJ,B2⟩:=hrel;have E2:=B2.size;by_cases H8:j<X.length
       ·obtain ⟨b3,o3,s,rfl,F3,E3,F4⟩:=HU.out.at_ H8;have HL:=C2 (List.mem_of_mem_drop (show s∈X.drop j by rw[E3];simp));have HQ:=(B2.cell (p:=(Ad b3 (o3+j))) F3).trans F4;have FB:=hid (show (!bj&&(AQ s true&&(X.drop (j+1)).all (AQ · true)))=(!bad&&X.all (AQ · true)) by rw[<-HJ.out,E3];rfl);clear E3 HJ F4;cases bj with
        |true=>
         have E9:=hid (show (!true&&(X.drop (j+1)).all (AQ · true))=(!bad&&X.all (AQ · true)) by rw[<-FB.out];rfl);go_wp2
         go_roundw;case rel=>exact ⟨j+1,true,by omega,by go_num,rfl,E9,B2⟩
         case measure=>simp[intOf];omega
        |false=>
         go_wp2_with fail;refine (FI s true _ (by omega) (hL.below B2)).mono ?_;rintro e w2 ⟨rfl,G1⟩;have H9:=B2.trans (G1.mono E2);obtain ⟨z,hz⟩: ∃z,AQ s true=z:=⟨_,rfl⟩;rw[hz];have E9:=hid (show (!(!z)&&(X.drop (j+1)).all (AQ · true))=(!bad&&X.all (AQ · true)) by rw[<-FB.out,hz];cases z<;>rfl);clear hz G1 B2;go_wp2
         go_roundw;case rel=>exact ⟨j+1, !z,by omega,by go_num,rfl,E9,H9⟩
         case measure=>simp[intOf];omega
       ·obtain rfl:j=X.length:=(by omega);have HA:=hid (show (!bj&&(parts.drop (k+1)).all (·.all (AQ · true)))=parts.all (·.all (AQ · true)) by rw[HN.out,<-Bool.and_assoc,<-HJ.out,List.drop_length];simp);clear HN HJ;go_wp2
        go_roundw;case rel=>exact ⟨k+1,bj,by omega,by go_num,rfl,H4,HA,B2⟩
        case measure=>simp[intOf];omega
    ·obtain rfl:k=parts.length:=(by omega);have G2:=hid (show Bl (⟨_,text,parts,⟨y,mo,d,h,mi,sc,zo,zn⟩,n⟩:Vl)=if (!bad)=true then 0 else 3 by rw[DT.out,<-HF.out,<-HG.out,List.drop_length];cases bad<;>rfl);clear HF HG DT;cases bad with
     |true=>
      have HR:=hid (show Bl (⟨_,text,parts,⟨y,mo,d,h,mi,sc,zo,zn⟩,n⟩:Vl)=3 by rw[G2.out];rfl);go_wp2
      go_ret;exact NW HR.out hb
     |false=>
      have HR:=hid (show Bl (⟨_,text,parts,⟨y,mo,d,h,mi,sc,zo,zn⟩,n⟩:Vl)=0 by rw[G2.out];rfl);go_wp2
      go_ret;exact NW HR.out hb
 rcases (show ty=1∨ty=2∨ty=3∨ty=4∨ty=5∨ty=6∨ty=7∨ty=8 by omega) with rfl|rfl|rfl|rfl|rfl|rfl|rfl|rfl;all_goals (try first|exact absurd (.inl rfl) B0|exact absurd (.inr rfl) B0);all_goals
  clear h1 h8 B0 A5;first
   |(refine OC (P:=(e2&&e3&&e4)=true) ?_ fun h3=> ?_;(focus rw[<-hO];cases e2<;>cases e3<;>cases e4<;>rfl))
   |(refine OC (P:=(e1&&e3&&e4)=true) ?_ fun h3=> ?_;(focus rw[<-hO];cases e1<;>cases e3<;>cases e4<;>rfl))
   |(refine OC (P:=(e1&&e2&&e4)=true) ?_ fun h3=> ?_;(focus rw[<-hO];cases e1<;>cases e2<;>cases e4<;>rfl))
   |(refine OC (P:=(e1&&e2&&e3)=true) ?_ fun h3=> ?_;(focus rw[<-hO];cases e1<;>cases e2<;>cases e3<;>rfl))
  obtain ⟨rfl,rfl,rfl⟩:=Um h3;clear h3 hO;(try (have F1:text=[]:=by cases text with|nil=>rfl|cons x r=>cases g1));have HS:=Xk;go_enter func56,ntmps56;go_wp2_with fail;refine (AX _ 1 8 _).mono ?_;rintro e w1 ⟨rfl,rfl⟩;go_wp2_with fail
 ·have A9:=hid (show Bl (⟨1,text,parts,⟨y,mo,d,h,mi,sc,zo,zn⟩,n⟩:Vl)=if AQ text true then 0 else 3 by rw[HY.out];rfl);refine (FI text true _ (by omega) (hL.below ((A4 _).alloc (by simp) _))).mono ?_;rintro e w2 ⟨rfl,A3⟩;have AW:=(show Below w.heap.size w _ from ((A4 _).alloc (by simp) _)).trans (A3.mono (by simp;omega));obtain ⟨z,hz⟩: ∃z,AQ text true=z:=⟨_,rfl⟩;rw[hz];rw[hz] at A9;clear hz;cases z;all_goals
   go_wp2
   go_ret;exact NW A9.out AW
 ·have HR:=hid (show Bl (⟨4,text,parts,⟨y,mo,d,h,mi,sc,zo,zn⟩,n⟩:Vl)=DG text by rw[HY.out];rfl);refine (DV text _ (by omega)).mono ?_;rintro e w2 ⟨⟨ep,rfl⟩,A3⟩;have AW:=(show Below w.heap.size w _ from ((A4 _).alloc (by simp) _)).trans (A3.mono (by simp;omega));clear A3;go_wp2
  go_ret;exact NW HR.out AW
 ·have HR:=hid (show Bl (⟨5,text,parts,⟨y,mo,d,h,mi,sc,zo,zn⟩,n⟩:Vl)=B5 ⟨y,mo,d,h,mi,sc,zo,zn⟩ by rw[HY.out];rfl);refine (KD ⟨y,mo,d,h,mi,sc,zo,zn⟩ _ (hL.below ((A4 _).alloc (by simp) _))).mono ?_;rintro e w2 ⟨rfl,A3⟩;have AW:=(show Below w.heap.size w _ from ((A4 _).alloc (by simp) _)).trans (A3.mono (by simp;omega));clear A3;go_wp2
  go_ret;exact NW HR.out AW
 ·have A9:=hid (show Bl (⟨6,text,parts,⟨y,mo,d,h,mi,sc,zo,zn⟩,n⟩:Vl)=if Av n then 0 else 2 by rw[HY.out];rfl);refine (DW n _).mono ?_;rintro e w2 ⟨rfl,rfl⟩;obtain ⟨z,hz⟩: ∃z,Av n=z:=⟨_,rfl⟩;rw[hz];rw[hz] at A9;clear hz;cases z;all_goals
   go_wp2
   go_ret;exact NW A9.out ((A4 _).alloc (by simp) _)
 ·have HR:=hid (show Bl (⟨7,text,parts,⟨y,mo,d,h,mi,sc,zo,zn⟩,n⟩:Vl)=Bf text by rw[HY.out];rfl);refine (KC text _ (by omega) (hL.below ((A4 _).alloc (by simp) _))).mono ?_;rintro e w2 ⟨⟨ep,rfl⟩,A3⟩;have AW:=(show Below w.heap.size w _ from ((A4 _).alloc (by simp) _)).trans (A3.mono (by simp;omega));clear A3;go_wp2
  go_ret;exact NW HR.out AW
 ·have A9:=hid (show Bl (⟨8,text,parts,⟨y,mo,d,h,mi,sc,zo,zn⟩,n⟩:Vl)=if AQ text false then 0 else 3 by rw[HY.out];rfl);refine (FI text false _ (by omega) (hL.below ((A4 _).alloc (by simp) _))).mono ?_;rintro e w2 ⟨rfl,A3⟩;have AW:=(show Below w.heap.size w _ from ((A4 _).alloc (by simp) _)).trans (A3.mono (by simp;omega));obtain ⟨z,hz⟩: ∃z,AQ text false=z:=⟨_,rfl⟩;rw[hz];rw[hz] at A9;clear hz;cases z;all_goals
   go_wp2
   go_ret;exact NW A9.out AW
theorem IR {v:Vl} (h:Bl v=0):1<=v.type/\v.type<=8:=by
 unfold Bl at h;split at h
 ·cases h
 ·omega
theorem IS {v:Vl} (h:Bl v=0) (ht:v.type=2∨v.type=3):v.parts≠[]/\ ∀l∈v.parts,l≠[]:=by
 unfold Bl at h;split at h
 ·cases h
 (try rw[if_pos ht] at h);split at h
 ·cases h
 rename_i h1;split at h
 ·cases h
 rename_i h2;refine ⟨fun e=>h1 (.inl e),fun l hl e=>h2 ?_⟩;rw[List.any_eq_true];exact ⟨l,hl,by rw[e];rfl⟩
theorem KU {v:Vl} (h:Bl v=0) (ht:v.type=5):B5 v.st=0:=by
 unfold Bl at h;split at h
 ·cases h
 (try rw[if_neg (by omega)] at h);(try rw[if_neg (by omega)] at h);(try rw[if_pos ht] at h);exact h
theorem KV {v:Vl} (h:Bl v=0) (ht:v.type=6):Av v.n=true:=by
 unfold Bl at h;split at h
 ·cases h
 (try rw[if_neg (by omega)] at h);(try rw[if_neg (by omega)] at h);(try rw[if_neg (by omega)] at h);(try rw[if_pos ht] at h);split at h
 ·assumption
 ·cases h
theorem Un:J2 0= .nilIface:=rfl
def V7 (v:Vl) (z:Value) (w:World) (e:Ending) (w':World):Prop:=e= .returned (.tuple #[.string ⟨(LE v).toArray⟩,z])/\Below w.heap.size w w'
theorem LA {v:Vl} {s:Str} {z:Value} {w w':World} (h:LE v=s) (hb:Below w.heap.size w w'):V7 v z w (.returned (.tuple #[Sv s,z])) w':=⟨by rw[h],hb⟩
theorem PI (v:Vl) (A:Option Addr) (c:Nat) (w:World) (hL:LD w) (hv:SM w v A c) (hE:Bl v=0):Calls prog 138 #[YF v (.slice A v.parts.length c)] w (V7 v .nilIface w):=by
 have hr:=IR hE;have A6:=IS hE;have A7:=KU hE;have A8:=KV hE;obtain ⟨ty,text,parts,⟨y,mo,d,h,mi,sc,zo,zn⟩,n⟩:=v;have B1:=hv.text;have AN:=hv.parts;have A5:=hv.lls;simp only at B1 AN A5 hr A6 A7 A8;show Calls prog 138 #[.agg #[Iv ty,Sv text,.slice A parts.length c,Iv y,Iv mo,Iv d,Iv h,Iv mi,Iv sc,.bool zo,Iv zn,Iv n]] w _;have A4:Below w.heap.size w (w.alloc (.cells #[Iv ty,Sv text,.slice A parts.length c,Iv y,Iv mo,Iv d,Iv h,Iv mi,Iv sc,.bool zo,Iv zn,Iv n] 42)):=zA;have HV:=hid (show SM (w.alloc (.cells #[Iv ty,Sv text,.slice A parts.length c,Iv y,Iv mo,Iv d,Iv h,Iv mi,Iv sc,.bool zo,Iv zn,Iv n] 42)) (⟨ty,text,parts,⟨y,mo,d,h,mi,sc,zo,zn⟩,n⟩:Vl) A c from ⟨A5.keep A4 A4.size,B1,AN⟩);have HE:=hid hE;have DA:=hL.below A4;clear hv hE;go_enter func138,ntmps138;go_wp2_with fail;refine (IP (⟨ty,text,parts,⟨y,mo,d,h,mi,sc,zo,zn⟩,n⟩:Vl) A c _ DA HV.out).mono ?_;rintro e w1 ⟨rfl,A1⟩;have A0:=A4.trans (A1.mono A4.size);have DD:=A1.size;have HB:w.heap.size<w1.heap.size:=(by simp at DD;omega);have q0:w1.cell? (Ad w.heap.size 0)=some (Iv ty):=(by rw[A1.cell (p:=(Ad w.heap.size 0)) (by simp)];simp);have q1:w1.cell? (Ad w.heap.size 1)=some (Sv text):=(by rw[A1.cell (p:=(Ad w.heap.size 1)) (by simp)];simp);have q2:w1.cell? (Ad w.heap.size 2)=some (.slice A parts.length c):=(by rw[A1.cell (p:=(Ad w.heap.size 2)) (by simp)];simp);have q3:w1.cell? (Ad w.heap.size 3)=some (Iv y):=(by rw[A1.cell (p:=(Ad w.heap.size 3)) (by simp)];simp);have q4:w1.cell? (Ad w.heap.size 4)=some (Iv mo):=(by rw[A1.cell (p:=(Ad w.heap.size 4)) (by simp)];simp);have q5:w1.cell? (Ad w.heap.size 5)=some (Iv d):=(by rw[A1.cell (p:=(Ad w.heap.size 5)) (by simp)];simp);have q6:w1.cell? (Ad w.heap.size 6)=some (Iv h):=(by rw[A1.cell (p:=(Ad w.heap.size 6)) (by simp)];simp);have q7:w1.cell? (Ad w.heap.size 7)=some (Iv mi):=(by rw[A1.cell (p:=(Ad w.heap.size 7)) (by simp)];simp);have q8:w1.cell? (Ad w.heap.size 8)=some (Iv sc):=(by rw[A1.cell (p:=(Ad w.heap.size 8)) (by simp)];simp);have q9:w1.cell? (Ad w.heap.size 9)=some (.bool zo):=(by rw[A1.cell (p:=(Ad w.heap.size 9)) (by simp)];simp);have HC:w1.cell? (Ad w.heap.size 10)=some (Iv zn):=(by rw[A1.cell (p:=(Ad w.heap.size 10)) (by simp)];simp);have HD:w1.cell? (Ad w.heap.size 11)=some (Iv n):=(by rw[A1.cell (p:=(Ad w.heap.size 11)) (by simp)];simp);have E0:=hL.below A0;have HP:=hid (show Xw w1 w1.heap.size (.slice A parts.length c) parts from A5.keep A0 A0.size);clear A1 DD A5 HV DA A4;rw[HE.out];rw[Un];obtain ⟨h1,h8⟩:=hr;rcases (show ty=1∨ty=2∨ty=3∨ty=4∨ty=5∨ty=6∨ty=7∨ty=8 by omega) with rfl|rfl|rfl|rfl|rfl|rfl|rfl|rfl
 ·clear h1 h8;clear A6 A7 A8;go_wp2_with fail;refine (FM text _ (by omega)).mono ?_;rintro e w2 ⟨rfl,A3⟩;go_wp2
  go_ret2;exact LA rfl (A0.trans (A3.mono A0.size))
 ·clear h1 h8;obtain ⟨AB,AV⟩:=A6 (.inl rfl);clear A6 A7 A8;go_wp2_with fail;refine (IF parts A c _ HP.out AB AV AN).mono ?_;rintro e w2 ⟨rfl,A3⟩;have AL:=A0.trans (A3.mono A0.size);go_wp2
  go_ret2;exact LA rfl AL
 ·clear h1 h8;obtain ⟨AB,AV⟩:=A6 (.inr rfl);clear A6 A7 A8;go_wp2_with fail;refine (IF parts A c _ HP.out AB AV AN).mono ?_;rintro e w2 ⟨rfl,A3⟩;have AL:=A0.trans (A3.mono A0.size);go_wp2
  go_ret2;exact LA rfl AL
 ·clear h1 h8;clear A6 A7 A8;go_wp2
  go_ret2;exact LA rfl A0
 ·clear h1 h8;clear A6;replace A7:=A7 rfl;go_wp2_with fail;refine (NN (⟨y,mo,d,h,mi,sc,zo,zn⟩:St) _ A7 E0).mono ?_;rintro e w2 ⟨rfl,A3⟩;go_wp2
  go_ret2;exact LA rfl (A0.trans (A3.mono A0.size))
 ·clear h1 h8;clear A6;replace A8:=A8 rfl;go_wp2_with fail;refine (EC n _ A8).mono ?_;rintro e w2 ⟨rfl,A3⟩;go_wp2
  go_ret2;exact LA rfl (A0.trans (A3.mono A0.size))
 ·clear h1 h8;clear A6 A7 A8;go_wp2
  go_ret2;exact LA rfl A0
 ·clear h1 h8;clear A6 A7 A8;go_wp2
  go_ret2;exact LA rfl A0
theorem NX (v:Vl) (A:Option Addr) (c:Nat) (w:World) (hL:LD w) (hv:SM w v A c) (hE:Bl v=0):Calls prog 107 #[YF v (.slice A v.parts.length c)] w (V7 v (Iv 0) w):=by
 have hr:=IR hE;have A6:=IS hE;have A7:=KU hE;have A8:=KV hE;obtain ⟨ty,text,parts,⟨y,mo,d,h,mi,sc,zo,zn⟩,n⟩:=v;have B1:=hv.text;have AN:=hv.parts;have A5:=hv.lls;simp only at B1 AN A5 hr A6 A7 A8;show Calls prog 107 #[.agg #[Iv ty,Sv text,.slice A parts.length c,Iv y,Iv mo,Iv d,Iv h,Iv mi,Iv sc,.bool zo,Iv zn,Iv n]] w _;have A4:Below w.heap.size w (w.alloc (.cells #[Iv ty,Sv text,.slice A parts.length c,Iv y,Iv mo,Iv d,Iv h,Iv mi,Iv sc,.bool zo,Iv zn,Iv n] 42)):=zA;have HV:=hid (show SM (w.alloc (.cells #[Iv ty,Sv text,.slice A parts.length c,Iv y,Iv mo,Iv d,Iv h,Iv mi,Iv sc,.bool zo,Iv zn,Iv n] 42)) (⟨ty,text,parts,⟨y,mo,d,h,mi,sc,zo,zn⟩,n⟩:Vl) A c from ⟨A5.keep A4 A4.size,B1,AN⟩);have HE:=hid hE;have DA:=hL.below A4;clear hv hE;go_enter func107,ntmps107;go_wp2_with fail;refine (Gk (⟨ty,text,parts,⟨y,mo,d,h,mi,sc,zo,zn⟩,n⟩:Vl) A c _ DA HV.out).mono ?_;rintro e w1 ⟨rfl,A1⟩;have A0:=A4.trans (A1.mono A4.size);have DD:=A1.size;have HB:w.heap.size<w1.heap.size:=(by simp at DD;omega);have q0:w1.cell? (Ad w.heap.size 0)=some (Iv ty):=(by rw[A1.cell (p:=(Ad w.heap.size 0)) (by simp)];simp);have q1:w1.cell? (Ad w.heap.size 1)=some (Sv text):=(by rw[A1.cell (p:=(Ad w.heap.size 1)) (by simp)];simp);have q2:w1.cell? (Ad w.heap.size 2)=some (.slice A parts.length c):=(by rw[A1.cell (p:=(Ad w.heap.size 2)) (by simp)];simp);have q3:w1.cell? (Ad w.heap.size 3)=some (Iv y):=(by rw[A1.cell (p:=(Ad w.heap.size 3)) (by simp)];simp);have q4:w1.cell? (Ad w.heap.size 4)=some (Iv mo):=(by rw[A1.cell (p:=(Ad w.heap.size 4)) (by simp)];simp);have q5:w1.cell? (Ad w.heap.size 5)=some (Iv d):=(by rw[A1.cell (p:=(Ad w.heap.size 5)) (by simp)];simp);have q6:w1.cell? (Ad w.heap.size 6)=some (Iv h):=(by rw[A1.cell (p:=(Ad w.heap.size 6)) (by simp)];simp);have q7:w1.cell? (Ad w.heap.size 7)=some (Iv mi):=(by rw[A1.cell (p:=(Ad w.heap.size 7)) (by simp)];simp);have q8:w1.cell? (Ad w.heap.size 8)=some (Iv sc):=(by rw[A1.cell (p:=(Ad w.heap.size 8)) (by simp)];simp);have q9:w1.cell? (Ad w.heap.size 9)=some (.bool zo):=(by rw[A1.cell (p:=(Ad w.heap.size 9)) (by simp)];simp);have HC:w1.cell? (Ad w.heap.size 10)=some (Iv zn):=(by rw[A1.cell (p:=(Ad w.heap.size 10)) (by simp)];simp);have HD:w1.cell? (Ad w.heap.size 11)=some (Iv n):=(by rw[A1.cell (p:=(Ad w.heap.size 11)) (by simp)];simp);have E0:=hL.below A0;have HP:=hid (show Xw w1 w1.heap.size (.slice A parts.length c) parts from A5.keep A0 A0.size);clear A1 DD A5 HV DA A4;rw[HE.out];obtain ⟨h1,h8⟩:=hr;rcases (show ty=1∨ty=2∨ty=3∨ty=4∨ty=5∨ty=6∨ty=7∨ty=8 by omega) with rfl|rfl|rfl|rfl|rfl|rfl|rfl|rfl
 ·clear h1 h8;clear A6 A7 A8;go_wp2_with fail;refine (DR text _ (by omega)).mono ?_;rintro e w2 ⟨rfl,rfl⟩;go_wp2
  go_ret2;exact LA rfl A0
 ·clear h1 h8;obtain ⟨AB,AV⟩:=A6 (.inl rfl);clear A6 A7 A8;go_wp2_with fail;refine (IG parts A c _ HP.out AB AV AN).mono ?_;rintro e w2 ⟨rfl,A3⟩;have AL:=A0.trans (A3.mono A0.size);go_wp2
  go_ret2;exact LA rfl ((AL.alloc AL.size _))
 ·clear h1 h8;obtain ⟨AB,AV⟩:=A6 (.inr rfl);clear A6 A7 A8;go_wp2_with fail;refine (IG parts A c _ HP.out AB AV AN).mono ?_;rintro e w2 ⟨rfl,A3⟩;have AL:=A0.trans (A3.mono A0.size);go_wp2
  go_ret2;exact LA rfl ((AL.alloc AL.size _))
 ·clear h1 h8;clear A6 A7 A8;go_wp2
  go_ret2;exact LA rfl A0
 ·clear h1 h8;clear A6;replace A7:=A7 rfl;go_wp2_with fail;refine (Lb (⟨y,mo,d,h,mi,sc,zo,zn⟩:St) _ A7 E0).mono ?_;rintro e w2 ⟨rfl,A3⟩;go_wp2
  go_ret2;exact LA rfl (A0.trans (A3.mono A0.size))
 ·clear h1 h8;clear A6;replace A8:=A8 rfl;go_wp2_with fail;refine (GO n _ A8 E0).mono ?_;rintro e w2 ⟨rfl,A3⟩;go_wp2
  go_ret2;exact LA rfl (A0.trans (A3.mono A0.size))
 ·clear h1 h8;clear A6 A7 A8;go_wp2
  go_ret2;exact LA rfl A0
 ·clear h1 h8;clear A6 A7 A8;go_wp2
  go_ret2;exact LA rfl A0
end Go.Proofs.YtjhpdljphchfaaaGreatDoor
