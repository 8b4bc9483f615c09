/- A part of the proof of ConvertUps: The argument opened: what a card reads as gives its items in memory, and how long they are. -/
import Derived.Test.YtjhpdljphchfaaaGreatDoorA14
import Derived.Test.YtjhpdljphchfaaaGreatDoorA10
import Derived.Test.YtjhpdljphchfaaaGreatDoorRows
import Derived.Deep.Slices
set_option maxHeartbeats 40000000
set_option maxRecDepth 1000000
set_option linter.all false
namespace Go.Proofs.YtjhpdljphchfaaaGreatDoor
open Go.RowKit
open Go.Proofs.Tryz
def wc1 (D T:Int):Bool:=decide (D<0)||decide (T<0)||(D==0&&T==0)
def wc2 (D T:Int):Bool:=decide (0<D)&&decide (0<T)&&((D != 3&&D != 5&&D != 6)||decide (3<T))
theorem La: ∀a b c x y z:Bool,Bk [fb a,fb b,fb c] [fb x,fb y,fb z]=(!(wc1 (C4 a b c) (C4 x y z))&& !(wc2 (C4 a b c) (C4 x y z))):=by decide
def inT (p:Int×Int×Int):Bool:=Xt p.1 p.2.1 p.2.2
def V2 (s:St) (w:World) (e:Ending) (w':World):Prop:=e= .returned (Iv (B5 s))/\Below w.heap.size w w'
theorem KD (s:St) (w:World) (hL:LD w):Calls prog 105 #[YC s] w (V2 s w):=by
 obtain ⟨y,mo,d,h,mi,sc,zo,zn⟩:=s;show Calls prog 105 #[.agg #[Iv y,Iv mo,Iv d,Iv h,Iv mi,Iv sc,.bool zo,Iv zn]] w _;go_enter func105,ntmps105;go_upto_region 1 with fail;go_cut [3,4] from 8 to 23 (fun s3 s4 wx=>s3=Iv (C4 (y != -1) (mo != -1) (d != -1))/\s4=Iv (C4 (h != -1) (mi != -1) (sc != -1))/\YE wx w.heap.size ⟨y,mo,d,h,mi,sc,zo,zn⟩/\Below w.heap.size w wx/\w.heap.size<wx.heap.size);case first=>
  go_region_held3 (fun w'=>w'.cell? (Ad w.heap.size 0)=some (Iv y)/\w'.cell? (Ad w.heap.size 1)=some (Iv mo)/\w'.cell? (Ad w.heap.size 2)=some (Iv d)/\w'.cell? (Ad w.heap.size 3)=some (Iv h)/\w'.cell? (Ad w.heap.size 4)=some (Iv mi)/\w'.cell? (Ad w.heap.size 5)=some (Iv sc)/\w'.cell? (Ad w.heap.size 6)=some (.bool zo)/\w'.cell? (Ad w.heap.size 7)=some (Iv zn)/\Below w.heap.size w w')
   (first|(go_keep;done)|((try dsimp only);(try go_split_ands);(repeat' apply And.intro)<;>(first|(go_keep;done)|(refine (A1.cell ?_).trans ?_<;>first|assumption|(simp[go_sem];done)|(simp[go_sem, *];done)|(simp at hz⊢;omega)|(simp;omega))|((repeat (first|exact zB|assumption|refine Below.drew ?_|refine Below.alloc ?_ (by first|omega|(simp<;>omega)) _|refine Below.trans ?_ (Below.mono A1 (by first|omega|(simp<;>omega)))));done))))
   (first|(go_at_call 158;(try go_split_ands);(first|(refine (DM y mo d _ _ ?_ ?_ ?_ ?_ (hL.below (show Below w.heap.size w _ from (by first|assumption|(repeat (first|exact zB|assumption|refine Below.drew ?_|refine Below.alloc ?_ (by first|omega|(simp<;>omega)) _)))))).mono ?_;(focus simp[go_sem]);(focus simp[go_sem]);(focus simp[go_sem]);(focus (first|omega|(simp<;>omega)));rintro e w1 ⟨rfl,A1⟩;have hk:=fun (p:Addr) hp=>A1.cell (p:=p) hp;have hz:=A1.size;(try simp at hz))|(refine (DM h mi sc _ _ ?_ ?_ ?_ ?_ (hL.below (show Below w.heap.size w _ from (by first|assumption|(repeat (first|exact zB|assumption|refine Below.drew ?_|refine Below.alloc ?_ (by first|omega|(simp<;>omega)) _)))))).mono ?_;(focus simp[go_sem]);(focus simp[go_sem]);(focus simp[go_sem]);(focus (first|omega|(simp<;>omega)));rintro e w1 ⟨rfl,A1⟩;have hk:=fun (p:Addr) hp=>A1.cell (p:=p) hp;have hz:=A1.size;(try simp at hz))|(refine (DM y mo d _ _ ?_ ?_ ?_ ?_ (hL.below (show Below w.heap.size w _ from (by first|assumption|(repeat (first|exact zB|assumption|refine Below.drew ?_|refine Below.alloc ?_ (by first|omega|(simp<;>omega)) _)))))).mono ?_;(focus simp[go_sem,hk]);(focus simp[go_sem,hk]);(focus simp[go_sem,hk]);(focus (first|omega|(simp<;>omega)));rintro e w1 ⟨rfl,A1⟩;have hk:=fun (p:Addr) hp=>A1.cell (p:=p) hp;have hz:=A1.size;(try simp at hz))|(refine (DM h mi sc _ _ ?_ ?_ ?_ ?_ (hL.below (show Below w.heap.size w _ from (by first|assumption|(repeat (first|exact zB|assumption|refine Below.drew ?_|refine Below.alloc ?_ (by first|omega|(simp<;>omega)) _)))))).mono ?_;(focus simp[go_sem,hk]);(focus simp[go_sem,hk]);(focus simp[go_sem,hk]);(focus (first|omega|(simp<;>omega)));rintro e w1 ⟨rfl,A1⟩;have hk:=fun (p:Addr) hp=>A1.cell (p:=p) hp;have hz:=A1.size;(try simp at hz)))))
  all_goals (go_split_ands;clear hk;go_wp2;go_meet;exact ⟨rfl,rfl,⟨‹_›,‹_›,‹_›,‹_›,‹_›,‹_›,‹_›,‹_›⟩,‹_›,World.block_lt_of_cell? _ _ (show _=some (Iv y) by assumption)⟩)
 case rest=>
  obtain ⟨rfl,rfl,hC,hb,A2⟩:=hcut;obtain ⟨k0,k1,k2,k3,k4,k5,k6,k7⟩:=hC;have HW:=hid (show B5 ⟨y,mo,d,h,mi,sc,zo,zn⟩=if !Bk (BO y mo d) (BO h mi sc)||(zo&&h== -1)||(!zo&&zn != 0) then 3 else (if Xt y 0 9999&&Xt mo 1 12&&Xt d 1 (if mo= -1 then 31 else BC y mo)&&Xt h 0 23&&Xt mi 0 59&&Xt sc 0 59&&Av zn then 0 else 2) from rfl);rw[Bu,Bu,La] at HW;obtain ⟨D,hD⟩: ∃D,D=C4 (y != -1) (mo != -1) (d != -1):=⟨_,rfl⟩;obtain ⟨T,hT⟩: ∃T,T=C4 (h != -1) (mi != -1) (sc != -1):=⟨_,rfl⟩;rw[<-hD,<-hT] at HW;rw[<-hD,<-hT];clear hD hT;go_upto_region 2 with fail;go_cut [37] from 24 to 36 (fun x wz=>(∃X:Bool,x= .bool X/\Hid (wc1 D T=X))/\wz=wc);case first=>
   by_cases h1:D<0
   ·have HX:=hid (show wc1 D T=true by simp[wc1,h1]);go_wp2
    go_meet;exact ⟨⟨_,rfl,by first|exact HX|(refine hid ?_;rw[HX.out];simp<;>omega)⟩,rfl⟩
   ·by_cases h2:T<0
    ·have HX:=hid (show wc1 D T=true by simp[wc1,h2]);go_wp2
     go_meet;exact ⟨⟨_,rfl,by first|exact HX|(refine hid ?_;rw[HX.out];simp<;>omega)⟩,rfl⟩
    ·obtain ⟨v,hv⟩: ∃v,(D==0)=v:=⟨_,rfl⟩;obtain ⟨u,hu⟩: ∃u,(T==0)=u:=⟨_,rfl⟩;have HX:=hid (show wc1 D T=(v&&u) by rw[wc1,decide_eq_false h1,decide_eq_false h2,hv,hu];rfl);have PB:0<=D:=(by omega);have PF:0<=T:=(by omega);clear h1 h2;cases v<;>cases u<;>
     (go_wp2
      go_meet;exact ⟨⟨_,rfl,by first|exact HX|(refine hid ?_;rw[HX.out];simp<;>omega)⟩,rfl⟩)
  case rest=>
  obtain ⟨⟨X,rfl,HX⟩,rfl⟩:=hcut;cases X with
  |true=>
   have HR:=hid (show B5 ⟨y,mo,d,h,mi,sc,zo,zn⟩=3 by rw[HW.out,HX.out];rfl);clear HW HX;go_wp2
   go_ret;exact ⟨CH HR.out.symm,hb⟩
  |false=>
  have HF:=hid (show B5 ⟨y,mo,d,h,mi,sc,zo,zn⟩=if wc2 D T||(zo&&h== -1)||(!zo&&zn != 0) then 3 else (if Xt y 0 9999&&Xt mo 1 12&&Xt d 1 (if mo= -1 then 31 else BC y mo)&&Xt h 0 23&&Xt mi 0 59&&Xt sc 0 59&&Av zn then 0 else 2) by rw[HW.out,HX.out];cases wc2 D T<;>rfl);clear HW HX;go_upto_region 4 with fail;go_cut [59] from 38 to 58 (fun x wz=>(∃X:Bool,x= .bool X/\Hid (wc2 D T=X))/\wz=wc);case first=>
   by_cases h1:0<D
   ·by_cases h2:0<T
    ·obtain ⟨u,hu⟩: ∃u,decide (3<T)=u:=⟨_,rfl⟩;by_cases h3:D=3
     ·subst h3;have HX:=hid (show wc2 3 T=u by rw[wc2,decide_eq_true h2,hu];cases u<;>rfl);clear h1;cases u with
      |true=>
       have h4:3<T:=of_decide_eq_true hu;clear hu;go_wp2
       go_meet;exact ⟨⟨_,rfl,by first|exact HX|(refine hid ?_;rw[HX.out];simp<;>omega)⟩,rfl⟩
      |false=>
       have h4:T<=3:=(by have:=of_decide_eq_false hu;omega);clear hu;go_wp2
       go_meet;exact ⟨⟨_,rfl,by first|exact HX|(refine hid ?_;rw[HX.out];simp<;>omega)⟩,rfl⟩
     ·have e3:(D != 3)=true:=(by simpa using h3);clear h3;by_cases h3:D=5
      ·subst h3;have HX:=hid (show wc2 5 T=u by rw[wc2,decide_eq_true h2,hu];cases u<;>rfl);clear h1;cases u with
       |true=>
        have h4:3<T:=of_decide_eq_true hu;clear hu;go_wp2
        go_meet;exact ⟨⟨_,rfl,by first|exact HX|(refine hid ?_;rw[HX.out];simp<;>omega)⟩,rfl⟩
       |false=>
        have h4:T<=3:=(by have:=of_decide_eq_false hu;omega);clear hu;go_wp2
        go_meet;exact ⟨⟨_,rfl,by first|exact HX|(refine hid ?_;rw[HX.out];simp<;>omega)⟩,rfl⟩
      ·have e5:(D != 5)=true:=(by simpa using h3);clear h3;by_cases h3:D=6
       ·subst h3;have HX:=hid (show wc2 6 T=u by rw[wc2,decide_eq_true h2,hu];cases u<;>rfl);clear h1;cases u with
        |true=>
         have h4:3<T:=of_decide_eq_true hu;clear hu;go_wp2
         go_meet;exact ⟨⟨_,rfl,by first|exact HX|(refine hid ?_;rw[HX.out];simp<;>omega)⟩,rfl⟩
        |false=>
         have h4:T<=3:=(by have:=of_decide_eq_false hu;omega);clear hu;go_wp2
         go_meet;exact ⟨⟨_,rfl,by first|exact HX|(refine hid ?_;rw[HX.out];simp<;>omega)⟩,rfl⟩
       ·have e6:(D != 6)=true:=(by simpa using h3);clear h3;have HX:=hid (show wc2 D T=true by rw[wc2,decide_eq_true h1,decide_eq_true h2,e3,e5,e6];rfl);clear hu;go_wp2
        go_meet;exact ⟨⟨_,rfl,by first|exact HX|(refine hid ?_;rw[HX.out];simp<;>omega)⟩,rfl⟩
    ·have HX:=hid (show wc2 D T=false by simp[wc2,h2]);have PF:T<=0:=(by omega);clear h2;go_wp2
     go_meet;exact ⟨⟨_,rfl,by first|exact HX|(refine hid ?_;rw[HX.out];simp<;>omega)⟩,rfl⟩
   ·have HX:=hid (show wc2 D T=false by simp[wc2,h1]);have PB:D<=0:=(by omega);clear h1;go_wp2
    go_meet;exact ⟨⟨_,rfl,by first|exact HX|(refine hid ?_;rw[HX.out];simp<;>omega)⟩,rfl⟩
  case rest=>
  obtain ⟨⟨X,rfl,HX⟩,rfl⟩:=hcut;cases X with
  |true=>
   have HR:=hid (show B5 ⟨y,mo,d,h,mi,sc,zo,zn⟩=3 by rw[HF.out,HX.out];rfl);clear HF HX;go_wp2
   go_ret;exact ⟨CH HR.out.symm,hb⟩
  |false=>
  have F3:=hid (show B5 ⟨y,mo,d,h,mi,sc,zo,zn⟩=if (zo&&h== -1)||(!zo&&zn != 0) then 3 else (if Xt y 0 9999&&Xt mo 1 12&&Xt d 1 (if mo= -1 then 31 else BC y mo)&&Xt h 0 23&&Xt mi 0 59&&Xt sc 0 59&&Av zn then 0 else 2) by rw[HF.out,HX.out];rfl);clear HF HX;go_upto_region 6 with fail;go_cut [76] from 60 to 75 (fun x wz=>(∃X:Bool,x= .bool X/\Hid (B5 ⟨y,mo,d,h,mi,sc,zo,zn⟩=if X then 3 else (if Xt y 0 9999&&Xt mo 1 12&&Xt d 1 (if mo= -1 then 31 else BC y mo)&&Xt h 0 23&&Xt mi 0 59&&Xt sc 0 59&&Av zn then 0 else 2)))/\wz=wc);case first=>
   cases zo with
   |true=>
    obtain ⟨q,hq⟩: ∃q,(h== -1)=q:=⟨_,rfl⟩;have HR:=hid (show B5 ⟨y,mo,d,h,mi,sc,true,zn⟩=if q then 3 else (if Xt y 0 9999&&Xt mo 1 12&&Xt d 1 (if mo= -1 then 31 else BC y mo)&&Xt h 0 23&&Xt mi 0 59&&Xt sc 0 59&&Av zn then 0 else 2) by rw[F3.out,hq];cases q<;>rfl);clear F3;cases q<;>
    (go_wp2
     go_meet;exact ⟨⟨_,rfl,HR⟩,rfl⟩)
   |false=>
    obtain ⟨q,hq⟩: ∃q,(zn != 0)=q:=⟨_,rfl⟩;have HR:=hid (show B5 ⟨y,mo,d,h,mi,sc,false,zn⟩=if q then 3 else (if Xt y 0 9999&&Xt mo 1 12&&Xt d 1 (if mo= -1 then 31 else BC y mo)&&Xt h 0 23&&Xt mi 0 59&&Xt sc 0 59&&Av zn then 0 else 2) by rw[F3.out,hq];cases q<;>rfl);clear F3;cases q<;>
    (go_wp2
     go_meet;exact ⟨⟨_,rfl,HR⟩,rfl⟩)
  case rest=>
  obtain ⟨⟨X,rfl,HR⟩,rfl⟩:=hcut;clear F3;cases X with
  |true=>
   go_wp2
   go_ret;exact ⟨CH HR.out.symm,hb⟩
  |false=>
  have HR:=hid (show B5 ⟨y,mo,d,h,mi,sc,zo,zn⟩=(if Xt y 0 9999&&Xt mo 1 12&&Xt d 1 (if mo= -1 then 31 else BC y mo)&&Xt h 0 23&&Xt mi 0 59&&Xt sc 0 59&&Av zn then 0 else 2) from HR.out);obtain ⟨ZO,I3⟩: ∃z,Av zn=z:=⟨_,rfl⟩;rw[I3] at HR;have HZ:=hid I3;clear I3;by_cases E1:mo= -1
  case' pos=>
   have q:(mo != -1)=false:=(by rw[E1];rfl);rw[if_pos E1] at HR;clear E1;obtain ⟨L,A8⟩: ∃L:List (Int×Int×Int),L=[(y,0,9999),(mo,1,12),(d,1,31),(h,0,23),(mi,0,59),(sc,0,59)]:=⟨_,rfl⟩;have HG:=hid (show B5 ⟨y,mo,d,h,mi,sc,zo,zn⟩=if L.all inT&&ZO then 0 else 2 by rw[HR.out,A8];simp only[List.all_cons,List.all_nil,inT,Bool.and_true,Bool.and_assoc]);have HL:=hid A8;clear HR A8;go_wp2_with fail;obtain ⟨w0,A3,A4⟩: ∃w0,w0=wc.alloc (.cells #[Iv y,Iv 0,Iv 9999,Iv mo,Iv 1,Iv 12,Iv d,Iv 1,Iv 31,Iv h,Iv 0,Iv 23,Iv mi,Iv 0,Iv 59,Iv sc,Iv 0,Iv 59] 200)/\ ∀k p,L[k]? =some p->w0.cell? (Ad wc.heap.size (k*3))=some (Iv p.1)/\w0.cell? (Ad wc.heap.size (k*3+1))=some (Iv p.2.1)/\w0.cell? (Ad wc.heap.size (k*3+2))=some (Iv p.2.2):=(by refine ⟨_,rfl,fun k p hp=> ?_⟩;rw[HL.out] at hp;have HH:k<6:=(by have:=(List.getElem?_eq_some_iff.1 hp).1;simpa using this);have F4:k=0∨k=1∨k=2∨k=3∨k=4∨k=5:=(by omega);rcases F4 with rfl|rfl|rfl|rfl|rfl|rfl<;>(simp at hp;subst hp;simp));have A9:Below w.heap.size w w0:=(by rw[A3];exact hb.alloc hb.size _);have E2:w0.heap.size=wc.heap.size+1:=(by rw[A3];simp);have L8:w0.cell? (Ad w.heap.size 7)=some (Iv zn):=(by rw[A3,World.cell?_alloc_old _ _ _ (Nat.ne_of_lt A2)];exact k7);rw[<-A3];have HC:=hid A4;have I1:L.length=6:=(by rw[HL.out];rfl);obtain ⟨G,hG⟩: ∃G,G=wc.heap.size:=⟨_,rfl⟩
  case' neg=>
   have q:(mo != -1)=true:=(by simpa using E1);rw[if_neg E1] at HR;clear E1;obtain ⟨DD,I4⟩: ∃DD,DD=BC y mo:=⟨_,rfl⟩;rw[<-I4] at HR;have L9:=hid I4;clear I4;obtain ⟨L,A8⟩: ∃L:List (Int×Int×Int),L=[(y,0,9999),(mo,1,12),(d,1,DD),(h,0,23),(mi,0,59),(sc,0,59)]:=⟨_,rfl⟩;have HG:=hid (show B5 ⟨y,mo,d,h,mi,sc,zo,zn⟩=if L.all inT&&ZO then 0 else 2 by rw[HR.out,A8];simp only[List.all_cons,List.all_nil,inT,Bool.and_true,Bool.and_assoc]);have HL:=hid A8;clear HR A8;go_wp2_with fail;refine (OY _ _ _).mono ?_;rintro e w1 ⟨rfl,A1⟩;rw[<-L9.out];have k0:=(A1.cell (p:=(Ad w.heap.size 0)) A2).trans k0;have k1:=(A1.cell (p:=(Ad w.heap.size 1)) A2).trans k1;have k2:=(A1.cell (p:=(Ad w.heap.size 2)) A2).trans k2;have k3:=(A1.cell (p:=(Ad w.heap.size 3)) A2).trans k3;have k4:=(A1.cell (p:=(Ad w.heap.size 4)) A2).trans k4;have k5:=(A1.cell (p:=(Ad w.heap.size 5)) A2).trans k5;have k6:=(A1.cell (p:=(Ad w.heap.size 6)) A2).trans k6;have k7:=(A1.cell (p:=(Ad w.heap.size 7)) A2).trans k7;replace hb:=hb.trans (A1.mono hb.size);replace A2:=Nat.lt_of_lt_of_le A2 A1.size;clear L9 A1;go_wp2_with fail;obtain ⟨w0,A3,A4⟩: ∃w0,w0=w1.alloc (.cells #[Iv y,Iv 0,Iv 9999,Iv mo,Iv 1,Iv 12,Iv d,Iv 1,Iv DD,Iv h,Iv 0,Iv 23,Iv mi,Iv 0,Iv 59,Iv sc,Iv 0,Iv 59] 200)/\ ∀k p,L[k]? =some p->w0.cell? (Ad w1.heap.size (k*3))=some (Iv p.1)/\w0.cell? (Ad w1.heap.size (k*3+1))=some (Iv p.2.1)/\w0.cell? (Ad w1.heap.size (k*3+2))=some (Iv p.2.2):=(by refine ⟨_,rfl,fun k p hp=> ?_⟩;rw[HL.out] at hp;have HH:k<6:=(by have:=(List.getElem?_eq_some_iff.1 hp).1;simpa using this);have F4:k=0∨k=1∨k=2∨k=3∨k=4∨k=5:=(by omega);rcases F4 with rfl|rfl|rfl|rfl|rfl|rfl<;>(simp at hp;subst hp;simp));have A9:Below w.heap.size w w0:=(by rw[A3];exact hb.alloc hb.size _);have E2:w0.heap.size=w1.heap.size+1:=(by rw[A3];simp);have L8:w0.cell? (Ad w.heap.size 7)=some (Iv zn):=(by rw[A3,World.cell?_alloc_old _ _ _ (Nat.ne_of_lt A2)];exact k7);rw[<-A3];have HC:=hid A4;have I1:L.length=6:=(by rw[HL.out];rfl);obtain ⟨G,hG⟩: ∃G,G=w1.heap.size:=⟨_,rfl⟩
  all_goals
   rw[<-hG] at HC E2⊢;have I5:G<w0.heap.size:=(by omega);have HJ:w.heap.size<w0.heap.size:=(by omega);clear A3 A4 HL hG E2;go_loopw [7,106] (fun _ i wr=> ∃k:Nat,i=Iv k/\k<=6/\Hid ((L.drop k).all inT=L.all inT)/\Below w0.heap.size w0 wr) (fun _ i _=>6-(intOf i).toNat);case atStart=>exact ⟨0,rfl,by omega,hid rfl,zB⟩
   case round=>
    obtain ⟨k,rfl,hk,HK,A5⟩:=hrel;by_cases E3:k<6
    ·obtain ⟨p,hp,hd⟩: ∃p,L[k]? =some p/\L.drop k=p::L.drop (k+1):=⟨L[k],List.getElem?_eq_getElem (by omega),List.drop_eq_getElem_cons (by omega)⟩;have HM:=hid (show L.all inT=(inT p&&(L.drop (k+1)).all inT) by rw[<-HK.out,hd];rfl);obtain ⟨c0,c1,c2⟩:=HC.out k p hp;obtain ⟨n,lo,hi⟩:=p;have r0:wr.cell? (Ad G (k*3))=some (Iv n):=(A5.cell (p:=(Ad G (k*3))) (show G<_ by omega)).trans c0;have r1:wr.cell? (Ad G (k*3+1))=some (Iv lo):=(A5.cell (p:=(Ad G (k*3+1))) (show G<_ by omega)).trans c1;have r2:wr.cell? (Ad G (k*3+2))=some (Iv hi):=(A5.cell (p:=(Ad G (k*3+2))) (show G<_ by omega)).trans c2;have AB:Below w.heap.size w wr:=A9.trans (A5.mono A9.size);clear hp hd c0 c1 c2;obtain ⟨e1,I6⟩: ∃v,(n== -1)=v:=⟨_,rfl⟩;have HI:=hid (show inT (n,lo,hi)=(e1||(decide (lo<=n)&&decide (n<=hi))) by rw[<-I6];rfl);have q2:(n != -1)= !e1:=(by rw[bne,I6]);clear I6;cases e1 with
     |true=>
      have HN:=hid (show (L.drop (k+1)).all inT=L.all inT by rw[HM.out,HI.out];rfl);go_wp2
      go_roundw;case rel=>exact ⟨k+1,by go_num,by omega,HN,A5.alloc A5.size _⟩
      case measure=>simp[intOf];omega
     |false=>
      obtain ⟨v,hv⟩: ∃v,(decide (lo<=n)&&decide (n<=hi))=v:=⟨_,rfl⟩;rw[hv] at HI;have HV:=hid hv;clear hv;cases v with
      |true=>
       have HN:=hid (show (L.drop (k+1)).all inT=L.all inT by rw[HM.out,HI.out];rfl);go_wp2_with fail;refine (AX _ _ _ _).mono ?_;rintro e w2 ⟨rfl,rfl⟩;rw[HV.out];go_wp2
       go_roundw;case rel=>exact ⟨k+1,by go_num,by omega,HN,A5.alloc A5.size _⟩
       case measure=>simp[intOf];omega
      |false=>
       have IB:=hid (show B5 ⟨y,mo,d,h,mi,sc,zo,zn⟩=2 by rw[HG.out,HM.out,HI.out];rfl);go_wp2_with fail;refine (AX _ _ _ _).mono ?_;rintro e w2 ⟨rfl,rfl⟩;rw[HV.out];go_wp2
       go_ret;exact ⟨CH IB.out.symm,AB.alloc AB.size _⟩
    ·have HH:k=6:=(by omega);subst HH;have HA:=hid (show L.all inT=true by rw[<-HK.out,List.drop_eq_nil_of_le (by omega)];rfl);have IB:=hid (show B5 ⟨y,mo,d,h,mi,sc,zo,zn⟩=if ZO then 0 else 2 by rw[HG.out,HA.out];rfl);have r7:wr.cell? (Ad w.heap.size 7)=some (Iv zn):=by
      have e0:w0.cell? (Ad w.heap.size 7)=some (Iv zn):=L8;exact (A5.cell (p:=(Ad w.heap.size 7)) (show w.heap.size<_ by omega)).trans e0
     have AB:Below w.heap.size w wr:=A9.trans (A5.mono A9.size);clear HK HG HC;cases ZO<;>
     (go_wp2_with fail
      refine (DW _ _).mono ?_;rintro e w2 ⟨rfl,rfl⟩;rw[HZ.out];go_wp2
      go_ret;exact ⟨CH IB.out.symm,AB⟩)
def Jo:Str->Str->Str
 |[],_=>[]
 |c::f,a=>if c=57 then (match a with|[]=>[]|x::r=>x::Jo f r) else c::Jo f a
def n9:Str->Nat
 |[]=>0
 |c::f=>(if c=57 then 1 else 0)+n9 f
def Ho (n:Int) (k:Nat):Str:=if n= -1 then [] else BG n k
def To (y:Int) (l:List Int):Str:=Ho y 4++l.flatMap (Ho · 2)
def KE (k:Nat):Str:=(DB.getD k []).getD 1 []
def Ee (k:Nat):Str:=(DB.getD k []).getD 2 []
def Fp (D T:Nat):Str:=KE D++(if 0<T then 84::Ee T else [])
theorem RE: ∀a b c x y z:Bool,Bk [fb a,fb b,fb c] [fb x,fb y,fb z]=true->(∃n:Fin 7,C4 a b c=(n.val:Int))/\(∃n:Fin 7,C4 x y z=(n.val:Int)):=by decide
theorem Oz {n:Int} {k:Nat}:Ho n k=if (n != -1) then BG n k else []:=by
 by_cases h:n= -1
 ·simp[Ho,h]
 ·simp[Ho,h]
theorem O0: ∀D T:Fin 7,(Fp D.val T.val).length<=20:=by decide
theorem Xg (n:Int): ∃a b c d,BG n 4=[a,b,c,d]:=⟨_,_,_,_,rfl⟩
theorem Uf (n:Int): ∃a b,BG n 2=[a,b]:=⟨_,_,rfl⟩
theorem RF (y mo d h mi sc:Int) (zo:Bool) (zn:Int) (D T:Nat) (hs:Bk (BO y mo d) (BO h mi sc)=true)
 (hD:C4 (y != -1) (mo != -1) (d != -1)=(D:Int)) (hT:C4 (h != -1) (mi != -1) (sc != -1)=(T:Int)):
 Jo (Fp D T) (To y [mo,d,h,mi,sc])=EY ⟨y,mo,d,h,mi,sc,zo,zn⟩++(if BO h mi sc=[45,45,45] then [] else 84::Cc ⟨y,mo,d,h,mi,sc,zo,zn⟩)/\n9 (Fp D T)<=(To y [mo,d,h,mi,sc]).length:=by
 obtain ⟨y1,y2,y3,y4,hy⟩:=Xg y;obtain ⟨m1,m2,hm⟩:=Uf mo;obtain ⟨d1,d2,hd⟩:=Uf d;obtain ⟨h1,h2,hh⟩:=Uf h;obtain ⟨i1,i2,hi⟩:=Uf mi;obtain ⟨s1,s2,LL⟩:=Uf sc;have eF:=Bu y mo d;have eG:=Bu h mi sc;simp only[EY,Cc,To,Oz,List.flatMap_cons,List.flatMap_nil,hy,hm,hd,hh,hi,LL];rw[eF,eG] at hs⊢;generalize (y != -1)=a at*;generalize (mo != -1)=b at*;generalize (d != -1)=c at*;generalize (h != -1)=x at*;generalize (mi != -1)=u at*;generalize (sc != -1)=v at*;clear eF eG hy hm hd hh hi LL;cases a<;>cases b<;>cases c<;>cases x<;>cases u<;>cases v<;>
 first
 |(exact absurd hs (by decide))
 |(obtain rfl:D=_:=Int.ofNat.inj (hD.symm.trans (by rfl))
   obtain rfl:T=_:=Int.ofNat.inj (hT.symm.trans (by rfl));exact ⟨rfl,Nat.le_of_ble_eq_true rfl⟩)
theorem MY: ∀(f a:Str),n9 f<=a.length->(Jo f a).length=f.length
 |[],_,_=>rfl
 |c::f,a,h=>by
  rw[n9] at h;by_cases e:c=57
  ·rw[if_pos e] at h;cases a with
   |nil=>simp at h
   |cons x r=>simp only[Jo,if_pos e,List.length_cons] at h⊢;rw[MY f r (by omega)]
  ·rw[if_neg e] at h;simp only[Jo,if_neg e,List.length_cons];rw[MY f a (by omega)]
theorem MZ (n:Int) (k:Nat):(Ho n k).length<=k:=by
 unfold Ho;split
 ·simp
 ·rw[AY];exact Nat.le_refl _
theorem O1 (l:List Int):(l.flatMap (Ho · 2)).length<=2*l.length:=by
 induction l with
 |nil=>simp
 |cons x r ih=>rw[List.flatMap_cons,List.length_append,List.length_cons];have:=MZ x 2;omega
def Xh (s:St) (w:World) (e:Ending) (w':World):Prop:=e= .returned (.string ⟨(DI s).toArray⟩)/\Below w.heap.size w w'
theorem O2 (s:St) (w:World) (hE:B5 s=0) (hL:LD w):Calls prog 206 #[YC s] w (Xh s w):=by
 obtain ⟨y,mo,d,h,mi,sc,zo,zn⟩:=s;have FB:=OZ hE;clear hE;have B3:=FB.shape;have KI:=B3;rw[Bu,Bu] at KI;obtain ⟨⟨⟨D,M2⟩,hD⟩,⟨⟨T,MM⟩,hT⟩⟩:=RE _ _ _ _ _ _ KI;simp only at hD hT;obtain ⟨G1,h9⟩:=RF y mo d h mi sc zo zn D T B3 hD hT;have HP:=hid (show DI ⟨y,mo,d,h,mi,sc,zo,zn⟩=Jo (Fp D T) (To y [mo,d,h,mi,sc])++(if zo then CL zn else []) by
  rw[G1];show _++(if BO h mi sc=[45,45,45] then [] else 84::(Cc ⟨y,mo,d,h,mi,sc,zo,zn⟩++if zo then CL zn else []))=_;by_cases e:BO h mi sc=[45,45,45]
  ·have hz:zo=false:=by
    cases zo with
    |false=>rfl
    |true=>exfalso;have h1:=FB.ozo rfl;simp[BO,h1] at e
   rw[if_pos e,if_pos e,hz];simp
  ·rw[if_neg e,if_neg e];simp)
 have L1:(Fp D T).length<=20:=O0 ⟨D,M2⟩ ⟨T,MM⟩;have HD:=hid hD;have HT:=hid hT;have H9:=hid h9;have AV:=hid (show Fp D T=KE D++(if 0<T then 84::Ee T else []) from rfl);have Q1:=hid FB.oz;have E9:=hid FB;clear FB B3 KI hD hT G1 h9;show Calls prog 206 #[.agg #[Iv y,Iv mo,Iv d,Iv h,Iv mi,Iv sc,.bool zo,Iv zn]] w _;go_enter func206,ntmps206;go_upto_if 15 with fail;go_cut [3] from 16 to 18 (fun s3 wz=>s3= .string ⟨(Ho y 4).toArray⟩/\YE wz w.heap.size ⟨y,mo,d,h,mi,sc,zo,zn⟩/\Below w.heap.size w wz/\w.heap.size<wz.heap.size);case first=>
  obtain ⟨x,hx⟩: ∃x,(y != -1)=x:=⟨_,rfl⟩;have HY:=hid (show Ho y 4=if x then BG y 4 else [] by rw[Oz,hx]);have HX:=hid hx;have AL:Below w.heap.size w (w.alloc (.cells #[Iv y,Iv mo,Iv d,Iv h,Iv mi,Iv sc,.bool zo,Iv zn] 40)):=zA;cases x with
  |true=>
   obtain ⟨Y,rfl,lY,WA⟩:=Bw E9.out.oy (by decide) (by decide) hx;clear HD HT H9 HP AV;go_wp2_with fail;refine (DX Y 4 _ (by omega) (by omega) (by omega) (hL.below AL)).mono ?_;rintro e w1 ⟨rfl,A1⟩;go_wp2
   go_meet;refine ⟨Af (by rw[HY.out];rfl),⟨(A1.cell (p:=(Ad w.heap.size 0)) (by simp)).trans (by simp),(A1.cell (p:=(Ad w.heap.size 1)) (by simp)).trans (by simp),(A1.cell (p:=(Ad w.heap.size 2)) (by simp)).trans (by simp),(A1.cell (p:=(Ad w.heap.size 3)) (by simp)).trans (by simp),(A1.cell (p:=(Ad w.heap.size 4)) (by simp)).trans (by simp),(A1.cell (p:=(Ad w.heap.size 5)) (by simp)).trans (by simp),(A1.cell (p:=(Ad w.heap.size 6)) (by simp)).trans (by simp),(A1.cell (p:=(Ad w.heap.size 7)) (by simp)).trans (by simp)⟩,AL.trans (A1.mono AL.size), ?_⟩;have:=A1.size;simp at this;omega
  |false=>
   clear HD HT H9 HP AV;go_wp2
   go_meet;exact ⟨Af (by rw[HY.out];rfl),⟨by simp,by simp,by simp,by simp,by simp,by simp,by simp,by simp⟩,AL,by simp⟩
 case rest=>
  obtain ⟨rfl,⟨k0,k1,k2,k3,k4,k5,k6,k7⟩,hb,A2⟩:=hcut;have Q2:=MZ y 4;have HA:=hid (show To y [mo,d,h,mi,sc]=Ho y 4++[mo,d,h,mi,sc].flatMap (Ho · 2) from rfl);obtain ⟨A0,N0⟩: ∃A,A=Ho y 4:=⟨_,rfl⟩;rw[<-N0] at HA Q2⊢;clear N0;go_wp2_with fail;obtain ⟨L,A8⟩: ∃L:List Int,L=[mo,d,h,mi,sc]:=⟨_,rfl⟩;have HR:Hid (∀k n,L[k]? =some n->n= -1∨(0<=n/\n<=59)):=hid (by intro k n hp;rw[A8] at hp;have hm:n∈[mo,d,h,mi,sc]:=List.mem_of_getElem? hp;simp only[List.mem_cons,List.not_mem_nil,or_false] at hm;have:=E9.out.omo;have:=E9.out.od;have:=E9.out.oh;have:=E9.out.omi;have:=E9.out.osc;rcases hm with rfl|rfl|rfl|rfl|rfl<;>omega);obtain ⟨w0,A3,A4⟩: ∃w0,w0=wc.alloc (.cells #[Iv mo,Iv d,Iv h,Iv mi,Iv sc] 3)/\ ∀k n,L[k]? =some n->w0.cell? (Ad wc.heap.size k)=some (Iv n):=(by refine ⟨_,rfl,fun k p hp=> ?_⟩;rw[A8] at hp;have HH:k<5:=(by have:=(List.getElem?_eq_some_iff.1 hp).1;simpa using this);have F4:k=0∨k=1∨k=2∨k=3∨k=4:=(by omega);rcases F4 with rfl|rfl|rfl|rfl|rfl<;>(simp at hp;subst hp;simp));have A9:Below w.heap.size w w0:=(by rw[A3];exact hb.alloc hb.size _);have E2:w0.heap.size=wc.heap.size+1:=(by rw[A3];simp);replace k0:w0.cell? (Ad w.heap.size 0)=some (Iv y):=(by rw[A3,World.cell?_alloc_old _ _ _ (Nat.ne_of_lt A2)];exact k0);replace k1:w0.cell? (Ad w.heap.size 1)=some (Iv mo):=(by rw[A3,World.cell?_alloc_old _ _ _ (Nat.ne_of_lt A2)];exact k1);replace k2:w0.cell? (Ad w.heap.size 2)=some (Iv d):=(by rw[A3,World.cell?_alloc_old _ _ _ (Nat.ne_of_lt A2)];exact k2);replace k3:w0.cell? (Ad w.heap.size 3)=some (Iv h):=(by rw[A3,World.cell?_alloc_old _ _ _ (Nat.ne_of_lt A2)];exact k3);replace k4:w0.cell? (Ad w.heap.size 4)=some (Iv mi):=(by rw[A3,World.cell?_alloc_old _ _ _ (Nat.ne_of_lt A2)];exact k4);replace k5:w0.cell? (Ad w.heap.size 5)=some (Iv sc):=(by rw[A3,World.cell?_alloc_old _ _ _ (Nat.ne_of_lt A2)];exact k5);replace k6:w0.cell? (Ad w.heap.size 6)=some (.bool zo):=(by rw[A3,World.cell?_alloc_old _ _ _ (Nat.ne_of_lt A2)];exact k6);replace k7:w0.cell? (Ad w.heap.size 7)=some (Iv zn):=(by rw[A3,World.cell?_alloc_old _ _ _ (Nat.ne_of_lt A2)];exact k7);rw[<-A3];have HC:=hid A4;have I1:L.length=5:=(by rw[A8];rfl);obtain ⟨G,hG⟩: ∃G,G=wc.heap.size:=⟨_,rfl⟩;rw[<-hG] at HC E2⊢;rw[<-A8] at HA;have I5:G<w0.heap.size:=(by omega);have HJ:w.heap.size<w0.heap.size:=(by omega);have HL:=hid A8;clear A3 A4 A8 hG E2 hb A2;go_loopw [3,5,31] (fun s3 _ i wr=> ∃k:Nat,i=Iv k/\k<=5/\s3= .string ⟨(A0++(L.take k).flatMap (Ho · 2)).toArray⟩/\Below w0.heap.size w0 wr) (fun _ _ i _=>5-(intOf i).toNat);case atStart=>exact ⟨0,rfl,by omega,by simp,zB⟩
  case round=>
   obtain ⟨k,rfl,hk,rfl,A5⟩:=hrel;obtain ⟨A,hA⟩: ∃A,A=A0++(L.take k).flatMap (Ho · 2):=⟨_,rfl⟩;have N1:A.length<=14:=(by rw[hA,List.length_append];have:=O1 (L.take k);rw[List.length_take] at this;omega);rw[<-hA];have HQ:=hid hA;clear hA;by_cases E3:k<5
   ·obtain ⟨n,hp,hd⟩: ∃n,L[k]? =some n/\(L.take (k+1)).flatMap (Ho · 2)=(L.take k).flatMap (Ho · 2)++Ho n 2:=⟨L[k],List.getElem?_eq_getElem (by omega),by rw[List.take_succ_eq_append_getElem (by omega),List.flatMap_append];simp⟩;have c0:=(A5.cell (p:=(Ad G k)) I5).trans (HC.out k n hp);have hr:=HR.out k n hp;have HN:=hid hd;clear hp hd;obtain ⟨x,hx⟩: ∃x,(n != -1)=x:=⟨_,rfl⟩;have HX:=hid (show Ho n 2=if x then BG n 2 else [] by rw[Oz,hx]);cases x with
    |true=>
     obtain ⟨N,rfl,lN,WF⟩:=Bw hr (by decide) (by decide) hx;have HS:=hid (show A0++(L.take (k+1)).flatMap (Ho · 2)=A++BG N 2 by rw[HN.out,HX.out,HQ.out,List.append_assoc];rfl);have gN:=AY (N:Int) 2;clear hr;go_wp2_with fail;refine (DX N 2 _ (by omega) (by omega) (by omega) (hL.below (A9.trans (A5.mono A9.size)))).mono ?_;rintro e w1 ⟨rfl,A1⟩;go_wp2
     go_roundw;case rel=>exact ⟨k+1,by go_num,by omega,Af (by rw[HS.out,<-AM]),A5.trans (A1.mono A5.size)⟩
     case measure=>simp[intOf];omega
    |false=>
     have HS:=hid (show A0++(L.take (k+1)).flatMap (Ho · 2)=A by rw[HN.out,HX.out,HQ.out];simp);clear hr;go_wp2
     go_roundw;case rel=>exact ⟨k+1,by go_num,by omega,Af (by rw[HS.out]),A5⟩
     case measure=>simp[intOf];omega
   ·have R0:k=5:=(by omega);have L2:=hid (show A=To y [mo,d,h,mi,sc] by rw[<-HL.out,HA.out,HQ.out,List.take_of_length_le (by omega)]);subst R0;clear HA HQ HR E3;obtain ⟨k0,k1,k2,k3,k4,k5,k6,k7⟩:=YE.below (s:=⟨_,_,_,_,_,_,_,_⟩) ⟨k0,k1,k2,k3,k4,k5,k6,k7⟩ A5 HJ;have hb:=A9.trans (A5.mono A9.size);have A2:w.heap.size<wr.heap.size:=Nat.lt_of_lt_of_le HJ A5.size;clear A9 A5 I5 HJ HC;have N2:n9 (Fp D T)<=A.length:=(by rw[L2.out];exact H9.out);have L4:=hid (show DI ⟨y,mo,d,h,mi,sc,zo,zn⟩=Jo (Fp D T) A++(if zo then CL zn else []) by rw[L2.out];exact HP.out);clear HP H9 L2 HL;have S1:=hL.below hb;obtain ⟨LB,G2⟩:=S1;obtain ⟨sb,so,sc_,hg,SS,B3⟩:=G2.sh;have G4:sb<wr.heap.size:=(by have:=G2.le;omega);have h4:4<wr.heap.size:=(by have:=G2.le;have:=G2.n10;omega);have sD:wr.cell? (Ad sb (so+D*3+1))=some (.string ⟨(KE D).toArray⟩):=B3 D M2 1 (by omega);have sT:wr.cell? (Ad sb (so+T*3+2))=some (.string ⟨(Ee T).toArray⟩):=B3 T MM 2 (by omega);clear B3 SS G2;have T5:(KE D).length<=20:=(by have:=L1;rw[AV.out,List.length_append] at this;omega);obtain ⟨DA,N3⟩: ∃A,A=KE D:=⟨_,rfl⟩;rw[<-N3] at AV sD T5;clear N3;have X1:(0:Int)<=D:=(by omega);have W6:(D:Int)<7:=(by omega);have W7:(T:Int)<7:=(by omega);go_wp2_with fail;go_region_held3 (fun w'=>w'.cell? (Ad w.heap.size 0)=some (Iv y)/\w'.cell? (Ad w.heap.size 1)=some (Iv mo)/\w'.cell? (Ad w.heap.size 2)=some (Iv d)/\w'.cell? (Ad w.heap.size 3)=some (Iv h)/\w'.cell? (Ad w.heap.size 4)=some (Iv mi)/\w'.cell? (Ad w.heap.size 5)=some (Iv sc)/\w'.cell? (Ad w.heap.size 6)=some (.bool zo)/\w'.cell? (Ad w.heap.size 7)=some (Iv zn)/\w'.cell? (Ad 4 0)=some (.slice (some (Ad sb so)) 7 sc_)/\w'.cell? (Ad sb (so+D*3+1))=some (Sv DA)/\w'.cell? (Ad sb (so+T*3+2))=some (.string ⟨(Ee T).toArray⟩)/\Below w.heap.size w w'/\Below wr.heap.size wr w') (first|(go_keep;done)|((try dsimp only);(try go_split_ands);(repeat' apply And.intro)<;>(first|(go_keep;done)|(refine (A1.cell ?_).trans ?_<;>first|assumption|(simp[go_sem];done)|(simp[go_sem, *];done)|(simp at hz⊢;omega)|(simp;omega))|((repeat (first|exact zB|assumption|refine Below.drew ?_|refine Below.alloc ?_ (by first|omega|(simp<;>omega)) _|refine Below.trans ?_ (Below.mono A1 (by first|omega|(simp<;>omega)))));done)))) (first|(go_at_call 158;(try go_split_ands);refine (DM y mo d _ _ ?_ ?_ ?_ ?_ (hL.below (show Below w.heap.size w _ from (by first|assumption|(repeat (first|exact zB|assumption|refine Below.drew ?_|refine Below.alloc ?_ (by first|omega|(simp<;>omega)) _)))))).mono ?_;(focus simp[go_sem]);(focus simp[go_sem]);(focus simp[go_sem]);(focus (first|omega|(simp<;>omega)));rintro e w1 ⟨rfl,A1⟩;(try rw[HD.out]);have hk:=fun (p:Addr) hp=>A1.cell (p:=p) hp;have hz:=A1.size;(try simp at hz)));go_split_ands;replace k3:w1.cell? (Ad w.heap.size 3)=some (Iv h):=(by assumption);replace k4:w1.cell? (Ad w.heap.size 4)=some (Iv mi):=(by assumption);replace k5:w1.cell? (Ad w.heap.size 5)=some (Iv sc):=(by assumption);replace k6:w1.cell? (Ad w.heap.size 6)=some (.bool zo):=(by assumption);replace k7:w1.cell? (Ad w.heap.size 7)=some (Iv zn):=(by assumption);replace hg:w1.cell? (Ad 4 0)=some (.slice (some (Ad sb so)) 7 sc_):=(by assumption);replace sT:w1.cell? (Ad sb (so+T*3+2))=some (.string ⟨(Ee T).toArray⟩):=(by assumption);replace hb:Below w.heap.size w w1:=(by assumption);have E0:Below wr.heap.size wr w1:=(by assumption);replace A2:=Nat.lt_of_lt_of_le A2 E0.size;replace G4:=Nat.lt_of_lt_of_le G4 E0.size;replace h4:=Nat.lt_of_lt_of_le h4 E0.size;clear hk hz E0;go_wp2_with fail;refine (DM h mi sc _ _ ?_ ?_ ?_ ?_ (hL.below (hb.alloc hb.size _))).mono ?_
    ·simp
    ·simp
    ·simp
    ·simp
    rintro e w2 ⟨rfl,F1⟩;rw[HT.out];have DT:Below w1.heap.size w1 w2:=zA.trans (F1.mono (by simp));replace k6:=(DT.cell (p:=(Ad w.heap.size 6)) A2).trans k6;replace k7:=(DT.cell (p:=(Ad w.heap.size 7)) A2).trans k7;replace hg:=(DT.cell (p:=(Ad 4 0)) h4).trans hg;replace sT:=(DT.cell (p:=(Ad sb (so+T*3+2))) G4).trans sT;replace hb:=hb.trans (DT.mono hb.size);replace A2:=Nat.lt_of_lt_of_le A2 DT.size;clear F1 DT G4 h4 k3 k4 k5;go_upto_if 63 with fail;go_cut [6] from 64 to 71 (fun s6 wz=>s6= .string ⟨(Fp D T).toArray⟩/\wz=w2);case first=>
     by_cases H0:0<T
     ·have TT:(0:Int)<T:=(by omega);have X2:(Ee T).length<=20:=(by have:=L1;rw[AV.out,if_pos H0] at this;simp at this;omega);have L5:=hid (show Fp D T=DA++([84]++Ee T) by rw[AV.out,if_pos H0];rfl);clear H0;go_wp2
      go_meet;exact ⟨Af (by rw[L5.out,<-AM,<-AM]),rfl⟩
     ·have TT:(T:Int)<=0:=(by omega);have L5:=hid (show Fp D T=DA by rw[AV.out,if_neg H0];simp);clear H0;go_wp2
      go_meet;exact ⟨Af (by rw[L5.out]),rfl⟩
    case rest=>
     obtain ⟨rfl,rfl⟩:=hcut;obtain ⟨F,hF⟩: ∃F,F=Fp D T:=⟨_,rfl⟩;rw[<-hF] at N2 L4 L1⊢;clear hF AV sT hg HD HT;obtain ⟨W1,cap,TX,W8,hB,H1,U1⟩:=BU F wc;have j6:=(H1.cell (p:=(Ad w.heap.size 6)) A2).trans k6;have j7:=(H1.cell (p:=(Ad w.heap.size 7)) A2).trans k7;have H2:=hb.trans (H1.mono hb.size);have I2:w.heap.size<W1.heap.size:=Nat.lt_of_lt_of_le A2 H1.size;have HB:=hid hB;clear H1 U1 hB;go_wp2
     go_loopw [3,8,10,75] (fun s3 s8 _ i wr=> ∃(k:Nat) (R O:Str),i=Iv k/\k<=F.length/\s3=Sv R/\s8=Sv O/\R.length<=14/\O.length<=k/\n9 (F.drop k)<=R.length/\Hid (O++Jo (F.drop k) R=Jo F A)/\Below W1.heap.size W1 wr) (fun _ _ _ i _=>F.length-(intOf i).toNat);case atStart=>exact ⟨0,A,[],rfl,by omega,rfl,rfl,N1,by simp,by simpa using N2,hid rfl,zB⟩
     case round=>
      clear TX;obtain ⟨k,R,O,rfl,hk,rfl,rfl,OV,X3,F2,HK,AW⟩:=hrel;by_cases E3:k<F.length
      ·have U2:=(HB.out.keep AW HB.out.lt).cell k E3;obtain ⟨c,P1,hd⟩: ∃c,F[k]=c/\F.drop k=c::F.drop (k+1):=⟨_,rfl,List.drop_eq_getElem_cons E3⟩;rw[P1] at U2;have HU:=hid hd;rw[hd] at F2;clear P1 hd;by_cases H3:c=57
       ·subst H3;have H4:1+n9 (F.drop (k+1))<=R.length:=(by simpa[n9] using F2);cases R with
        |nil=>simp at H4
        |cons x r=>
         have HN:=hid (show (O++[x])++Jo (F.drop (k+1)) r=Jo F A by rw[<-HK.out,HU.out];simp[Jo]);have H8:n9 (F.drop (k+1))<=r.length:=(by simp at H4;omega);have XB: ∀h,(⟨(x::r).toArray⟩:ByteArray)[0]'h=x:=fun _=>rfl;have hex:(⟨(x::r).toArray⟩:ByteArray).extract 1 (r.length+1)=⟨r.toArray⟩:=(by rw[ba_cut];simp);have Y1:r.length<=13:=(by simp at OV;omega);have V5:(((57:UInt8).toNat:Int)==57)=true:=rfl;clear F2 H4 HK HU;go_wp2_with fail
         go_quiet (fail)
         have L6:=below_drewN' AW nq;generalize wr.drewN nq=wq at L6⊢;have V6:=Fx x wq;go_wp2
         go_roundw;case rel=>exact ⟨k+1,r,O++[x],by go_num,by omega,rfl,Af (by rw[<-AM]),by omega,by simp;omega,H8,HN,L6.alloc L6.size _⟩
         case measure=>simp[intOf];omega
       ·have V5:((c.toNat:Int)==57)=false:=by
         have:c.toNat≠57:=fun e=>H3 (UInt8.toNat.inj e);simpa using (by omega: ¬(c.toNat:Int)=57)
        have HN:=hid (show (O++[c])++Jo (F.drop (k+1)) R=Jo F A by rw[<-HK.out,HU.out];simp[Jo,H3]);have H8:n9 (F.drop (k+1))<=R.length:=(by simpa[n9,H3] using F2);have V6:=Fx c wr;clear F2 HK HU H3;go_wp2
        go_roundw;case rel=>exact ⟨k+1,R,O++[c],by go_num,by omega,rfl,Af (by rw[<-AM]),OV,by simp;omega,H8,HN,AW.alloc AW.size _⟩
        case measure=>simp[intOf];omega
      ·have P2:k=F.length:=(by omega);have HO:=hid (show O=Jo F A by rw[<-HK.out,P2,List.drop_length];simp[Jo]);have W9:O.length<=20:=(by omega);replace j6:=(AW.cell (p:=(Ad w.heap.size 6)) I2).trans j6;replace j7:=(AW.cell (p:=(Ad w.heap.size 7)) I2).trans j7;have AB:=H2.trans (AW.mono H2.size);subst P2;clear HK E3 F2 AW H2 k6 k7;cases zo with
       |false=>
        go_wp2
        go_ret;exact ⟨CZ (by rw[L4.out,HO.out];simp),AB⟩
       |true=>
        go_wp2_with fail;refine (GO zn _ Q1.out (hL.below AB)).mono ?_;rintro e w9 ⟨rfl,VC⟩;have gZ:=Ep zn;go_wp2
        go_ret;exact ⟨congrArg Ending.returned (Af (by rw[L4.out,HO.out,<-AM];rfl)),AB.trans (VC.mono AB.size)⟩
def Xi (s:St) (w:World) (e:Ending) (w':World):Prop:=e= .returned (.tuple #[.string ⟨(DI s).toArray⟩,Iv 0])/\Below w.heap.size w w'
theorem Lb (s:St) (w:World) (hE:B5 s=0) (hL:LD w):Calls prog 161 #[YC s] w (Xi s w):=by
 have HE:=hid hE;have HR:=hid (fun w hL=>KD s w hL);have HT:=hid (fun w hL=>O2 s w hE hL);clear hE;obtain ⟨y,mo,d,h,mi,sc,zo,zn⟩:=s;have AL:Below w.heap.size w (w.alloc (.cells #[Iv y,Iv mo,Iv d,Iv h,Iv mi,Iv sc,.bool zo,Iv zn] 40)):=zA;show Calls prog 161 #[.agg #[Iv y,Iv mo,Iv d,Iv h,Iv mi,Iv sc,.bool zo,Iv zn]] w _;go_enter func161,ntmps161;go_wp2_with fail;refine (HR.out _ (hL.below AL)).mono ?_;rintro e w1 ⟨rfl,A1⟩;rw[HE.out];have k0:w1.cell? (Ad w.heap.size 0)=some (Iv y):=(by rw[A1.cell (p:=(Ad w.heap.size 0)) (by simp)];simp);have k1:w1.cell? (Ad w.heap.size 1)=some (Iv mo):=(by rw[A1.cell (p:=(Ad w.heap.size 1)) (by simp)];simp);have k2:w1.cell? (Ad w.heap.size 2)=some (Iv d):=(by rw[A1.cell (p:=(Ad w.heap.size 2)) (by simp)];simp);have k3:w1.cell? (Ad w.heap.size 3)=some (Iv h):=(by rw[A1.cell (p:=(Ad w.heap.size 3)) (by simp)];simp);have k4:w1.cell? (Ad w.heap.size 4)=some (Iv mi):=(by rw[A1.cell (p:=(Ad w.heap.size 4)) (by simp)];simp);have k5:w1.cell? (Ad w.heap.size 5)=some (Iv sc):=(by rw[A1.cell (p:=(Ad w.heap.size 5)) (by simp)];simp);have k6:w1.cell? (Ad w.heap.size 6)=some (.bool zo):=(by rw[A1.cell (p:=(Ad w.heap.size 6)) (by simp)];simp);have k7:w1.cell? (Ad w.heap.size 7)=some (Iv zn):=(by rw[A1.cell (p:=(Ad w.heap.size 7)) (by simp)];simp);have hb:Below w.heap.size w w1:=AL.trans (A1.mono AL.size);clear A1 AL;go_wp2_with fail;refine (HT.out _ (hL.below hb)).mono ?_;rintro e w2 ⟨rfl,F1⟩;go_wp2
 go_ret2;exact ⟨rfl,hb.trans (F1.mono hb.size)⟩
section
open Go.ChangeShapes Go.WideShapes Go.Deep
section
variable {H:Type} {enc:TypeId×Value->H} {w:World}
abbrev Tr (enc:TypeId×Value->H) (w:World) (fuel:Nat) (t:TypeId) (cs:List Value) (d:DataW H):Prop:= ∃ps,DataW.trod enc prog w 0 (fun _=>true) true fuel t cs=some (d,ps)
theorem JB (D:Nat->DataW H): ∀n,Rows.uptoBulkAll ((List.range n).map D)=((List.range n).map fun i=>Rows.uptoBulk (D i)).sum:=by
 intro n;generalize List.range n=l
 induction l with
 |nil=>simp[Rows.uptoBulkAll]
 |cons a l ih=>simp[Rows.uptoBulkAll,ih]
theorem JC {t e C fuel:Nat} {cs:List Value} {d:DataW H} (ht:prog.underlying t=some (.slice e)) (hC:prog.cellsOf e=C) (hp:0<C) (h:Tr enc w fuel t cs d):
 ∃(v:Value) (n:Nat) (f:Nat->List Value) (D:Nat->DataW H) (fu:Nat),cs=[v]/\Sl w w.heap.size C v n (fun i j=>(f i).getD j undef)/\(∀i,i<n->(f i).length=C/\Tr enc w fu e (f i) (D i))/\((List.range n).map fun i=>Rows.uptoBulk (D i)).sum+1<=Rows.uptoBulk d:=by
 obtain ⟨ps,h⟩:=h;rcases open_slice ht h with ⟨rfl,hx⟩|⟨a,len,cap,m,fu,D,Pl,rfl,hb,hl,hm,VX,hx,hi⟩
 ·obtain rfl:=congrArg Prod.fst hx;exact ⟨_,0,fun _=>[],fun _=> .nil,0,rfl,Sl.nil,fun i hi=>absurd hi (Nat.not_lt_zero _),by simp[Rows.uptoBulk]⟩
 ·obtain rfl:=congrArg Prod.fst hx;have Y2:len<=m:=(by rw[VX];split<;>omega);obtain ⟨f,hf⟩:=choose_lt (α:=List Value) (p:=fun i cs'=>w.cells? 0 (a.add (i*C)) C=some cs'/\DataW.trod enc prog w 0 (fun _=>true) true fu e cs'=some (D i,Pl i)) (fun i W0=>by
   obtain ⟨cs',h1,h2⟩:=hi i W0;rw[hC] at h1;exact ⟨cs',h1,h2⟩)
  have A4: ∀i,i<len-> ∀j,j<C->w.cell? (a.add (i*C+j))=some ((f i).getD j undef)/\(f i).length=C:=fun i I0 j hj=>(by obtain ⟨_,h2,h3⟩:=World.cells?_some (hf i (by omega)).1;have h4:=h3 j hj;rw[add_add] at h4;refine ⟨h4.trans ?_,h2⟩;simp[List.getD,List.getElem?_eq_getElem (show j<(f i).length by omega)]);refine ⟨_,len,f,D,fu,rfl,⟨_,cap,rfl,hl,fun hn=> ?_⟩,fun i I0=>⟨?_,Pl i,(hf i (by omega)).2⟩, ?_⟩
  ·obtain ⟨b,o,sp⟩:=a;have h0:=(A4 0 hn 0 hp).1;rw[Nat.zero_mul,Nat.zero_add,show (Addr.mk b o sp).add 0=⟨b,o,sp⟩ from by simp[Addr.add]] at h0;have W2:sp=none/\b<w.heap.size:=by
    unfold World.cell? at h0;split at h0
    ·rename_i F1;have L7:=(Array.getElem?_eq_some_iff.1 F1).1;cases sp with
     |none=>exact ⟨rfl,L7⟩
     |some q=>simp at h0
    ·cases h0
   obtain ⟨rfl,L7⟩:=W2;refine ⟨b,o,rfl,L7,fun i I0 j hj=> ?_⟩;have h1:=(A4 i I0 j hj).1;rw[Addr.add_lit,<-Nat.add_assoc] at h1;exact h1
  ·exact (A4 i I0 0 hp).2
  ·have:=JB D len;simp only[Rows.uptoBulk];omega
theorem JD (f g:Nat->Nat): ∀n,(∀i,i<n->f i<=g i)->((List.range n).map f).sum<=((List.range n).map g).sum:=by
 intro n
 induction n with
 |zero=>simp
 |succ n ih=>
  intro h;have h1:=ih fun i hi=>h i (by omega);have h2:=h n (by omega);simp only[List.range_succ,List.map_append,List.sum_append,List.map_cons,List.map_nil,List.sum_cons,List.sum_nil];omega
theorem SG: ∀{l:List Nat} {a:Nat},a∈l->a<=l.sum
 |b::l,a,h=>by
  rw[List.sum_cons];rcases List.mem_cons.1 h with rfl|h
  ·omega
  ·have:=SG h;omega
theorem Ch {α:Type} (g:Nat->α) (z:α) {n i:Nat} (h:i<n):((List.range n).map g).getD i z=g i:=by simp[List.getD,List.getElem?_map,List.getElem?_range h]
theorem Oe (s:ByteArray):(⟨s.data.toList.toArray⟩:ByteArray)=s:=by cases s;simp
theorem J5 {fuel:Nat} {cs:List Value} {d:DataW H} (h:Tr enc w fuel 9 cs d): ∃s:Str,cs=[Sv s]/\s.length+1=Rows.uptoBulk d:=by obtain ⟨ps,h⟩:=h;obtain ⟨s,rfl,hx,_⟩:=DataW.trod_string underlying9 h;obtain rfl:=congrArg Prod.fst hx;exact ⟨s.data.toList,congrArg (fun b=>[Value.string b]) (Oe _).symm,by simp[Rows.uptoBulk]⟩
theorem ES {fuel:Nat} {cs:List Value} {d:DataW H} (h:Tr enc w fuel 3 cs d): ∃n:Int,cs=[Iv n]:=by obtain ⟨ps,h⟩:=h;obtain ⟨n,rfl,_⟩:=DataW.trod_int underlying3 h;exact ⟨n,rfl⟩
theorem Sk {fuel:Nat} {cs:List Value} {d:DataW H} (h:Tr enc w fuel 4 cs d): ∃b:Bool,cs=[.bool b]:=by obtain ⟨ps,h⟩:=h;obtain ⟨n,rfl,_⟩:=DataW.trod_bool underlying4 h;exact ⟨n,rfl⟩
theorem Of {fuel:Nat} {cs:List Value} {d:DataW H} (h:Tr enc w fuel 55 cs d): ∃(v:Value) (L:List Str),cs=[v]/\CD w w.heap.size v L/\sL L+L.length+1<=Rows.uptoBulk d:=by
 obtain ⟨v,n,f,D,fu,rfl,hs,hr,hb⟩:=JC underlying55 (C:=1) (by kernel_rfl) (by omega) h;obtain ⟨g,hg⟩:=choose_lt (α:=Str) (p:=fun i s=>f i=[Sv s]/\s.length+1=Rows.uptoBulk (D i)) (fun i hi=>J5 (hr i hi).2);refine ⟨v,(List.range n).map g,rfl, ?_, ?_⟩
 ·unfold CD;rw[List.length_map,List.length_range];refine hs.congr fun i hi j hj=> ?_;obtain rfl:j=0:=(by omega);rw[(hg i hi).1,Ch g [] hi];rfl
 ·have h1:=JD (fun i=>(g i).length+1) (fun i=>Rows.uptoBulk (D i)) n fun i hi=>Nat.le_of_eq (hg i hi).2;have h2:sL ((List.range n).map g)+((List.range n).map g).length=((List.range n).map fun i=>(g i).length+1).sum:=by
   unfold sL;generalize List.range n=l
   induction l with
   |nil=>rfl
   |cons a l ih=>simp only[List.map_cons,List.sum_cons,List.length_cons] at ih⊢;omega
  omega
theorem UM {fuel:Nat} {cs:List Value} {d:DataW H} (h:Tr enc w fuel 38 cs d): ∃(v:Value) (L:List (List Str)),cs=[v]/\Xw w w.heap.size v L/\YM L+L.length+1<=Rows.uptoBulk d:=by
 obtain ⟨v,n,f,D,fu,rfl,hs,hr,hb⟩:=JC underlying38 (C:=1) (by kernel_rfl) (by omega) h;obtain ⟨g,hg⟩:=choose_lt (α:=Value×List Str) (p:=fun i x=>f i=[x.1]/\CD w w.heap.size x.1 x.2/\sL x.2+x.2.length+1<=Rows.uptoBulk (D i)) (fun i hi=>by obtain ⟨u,L,h1,h2,h3⟩:=Of (hr i hi).2;exact ⟨(u,L),h1,h2,h3⟩);refine ⟨v,(List.range n).map fun i=>(g i).2,rfl,⟨fun i=>(g i).1, ?_,fun i hi=> ?_⟩, ?_⟩
 ·rw[List.length_map,List.length_range];refine hs.congr fun i hi j hj=> ?_;obtain rfl:j=0:=(by omega);rw[(hg i hi).1];rfl
 ·rw[List.length_map,List.length_range] at hi;rw[Ch (fun i=>(g i).2) [] hi];exact (hg i hi).2.1
 ·have h1:=JD (fun i=>sL (g i).2+(g i).2.length+1) (fun i=>Rows.uptoBulk (D i)) n fun i hi=>(hg i hi).2.2;have h2:YM ((List.range n).map fun i=>(g i).2)+((List.range n).map fun i=>(g i).2).length=((List.range n).map fun i=>sL (g i).2+(g i).2.length+1).sum:=by
   unfold YM;generalize List.range n=l
   induction l with
   |nil=>rfl
   |cons a l ih=>simp only[List.map_cons,List.sum_cons,List.length_cons] at ih⊢;omega
  omega
theorem Fz {α:Type} {l:List α} (h:l.length=2): ∃a b,l=[a,b]:=by
 match l,h with
 |[a,b],_=>exact ⟨a,b,rfl⟩
theorem Vq {fuel:Nat} {cs:List Value} {d:DataW H} (h:Tr enc w fuel 57 cs d): ∃(p:Pm) (u:Value),cs=[Sv p.name,u]/\CD w w.heap.size u p.vals/\p.name.length+p.vals.length+sL p.vals+1<=Rows.uptoBulk d:=by obtain ⟨ps,h⟩:=h;obtain ⟨xs,n,_,hx,hl,AN,hf⟩:=DataW.trod_struct underlying57 h;obtain rfl:=congrArg Prod.fst hx;obtain ⟨a,b,rfl⟩:=Fz (hl.trans (show prog.cellsOf 57=2 by kernel_rfl));obtain ⟨x0,x1,rfl⟩:=Fz AN;have e9:prog.cellsOf 9=1:=(by kernel_rfl);have W3:prog.cellsOf 55=1:=(by kernel_rfl);have f0:DataW.trod enc prog w 0 (fun _=>true) true n 9 (([a,b].drop 0).take (prog.cellsOf 9))=some x0:=hf 0 _ rfl;have f1:DataW.trod enc prog w 0 (fun _=>true) true n 55 (([a,b].drop 1).take (prog.cellsOf 55))=some x1:=hf 1 _ rfl;rw[e9] at f0;rw[W3] at f1;obtain ⟨s,hs,G4⟩:=J5 (d:=x0.1) ⟨x0.2,f0⟩;obtain ⟨v,L,hv,W4,hb⟩:=Of (d:=x1.1) ⟨x1.2,f1⟩;have ha:a=Sv s:=(by simpa using hs);have W5:b=v:=(by simpa using hv);subst ha W5;refine ⟨⟨s,L⟩,b,rfl,W4, ?_⟩;simp only[Rows.uptoBulk,Rows.uptoBulkAll,List.map_cons,List.map_nil];omega
theorem UN {fuel:Nat} {cs:List Value} {d:DataW H} (h:Tr enc w fuel 37 cs d): ∃(v:Value) (L:List Pm),cs=[v]/\Xv w w.heap.size v L/\sP L+L.length+1<=Rows.uptoBulk d:=by
 obtain ⟨v,n,f,D,fu,rfl,hs,hr,hb⟩:=JC underlying37 (C:=2) (by kernel_rfl) (by omega) h;obtain ⟨g,hg⟩:=choose_lt (α:=Pm×Value) (p:=fun i x=>f i=[Sv x.1.name,x.2]/\CD w w.heap.size x.2 x.1.vals/\x.1.name.length+x.1.vals.length+sL x.1.vals+1<=Rows.uptoBulk (D i)) (fun i hi=>by obtain ⟨p,u,h1,h2,h3⟩:=Vq (hr i hi).2;exact ⟨(p,u),h1,h2,h3⟩);refine ⟨v,(List.range n).map fun i=>(g i).1,rfl,⟨fun i=>(g i).2, ?_,fun i hi=> ?_⟩, ?_⟩
 ·rw[List.length_map,List.length_range];refine hs.congr fun i hi j hj=> ?_;rw[(hg i hi).1,Ch (fun i=>(g i).1) default hi];rcases (show j=0∨j=1 by omega) with rfl|rfl<;>rfl
 ·rw[List.length_map,List.length_range] at hi;rw[Ch (fun i=>(g i).1) default hi];exact (hg i hi).2.1
 ·have h1:=JD (fun i=>(g i).1.name.length+(g i).1.vals.length+sL (g i).1.vals+1) (fun i=>Rows.uptoBulk (D i)) n fun i hi=>(hg i hi).2.2;have h2:sP ((List.range n).map fun i=>(g i).1)+((List.range n).map fun i=>(g i).1).length=((List.range n).map fun i=>(g i).1.name.length+(g i).1.vals.length+sL (g i).1.vals+1).sum:=by
   unfold sP;generalize List.range n=l
   induction l with
   |nil=>rfl
   |cons a l ih=>simp only[List.map_cons,List.sum_cons,List.length_cons] at ih⊢;omega
  omega
theorem Vr {α:Type} {l:List α} (h:l.length=4): ∃a0 a1 a2 a3,l=[a0,a1,a2,a3]:=by
 match l,h with
 |[a0,a1,a2,a3],_=>exact ⟨a0,a1,a2,a3,rfl⟩
theorem Vs {α:Type} {l:List α} (h:l.length=5): ∃a0 a1 a2 a3 a4,l=[a0,a1,a2,a3,a4]:=by
 match l,h with
 |[a0,a1,a2,a3,a4],_=>exact ⟨a0,a1,a2,a3,a4,rfl⟩
theorem UO {α:Type} {l:List α} (h:l.length=8): ∃a0 a1 a2 a3 a4 a5 a6 a7,l=[a0,a1,a2,a3,a4,a5,a6,a7]:=by
 match l,h with
 |[a0,a1,a2,a3,a4,a5,a6,a7],_=>exact ⟨a0,a1,a2,a3,a4,a5,a6,a7,rfl⟩
theorem UP {α:Type} {l:List α} (h:l.length=12): ∃a0 a1 a2 a3 a4 a5 a6 a7 a8 a9 A6 A7,l=[a0,a1,a2,a3,a4,a5,a6,a7,a8,a9,A6,A7]:=by
 match l,h with
 |[a0,a1,a2,a3,a4,a5,a6,a7,a8,a9,A6,A7],_=>exact ⟨a0,a1,a2,a3,a4,a5,a6,a7,a8,a9,A6,A7,rfl⟩
theorem UQ {α:Type} {l:List α} (h:l.length=15): ∃a0 a1 a2 a3 a4 a5 a6 a7 a8 a9 A6 A7 B0 B1 B2,l=[a0,a1,a2,a3,a4,a5,a6,a7,a8,a9,A6,A7,B0,B1,B2]:=by
 match l,h with
 |[a0,a1,a2,a3,a4,a5,a6,a7,a8,a9,A6,A7,B0,B1,B2],_=>exact ⟨a0,a1,a2,a3,a4,a5,a6,a7,a8,a9,A6,A7,B0,B1,B2,rfl⟩
theorem Vt {fuel:Nat} {cs:List Value} {d:DataW H} (h:Tr enc w fuel 40 cs d): ∃s:St,cs=[Iv s.y,Iv s.mo,Iv s.d,Iv s.h,Iv s.mi,Iv s.s,.bool s.zoned,Iv s.zone]:=by obtain ⟨ps,h⟩:=h;obtain ⟨xs,n,_,hx,hl,AN,hf⟩:=DataW.trod_struct underlying40 h;obtain ⟨a0,a1,a2,a3,a4,a5,a6,a7,rfl⟩:=UO (hl.trans (show prog.cellsOf 40=8 by kernel_rfl));obtain ⟨x0,x1,x2,x3,x4,x5,x6,x7,rfl⟩:=UO AN;have f0:DataW.trod enc prog w 0 (fun _=>true) true n 3 (([a0,a1,a2,a3,a4,a5,a6,a7].drop 0).take (prog.cellsOf 3))=some x0:=hf 0 _ rfl;rw[show prog.cellsOf 3=1 by kernel_rfl] at f0;obtain ⟨n0,e0⟩:=ES (d:=x0.1) ⟨x0.2,f0⟩;have g0:a0=Iv n0:=(by simpa using e0);have f1:DataW.trod enc prog w 0 (fun _=>true) true n 3 (([a0,a1,a2,a3,a4,a5,a6,a7].drop 1).take (prog.cellsOf 3))=some x1:=hf 1 _ rfl;rw[show prog.cellsOf 3=1 by kernel_rfl] at f1;obtain ⟨n1,e1⟩:=ES (d:=x1.1) ⟨x1.2,f1⟩;have g1:a1=Iv n1:=(by simpa using e1);have f2:DataW.trod enc prog w 0 (fun _=>true) true n 3 (([a0,a1,a2,a3,a4,a5,a6,a7].drop 2).take (prog.cellsOf 3))=some x2:=hf 2 _ rfl;rw[show prog.cellsOf 3=1 by kernel_rfl] at f2;obtain ⟨n2,e2⟩:=ES (d:=x2.1) ⟨x2.2,f2⟩;have g2:a2=Iv n2:=(by simpa using e2);have f3:DataW.trod enc prog w 0 (fun _=>true) true n 3 (([a0,a1,a2,a3,a4,a5,a6,a7].drop 3).take (prog.cellsOf 3))=some x3:=hf 3 _ rfl;rw[show prog.cellsOf 3=1 by kernel_rfl] at f3;obtain ⟨n3,e3⟩:=ES (d:=x3.1) ⟨x3.2,f3⟩;have g3:a3=Iv n3:=(by simpa using e3);have f4:DataW.trod enc prog w 0 (fun _=>true) true n 3 (([a0,a1,a2,a3,a4,a5,a6,a7].drop 4).take (prog.cellsOf 3))=some x4:=hf 4 _ rfl;rw[show prog.cellsOf 3=1 by kernel_rfl] at f4;obtain ⟨n4,e4⟩:=ES (d:=x4.1) ⟨x4.2,f4⟩;have g4:a4=Iv n4:=(by simpa using e4);have f5:DataW.trod enc prog w 0 (fun _=>true) true n 3 (([a0,a1,a2,a3,a4,a5,a6,a7].drop 5).take (prog.cellsOf 3))=some x5:=hf 5 _ rfl;rw[show prog.cellsOf 3=1 by kernel_rfl] at f5;obtain ⟨n5,e5⟩:=ES (d:=x5.1) ⟨x5.2,f5⟩;have g5:a5=Iv n5:=(by simpa using e5);have f6:DataW.trod enc prog w 0 (fun _=>true) true n 4 (([a0,a1,a2,a3,a4,a5,a6,a7].drop 6).take (prog.cellsOf 4))=some x6:=hf 6 _ rfl;rw[show prog.cellsOf 4=1 by kernel_rfl] at f6;obtain ⟨n6,e6⟩:=Sk (d:=x6.1) ⟨x6.2,f6⟩;have g6:a6= .bool n6:=(by simpa using e6);have f7:DataW.trod enc prog w 0 (fun _=>true) true n 3 (([a0,a1,a2,a3,a4,a5,a6,a7].drop 7).take (prog.cellsOf 3))=some x7:=hf 7 _ rfl;rw[show prog.cellsOf 3=1 by kernel_rfl] at f7;obtain ⟨n7,e7⟩:=ES (d:=x7.1) ⟨x7.2,f7⟩;have g7:a7=Iv n7:=(by simpa using e7);subst g0 g1 g2 g3 g4 g5 g6 g7;exact ⟨⟨n0,n1,n2,n3,n4,n5,n6,n7⟩,rfl⟩
theorem Vu {fuel:Nat} {cs:List Value} {d:DataW H} (h:Tr enc w fuel 42 cs d): ∃(v:Vl) (q:Value),cs=[Iv v.type,Sv v.text,q,Iv v.st.y,Iv v.st.mo,Iv v.st.d,Iv v.st.h,Iv v.st.mi,Iv v.st.s,.bool v.st.zoned,Iv v.st.zone,Iv v.n]/\Xw w w.heap.size q v.parts/\v.text.length+v.parts.length+YM v.parts<=Rows.uptoBulk d:=by obtain ⟨ps,h⟩:=h;obtain ⟨xs,n,_,hx,hl,AN,hf⟩:=DataW.trod_struct underlying42 h;obtain rfl:=congrArg Prod.fst hx;obtain ⟨a0,a1,a2,a3,a4,a5,a6,a7,a8,a9,A6,A7,rfl⟩:=UP (hl.trans (show prog.cellsOf 42=12 by kernel_rfl));obtain ⟨x0,x1,x2,x3,x4,rfl⟩:=Vs AN;have f0:DataW.trod enc prog w 0 (fun _=>true) true n 3 (([a0,a1,a2,a3,a4,a5,a6,a7,a8,a9,A6,A7].drop 0).take (prog.cellsOf 3))=some x0:=hf 0 _ rfl;rw[show prog.cellsOf 3=1 by kernel_rfl] at f0;have f1:DataW.trod enc prog w 0 (fun _=>true) true n 9 (([a0,a1,a2,a3,a4,a5,a6,a7,a8,a9,A6,A7].drop 1).take (prog.cellsOf 9))=some x1:=hf 1 _ rfl;rw[show prog.cellsOf 9=1 by kernel_rfl] at f1;have f2:DataW.trod enc prog w 0 (fun _=>true) true n 38 (([a0,a1,a2,a3,a4,a5,a6,a7,a8,a9,A6,A7].drop 2).take (prog.cellsOf 38))=some x2:=hf 2 _ rfl;rw[show prog.cellsOf 38=1 by kernel_rfl] at f2;have f3:DataW.trod enc prog w 0 (fun _=>true) true n 40 (([a0,a1,a2,a3,a4,a5,a6,a7,a8,a9,A6,A7].drop 3).take (prog.cellsOf 40))=some x3:=hf 3 _ rfl;rw[show prog.cellsOf 40=8 by kernel_rfl] at f3;have f4:DataW.trod enc prog w 0 (fun _=>true) true n 3 (([a0,a1,a2,a3,a4,a5,a6,a7,a8,a9,A6,A7].drop 11).take (prog.cellsOf 3))=some x4:=hf 4 _ rfl;rw[show prog.cellsOf 3=1 by kernel_rfl] at f4;obtain ⟨n0,e0⟩:=ES (d:=x0.1) ⟨x0.2,f0⟩;obtain ⟨s1,e1,b1⟩:=J5 (d:=x1.1) ⟨x1.2,f1⟩;obtain ⟨q,L,e2,hL,b2⟩:=UM (d:=x2.1) ⟨x2.2,f2⟩;obtain ⟨s,e3⟩:=Vt (d:=x3.1) ⟨x3.2,f3⟩;obtain ⟨n4,e4⟩:=ES (d:=x4.1) ⟨x4.2,f4⟩;simp only[List.drop_succ_cons,List.drop_zero,List.take_succ_cons,List.take_zero,List.cons.injEq,and_true] at e0 e1 e2 e3 e4;obtain ⟨rfl,rfl,rfl,rfl,rfl,rfl,rfl,rfl⟩:=e3;subst e0 e1 e2 e4;refine ⟨⟨n0,s1,L,s,n4⟩,a2,rfl,hL, ?_⟩;simp only[Rows.uptoBulk,Rows.uptoBulkAll,List.map_cons,List.map_nil];omega
theorem Vv {fuel:Nat} {cs:List Value} {d:DataW H} (h:Tr enc w fuel 44 cs d): ∃(x:It) (p q:Value),cs=Xx x p q/\Xv w w.heap.size p x.ps/\Xw w w.heap.size q x.val.parts/\x.ps.length+x.group.length+x.name.length+sP x.ps<=Rows.uptoBulk d/\x.val.text.length+x.val.parts.length+YM x.val.parts<=Rows.uptoBulk d:=by
 obtain ⟨ps,h⟩:=h;obtain ⟨xs,n,_,hx,hl,AN,hf⟩:=DataW.trod_struct underlying44 h;obtain rfl:=congrArg Prod.fst hx;obtain ⟨a0,a1,a2,a3,a4,a5,a6,a7,a8,a9,A6,A7,B0,B1,B2,rfl⟩:=UQ (hl.trans (show prog.cellsOf 44=15 by kernel_rfl));obtain ⟨x0,x1,x2,x3,rfl⟩:=Vr AN;have f0:DataW.trod enc prog w 0 (fun _=>true) true n 9 (([a0,a1,a2,a3,a4,a5,a6,a7,a8,a9,A6,A7,B0,B1,B2].drop 0).take (prog.cellsOf 9))=some x0:=hf 0 _ rfl;rw[show prog.cellsOf 9=1 by kernel_rfl] at f0;have f1:DataW.trod enc prog w 0 (fun _=>true) true n 9 (([a0,a1,a2,a3,a4,a5,a6,a7,a8,a9,A6,A7,B0,B1,B2].drop 1).take (prog.cellsOf 9))=some x1:=hf 1 _ rfl;rw[show prog.cellsOf 9=1 by kernel_rfl] at f1;have f2:DataW.trod enc prog w 0 (fun _=>true) true n 37 (([a0,a1,a2,a3,a4,a5,a6,a7,a8,a9,A6,A7,B0,B1,B2].drop 2).take (prog.cellsOf 37))=some x2:=hf 2 _ rfl;rw[show prog.cellsOf 37=1 by kernel_rfl] at f2;have f3:DataW.trod enc prog w 0 (fun _=>true) true n 42 (([a0,a1,a2,a3,a4,a5,a6,a7,a8,a9,A6,A7,B0,B1,B2].drop 3).take (prog.cellsOf 42))=some x3:=hf 3 _ rfl;rw[show prog.cellsOf 42=12 by kernel_rfl] at f3;obtain ⟨s0,e0,b0⟩:=J5 (d:=x0.1) ⟨x0.2,f0⟩;obtain ⟨s1,e1,b1⟩:=J5 (d:=x1.1) ⟨x1.2,f1⟩;obtain ⟨p,L,e2,hL,b2⟩:=UN (d:=x2.1) ⟨x2.2,f2⟩;obtain ⟨v,q,e3,hQ,b3⟩:=Vu (d:=x3.1) ⟨x3.2,f3⟩;simp only[List.drop_succ_cons,List.drop_zero,List.take_succ_cons,List.take_zero,List.cons.injEq,and_true] at e0 e1 e2 e3;obtain ⟨rfl,rfl,rfl,rfl,rfl,rfl,rfl,rfl,rfl,rfl,rfl,rfl⟩:=e3;subst e0 e1 e2;refine ⟨⟨s0,s1,L,v⟩,a2,a5,rfl,hL,hQ, ?_, ?_⟩
 ·simp only[Rows.uptoBulk,Rows.uptoBulkAll,List.map_cons,List.map_nil];omega
 ·simp only[Rows.uptoBulk,Rows.uptoBulkAll,List.map_cons,List.map_nil];omega
theorem UR {fuel:Nat} {cs:List Value} {d:DataW H} (h:Tr enc w fuel 22 cs d): ∃(v:Value) (L:List It),cs=[v]/\Its w w.heap.size v L/\ ∀x∈L,x.ps.length+x.group.length+x.name.length+sP x.ps<=Rows.uptoBulk d/\x.val.text.length+x.val.parts.length+YM x.val.parts<=Rows.uptoBulk d:=by
 obtain ⟨v,n,f,D,fu,rfl,hs,hr,hb⟩:=JC underlying22 (C:=15) (by kernel_rfl) (by omega) h;obtain ⟨g,hg⟩:=choose_lt (α:=It×Value×Value) (p:=fun i x=>f i=Xx x.1 x.2.1 x.2.2/\Xv w w.heap.size x.2.1 x.1.ps/\Xw w w.heap.size x.2.2 x.1.val.parts/\x.1.ps.length+x.1.group.length+x.1.name.length+sP x.1.ps<=Rows.uptoBulk (D i)/\x.1.val.text.length+x.1.val.parts.length+YM x.1.val.parts<=Rows.uptoBulk (D i)) (fun i hi=>by obtain ⟨x,p,q,h1,h2,h3,h4,h5⟩:=Vv (hr i hi).2;exact ⟨(x,p,q),h1,h2,h3,h4,h5⟩);refine ⟨v,(List.range n).map fun i=>(g i).1,rfl,⟨fun i=>(g i).2.1,fun i=>(g i).2.2, ?_,fun i hi=> ?_⟩,fun x hx=> ?_⟩
 ·rw[List.length_map,List.length_range];refine hs.congr fun i hi j hj=> ?_;rw[(hg i hi).1,Ch (fun i=>(g i).1) default hi]
 ·rw[List.length_map,List.length_range] at hi;rw[Ch (fun i=>(g i).1) default hi];exact ⟨(hg i hi).2.1,(hg i hi).2.2.1⟩
 ·obtain ⟨i,hi,rfl⟩:=List.mem_map.1 hx;have hi:=List.mem_range.1 hi;have h1:Rows.uptoBulk (D i)<=((List.range n).map fun i=>Rows.uptoBulk (D i)).sum:=SG (List.mem_map.2 ⟨i,List.mem_range.2 hi,rfl⟩);obtain ⟨_,_,_,h4,h5⟩:=hg i hi;exact ⟨by omega,by omega⟩
theorem Vw {fuel:Nat} {cs:List Value} {d:DataW H} (h:Tr enc w fuel 24 cs d): ∃(ver:Int) (A:Option Addr) (k:Nat) (L:List It),cs=[Iv ver,.slice A L.length k]/\Its w w.heap.size (.slice A L.length k) L/\ ∀x∈L,x.ps.length+x.group.length+x.name.length+sP x.ps<=Rows.uptoBulk d/\x.val.text.length+x.val.parts.length+YM x.val.parts<=Rows.uptoBulk d:=by obtain ⟨ps,h⟩:=h;obtain ⟨xs,n,_,hx,hl,AN,hf⟩:=DataW.trod_struct underlying24 h;obtain rfl:=congrArg Prod.fst hx;obtain ⟨a0,a1,rfl⟩:=Fz (hl.trans (show prog.cellsOf 24=2 by kernel_rfl));obtain ⟨x0,x1,rfl⟩:=Fz AN;have f0:DataW.trod enc prog w 0 (fun _=>true) true n 3 (([a0,a1].drop 0).take (prog.cellsOf 3))=some x0:=hf 0 _ rfl;rw[show prog.cellsOf 3=1 by kernel_rfl] at f0;have f1:DataW.trod enc prog w 0 (fun _=>true) true n 22 (([a0,a1].drop 1).take (prog.cellsOf 22))=some x1:=hf 1 _ rfl;rw[show prog.cellsOf 22=1 by kernel_rfl] at f1;obtain ⟨n0,e0⟩:=ES (d:=x0.1) ⟨x0.2,f0⟩;obtain ⟨v,L,e1,hL,hB⟩:=UR (d:=x1.1) ⟨x1.2,f1⟩;obtain ⟨A,k,rfl⟩:=hL.form;have g0:a0=Iv n0:=(by simpa using e0);have g1:a1= .slice A L.length k:=(by simpa using e1);subst g0 g1;refine ⟨n0,A,k,L,rfl,hL,fun x hx=> ?_⟩;have h1:=hB x hx;simp only[Rows.uptoBulk,Rows.uptoBulkAll,List.map_cons,List.map_nil];exact ⟨by omega,by omega⟩
end
end
end Go.Proofs.YtjhpdljphchfaaaGreatDoor
