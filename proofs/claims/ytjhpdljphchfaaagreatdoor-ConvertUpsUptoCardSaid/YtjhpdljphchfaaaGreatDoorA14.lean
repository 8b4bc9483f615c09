/- A part of the proof of ConvertUps: when.Right of the program walked. -/
import Derived.Test.YtjhpdljphchfaaaGreatDoorA11
import Derived.Test.YtjhpdljphchfaaaGreatDoorA10
import Derived.RegionTactic
import Derived.BigRegion
import Derived.Deep.CutRange
import Derived.Deep.DeepCutAuto
import Derived.MapKept
import Derived.Deep.RegionHeld3
import Derived.Laws.StructEq
import Derived.Test.YtjhpdljphchfaaaGreatDoorA01
import Derived.Test.YtjhpdljphchfaaaGreatDoorA07
set_option maxHeartbeats 40000000
set_option maxRecDepth 1000000
set_option linter.all false
namespace Go.Proofs.YtjhpdljphchfaaaGreatDoor
open Go.RowKit
open Go.Proofs.Tryz
def YC (s:St):Value:= .agg #[Iv s.y,Iv s.mo,Iv s.d,Iv s.h,Iv s.mi,Iv s.s,.bool s.zoned,Iv s.zone]
def J2 (e:Int):Value:=if e=0 then .nilIface else .iface 26 (Iv e)
theorem Aj.ofV (w:World) (e:Int):Aj w (J2 e) e (-1):=by
 unfold J2;split
 ·next h=>rw[h];exact Aj.nil w
 ·next h=>exact Aj.bare w h
def Qa:Str:=[32,45,45,45,32,57,45,45,32,57,57,45,32,57,57,57,32,45,57,45,32,45,57,57,32,45,45,57,32]
def Vm:Str:=[32,57,57,57,32,45,57,57,32,45,45,57,32]
def Vn:Str:=[32,57,45,45,32,57,57,45,32,57,57,57,32]
def YD (d:Str):Str:=[32]++d++[32]
theorem NL: ∀a b c x y z:Bool,let d:=[fb a,fb b,fb c];let t:=[fb x,fb y,fb z];(d !=[45,45,45])=true->(t !=[45,45,45])=true->Bk d t=(Lib.contains Vm (YD d)&&Lib.contains Vn (YD t)):=by decide
theorem NM: ∀a b c x y z:Bool,let d:=[fb a,fb b,fb c];let t:=[fb x,fb y,fb z];((d !=[45,45,45])&&(t !=[45,45,45]))=false->(d==t)=true->Bk d t=false:=by decide
theorem J3: ∀a b c x y z:Bool,let d:=[fb a,fb b,fb c];let t:=[fb x,fb y,fb z];((d !=[45,45,45])&&(t !=[45,45,45]))=false->(d==t)=false->Bk d t=(Lib.contains Qa (YD d)&&Lib.contains Qa (YD t)):=by decide
theorem UI (a b:Str):((⟨a.toArray⟩:ByteArray)==⟨b.toArray⟩)=(a==b):=by rw[Bool.eq_iff_iff,Go.MapKept.bytes_beq,beq_iff_eq];simp
theorem XG (a b:Str):((⟨a.toArray⟩:ByteArray) !=⟨b.toArray⟩)=(a != b):=by rw[bne,bne,UI]
theorem Cn (s:ByteArray) (d:Str) (x:Bool) (h:Lib.contains s.data.toList (YD d)=x) (w:World) (m:Int) (hm:w.cell? (Ad 2 0)=some (Iv m)) (hs:s.size<4294967281):
 Calls prog 33 #[.string s,.string ((⟨#[32]⟩:ByteArray)++⟨d.toArray⟩++⟨#[32]⟩)] w fun e w'=>e= .returned (.bool x)/\w'=w:=by
 refine (strings_Contains s _ m w hs hm).mono ?_;rintro e w1 ⟨rfl,rfl⟩;refine ⟨AD ?_,rfl⟩;rw[<-h]
 congr 1
theorem VM (a b c:Int):(BO a b c).length=3:=rfl
def Xb (s:St) (w:World) (e:Ending) (w':World):Prop:=e= .returned (J2 (B5 s))/\Below w.heap.size w w'
structure YE (w:World) (b:Nat) (s:St):Prop where
 c0:w.cell? (Ad b 0)=some (Iv s.y)
 c1:w.cell? (Ad b 1)=some (Iv s.mo)
 c2:w.cell? (Ad b 2)=some (Iv s.d)
 c3:w.cell? (Ad b 3)=some (Iv s.h)
 c4:w.cell? (Ad b 4)=some (Iv s.mi)
 c5:w.cell? (Ad b 5)=some (Iv s.s)
 c6:w.cell? (Ad b 6)=some (.bool s.zoned)
 c7:w.cell? (Ad b 7)=some (Iv s.zone)
theorem YE.below {w w':World} {b B:Nat} {s:St} (h:YE w b s) (hb:Below B w w') (hB:b<B):YE w' b s:=
 ⟨(hb.cell (p:=(Ad b 0)) hB).trans h.c0,(hb.cell (p:=(Ad b 1)) hB).trans h.c1,(hb.cell (p:=(Ad b 2)) hB).trans h.c2,(hb.cell (p:=(Ad b 3)) hB).trans h.c3,(hb.cell (p:=(Ad b 4)) hB).trans h.c4,(hb.cell (p:=(Ad b 5)) hB).trans h.c5,(hb.cell (p:=(Ad b 6)) hB).trans h.c6,(hb.cell (p:=(Ad b 7)) hB).trans h.c7⟩
theorem MP (s:St) (w:World) (hL:LD w):Calls prog 136 #[YC s] w (Xb s w):=by
 obtain ⟨y,mo,d,h,mi,sc,zo,zn⟩:=s;show Calls prog 136 #[.agg #[Iv y,Iv mo,Iv d,Iv h,Iv mi,Iv sc,.bool zo,Iv zn]] w _;go_enter func136,ntmps136;go_upto_region 1 with fail;go_cut [3,4] from 8 to 23 (fun s3 s4 wx=>s3= .string ⟨(BO y mo d).toArray⟩/\s4= .string ⟨(BO h mi sc).toArray⟩/\YE wx w.heap.size ⟨y,mo,d,h,mi,sc,zo,zn⟩/\Below w.heap.size w wx/\w.heap.size<wx.heap.size);case first=>
  go_region_held3 (fun w'=>w'.cell? (Ad w.heap.size 0)=some (Iv y)/\w'.cell? (Ad w.heap.size 1)=some (Iv mo)/\w'.cell? (Ad w.heap.size 2)=some (Iv d)/\w'.cell? (Ad w.heap.size 3)=some (Iv h)/\w'.cell? (Ad w.heap.size 4)=some (Iv mi)/\w'.cell? (Ad w.heap.size 5)=some (Iv sc)/\w'.cell? (Ad w.heap.size 6)=some (.bool zo)/\w'.cell? (Ad w.heap.size 7)=some (Iv zn)/\Below w.heap.size w w')
   (first|(go_keep;done)|((try dsimp only);(try go_split_ands);(repeat' apply And.intro)<;>(first|(go_keep;done)|(refine (A2.cell ?_).trans ?_<;>first|assumption|(simp[go_sem];done)|(simp[go_sem, *];done)|(simp at hz⊢;omega)|(simp;omega))|((repeat (first|exact zB|assumption|refine Below.drew ?_|refine Below.alloc ?_ (by first|omega|(simp<;>omega)) _|refine Below.trans ?_ (Below.mono A2 (by first|omega|(simp<;>omega)))));done))))
   (first|(go_at_call 189;(first|(refine (ED y mo d _ _ ?_ ?_ ?_ ?_).mono ?_;(focus simp[go_sem]);(focus simp[go_sem]);(focus simp[go_sem]);(focus (first|omega|(simp<;>omega)));rintro e w1 ⟨rfl,A2⟩;have hk:=fun (p:Addr) hp=>A2.cell (p:=p) hp;have hz:=A2.size;(try simp at hz))|(refine (ED h mi sc _ _ ?_ ?_ ?_ ?_).mono ?_;(focus simp[go_sem]);(focus simp[go_sem]);(focus simp[go_sem]);(focus (first|omega|(simp<;>omega)));rintro e w1 ⟨rfl,A2⟩;have hk:=fun (p:Addr) hp=>A2.cell (p:=p) hp;have hz:=A2.size;(try simp at hz))|(refine (ED y mo d _ _ ?_ ?_ ?_ ?_).mono ?_;(focus simp[go_sem,hk]);(focus simp[go_sem,hk]);(focus simp[go_sem,hk]);(focus (first|omega|(simp<;>omega)));rintro e w1 ⟨rfl,A2⟩;have hk:=fun (p:Addr) hp=>A2.cell (p:=p) hp;have hz:=A2.size;(try simp at hz))|(refine (ED h mi sc _ _ ?_ ?_ ?_ ?_).mono ?_;(focus simp[go_sem,hk]);(focus simp[go_sem,hk]);(focus simp[go_sem,hk]);(focus (first|omega|(simp<;>omega)));rintro e w1 ⟨rfl,A2⟩;have hk:=fun (p:Addr) hp=>A2.cell (p:=p) hp;have hz:=A2.size;(try simp at hz)))))
  all_goals (go_split_ands;clear hk;go_wp2;go_meet;exact ⟨rfl,rfl,⟨‹_›,‹_›,‹_›,‹_›,‹_›,‹_›,‹_›,‹_›⟩,‹_›,World.block_lt_of_cell? _ _ (show _=some (Iv y) by assumption)⟩)
 case rest=>
  obtain ⟨rfl,rfl,hC,hb,A0⟩:=hcut;obtain ⟨k0,k1,k2,k3,k4,k5,k6,k7⟩:=hC;have VC:=hL.below hb;obtain ⟨B2,N3⟩:=VC;obtain ⟨m,hm⟩:=N3.mx;have AL:=hid (Bu y mo d);have AN:=hid (Bu h mi sc);obtain ⟨D,hD⟩: ∃D,D=BO y mo d:=⟨_,rfl⟩;obtain ⟨T,hT⟩: ∃T,T=BO h mi sc:=⟨_,rfl⟩;have HW:=hid (show B5 ⟨y,mo,d,h,mi,sc,zo,zn⟩=if !Bk D T||(zo&&h== -1)||(!zo&&zn != 0) then 3 else if Xt y 0 9999&&Xt mo 1 12&&Xt d 1 (if mo= -1 then 31 else BC y mo)&&Xt h 0 23&&Xt mi 0 59&&Xt sc 0 59&&Av zn then 0 else 2 by rw[hD,hT];rfl);rw[<-hD] at AL;rw[<-hT] at AN;rw[<-hD,<-hT];have W8:D.length=3:=(by rw[hD];rfl);have W9:T.length=3:=(by rw[hT];rfl);clear hD hT N3;go_upto_block 0 with fail;go_cut [5,6] from 24 to 34 (fun s5 s6 wz=>(∃F G:Str,s5=Sv F/\s6=Sv G/\F.length<=100/\G.length<=100/\Hid (Bk D T=(Lib.contains F (YD D)&&Lib.contains G (YD T))))/\wz=wc);case first=>
   obtain ⟨x,hx⟩: ∃x,(D==[45,45,45])=x:=⟨_,rfl⟩;obtain ⟨v,hv⟩: ∃v,(T==[45,45,45])=v:=⟨_,rfl⟩;obtain ⟨z,hz⟩: ∃z,(D==T)=z:=⟨_,rfl⟩;cases x with
   |false=>
    cases v with
    |false=>
     have HS:=hid (show Bk D T=(Lib.contains Vm (YD D)&&Lib.contains Vn (YD T)) by have:=NL (y != -1) (mo != -1) (d != -1) (h != -1) (mi != -1) (sc != -1);rw[<-AL.out,<-AN.out] at this;exact this (by rw[bne,hx];rfl) (by rw[bne,hv];rfl));clear hz AL AN HW;go_wp2
     go_meet;exact ⟨⟨Vm,Vn,rfl,rfl,by decide,by decide,HS⟩,rfl⟩
    |true=>
     have H4:z=false:=(by rw[<-hz,show T=[45,45,45] by simpa using hv];exact hx);subst H4;have HS:=hid (show Bk D T=(Lib.contains Qa (YD D)&&Lib.contains Qa (YD T)) by have:=J3 (y != -1) (mo != -1) (d != -1) (h != -1) (mi != -1) (sc != -1);rw[<-AL.out,<-AN.out] at this;exact this (by rw[bne,bne,hx,hv];rfl) hz);obtain rfl:T=[45,45,45]:=(by simpa using hv);clear hv AL AN HW;go_wp2
     go_meet;exact ⟨⟨Qa,Qa,rfl,rfl,by decide,by decide,HS⟩,rfl⟩
   |true=>
    cases z with
    |true=>
     have HS:=hid (show Bk D T=false by have:=NM (y != -1) (mo != -1) (d != -1) (h != -1) (mi != -1) (sc != -1);rw[<-AL.out,<-AN.out] at this;exact this (by rw[bne,hx];rfl) hz);have HR:=hid (show B5 ⟨y,mo,d,h,mi,sc,zo,zn⟩=3 by rw[HW.out,HS.out];rfl);obtain rfl:D=[45,45,45]:=(by simpa using hx);obtain rfl:T=[45,45,45]:=(by simpa using (beq_iff_eq.1 hz).symm);clear hx hv hz AL AN HS HW;go_wp2
     go_ret;exact ⟨by rw[HR.out];rfl,hb⟩
    |false=>
     have HS:=hid (show Bk D T=(Lib.contains Qa (YD D)&&Lib.contains Qa (YD T)) by have:=J3 (y != -1) (mo != -1) (d != -1) (h != -1) (mi != -1) (sc != -1);rw[<-AL.out,<-AN.out] at this;exact this (by rw[bne,hx];rfl) hz);obtain rfl:D=[45,45,45]:=(by simpa using hx);clear hx AL AN HW;go_wp2
     go_meet;exact ⟨⟨Qa,Qa,rfl,rfl,by decide,by decide,HS⟩,rfl⟩
  case rest=>
  obtain ⟨⟨F,G,rfl,rfl,hF,hG,HS⟩,rfl⟩:=hcut;clear AL AN;go_upto_region 7 with fail;go_cut [68] from 36 to 67 (fun VX wz=>(∃X:Bool,VX= .bool X/\Hid (B5 ⟨y,mo,d,h,mi,sc,zo,zn⟩=if X then 3 else (if Xt y 0 9999&&Xt mo 1 12&&Xt d 1 (if mo= -1 then 31 else BC y mo)&&Xt h 0 23&&Xt mi 0 59&&Xt sc 0 59&&Av zn then 0 else 2)))/\wz=wc);case first=>
   obtain ⟨c1,H8⟩: ∃c,Lib.contains F (YD D)=c:=⟨_,rfl⟩;obtain ⟨c2,H9⟩: ∃c,Lib.contains G (YD T)=c:=⟨_,rfl⟩;rw[H8,H9] at HS;have H1:=hid (show Lib.contains (⟨F.toArray⟩:ByteArray).data.toList (YD D)=c1 by simpa using H8);have H2:=hid (show Lib.contains (⟨G.toArray⟩:ByteArray).data.toList (YD T)=c2 by simpa using H9);clear H8 H9;cases c1 with
   |false=>
    have HR:=hid (show B5 ⟨y,mo,d,h,mi,sc,zo,zn⟩=3 by rw[HW.out,HS.out];rfl);clear HS HW;go_wp2_with fail;refine (Cn _ D _ H1.out _ m hm (show F.toArray.size<_ by simp;omega)).mono ?_;rintro e w1 ⟨rfl,rfl⟩;go_wp2
    go_meet;exact ⟨⟨true,rfl,HR⟩,rfl⟩
   |true=>
    cases c2 with
    |false=>
     have HR:=hid (show B5 ⟨y,mo,d,h,mi,sc,zo,zn⟩=3 by rw[HW.out,HS.out];rfl);clear HS HW;go_wp2_with fail;refine (Cn _ D _ H1.out _ m hm (show F.toArray.size<_ by simp;omega)).mono ?_;rintro e w1 ⟨rfl,rfl⟩;go_wp2_with fail;refine (Cn _ T _ H2.out _ m hm (show G.toArray.size<_ by simp;omega)).mono ?_;rintro e w1 ⟨rfl,rfl⟩;go_wp2
     go_meet;exact ⟨⟨true,rfl,HR⟩,rfl⟩
    |true=>
     have HR:=hid (show B5 ⟨y,mo,d,h,mi,sc,zo,zn⟩=if (zo&&h== -1)||(!zo&&zn != 0) then 3 else (if Xt y 0 9999&&Xt mo 1 12&&Xt d 1 (if mo= -1 then 31 else BC y mo)&&Xt h 0 23&&Xt mi 0 59&&Xt sc 0 59&&Av zn then 0 else 2) by rw[HW.out,HS.out];rfl);obtain ⟨q,hq⟩: ∃q,(h== -1)=q:=⟨_,rfl⟩;obtain ⟨r,hr⟩: ∃r,(zn != 0)=r:=⟨_,rfl⟩;rw[hq,hr] at HR;clear HS HW;go_wp2_with fail;refine (Cn _ D _ H1.out _ m hm (show F.toArray.size<_ by simp;omega)).mono ?_;rintro e w1 ⟨rfl,rfl⟩;go_wp2_with fail;refine (Cn _ T _ H2.out _ m hm (show G.toArray.size<_ by simp;omega)).mono ?_;rintro e w1 ⟨rfl,rfl⟩;cases zo<;>cases q<;>cases r
     all_goals
      go_wp2
      go_meet;exact ⟨⟨_,rfl,HR⟩,rfl⟩
  case rest=>
   obtain ⟨⟨X,rfl,HR⟩,rfl⟩:=hcut;clear HW HS;cases X with
   |true=>
    go_wp2
    go_ret;exact ⟨by rw[HR.out];rfl,hb⟩
   |false=>
   have HR:=hid (show B5 ⟨y,mo,d,h,mi,sc,zo,zn⟩=(if Xt y 0 9999&&Xt mo 1 12&&Xt d 1 (if mo= -1 then 31 else BC y mo)&&Xt h 0 23&&Xt mi 0 59&&Xt sc 0 59&&Av zn then 0 else 2) from HR.out);obtain ⟨dd,B0⟩: ∃dd,(if mo= -1 then 31 else BC y mo)=dd:=⟨_,rfl⟩;rw[B0] at HR;have HA:=hid B0;clear B0;go_upto_if 72 with fail;go_cut [7] from 70 to 77 (fun s7 wz=>s7=Iv dd/\wz=wc);case first=>
    by_cases B1:mo= -1
    ·have q:(mo != -1)=false:=(by rw[B1];rfl);obtain rfl:dd=31:=(by rw[<-HA.out,if_pos B1]);clear B1;go_wp2
     go_meet;exact ⟨rfl,rfl⟩
    ·have q:(mo != -1)=true:=(by simpa using B1);obtain rfl:dd=BC y mo:=(by rw[<-HA.out,if_neg B1]);clear B1;go_wp2_with fail;refine (Qx _ _ _).mono ?_;rintro e w1 ⟨rfl,rfl⟩;go_wp2
     go_meet;exact ⟨rfl,rfl⟩
   case rest=>
   obtain ⟨rfl,rfl⟩:=hcut;clear HA;obtain ⟨i0,HB⟩: ∃i,Xt y 0 9999=i:=⟨_,rfl⟩;have I0:=hid HB;rw[HB] at HR;clear HB;obtain ⟨i1,HC⟩: ∃i,Xt mo 1 12=i:=⟨_,rfl⟩;have I1:=hid HC;rw[HC] at HR;clear HC;obtain ⟨i2,HG⟩: ∃i,Xt d 1 dd=i:=⟨_,rfl⟩;have I2:=hid HG;rw[HG] at HR;clear HG;obtain ⟨i3,HI⟩: ∃i,Xt h 0 23=i:=⟨_,rfl⟩;have I3:=hid HI;rw[HI] at HR;clear HI;obtain ⟨i4,HL⟩: ∃i,Xt mi 0 59=i:=⟨_,rfl⟩;have I4:=hid HL;rw[HL] at HR;clear HL;obtain ⟨i5,HP⟩: ∃i,Xt sc 0 59=i:=⟨_,rfl⟩;have I5:=hid HP;rw[HP] at HR;clear HP;obtain ⟨i6,HQ⟩: ∃i,Av zn=i:=⟨_,rfl⟩;have I6:=hid HQ;rw[HQ] at HR;clear HQ;go_wp2_with fail;refine (FK _ _ _ _).mono ?_;rintro e w1 ⟨rfl,rfl⟩;rw[I0.out];cases i0
   ·go_wp2
    go_ret;exact ⟨by rw[HR.out];rfl,hb⟩
   go_wp2_with fail;refine (FK _ _ _ _).mono ?_;rintro e w1 ⟨rfl,rfl⟩;rw[I1.out];cases i1
   ·go_wp2
    go_ret;exact ⟨by rw[HR.out];rfl,hb⟩
   go_wp2_with fail;refine (FK _ _ _ _).mono ?_;rintro e w1 ⟨rfl,rfl⟩;rw[I2.out];cases i2
   ·go_wp2
    go_ret;exact ⟨by rw[HR.out];rfl,hb⟩
   go_wp2_with fail;refine (FK _ _ _ _).mono ?_;rintro e w1 ⟨rfl,rfl⟩;rw[I3.out];cases i3
   ·go_wp2
    go_ret;exact ⟨by rw[HR.out];rfl,hb⟩
   go_wp2_with fail;refine (FK _ _ _ _).mono ?_;rintro e w1 ⟨rfl,rfl⟩;rw[I4.out];cases i4
   ·go_wp2
    go_ret;exact ⟨by rw[HR.out];rfl,hb⟩
   go_wp2_with fail;refine (FK _ _ _ _).mono ?_;rintro e w1 ⟨rfl,rfl⟩;rw[I5.out];cases i5
   ·go_wp2
    go_ret;exact ⟨by rw[HR.out];rfl,hb⟩
   go_wp2_with fail;refine (EB _ _).mono ?_;rintro e w1 ⟨rfl,rfl⟩;rw[I6.out];cases i6;all_goals
    go_wp2
    go_ret;exact ⟨by rw[HR.out];rfl,hb⟩
theorem Qy: ∀a b c x y z:Bool,Bk [fb a,fb b,fb c] [fb x,fb y,fb z]=true->(a=true->b=false->c=false)/\(x=true->y=false->z=false)/\((x=true∨y=true∨z=true)∨(a=true∨b=true∨c=true)):=by decide
theorem Hz {n lo hi:Int} (h:Xt n lo hi=true):n= -1∨(lo<=n/\n<=hi):=by simpa[Xt] using h
theorem Sh (y m:Int):BC y m<=31:=by unfold BC;repeat (first|split|decide)
structure UL (y mo d h mi sc:Int) (zo:Bool) (zn:Int):Prop where
 oy:y= -1∨(0<=y/\y<=9999)
 omo:mo= -1∨(1<=mo/\mo<=12)
 od:d= -1∨(1<=d/\d<=31)
 oh:h= -1∨(0<=h/\h<=23)
 omi:mi= -1∨(0<=mi/\mi<=59)
 osc:sc= -1∨(0<=sc/\sc<=59)
 oz:Av zn=true
 ozo:zo=true->h≠ -1
 shape:Bk (BO y mo d) (BO h mi sc)=true
theorem OZ {y mo d h mi sc:Int} {zo:Bool} {zn:Int} (e:B5 ⟨y,mo,d,h,mi,sc,zo,zn⟩=0):UL y mo d h mi sc zo zn:=by
 obtain ⟨dd,B0⟩: ∃dd,dd=(if mo= -1 then 31 else BC y mo):=⟨_,rfl⟩;have e2:(if !Bk (BO y mo d) (BO h mi sc)||(zo&&h== -1)||(!zo&&zn != 0) then (3:Int) else if Xt y 0 9999&&Xt mo 1 12&&Xt d 1 dd&&Xt h 0 23&&Xt mi 0 59&&Xt sc 0 59&&Av zn then 0 else 2)=0:=(by rw[B0];exact e);have P1:dd<=31:=by
  rw[B0];split
  ·exact Int.le_refl _
  ·exact Sh _ _
 clear e B0;split at e2
 ·exact absurd e2 (by decide)
 ·next h1=>
  split at e2
  ·next h2=>
   simp only[Bool.and_eq_true,Bool.or_eq_true,not_or,Bool.not_eq_true',Bool.not_eq_true,Bool.not_eq_false] at h1 h2;obtain ⟨⟨⟨⟨⟨⟨a1,a2⟩,a3⟩,a4⟩,a5⟩,a6⟩,a7⟩:=h2;refine ⟨Hz a1,Hz a2, ?_,Hz a4,Hz a5,Hz a6,a7,fun hz hh=> ?_,by simpa using h1.1.1⟩
   ·rcases Hz a3 with a3|⟨a3,a3'⟩
    ·exact .inl a3
    ·exact .inr ⟨a3,Int.le_trans a3' P1⟩
   ·have:=h1.1.2;rw[hz,hh] at this;exact absurd this (by decide)
  ·exact absurd e2 (by decide)
theorem Bw {n lo hi:Int} (h:n= -1∨(lo<=n/\n<=hi)) (hl:0<=lo) (hh:hi<=9999) (hn:(n != -1)=true): ∃N:Nat,n=N/\N<=9999/\(N:Int)<=hi:=by
 rcases h with h|⟨h1,h2⟩
 ·rw[h] at hn;exact absurd hn (by decide)
 ·exact ⟨n.toNat,by omega,by omega,by omega⟩
theorem AY (n:Int): ∀k,(BG n k).length=k
 |0=>rfl
 |k+1=>by rw[BG,List.length_append,AY (n/10) k];rfl
theorem ix0 (a b c:Int) (w:World):(Instr.index 200 (.agg #[Iv a,Iv b,Iv c]) (Iv 0)).run prog w= .ok (Iv a) w:=by kernel_rfl
theorem ix1 (a b c:Int) (w:World):(Instr.index 200 (.agg #[Iv a,Iv b,Iv c]) (Iv 1)).run prog w= .ok (Iv b) w:=by kernel_rfl
theorem ix2 (a b c:Int) (w:World):(Instr.index 200 (.agg #[Iv a,Iv b,Iv c]) (Iv 2)).run prog w= .ok (Iv c) w:=by kernel_rfl
theorem Oa (s:St):(EY s).length<=10:=by
 unfold EY;simp only
 repeat' split
 all_goals simp[AY]
theorem Ep (n:Int):(CL n).length<=10:=by
 unfold CL
 repeat' split
 all_goals simp[Qg]
def XH (s:St) (w:World) (e:Ending) (w':World):Prop:=e= .returned (.tuple #[.string ⟨(DI s).toArray⟩,.nilIface])/\Below w.heap.size w w'
theorem Qb {s:St} {w w':World} {b:ByteArray} (h:b=⟨(DI s).toArray⟩) (hb:Below w.heap.size w w'):XH s w (.returned (.tuple #[.string b,.nilIface])) w':=⟨by rw[h],hb⟩
theorem NN (s:St) (w:World) (hE:B5 s=0) (hL:LD w):Calls prog 193 #[YC s] w (XH s w):=by
 obtain ⟨y,mo,d,h,mi,sc,zo,zn⟩:=s;have HU:=OZ hE;have HW:=hid (MP ⟨y,mo,d,h,mi,sc,zo,zn⟩);have HE:=hid hE;clear hE;have HS:=hid (show DI ⟨y,mo,d,h,mi,sc,zo,zn⟩=EY ⟨y,mo,d,h,mi,sc,zo,zn⟩++(if BO h mi sc=[45,45,45] then [] else 84::(Cc ⟨y,mo,d,h,mi,sc,zo,zn⟩++if zo then CL zn else [])) from rfl);obtain ⟨DT,HV⟩: ∃DT,DT=EY ⟨y,mo,d,h,mi,sc,zo,zn⟩:=⟨_,rfl⟩;rw[<-HV] at HS;have A8:=hid HV;clear HV;have E9:=HU.shape;rw[Bu,Bu] at E9;have E9:=Qy _ _ _ _ _ _ E9;obtain ⟨G2,G4,P2⟩:=E9;show Calls prog 193 #[.agg #[Iv y,Iv mo,Iv d,Iv h,Iv mi,Iv sc,.bool zo,Iv zn]] w _;have A5:=hid HU;have PB:=hid G2;have PF:=hid G4;clear HU G2 G4 P2;go_enter func193,ntmps193;go_wp2_with fail;refine (HW.out _ ?_).mono ?_
 ·exact hL.below zA
 rintro e w1 ⟨rfl,A2⟩;rw[HE.out];have A0:w.heap.size<w1.heap.size:=(by have:=A2.size;simp at this;omega);have k0:w1.cell? (Ad w.heap.size 0)=some (Iv y):=(by rw[A2.cell (p:=(Ad w.heap.size 0)) (by simp)];simp);have k1:w1.cell? (Ad w.heap.size 1)=some (Iv mo):=(by rw[A2.cell (p:=(Ad w.heap.size 1)) (by simp)];simp);have k2:w1.cell? (Ad w.heap.size 2)=some (Iv d):=(by rw[A2.cell (p:=(Ad w.heap.size 2)) (by simp)];simp);have k3:w1.cell? (Ad w.heap.size 3)=some (Iv h):=(by rw[A2.cell (p:=(Ad w.heap.size 3)) (by simp)];simp);have k4:w1.cell? (Ad w.heap.size 4)=some (Iv mi):=(by rw[A2.cell (p:=(Ad w.heap.size 4)) (by simp)];simp);have k5:w1.cell? (Ad w.heap.size 5)=some (Iv sc):=(by rw[A2.cell (p:=(Ad w.heap.size 5)) (by simp)];simp);have k6:w1.cell? (Ad w.heap.size 6)=some (.bool zo):=(by rw[A2.cell (p:=(Ad w.heap.size 6)) (by simp)];simp);have k7:w1.cell? (Ad w.heap.size 7)=some (Iv zn):=(by rw[A2.cell (p:=(Ad w.heap.size 7)) (by simp)];simp);have hb:Below w.heap.size w w1:=zA.trans (A2.mono (by simp));clear A2;have e0:J2 0= .nilIface:=rfl;rw[e0];clear e0;go_wp2_with fail;refine (ED y mo d _ _ ?_ ?_ ?_ ?_).mono ?_
 ·simp
 ·simp
 ·simp
 ·simp
 rintro e w2 ⟨rfl,Q1⟩;have A6:Below w1.heap.size w1 w2:=zA.trans (Q1.mono (by simp));obtain ⟨k0,k1,k2,k3,k4,k5,k6,k7⟩:=YE.below (s:=⟨_,_,_,_,_,_,_,_⟩) ⟨k0,k1,k2,k3,k4,k5,k6,k7⟩ A6 A0;replace hb:=hb.trans (A6.mono hb.size);replace A0:=Nat.lt_of_lt_of_le A0 A6.size;clear Q1 A6;go_upto_block 0 with fail;go_cut [5] from 24 to 74 (fun s5 wz=>s5=Sv DT/\YE wz w.heap.size ⟨y,mo,d,h,mi,sc,zo,zn⟩/\Below w.heap.size w wz/\w.heap.size<wz.heap.size);case first=>
  have HF:=hid (Bu y mo d);obtain ⟨x0,h0⟩: ∃x,(y != -1)=x:=⟨_,rfl⟩;obtain ⟨x1,h1⟩: ∃x,(mo != -1)=x:=⟨_,rfl⟩;obtain ⟨x2,h2⟩: ∃x,(d != -1)=x:=⟨_,rfl⟩;rw[h0,h1,h2] at HF;have HN:=hid (show x0=true->x1=false->x2=false from by rw[<-h0,<-h1,<-h2];exact PB.out);have H0:=hid h0;have H1:=hid h1;have H2:=hid h2;clear h0 h1 h2;cases x0 with
  |false=>
   cases x1 with
   |false=>
    cases x2 with
    |false=>
     have HD:=hid (show DT=[] by rw[A8.out,EY];simp only[HF.out];simp[fb]);have A3:BO y mo d=[45,45,45]:=HF.out;rw[A3];clear A3 HF HN HS A8 HW;go_wp2
     go_meet;exact ⟨Af (by rw[HD.out]),⟨‹_›,‹_›,‹_›,‹_›,‹_›,‹_›,‹_›,‹_›⟩,‹_›,World.block_lt_of_cell? _ _ (show _=some (.bool zo) by assumption)⟩
    |true=>
     obtain ⟨D,rfl,lD,Q2⟩:=Bw A5.out.od (by decide) (by decide) H2.out;have HD:=hid (show DT=[45,45,45]++BG D 2 by rw[A8.out,EY];simp only[HF.out];simp[fb]);have A3:BO y mo D=[45,45,57]:=HF.out;rw[A3];clear A3 HF HN HS A8 HW;have gD:=AY (D:Int) 2;go_wp2_with fail;refine (digits2 _ _ ?_).mono ?_
     ·omega
     rintro e w3 ⟨rfl,A6⟩;obtain ⟨k0,k1,k2,k3,k4,k5,k6,k7⟩:=YE.below (s:=⟨_,_,_,_,_,_,_,_⟩) ⟨k0,k1,k2,k3,k4,k5,k6,k7⟩ A6 A0;replace hb:=hb.trans (A6.mono hb.size);clear A6;go_wp2
     go_meet;exact ⟨Af (by rw[HD.out];simp only[<-AM]),⟨‹_›,‹_›,‹_›,‹_›,‹_›,‹_›,‹_›,‹_›⟩,‹_›,World.block_lt_of_cell? _ _ (show _=some (.bool zo) by assumption)⟩
   |true=>
    cases x2 with
    |false=>
     obtain ⟨M,rfl,lM,HX⟩:=Bw A5.out.omo (by decide) (by decide) H1.out;have HD:=hid (show DT=[45,45]++BG M 2 by rw[A8.out,EY];simp only[HF.out];simp[fb]);have A3:BO y M d=[45,57,45]:=HF.out;rw[A3];clear A3 HF HN HS A8 HW;have gM:=AY (M:Int) 2;go_wp2_with fail;refine (digits2 _ _ ?_).mono ?_
     ·omega
     rintro e w3 ⟨rfl,A6⟩;obtain ⟨k0,k1,k2,k3,k4,k5,k6,k7⟩:=YE.below (s:=⟨_,_,_,_,_,_,_,_⟩) ⟨k0,k1,k2,k3,k4,k5,k6,k7⟩ A6 A0;replace hb:=hb.trans (A6.mono hb.size);clear A6;go_wp2
     go_meet;exact ⟨Af (by rw[HD.out];simp only[<-AM]),⟨‹_›,‹_›,‹_›,‹_›,‹_›,‹_›,‹_›,‹_›⟩,‹_›,World.block_lt_of_cell? _ _ (show _=some (.bool zo) by assumption)⟩
    |true=>
     obtain ⟨M,rfl,lM,HX⟩:=Bw A5.out.omo (by decide) (by decide) H1.out;obtain ⟨D,rfl,lD,Q2⟩:=Bw A5.out.od (by decide) (by decide) H2.out;have HD:=hid (show DT=[45,45]++BG M 2++BG D 2 by rw[A8.out,EY];simp only[HF.out];simp[fb]);have A3:BO y M D=[45,57,57]:=HF.out;rw[A3];clear A3 HF HN HS A8 HW;have gM:=AY (M:Int) 2;have gD:=AY (D:Int) 2;go_wp2_with fail;go_region_held3 (fun w'=>w'.cell? (Ad w.heap.size 0)=some (Iv y)/\w'.cell? (Ad w.heap.size 1)=some (Iv (M:Int))/\w'.cell? (Ad w.heap.size 2)=some (Iv (D:Int))/\w'.cell? (Ad w.heap.size 3)=some (Iv h)/\w'.cell? (Ad w.heap.size 4)=some (Iv mi)/\w'.cell? (Ad w.heap.size 5)=some (Iv sc)/\w'.cell? (Ad w.heap.size 6)=some (.bool zo)/\w'.cell? (Ad w.heap.size 7)=some (Iv zn)/\Below w.heap.size w w') (first|(go_keep;done)|((try dsimp only);(try go_split_ands);(repeat' apply And.intro)<;>(first|(go_keep;done)|(refine (A2.cell ?_).trans ?_<;>first|assumption|(simp[go_sem];done)|(simp[go_sem, *];done)|(simp at hz⊢;omega)|(simp;omega))|((repeat (first|exact zB|assumption|refine Below.drew ?_|refine Below.alloc ?_ (by first|omega|(simp<;>omega)) _|refine Below.trans ?_ (Below.mono A2 (by first|omega|(simp<;>omega)))));done)))) (first|(go_at_call_of 225 (Iv (M:Int));refine (digits2 M _ ?_).mono ?_;(focus omega);rintro e w1 ⟨rfl,A2⟩;have hk:=fun (p:Addr) hp=>A2.cell (p:=p) hp;have hz:=A2.size;(try simp at hz))|(go_at_call_of 225 (Iv (D:Int));refine (digits2 D _ ?_).mono ?_;(focus omega);rintro e w1 ⟨rfl,A2⟩;have hk:=fun (p:Addr) hp=>A2.cell (p:=p) hp;have hz:=A2.size;(try simp at hz)));all_goals (go_split_ands;(try clear hk);go_wp2;go_meet;exact ⟨Af (by rw[HD.out];simp only[<-AM]),⟨‹_›,‹_›,‹_›,‹_›,‹_›,‹_›,‹_›,‹_›⟩,‹_›,World.block_lt_of_cell? _ _ (show _=some (.bool zo) by assumption)⟩)
  |true=>
   cases x1 with
   |false=>
    cases x2 with
    |false=>
     obtain ⟨Y,rfl,lY,R0⟩:=Bw A5.out.oy (by decide) (by decide) H0.out;have HD:=hid (show DT=BG Y 4 by rw[A8.out,EY];simp only[HF.out];simp[fb]);have A3:BO Y mo d=[57,45,45]:=HF.out;rw[A3];clear A3 HF HN HS A8 HW;have gY:=AY (Y:Int) 4;go_wp2_with fail;refine (LT _ _ ?_).mono ?_
     ·omega
     rintro e w3 ⟨rfl,A6⟩;obtain ⟨k0,k1,k2,k3,k4,k5,k6,k7⟩:=YE.below (s:=⟨_,_,_,_,_,_,_,_⟩) ⟨k0,k1,k2,k3,k4,k5,k6,k7⟩ A6 A0;replace hb:=hb.trans (A6.mono hb.size);clear A6;go_wp2
     go_meet;exact ⟨Af (by rw[HD.out]),⟨‹_›,‹_›,‹_›,‹_›,‹_›,‹_›,‹_›,‹_›⟩,‹_›,World.block_lt_of_cell? _ _ (show _=some (.bool zo) by assumption)⟩
    |true=>
     exact absurd (HN.out rfl rfl) (by decide)
   |true=>
    cases x2 with
    |false=>
     obtain ⟨Y,rfl,lY,R0⟩:=Bw A5.out.oy (by decide) (by decide) H0.out;obtain ⟨M,rfl,lM,HX⟩:=Bw A5.out.omo (by decide) (by decide) H1.out;have HD:=hid (show DT=BG Y 4++[45]++BG M 2 by rw[A8.out,EY];simp only[HF.out];simp[fb]);have A3:BO Y M d=[57,57,45]:=HF.out;rw[A3];clear A3 HF HN HS A8 HW;have gY:=AY (Y:Int) 4;have gM:=AY (M:Int) 2;go_wp2_with fail;go_region_held3 (fun w'=>w'.cell? (Ad w.heap.size 0)=some (Iv (Y:Int))/\w'.cell? (Ad w.heap.size 1)=some (Iv (M:Int))/\w'.cell? (Ad w.heap.size 2)=some (Iv d)/\w'.cell? (Ad w.heap.size 3)=some (Iv h)/\w'.cell? (Ad w.heap.size 4)=some (Iv mi)/\w'.cell? (Ad w.heap.size 5)=some (Iv sc)/\w'.cell? (Ad w.heap.size 6)=some (.bool zo)/\w'.cell? (Ad w.heap.size 7)=some (Iv zn)/\Below w.heap.size w w') (first|(go_keep;done)|((try dsimp only);(try go_split_ands);(repeat' apply And.intro)<;>(first|(go_keep;done)|(refine (A2.cell ?_).trans ?_<;>first|assumption|(simp[go_sem];done)|(simp[go_sem, *];done)|(simp at hz⊢;omega)|(simp;omega))|((repeat (first|exact zB|assumption|refine Below.drew ?_|refine Below.alloc ?_ (by first|omega|(simp<;>omega)) _|refine Below.trans ?_ (Below.mono A2 (by first|omega|(simp<;>omega)))));done)))) (first|(go_at_call_of 225 (Iv (Y:Int));refine (LT Y _ ?_).mono ?_;(focus omega);rintro e w1 ⟨rfl,A2⟩;have hk:=fun (p:Addr) hp=>A2.cell (p:=p) hp;have hz:=A2.size;(try simp at hz))|(go_at_call_of 225 (Iv (M:Int));refine (digits2 M _ ?_).mono ?_;(focus omega);rintro e w1 ⟨rfl,A2⟩;have hk:=fun (p:Addr) hp=>A2.cell (p:=p) hp;have hz:=A2.size;(try simp at hz)));all_goals (go_split_ands;(try clear hk);go_wp2;go_meet;exact ⟨Af (by rw[HD.out];simp only[<-AM]),⟨‹_›,‹_›,‹_›,‹_›,‹_›,‹_›,‹_›,‹_›⟩,‹_›,World.block_lt_of_cell? _ _ (show _=some (.bool zo) by assumption)⟩)
    |true=>
     obtain ⟨Y,rfl,lY,R0⟩:=Bw A5.out.oy (by decide) (by decide) H0.out;obtain ⟨M,rfl,lM,HX⟩:=Bw A5.out.omo (by decide) (by decide) H1.out;obtain ⟨D,rfl,lD,Q2⟩:=Bw A5.out.od (by decide) (by decide) H2.out;have HD:=hid (show DT=BG Y 4++BG M 2++BG D 2 by rw[A8.out,EY];simp only[HF.out];simp[fb]);have A3:BO Y M D=[57,57,57]:=HF.out;rw[A3];clear A3 HF HN HS A8 HW;have gY:=AY (Y:Int) 4;have gM:=AY (M:Int) 2;have gD:=AY (D:Int) 2;go_wp2_with fail;go_region_held3 (fun w'=>w'.cell? (Ad w.heap.size 0)=some (Iv (Y:Int))/\w'.cell? (Ad w.heap.size 1)=some (Iv (M:Int))/\w'.cell? (Ad w.heap.size 2)=some (Iv (D:Int))/\w'.cell? (Ad w.heap.size 3)=some (Iv h)/\w'.cell? (Ad w.heap.size 4)=some (Iv mi)/\w'.cell? (Ad w.heap.size 5)=some (Iv sc)/\w'.cell? (Ad w.heap.size 6)=some (.bool zo)/\w'.cell? (Ad w.heap.size 7)=some (Iv zn)/\Below w.heap.size w w') (first|(go_keep;done)|((try dsimp only);(try go_split_ands);(repeat' apply And.intro)<;>(first|(go_keep;done)|(refine (A2.cell ?_).trans ?_<;>first|assumption|(simp[go_sem];done)|(simp[go_sem, *];done)|(simp at hz⊢;omega)|(simp;omega))|((repeat (first|exact zB|assumption|refine Below.drew ?_|refine Below.alloc ?_ (by first|omega|(simp<;>omega)) _|refine Below.trans ?_ (Below.mono A2 (by first|omega|(simp<;>omega)))));done)))) (first|(go_at_call_of 225 (Iv (Y:Int));refine (LT Y _ ?_).mono ?_;(focus omega);rintro e w1 ⟨rfl,A2⟩;have hk:=fun (p:Addr) hp=>A2.cell (p:=p) hp;have hz:=A2.size;(try simp at hz))|(go_at_call_of 225 (Iv (M:Int));refine (digits2 M _ ?_).mono ?_;(focus omega);rintro e w1 ⟨rfl,A2⟩;have hk:=fun (p:Addr) hp=>A2.cell (p:=p) hp;have hz:=A2.size;(try simp at hz))|(go_at_call_of 225 (Iv (D:Int));refine (digits2 D _ ?_).mono ?_;(focus omega);rintro e w1 ⟨rfl,A2⟩;have hk:=fun (p:Addr) hp=>A2.cell (p:=p) hp;have hz:=A2.size;(try simp at hz)));all_goals (go_split_ands;(try clear hk);go_wp2;go_meet;exact ⟨Af (by rw[HD.out];simp only[<-AM]),⟨‹_›,‹_›,‹_›,‹_›,‹_›,‹_›,‹_›,‹_›⟩,‹_›,World.block_lt_of_cell? _ _ (show _=some (.bool zo) by assumption)⟩)
 case rest=>
  obtain ⟨rfl,⟨k0,k1,k2,k3,k4,k5,k6,k7⟩,hb,A0⟩:=hcut;have WA:DT.length<=10:=(by rw[A8.out];exact Oa _);clear HW A8 PB;go_wp2_with fail;refine (ED h mi sc _ _ ?_ ?_ ?_ ?_).mono ?_
  ·simp
  ·simp
  ·simp
  ·simp
  rintro e w3 ⟨rfl,A6⟩;have F1:Below wc.heap.size wc w3:=zA.trans (A6.mono (by simp));obtain ⟨k0,k1,k2,k3,k4,k5,k6,k7⟩:=YE.below (s:=⟨_,_,_,_,_,_,_,_⟩) ⟨k0,k1,k2,k3,k4,k5,k6,k7⟩ F1 A0;replace hb:=hb.trans (F1.mono hb.size);replace A0:=Nat.lt_of_lt_of_le A0 F1.size;clear A6 F1;have HF:=hid (Bu h mi sc);obtain ⟨x0,h0⟩: ∃x,(h != -1)=x:=⟨_,rfl⟩;obtain ⟨x1,h1⟩: ∃x,(mi != -1)=x:=⟨_,rfl⟩;obtain ⟨x2,h2⟩: ∃x,(sc != -1)=x:=⟨_,rfl⟩;rw[h0,h1,h2] at HF;have HN:=hid (show x0=true->x1=false->x2=false from by rw[<-h0,<-h1,<-h2];exact PF.out);have HZ:=hid (show zo=true->x0=true from fun hz=>by rw[<-h0];simpa using A5.out.ozo hz);have H0:=hid h0;have H1:=hid h1;have H2:=hid h2;clear h0 h1 h2 PF;cases x0 with
  |false=>
   cases x1 with
   |false=>
    cases x2 with
    |false=>
     obtain rfl:zo=false:=(by rcases Bool.eq_false_or_eq_true zo with e|e;exact absurd (HZ.out e) (by decide);exact e);have HD:=hid (show DI ⟨y,mo,d,h,mi,sc,false,zn⟩=DT by rw[HS.out,Cc];simp only[HF.out];simp[fb]);have A3:BO h mi sc=[45,45,45]:=HF.out;rw[A3];have A9:=hid A5.out.oz;clear A3 HF HN HS HZ A5;go_wp2
     go_ret2;exact Qb (by rw[HD.out]) hb
    |true=>
     obtain ⟨SS,rfl,lSS,lSS2⟩:=Bw A5.out.osc (by decide) (by decide) H2.out;obtain rfl:zo=false:=(by rcases Bool.eq_false_or_eq_true zo with e|e;exact absurd (HZ.out e) (by decide);exact e);have HD:=hid (show DI ⟨y,mo,d,h,mi,SS,false,zn⟩=DT++[84]++[45]++[45]++BG SS 2 by rw[HS.out,Cc];simp only[HF.out];simp[fb]);have A3:BO h mi SS=[45,45,57]:=HF.out;rw[A3];have A9:=hid A5.out.oz;clear A3 HF HN HS HZ A5;have gSS:=AY (SS:Int) 2;go_wp2_with fail;have ix0:=ix0 h mi (SS:Int);have ix1:=ix1 h mi (SS:Int);have ix2:=ix2 h mi (SS:Int);refine wp_loop_rounds 4 ?_;rw[rounds_succ];go_wp2_with fail;rw[rounds_succ];go_wp2_with fail;rw[rounds_succ];go_wp2_with fail;refine (digits2 SS _ (by omega)).mono ?_;rintro e v0 ⟨rfl,A1⟩;replace k6:=(A1.cell (p:=(Ad w.heap.size 6)) A0).trans k6;replace k7:=(A1.cell (p:=(Ad w.heap.size 7)) A0).trans k7;replace hb:=hb.trans (A1.mono hb.size);replace A0:=Nat.lt_of_lt_of_le A0 A1.size;clear A1;go_wp2_with fail;rw[rounds_succ];go_wp2
     go_ret2;exact Qb (by rw[HD.out];simp only[<-AM]) hb
   |true=>
    cases x2 with
    |false=>
     obtain ⟨MM,rfl,lMM,lMM2⟩:=Bw A5.out.omi (by decide) (by decide) H1.out;obtain rfl:zo=false:=(by rcases Bool.eq_false_or_eq_true zo with e|e;exact absurd (HZ.out e) (by decide);exact e);have HD:=hid (show DI ⟨y,mo,d,h,MM,sc,false,zn⟩=DT++[84]++[45]++BG MM 2 by rw[HS.out,Cc];simp only[HF.out];simp[fb]);have A3:BO h MM sc=[45,57,45]:=HF.out;rw[A3];have A9:=hid A5.out.oz;clear A3 HF HN HS HZ A5;have gMM:=AY (MM:Int) 2;go_wp2_with fail;have ix0:=ix0 h (MM:Int) sc;have ix1:=ix1 h (MM:Int) sc;have ix2:=ix2 h (MM:Int) sc;refine wp_loop_rounds 4 ?_;rw[rounds_succ];go_wp2_with fail;rw[rounds_succ];go_wp2_with fail;refine (digits2 MM _ (by omega)).mono ?_;rintro e v0 ⟨rfl,A1⟩;replace k6:=(A1.cell (p:=(Ad w.heap.size 6)) A0).trans k6;replace k7:=(A1.cell (p:=(Ad w.heap.size 7)) A0).trans k7;replace hb:=hb.trans (A1.mono hb.size);replace A0:=Nat.lt_of_lt_of_le A0 A1.size;clear A1;go_wp2_with fail;rw[rounds_succ];go_wp2_with fail;rw[rounds_succ];go_wp2
     go_ret2;exact Qb (by rw[HD.out];simp only[<-AM]) hb
    |true=>
     obtain ⟨MM,rfl,lMM,lMM2⟩:=Bw A5.out.omi (by decide) (by decide) H1.out;obtain ⟨SS,rfl,lSS,lSS2⟩:=Bw A5.out.osc (by decide) (by decide) H2.out;obtain rfl:zo=false:=(by rcases Bool.eq_false_or_eq_true zo with e|e;exact absurd (HZ.out e) (by decide);exact e);have HD:=hid (show DI ⟨y,mo,d,h,MM,SS,false,zn⟩=DT++[84]++[45]++BG MM 2++BG SS 2 by rw[HS.out,Cc];simp only[HF.out];simp[fb]);have A3:BO h MM SS=[45,57,57]:=HF.out;rw[A3];have A9:=hid A5.out.oz;clear A3 HF HN HS HZ A5;have gMM:=AY (MM:Int) 2;have gSS:=AY (SS:Int) 2;go_wp2_with fail;have ix0:=ix0 h (MM:Int) (SS:Int);have ix1:=ix1 h (MM:Int) (SS:Int);have ix2:=ix2 h (MM:Int) (SS:Int);refine wp_loop_rounds 4 ?_;rw[rounds_succ];go_wp2_with fail;rw[rounds_succ];go_wp2_with fail;refine (digits2 MM _ (by omega)).mono ?_;rintro e v0 ⟨rfl,A1⟩;replace k6:=(A1.cell (p:=(Ad w.heap.size 6)) A0).trans k6;replace k7:=(A1.cell (p:=(Ad w.heap.size 7)) A0).trans k7;replace hb:=hb.trans (A1.mono hb.size);replace A0:=Nat.lt_of_lt_of_le A0 A1.size;clear A1;go_wp2_with fail;rw[rounds_succ];go_wp2_with fail;refine (digits2 SS _ (by omega)).mono ?_;rintro e v1 ⟨rfl,A4⟩;replace k6:=(A4.cell (p:=(Ad w.heap.size 6)) A0).trans k6;replace k7:=(A4.cell (p:=(Ad w.heap.size 7)) A0).trans k7;replace hb:=hb.trans (A4.mono hb.size);replace A0:=Nat.lt_of_lt_of_le A0 A4.size;clear A4;go_wp2_with fail;rw[rounds_succ];go_wp2
     go_ret2;exact Qb (by rw[HD.out];simp only[<-AM]) hb
  |true=>
   cases x1 with
   |false=>
    cases x2 with
    |false=>
     obtain ⟨HH,rfl,lHH,lHH2⟩:=Bw A5.out.oh (by decide) (by decide) H0.out;cases zo with
     |false=>
      have HD:=hid (show DI ⟨y,mo,d,HH,mi,sc,false,zn⟩=DT++[84]++BG HH 2 by rw[HS.out,Cc];simp only[HF.out];simp[fb]);have A3:BO HH mi sc=[57,45,45]:=HF.out;rw[A3];have A9:=hid A5.out.oz;clear A3 HF HN HS HZ A5;have gHH:=AY (HH:Int) 2;go_wp2_with fail;have ix0:=ix0 (HH:Int) mi sc;have ix1:=ix1 (HH:Int) mi sc;have ix2:=ix2 (HH:Int) mi sc;refine wp_loop_rounds 4 ?_;rw[rounds_succ];go_wp2_with fail;refine (digits2 HH _ (by omega)).mono ?_;rintro e v0 ⟨rfl,A1⟩;replace k6:=(A1.cell (p:=(Ad w.heap.size 6)) A0).trans k6;replace k7:=(A1.cell (p:=(Ad w.heap.size 7)) A0).trans k7;replace hb:=hb.trans (A1.mono hb.size);replace A0:=Nat.lt_of_lt_of_le A0 A1.size;clear A1;go_wp2_with fail;rw[rounds_succ];go_wp2_with fail;rw[rounds_succ];go_wp2_with fail;rw[rounds_succ];go_wp2
      go_ret2;exact Qb (by rw[HD.out];simp only[<-AM]) hb
     |true=>
      have HD:=hid (show DI ⟨y,mo,d,HH,mi,sc,true,zn⟩=DT++[84]++BG HH 2++CL zn by rw[HS.out,Cc];simp only[HF.out];simp[fb]);have A3:BO HH mi sc=[57,45,45]:=HF.out;rw[A3];have A9:=hid A5.out.oz;clear A3 HF HN HS HZ A5;have gHH:=AY (HH:Int) 2;go_wp2_with fail;have ix0:=ix0 (HH:Int) mi sc;have ix1:=ix1 (HH:Int) mi sc;have ix2:=ix2 (HH:Int) mi sc;refine wp_loop_rounds 4 ?_;rw[rounds_succ];go_wp2_with fail;refine (digits2 HH _ (by omega)).mono ?_;rintro e v0 ⟨rfl,A1⟩;replace k6:=(A1.cell (p:=(Ad w.heap.size 6)) A0).trans k6;replace k7:=(A1.cell (p:=(Ad w.heap.size 7)) A0).trans k7;replace hb:=hb.trans (A1.mono hb.size);replace A0:=Nat.lt_of_lt_of_le A0 A1.size;clear A1;go_wp2_with fail;rw[rounds_succ];go_wp2_with fail;rw[rounds_succ];go_wp2_with fail;rw[rounds_succ];go_wp2_with fail;refine (EC zn _ A9.out).mono ?_;rintro e v9 ⟨rfl,AW⟩;replace hb:=hb.trans (AW.mono hb.size);have gZ:=Ep zn;go_wp2
      go_ret2;exact Qb (by rw[HD.out];simp only[<-AM]) hb
    |true=>
     exact absurd (HN.out rfl rfl) (by decide)
   |true=>
    cases x2 with
    |false=>
     obtain ⟨HH,rfl,lHH,lHH2⟩:=Bw A5.out.oh (by decide) (by decide) H0.out;obtain ⟨MM,rfl,lMM,lMM2⟩:=Bw A5.out.omi (by decide) (by decide) H1.out;cases zo with
     |false=>
      have HD:=hid (show DI ⟨y,mo,d,HH,MM,sc,false,zn⟩=DT++[84]++BG HH 2++BG MM 2 by rw[HS.out,Cc];simp only[HF.out];simp[fb]);have A3:BO HH MM sc=[57,57,45]:=HF.out;rw[A3];have A9:=hid A5.out.oz;clear A3 HF HN HS HZ A5;have gHH:=AY (HH:Int) 2;have gMM:=AY (MM:Int) 2;go_wp2_with fail;have ix0:=ix0 (HH:Int) (MM:Int) sc;have ix1:=ix1 (HH:Int) (MM:Int) sc;have ix2:=ix2 (HH:Int) (MM:Int) sc;refine wp_loop_rounds 4 ?_;rw[rounds_succ];go_wp2_with fail;refine (digits2 HH _ (by omega)).mono ?_;rintro e v0 ⟨rfl,A1⟩;replace k6:=(A1.cell (p:=(Ad w.heap.size 6)) A0).trans k6;replace k7:=(A1.cell (p:=(Ad w.heap.size 7)) A0).trans k7;replace hb:=hb.trans (A1.mono hb.size);replace A0:=Nat.lt_of_lt_of_le A0 A1.size;clear A1;go_wp2_with fail;rw[rounds_succ];go_wp2_with fail;refine (digits2 MM _ (by omega)).mono ?_;rintro e v1 ⟨rfl,A4⟩;replace k6:=(A4.cell (p:=(Ad w.heap.size 6)) A0).trans k6;replace k7:=(A4.cell (p:=(Ad w.heap.size 7)) A0).trans k7;replace hb:=hb.trans (A4.mono hb.size);replace A0:=Nat.lt_of_lt_of_le A0 A4.size;clear A4;go_wp2_with fail;rw[rounds_succ];go_wp2_with fail;rw[rounds_succ];go_wp2
      go_ret2;exact Qb (by rw[HD.out];simp only[<-AM]) hb
     |true=>
      have HD:=hid (show DI ⟨y,mo,d,HH,MM,sc,true,zn⟩=DT++[84]++BG HH 2++BG MM 2++CL zn by rw[HS.out,Cc];simp only[HF.out];simp[fb]);have A3:BO HH MM sc=[57,57,45]:=HF.out;rw[A3];have A9:=hid A5.out.oz;clear A3 HF HN HS HZ A5;have gHH:=AY (HH:Int) 2;have gMM:=AY (MM:Int) 2;go_wp2_with fail;have ix0:=ix0 (HH:Int) (MM:Int) sc;have ix1:=ix1 (HH:Int) (MM:Int) sc;have ix2:=ix2 (HH:Int) (MM:Int) sc;refine wp_loop_rounds 4 ?_;rw[rounds_succ];go_wp2_with fail;refine (digits2 HH _ (by omega)).mono ?_;rintro e v0 ⟨rfl,A1⟩;replace k6:=(A1.cell (p:=(Ad w.heap.size 6)) A0).trans k6;replace k7:=(A1.cell (p:=(Ad w.heap.size 7)) A0).trans k7;replace hb:=hb.trans (A1.mono hb.size);replace A0:=Nat.lt_of_lt_of_le A0 A1.size;clear A1;go_wp2_with fail;rw[rounds_succ];go_wp2_with fail;refine (digits2 MM _ (by omega)).mono ?_;rintro e v1 ⟨rfl,A4⟩;replace k6:=(A4.cell (p:=(Ad w.heap.size 6)) A0).trans k6;replace k7:=(A4.cell (p:=(Ad w.heap.size 7)) A0).trans k7;replace hb:=hb.trans (A4.mono hb.size);replace A0:=Nat.lt_of_lt_of_le A0 A4.size;clear A4;go_wp2_with fail;rw[rounds_succ];go_wp2_with fail;rw[rounds_succ];go_wp2_with fail;refine (EC zn _ A9.out).mono ?_;rintro e v9 ⟨rfl,AW⟩;replace hb:=hb.trans (AW.mono hb.size);have gZ:=Ep zn;go_wp2
      go_ret2;exact Qb (by rw[HD.out];simp only[<-AM]) hb
    |true=>
     obtain ⟨HH,rfl,lHH,lHH2⟩:=Bw A5.out.oh (by decide) (by decide) H0.out;obtain ⟨MM,rfl,lMM,lMM2⟩:=Bw A5.out.omi (by decide) (by decide) H1.out;obtain ⟨SS,rfl,lSS,lSS2⟩:=Bw A5.out.osc (by decide) (by decide) H2.out;cases zo with
     |false=>
      have HD:=hid (show DI ⟨y,mo,d,HH,MM,SS,false,zn⟩=DT++[84]++BG HH 2++BG MM 2++BG SS 2 by rw[HS.out,Cc];simp only[HF.out];simp[fb]);have A3:BO HH MM SS=[57,57,57]:=HF.out;rw[A3];have A9:=hid A5.out.oz;clear A3 HF HN HS HZ A5;have gHH:=AY (HH:Int) 2;have gMM:=AY (MM:Int) 2;have gSS:=AY (SS:Int) 2;go_wp2_with fail;have ix0:=ix0 (HH:Int) (MM:Int) (SS:Int);have ix1:=ix1 (HH:Int) (MM:Int) (SS:Int);have ix2:=ix2 (HH:Int) (MM:Int) (SS:Int);refine wp_loop_rounds 4 ?_;rw[rounds_succ];go_wp2_with fail;refine (digits2 HH _ (by omega)).mono ?_;rintro e v0 ⟨rfl,A1⟩;replace k6:=(A1.cell (p:=(Ad w.heap.size 6)) A0).trans k6;replace k7:=(A1.cell (p:=(Ad w.heap.size 7)) A0).trans k7;replace hb:=hb.trans (A1.mono hb.size);replace A0:=Nat.lt_of_lt_of_le A0 A1.size;clear A1;go_wp2_with fail;rw[rounds_succ];go_wp2_with fail;refine (digits2 MM _ (by omega)).mono ?_;rintro e v1 ⟨rfl,A4⟩;replace k6:=(A4.cell (p:=(Ad w.heap.size 6)) A0).trans k6;replace k7:=(A4.cell (p:=(Ad w.heap.size 7)) A0).trans k7;replace hb:=hb.trans (A4.mono hb.size);replace A0:=Nat.lt_of_lt_of_le A0 A4.size;clear A4;go_wp2_with fail;rw[rounds_succ];go_wp2_with fail;refine (digits2 SS _ (by omega)).mono ?_;rintro e v2 ⟨rfl,A7⟩;replace k6:=(A7.cell (p:=(Ad w.heap.size 6)) A0).trans k6;replace k7:=(A7.cell (p:=(Ad w.heap.size 7)) A0).trans k7;replace hb:=hb.trans (A7.mono hb.size);replace A0:=Nat.lt_of_lt_of_le A0 A7.size;clear A7;go_wp2_with fail;rw[rounds_succ];go_wp2
      go_ret2;exact Qb (by rw[HD.out];simp only[<-AM]) hb
     |true=>
      have HD:=hid (show DI ⟨y,mo,d,HH,MM,SS,true,zn⟩=DT++[84]++BG HH 2++BG MM 2++BG SS 2++CL zn by rw[HS.out,Cc];simp only[HF.out];simp[fb]);have A3:BO HH MM SS=[57,57,57]:=HF.out;rw[A3];have A9:=hid A5.out.oz;clear A3 HF HN HS HZ A5;have gHH:=AY (HH:Int) 2;have gMM:=AY (MM:Int) 2;have gSS:=AY (SS:Int) 2;go_wp2_with fail;have ix0:=ix0 (HH:Int) (MM:Int) (SS:Int);have ix1:=ix1 (HH:Int) (MM:Int) (SS:Int);have ix2:=ix2 (HH:Int) (MM:Int) (SS:Int);refine wp_loop_rounds 4 ?_;rw[rounds_succ];go_wp2_with fail;refine (digits2 HH _ (by omega)).mono ?_;rintro e v0 ⟨rfl,A1⟩;replace k6:=(A1.cell (p:=(Ad w.heap.size 6)) A0).trans k6;replace k7:=(A1.cell (p:=(Ad w.heap.size 7)) A0).trans k7;replace hb:=hb.trans (A1.mono hb.size);replace A0:=Nat.lt_of_lt_of_le A0 A1.size;clear A1;go_wp2_with fail;rw[rounds_succ];go_wp2_with fail;refine (digits2 MM _ (by omega)).mono ?_;rintro e v1 ⟨rfl,A4⟩;replace k6:=(A4.cell (p:=(Ad w.heap.size 6)) A0).trans k6;replace k7:=(A4.cell (p:=(Ad w.heap.size 7)) A0).trans k7;replace hb:=hb.trans (A4.mono hb.size);replace A0:=Nat.lt_of_lt_of_le A0 A4.size;clear A4;go_wp2_with fail;rw[rounds_succ];go_wp2_with fail;refine (digits2 SS _ (by omega)).mono ?_;rintro e v2 ⟨rfl,A7⟩;replace k6:=(A7.cell (p:=(Ad w.heap.size 6)) A0).trans k6;replace k7:=(A7.cell (p:=(Ad w.heap.size 7)) A0).trans k7;replace hb:=hb.trans (A7.mono hb.size);replace A0:=Nat.lt_of_lt_of_le A0 A7.size;clear A7;go_wp2_with fail;rw[rounds_succ];go_wp2_with fail;refine (EC zn _ A9.out).mono ?_;rintro e v9 ⟨rfl,AW⟩;replace hb:=hb.trans (AW.mono hb.size);have gZ:=Ep zn;go_wp2
      go_ret2;exact Qb (by rw[HD.out];simp only[<-AM]) hb
def Oy (k:Nat):Str:=(DB.getD k []).getD 0 []
def DY (T:Str):Nat->Nat->Int
 |0,_=> -1
 |n+1,k=>if Oy k=T then (k:Int) else DY T n (k+1)
def Ue (x y z:Bool):Str:=(if x then [97] else [])++(if y then [98] else [])++(if z then [99] else [])
def C4 (x y z:Bool):Int:=DY (Ue x y z) 7 0
theorem RD (T:Str) (B:Nat) (w:World) (n:Nat) (k:Nat) (h:n=7- k) (hk:k<7):DY T n k=if Oy k=T then (k:Int) else DY T (7-(k+1)) (k+1):=by obtain ⟨m,rfl⟩: ∃m,n=m+1:=⟨n- 1,by omega⟩;rw[DY,show 7-(k+1)=m by omega]
theorem DM (a b c:Int) (B:Nat) (w:World) (h0:w.cell? (Ad B 0)=some (Iv a)) (h1:w.cell? (Ad B 1)=some (Iv b)) (h2:w.cell? (Ad B 2)=some (Iv c)) (hB:B<w.heap.size) (hL:LD w):
 Calls prog 158 #[.slice (some (Ad B 0)) 3 3] w fun e w'=>e= .returned (.int .i64 (C4 (a != -1) (b != -1) (c != -1)))/\Below w.heap.size w w':=by
 obtain ⟨LB,B3⟩:=hL;obtain ⟨sb,so,sc,hg,W1,S1⟩:=B3.sh;have F2:sb<w.heap.size:=(by have:=B3.le;omega);have h4:4<w.heap.size:=(by have:=B3.le;have:=B3.n10;omega);have HS: ∀k,k<7->Hid (∀j,j<3->w.cell? (Ad sb (so+k*3+j))=some (.string ⟨((DB.getD k []).getD j []).toArray⟩)):=fun k hk=>hid (S1 k hk);have F3:=hid HS;clear HS S1 B3 W1;obtain ⟨x,hx⟩: ∃x,(a != -1)=x:=⟨_,rfl⟩;obtain ⟨y,hy⟩: ∃y,(b != -1)=y:=⟨_,rfl⟩;obtain ⟨z,hz⟩: ∃z,(c != -1)=z:=⟨_,rfl⟩;rw[hx,hy,hz];obtain ⟨T,hT⟩: ∃T,Ue x y z=T:=⟨_,rfl⟩;have HT:=hid hT;obtain ⟨R,hR⟩: ∃R,R=C4 x y z:=⟨_,rfl⟩;rw[<-hR];have HR:=hid (show R=DY T 7 0 by rw[hR,<-hT];rfl);clear hR hT;go_enter func158,ntmps158;go_upto_block 0 with fail;go_cut [3] from 10 to 23 (fun s3 wz=>s3=Sv T/\w=wz);case first=>
  have x0:(⟨#[97,98,99]⟩:ByteArray).extract 0 1=⟨#[97]⟩:=GN [97,98,99] (k:=0) (by decide) rfl;have x1:(⟨#[97,98,99]⟩:ByteArray).extract 1 2=⟨#[98]⟩:=GN [97,98,99] (k:=1) (by decide) rfl;have x2:(⟨#[97,98,99]⟩:ByteArray).extract 2 3=⟨#[99]⟩:=GN [97,98,99] (k:=2) (by decide) rfl;clear HR F3 F2 h4 hg;cases x<;>cases y<;>cases z
  all_goals
   go_wp2_with fail;refine wp_loop_rounds 4 ?_;iterate 4 (rw[rounds_succ];go_wp2_with fail)
   go_meet;exact ⟨Af (by rw[<-HT.out];rfl),rfl⟩
 case rest=>
 obtain ⟨rfl,rfl⟩:=hcut;clear h0 h1 h2 hx hy hz HT;go_wp2
 go_loopw [6,7,26] (fun _ _ i wr=> ∃k:Nat,i=Iv k/\k<=7/\Hid (R=DY T (7- k) k)/\Below w.heap.size w wr) (fun _ _ i _=>7-(intOf i).toNat);case atStart=>exact ⟨0,rfl,by omega,HR,zB⟩
 case round=>
  obtain ⟨k,rfl,hk,HK,hb⟩:=hrel;by_cases A0:k<7
  ·obtain ⟨t0,HY⟩: ∃t,t=Oy k:=⟨_,rfl⟩;have T5:=hid (show R=if t0=T then (k:Int) else DY T (7-(k+1)) (k+1) by rw[HK.out,RD _ LB w _ k rfl A0,HY]);have q0:wr.cell? (Ad sb (so+k*3))=some (Sv t0):=(by rw[hb.cell (p:=(Ad sb (so+k*3))) F2,HY];exact (F3.out k A0).out 0 (by omega));obtain ⟨t1,q1⟩: ∃t:Str,wr.cell? (Ad sb (so+k*3+1))=some (Sv t):=⟨_,by rw[hb.cell (p:=(Ad sb (so+k*3+1))) F2];exact (F3.out k A0).out 1 (by omega)⟩;obtain ⟨t2,q2⟩: ∃t:Str,wr.cell? (Ad sb (so+k*3+2))=some (Sv t):=⟨_,by rw[hb.cell (p:=(Ad sb (so+k*3+2))) F2];exact (F3.out k A0).out 2 (by omega)⟩;clear HY;by_cases hv:t0=T
   ·have HF:=hid (show R=(k:Int) by rw[T5.out,if_pos hv]);subst hv;go_wp2
    go_ret;exact ⟨CH HF.out.symm,hb.alloc hb.size _⟩
   ·have HF:=hid (show R=DY T (7-(k+1)) (k+1) by rw[T5.out,if_neg hv]);have WF:(t0==T)=false:=(by simpa using hv);go_wp2
    go_roundw;case rel=>exact ⟨k+1,by go_num,by omega,HF,hb.alloc hb.size _⟩
    case measure=>simp[intOf];omega
  ·have W2:k=7:=(by omega);subst W2;have HF:=hid (show R= -1 from HK.out);go_wp2
   go_ret;exact ⟨CH HF.out.symm,hb⟩
def YF (v:Vl) (q:Value):Value:= .agg (VA v q)
def YG (d:Nat) (xs ys:Array Value):List (String×TypeId×Nat)->Sem Bool
 |[]=>pure true
 |f::fs=>
  if f.1≠ "_" then do
   let a<-part f.2.1 xs f.2.2
   let b<-part f.2.1 ys f.2.2
   let r<-Op.equalIn d f.2.1 a b
   if (!r)=true then pure false else YG d xs ys fs
  else YG d xs ys fs
theorem Ob (d:Nat) (xs ys:Array Value): ∀(L:List Field),Op.eqFields d xs ys L=YG d xs ys (L.map fun f=>(f.name,f.type,f.offset))
 |[]=>rfl
 |f::fs=>by rw[Op.eqFields,List.map_cons,YG,Ob d xs ys fs]
theorem C1 {d:Nat} {xs ys:Array Value} {n:String} {t:TypeId} {k:Nat} {fs:List (String×TypeId×Nat)} {a b:Value} {r:Bool} {w:World} (W3:n≠ "_")
 (ha:(part t xs k).run prog w= .ok a w) (hb:(part t ys k).run prog w= .ok b w) (hr:(Op.equalIn d t a b).run prog w= .ok r w):
 (YG d xs ys ((n,t,k)::fs)).run prog w=if r then (YG d xs ys fs).run prog w else .ok false w:=by
 rw[YG,if_pos W3];simp only[Sem.run_bind,ha,hb,hr,Result.andThen_ok];cases r<;>simp
theorem YH (d:Nat) (a b:Int) (w:World):(Op.equalIn (d+1) 3 (Iv a) (Iv b)).run prog w= .ok (a==b) w:=run_equalIn_int w d 3 .i64 .i64 a b underlying3
theorem Xc (d:Nat) (a b:Bool) (w:World):(Op.equalIn (d+1) 4 (.bool a) (.bool b)).run prog w= .ok (a==b) w:=run_equalIn_bool' w d 4 a b underlying4
def YI (s:St):Array Value:= #[Iv s.y,Iv s.mo,Iv s.d,Iv s.h,Iv s.mi,Iv s.s,.bool s.zoned,Iv s.zone]
theorem YJ:(prog.fieldsOf 40).toList.map (fun f=>(f.name,f.type,f.offset))=[("Year",3,0),("Month",3,1),("Day",3,2),("Hour",3,3),("Minute",3,4),("Second",3,5),("Zoned",4,6),("Zone",3,7)]:=by kernel_rfl
theorem YK:prog.underlying 40=some (.struct (prog.fieldsOf 40)):=by kernel_rfl
theorem YL:prog.stoodInHeld 40=false:=by kernel_rfl
def GQ (a b:St):Bool:=a.y==b.y&&(a.mo==b.mo&&(a.d==b.d&&(a.h==b.h&&(a.mi==b.mi&&(a.s==b.s&&(a.zoned==b.zoned&&(a.zone==b.zone&&true)))))))
theorem Ds {a b:Bool} {w:World} {x:Result Bool} (h:x= .ok b w):(if a then x else .ok false w)=Result.ok (a&&b) w:=by rw[h];cases a<;>rfl
theorem SF (a b:St) (w:World):(Op.equalIn 10000 40 (.agg (YI a)) (.agg (YI b))).run prog w= .ok (GQ a b) w:=by rw[run_equalIn_agg _ _ _ _ _ YK YL,Ob,YJ];obtain ⟨y,mo,d,h,mi,s,z,zn⟩:=a;obtain ⟨y',mo',d',h',mi',s',z',zn'⟩:=b;refine (C1 (by decide) (by kernel_rfl) (by kernel_rfl) (YH _ y y' w)).trans (Ds ?_);refine (C1 (by decide) (by kernel_rfl) (by kernel_rfl) (YH _ mo mo' w)).trans (Ds ?_);refine (C1 (by decide) (by kernel_rfl) (by kernel_rfl) (YH _ d d' w)).trans (Ds ?_);refine (C1 (by decide) (by kernel_rfl) (by kernel_rfl) (YH _ h h' w)).trans (Ds ?_);refine (C1 (by decide) (by kernel_rfl) (by kernel_rfl) (YH _ mi mi' w)).trans (Ds ?_);refine (C1 (by decide) (by kernel_rfl) (by kernel_rfl) (YH _ s s' w)).trans (Ds ?_);refine (C1 (by decide) (by kernel_rfl) (by kernel_rfl) (Xc _ z z' w)).trans (Ds ?_);refine (C1 (by decide) (by kernel_rfl) (by kernel_rfl) (YH _ zn zn' w)).trans (Ds ?_);rfl
theorem Si (a b:St) (w:World):(binOp .eql 40 (.agg (YI a)) (.agg (YI b))).run prog w= .ok (.bool (GQ a b)) w:=by rw[run_eql_struct,SF];rfl
theorem J4 (a b:St) (w:World):(binOp .neq 40 (.agg (YI a)) (.agg (YI b))).run prog w= .ok (.bool (!GQ a b)) w:=by rw[run_neq_struct,SF];rfl
theorem GR (s:St):GQ s ⟨0,0,0,0,0,0,false,0⟩=El s:=by unfold GQ El;cases s.zoned<;>simp[Bool.and_assoc]
theorem Vo (y mo d h mi sc:Int) (zo:Bool) (zn:Int) (w:World):(binOp .eql 40 (.agg #[Iv y,Iv mo,Iv d,Iv h,Iv mi,Iv sc,.bool zo,Iv zn]) (.agg #[Iv 0,Iv 0,Iv 0,Iv 0,Iv 0,Iv 0,.bool false,Iv 0])).run prog w= .ok (.bool (El ⟨y,mo,d,h,mi,sc,zo,zn⟩)) w:=by rw[<-GR];exact Si ⟨y,mo,d,h,mi,sc,zo,zn⟩ ⟨0,0,0,0,0,0,false,0⟩ w
theorem Vp (y mo d h mi sc:Int) (zo:Bool) (zn:Int) (w:World):(binOp .neq 40 (.agg #[Iv y,Iv mo,Iv d,Iv h,Iv mi,Iv sc,.bool zo,Iv zn]) (.agg #[Iv 0,Iv 0,Iv 0,Iv 0,Iv 0,Iv 0,.bool false,Iv 0])).run prog w= .ok (.bool (!El ⟨y,mo,d,h,mi,sc,zo,zn⟩)) w:=by rw[<-GR];exact J4 ⟨y,mo,d,h,mi,sc,zo,zn⟩ ⟨0,0,0,0,0,0,false,0⟩ w
theorem Qz (a b c:Bool):a=false∨(a=true/\b=false)∨(a=true/\b=true/\c=false)∨(a=true/\b=true/\c=true):=by cases a<;>cases b<;>cases c<;>simp
theorem OC {P Q:Prop} (h:P) (k:P->Q):Q:=k h
theorem MQ (v:Vl) (A:Option Addr) (c:Nat) (w:World) (h1:1<=v.type) (h8:v.type<=8):Calls prog 133 #[YF v (.slice A v.parts.length c)] w fun e w'=>e= .returned (.bool (Iy v))/\Below w.heap.size w w':=by
 obtain ⟨ty,text,parts,⟨y,mo,d,h,mi,sc,zo,zn⟩,n⟩:=v;simp only at h1 h8;have HO:=hid (show Iy ⟨ty,text,parts,⟨y,mo,d,h,mi,sc,zo,zn⟩,n⟩=((ty==1||ty==4||ty==7||ty==8||text.isEmpty)&&(ty==2||ty==3||parts.isEmpty)&&(ty==5||El ⟨y,mo,d,h,mi,sc,zo,zn⟩)&&(ty==6||n==0)) from rfl);have AB:=Vo y mo d h mi sc zo zn;obtain ⟨e3,h3⟩: ∃x,El ⟨y,mo,d,h,mi,sc,zo,zn⟩=x:=⟨_,rfl⟩;obtain ⟨e4,h4⟩: ∃x,(n==0)=x:=⟨_,rfl⟩;obtain ⟨e1,h5⟩: ∃x,text.isEmpty=x:=⟨_,rfl⟩;obtain ⟨e2,h6⟩: ∃x,parts.isEmpty=x:=⟨_,rfl⟩;rw[h3] at AB;rw[h3,h4,h5,h6] at HO;have g1:(text==[])=e1:=(by rw[<-h5];cases text<;>rfl);have g2:((parts.length:Int)==0)=e2:=(by rw[<-h6];cases parts<;>rfl);clear h3 h5 h6;show Calls prog 133 #[.agg #[Iv ty,Sv text,.slice A parts.length c,Iv y,Iv mo,Iv d,Iv h,Iv mi,Iv sc,.bool zo,Iv zn,Iv n]] w _;have W4:Below w.heap.size w (w.alloc (.cells #[Iv ty,Sv text,.slice A parts.length c,Iv y,Iv mo,Iv d,Iv h,Iv mi,Iv sc,.bool zo,Iv zn,Iv n] 42)):=zA;obtain ⟨OV,TT⟩: ∃OV,Iy ⟨ty,text,parts,⟨y,mo,d,h,mi,sc,zo,zn⟩,n⟩=OV:=⟨_,rfl⟩;rw[TT] at HO⊢;clear TT;rcases (show ty=1∨ty=2∨ty=3∨ty=4∨ty=5∨ty=6∨ty=7∨ty=8 by omega) with rfl|rfl|rfl|rfl|rfl|rfl|rfl|rfl;all_goals
  first
   |(refine OC (P:=Hid (OV=(e2&&e3&&e4))) ?_ fun h3=> ?_;(focus refine hid (HO.out.trans ?_);cases e2<;>cases e3<;>cases e4<;>rfl);rcases Qz e2 e3 e4 with rfl|⟨rfl,rfl⟩|⟨rfl,rfl,rfl⟩|⟨rfl,rfl,rfl⟩)
   |(refine OC (P:=Hid (OV=(e1&&e3&&e4))) ?_ fun h3=> ?_;(focus refine hid (HO.out.trans ?_);cases e1<;>cases e3<;>cases e4<;>rfl);rcases Qz e1 e3 e4 with rfl|⟨rfl,rfl⟩|⟨rfl,rfl,rfl⟩|⟨rfl,rfl,rfl⟩)
   |(refine OC (P:=Hid (OV=(e1&&e2&&e4))) ?_ fun h3=> ?_;(focus refine hid (HO.out.trans ?_);cases e1<;>cases e2<;>cases e4<;>rfl);rcases Qz e1 e2 e4 with rfl|⟨rfl,rfl⟩|⟨rfl,rfl,rfl⟩|⟨rfl,rfl,rfl⟩)
   |(refine OC (P:=Hid (OV=(e1&&e2&&e3))) ?_ fun h3=> ?_;(focus refine hid (HO.out.trans ?_);cases e1<;>cases e2<;>cases e3<;>rfl);rcases Qz e1 e2 e3 with rfl|⟨rfl,rfl⟩|⟨rfl,rfl,rfl⟩|⟨rfl,rfl,rfl⟩)
 all_goals
  clear h1 h8 HO;go_enter func133,ntmps133;go_wp2
  go_ret;exact ⟨AD (by rw[h3.out];rfl),W4⟩
def sL (l:List Str):Nat:=(l.map List.length).sum
def sP (l:List Pm):Nat:=(l.map fun p=>p.name.length+p.vals.length+sL p.vals).sum
def YM (l:List (List Str)):Nat:=(l.map fun x=>x.length+sL x).sum
theorem Oc {l:List Str} {k:Nat} {s:Str} (h:l[k]? =some s):sL (l.take (k+1))=sL (l.take k)+s.length:=by unfold sL;rw[List.take_add_one,h];simp
theorem Sj {l:List Pm} {k:Nat} {p:Pm} (h:l[k]? =some p):sP (l.take (k+1))=sP (l.take k)+(p.name.length+p.vals.length+sL p.vals):=by unfold sP;rw[List.take_add_one,h];simp
theorem Q0 {l:List (List Str)} {k:Nat} {x:List Str} (h:l[k]? =some x):YM (l.take (k+1))=YM (l.take k)+(x.length+sL x):=by unfold YM;rw[List.take_add_one,h];simp
theorem GS: ∀(l:List Str) (k:Nat),sL (l.take k)<=sL l
 |[],k=>by simp
 |s::l,0=>by simp[sL]
 |s::l,k+1=>by have:=GS l k;unfold sL at this⊢;simp only[List.take_succ_cons,List.map_cons,List.sum_cons];omega
theorem LU: ∀(l:List Pm) (k:Nat),sP (l.take k)<=sP l
 |[],k=>by simp
 |s::l,0=>by simp[sP]
 |s::l,k+1=>by have:=LU l k;unfold sP at this⊢;simp only[List.take_succ_cons,List.map_cons,List.sum_cons];omega
theorem I9: ∀(l:List (List Str)) (k:Nat),YM (l.take k)<=YM l
 |[],k=>by simp
 |s::l,0=>by simp[YM]
 |s::l,k+1=>by have:=I9 l k;unfold YM at this⊢;simp only[List.take_succ_cons,List.map_cons,List.sum_cons];omega
theorem JA {α:Type} {l:List α} {k:Nat} {x:α} (h:l.drop k=x::l.drop (k+1)):l[k]? =some x:=by
 have:=congrArg List.head? h
 rwa [List.head?_drop] at this
theorem Q3 (g n:Str) (ps:List Pm) (A:Option Addr) (c:Nat) (w:World) (h:Xv w w.heap.size (.slice A ps.length c) ps) (hs:ps.length+g.length+n.length+sP ps<=1073741824):
 Calls prog 9 #[.agg #[Sv g,Sv n,.slice A ps.length c,.string ⟨#[]⟩]] w fun e w'=>e= .returned (.bool (decide (2500<ps.length+g.length+n.length+sP ps)))/\Below w.heap.size w w':=by
 have H:=hid h;have W5:ps.length<=1073741824:=(by omega);clear h;obtain ⟨W0,DA,IB,a0,a1,a2,a3,H4⟩: ∃W:World,w.alloc (.cells #[Sv g,Sv n,.slice A ps.length c,.string ⟨#[]⟩] 47)=W/\Below w.heap.size w W/\W.cell? (Ad w.heap.size 0)=some (Sv g)/\W.cell? (Ad w.heap.size 1)=some (Sv n)/\W.cell? (Ad w.heap.size 2)=some (.slice A ps.length c)/\W.cell? (Ad w.heap.size 3)=some (.string ⟨#[]⟩)/\W.heap.size=w.heap.size+1:=
  ⟨_,rfl,zA,by simp,by simp,by simp,by simp,by simp⟩
 go_enter func9,ntmps9;go_wp2_with fail;(try rw[DA]);clear DA;go_wp2
 go_loopw [3,5,7,26] (fun s3 _ _ KI wr=> ∃k:Nat,k<=ps.length/\KI=Iv k/\s3=Iv ((ps.length+g.length+n.length+sP (ps.take k):Nat):Int)/\Below w.heap.size w wr/\Below W0.heap.size W0 wr) (fun _ _ _ KI _=>ps.length-(intOf KI).toNat);case atStart=>exact ⟨0,by omega,rfl,by simp[sP],IB,zB⟩
 case round=>
  obtain ⟨k,hk,rfl,rfl,hb,TX⟩:=hrel;have AB:=LU ps k;by_cases A0:k<ps.length
  ·obtain ⟨b,o,p,u,rfl,F4,hd,c0,c1,AB⟩:=H.out.at_ A0;have DD:=JA hd;have FB:=Sj DD;have E0:=LU ps (k+1);have d0:=(hb.cell (p:=(Ad b (o+k*2))) F4).trans c0;have d1:=(hb.cell (p:=(Ad b (o+k*2+1))) F4).trans c1;obtain ⟨B,d,rfl⟩:=AB.form;have L1:=hid AB;have X1:=hid FB;obtain ⟨bq,G1⟩: ∃bq,wr.heap.size=bq:=⟨_,rfl⟩;obtain ⟨Wr,L2,A2,p0,p1,X2⟩: ∃W:World,wr.alloc (.cells #[Sv p.name,vP B p d] 57)=W/\Below wr.heap.size wr W/\W.cell? (Ad bq 0)=some (Sv p.name)/\W.cell? (Ad bq 1)=some (vP B p d)/\bq<W.heap.size:=
    ⟨_,rfl,zA,by rw[<-G1];simp,by rw[<-G1];simp,by rw[<-G1];simp⟩
   have U1:=hb.trans (A2.mono hb.size);have H3:=TX.trans (A2.mono TX.size);obtain ⟨M,hM⟩: ∃M:Nat,ps.length+g.length+n.length+sP (ps.take k)=M:=⟨_,rfl⟩;rw[hM];have W6:M+(p.name.length+p.vals.length+sL p.vals)<=1073741824:=(by omega);have HM:=hid (show ps.length+g.length+n.length+sP (ps.take (k+1))=M+(p.name.length+p.vals.length+sL p.vals) by omega);clear AB hd DD FB c0 c1 E0 hM hs;go_wp2_with fail;(try rw[L2]);go_wp2_with fail;(try rw[L2]);clear L2;(try rw[G1]);clear d0 d1;go_wp2
   go_loopw [3,7,42] (fun s3 _ L4 L5=> ∃j:Nat,j<=p.vals.length/\L4=Iv j/\s3=Iv ((M+(p.name.length+p.vals.length)+sL (p.vals.take j):Nat):Int)/\Below Wr.heap.size Wr L5) (fun _ _ L4 _=>p.vals.length-(intOf L4).toNat);case atStart=>exact ⟨0,by omega,rfl,by simp[sL],zB⟩
   case round=>
    obtain ⟨j,hj,rfl,rfl,L6⟩:=hrel;have W7:=GS p.vals j;have AV:=U1.trans (L6.mono U1.size);have L7:=H3.trans (L6.mono H3.size);by_cases L8:j<p.vals.length
    ·obtain ⟨b2,o2,s,rfl,E1,E2,e0⟩:=L1.out.at_ L8;have f0:=(AV.cell (p:=(Ad b2 (o2+j))) E1).trans e0;have E3:=Oc (JA E2);have U2:=GS p.vals (j+1);have V5:=hid E3;obtain ⟨M2,L9⟩: ∃M2:Nat,M+(p.name.length+p.vals.length)+sL (p.vals.take j)=M2:=⟨_,rfl⟩;rw[L9];have V6:M2+s.length<=1073741824:=(by omega);clear E2 e0 E3;go_wp2
     go_roundw;case rel=>exact ⟨j+1,by omega,by go_num,by rw[V5.out];congr 1;omega,L6⟩
     case measure=>simp[intOf];omega
    ·have LL:j=p.vals.length:=(by omega);subst LL;rw[List.take_length];go_wp2
     go_roundw;case rel=>exact ⟨k+1,by omega,by go_num,by rw[HM.out];congr 1;omega,AV,L7⟩
     case measure=>simp[intOf];omega
  ·have N0:k=ps.length:=(by omega);subst N0;rw[List.take_length];go_wp2
   go_ret;exact ⟨AD (by rw[Bool.eq_iff_iff];simp;omega),hb⟩
theorem Od (v:Vl) (A:Option Addr) (c:Nat) (w:World) (h:Xw w w.heap.size (.slice A v.parts.length c) v.parts) (hs:v.text.length+v.parts.length+YM v.parts<=1073741824):
 Calls prog 10 #[YF v (.slice A v.parts.length c)] w fun e w'=>e= .returned (.bool (decide (2500<v.text.length+v.parts.length+YM v.parts)))/\Below w.heap.size w w':=by
 have H:=hid h;have W5:v.parts.length<=1073741824:=(by omega);clear h;simp only[YF];obtain ⟨W0,DA,IB,a1,a2,H4⟩: ∃W:World,w.alloc (.cells (VA v (.slice A v.parts.length c)) 42)=W/\Below w.heap.size w W/\W.cell? (Ad w.heap.size 1)=some (Sv v.text)/\W.cell? (Ad w.heap.size 2)=some (.slice A v.parts.length c)/\W.heap.size=w.heap.size+1:=
  ⟨_,rfl,zA,by simp,by simp,by simp⟩
 go_enter func10,ntmps10;go_wp2_with fail;(try rw[DA]);clear DA;go_wp2
 go_loopw [3,5,7,18] (fun s3 _ _ N1 wr=> ∃k:Nat,k<=v.parts.length/\N1=Iv k/\s3=Iv ((v.text.length+v.parts.length+YM (v.parts.take k):Nat):Int)/\Below w.heap.size w wr) (fun _ _ _ N1 _=>v.parts.length-(intOf N1).toNat);case atStart=>exact ⟨0,by omega,rfl,by simp[YM],IB⟩
 case round=>
  obtain ⟨k,hk,rfl,rfl,hb⟩:=hrel;have AB:=I9 v.parts k;by_cases A0:k<v.parts.length
  ·obtain ⟨b,o,p,u,rfl,F4,hd,c0,AB⟩:=H.out.at_ A0;have DD:=JA hd;have FB:=Q0 DD;have E0:=I9 v.parts (k+1);have d0:=(hb.cell (p:=(Ad b (o+k))) F4).trans c0;obtain ⟨B,d,rfl⟩:=AB.form;have L1:=hid AB;obtain ⟨M,hM⟩: ∃M:Nat,v.text.length+v.parts.length+YM (v.parts.take k)=M:=⟨_,rfl⟩;rw[hM];have W6:M+(p.length+sL p)<=1073741824:=(by omega);have HM:=hid (show v.text.length+v.parts.length+YM (v.parts.take (k+1))=M+(p.length+sL p) by omega);clear AB hd DD FB c0 E0 hM hs;go_wp2
   go_loopw [3,7,28] (fun s3 _ N2 L5=> ∃j:Nat,j<=p.length/\N2=Iv j/\s3=Iv ((M+p.length+sL (p.take j):Nat):Int)/\Below w.heap.size w L5) (fun _ _ N2 _=>p.length-(intOf N2).toNat);case atStart=>exact ⟨0,by omega,rfl,by simp[sL],hb⟩
   case round=>
    obtain ⟨j,hj,rfl,rfl,AV⟩:=hrel;have W7:=GS p j;by_cases L8:j<p.length
    ·obtain ⟨b2,o2,s,rfl,E1,E2,e0⟩:=L1.out.at_ L8;have f0:=(AV.cell (p:=(Ad b2 (o2+j))) E1).trans e0;have E3:=Oc (JA E2);have U2:=GS p (j+1);have V5:=hid E3;obtain ⟨M2,L9⟩: ∃M2:Nat,M+p.length+sL (p.take j)=M2:=⟨_,rfl⟩;rw[L9];have V6:M2+s.length<=1073741824:=(by omega);have HJ:=hid (show M+p.length+sL (p.take (j+1))=M2+s.length by omega);clear E2 e0 E3;go_wp2
     go_roundw;case rel=>exact ⟨j+1,by omega,by go_num,by rw[HJ.out];congr 1,AV⟩
     case measure=>simp[intOf];omega
    ·have LL:j=p.length:=(by omega);subst LL;rw[List.take_length];go_wp2
     go_roundw;case rel=>exact ⟨k+1,by omega,by go_num,by rw[HM.out];congr 1;omega,AV⟩
     case measure=>simp[intOf];omega
  ·have N0:k=v.parts.length:=(by omega);subst N0;rw[List.take_length];go_wp2
   go_ret;exact ⟨AD (by rw[Bool.eq_iff_iff];simp;omega),hb⟩
end Go.Proofs.YtjhpdljphchfaaaGreatDoor
