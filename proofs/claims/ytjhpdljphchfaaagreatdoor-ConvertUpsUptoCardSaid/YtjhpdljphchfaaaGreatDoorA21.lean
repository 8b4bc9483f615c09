/- A part of the proof of ConvertUps: JoinParts of the program and of the reference walked, where there is a list and none is empty. -/
import Derived.Test.YtjhpdljphchfaaaGreatDoorA18
import Derived.Test.YtjhpdljphchfaaaGreatDoorA10
import Derived.Test.YtjhpdljphchfaaaGreatDoorA15
import Derived.Test.YtjhpdljphchfaaaGreatDoorA14
import Derived.Test.YtjhpdljphchfaaaGreatDoorA01
import Derived.Test.YtjhpdljphchfaaaGreatDoorA06
set_option maxHeartbeats 40000000
set_option maxRecDepth 1000000
set_option linter.all false
namespace Go.Proofs.YtjhpdljphchfaaaGreatDoor
open Go.RowKit
open Go.Proofs.Tryz
theorem IF (ps:List (List Str)) (A:Option Addr) (c:Nat) (w:World) (hv:Xw w w.heap.size (.slice A ps.length c) ps) (h0:ps≠[]) (h1: ∀l∈ps,l≠[]) (hW:YV ps<=134217728):
 Calls prog 192 #[.slice A ps.length c] w fun e w'=>e= .returned (.tuple #[.string ⟨(EQ ps).toArray⟩,.nilIface])/\Below w.heap.size w w':=by
 have HK:=GX ps;have HL:0<ps.length:=by cases ps with
  |nil=>exact absurd rfl h0
  |cons x r=>simp
 have HN:((ps.length:Int)==0)=false:=(by simp;omega);have HM:=hid fun l (h:l∈ps)=>GW h;have H1:=hid h1;have HJ:=hid (show (EQ ps).length<=1073741824 by have:=FN ps;omega);have HV:=hid hv;clear hv h1;go_enter func192,ntmps192;go_wp2
 go_loopw [4,5,6,7,8,15] (fun v _ _ _ _ i wr=> ∃(k:Nat) (X:List Str),k<=ps.length/\i=Iv k/\Hid (X=(ps.take k).map jnS)/\Ce wr w.heap.size v k X/\Below w.heap.size w wr) (fun _ _ _ _ _ i _=>ps.length-(intOf i).toNat);case atStart=>exact ⟨0,[],by omega,rfl,hid rfl,Ce.nil _ _,zB⟩
 case round=>
  obtain ⟨k,X,hk,rfl,HX,A1,hb⟩:=hrel;have F3:=hb.size;by_cases A5:k<ps.length
  ·obtain ⟨b,o,x,u,rfl,DA,hd,hc,hu⟩:=HV.out.at_ A5;have HQ:=(hb.cell (p:=(Ad b (o+k))) DA).trans hc;have AB:x∈ps:=List.mem_of_mem_drop (by rw[hd];simp);have HA:=HM.out x AB;have G1:=H1.out x AB;have HT:=hid (show X++[jnS x]=(ps.take (k+1)).map jnS by
    rw[List.take_succ_eq_append_getElem A5,List.map_append,HX.out];rw[List.drop_eq_getElem_cons A5] at hd;injection hd with h1 _;rw[h1];rfl)
   obtain ⟨A2,c2,hf⟩:=hu.form;subst hf;have HU:=hid (hu.keep hb F3);have HO:=hid A1;clear hc hd AB A1 HX hu;go_wp2_with fail;refine (Ou x A2 c2 _ HU.out G1 (by omega)).mono ?_;rintro e w1 ⟨rfl,A0⟩;have AL:=hid (Cq HO.out A0);have AN:=hb.trans (A0.mono hb.size);have HS:=AN.size;clear HO A0;go_wp2_with (at_builtin;refine AU rfl _ _ 55 rfl w.heap.size 9 (.string ⟨#[]⟩) 1 16 underlying55 Fm rfl (by decide) (by decide) _ k _ rfl (AL.out.alloc _) w1.heap.size 1 [sV (jnS x)] rfl rfl (Ed _ _ _) (by simp[sV,Value.oneCell']) (by omega) (by simp;omega) ?_;intro g cap w2 A6 _ _ _ A9;refine Hid.out ?_);refine Lib.hid ?_;have AV:=hid (Ce.snoc A6);have A7:=A9.out w (AN.alloc AN.size _);clear A6 A9;go_wp2
   go_roundw;case rel=>exact ⟨k+1,X++[jnS x],by omega,by go_num,HT,AV.out,A7⟩
   case measure=>simp[intOf];omega
  ·obtain rfl:k=ps.length:=(by omega);have AW:=HX.out;rw[List.take_length] at AW;have hS:=hid A1.strs;obtain ⟨A2,c2,hf⟩:=A1.form;subst hf;have DD:=hid (show Bt 59 X=EQ ps by rw[AW,J8]);have DT:(Bt 59 X).length<=1073741824:=(by rw[DD.out];exact HJ.out);have E0:X.length<=1073741824:=(by have:=A1.len;omega);clear A1 AW HX;go_wp2_with fail;refine (Er X 59 _ _ hS.out E0 DT).mono ?_;rintro e w1 ⟨rfl,A0⟩;go_wp2
   go_ret2;exact ⟨by rw[DD.out];rfl,hb.trans (A0.mono hb.size)⟩
theorem IG (ps:List (List Str)) (A:Option Addr) (c:Nat) (w:World) (hv:Xw w w.heap.size (.slice A ps.length c) ps) (h0:ps≠[]) (h1: ∀l∈ps,l≠[]) (hW:YV ps<=134217728):
 Calls prog 160 #[.slice A ps.length c] w fun e w'=>e= .returned (.tuple #[.string ⟨(EQ ps).toArray⟩,.agg #[Iv 0,Iv (-1)]])/\Below w.heap.size w w':=by
 have HK:=GX ps;have HL:0<ps.length:=by cases ps with
  |nil=>exact absurd rfl h0
  |cons x r=>simp
 have HN:((ps.length:Int)==0)=false:=(by simp;omega);have HM:=hid fun l (h:l∈ps)=>GW h;have H1:=hid h1;have HJ:=hid (show (EQ ps).length<=1073741824 by have:=FN ps;omega);have HV:=hid hv;clear hv h1;have F4:Below w.heap.size w (w.alloc (.cells #[Iv 0,Iv 0] 28)):=zA;have G2:=hid (show Xw (w.alloc (.cells #[Iv 0,Iv 0] 28)) (w.alloc (.cells #[Iv 0,Iv 0] 28)).heap.size (.slice A ps.length c) ps from HV.out.keep F4 F4.size);clear HV;go_enter func160,ntmps160;go_wp2_with fail;obtain ⟨w0,HB,HW,I0,I1,I2,E1,I3⟩: ∃w0:World,w0=w.alloc (.cells #[Iv 0,Iv 0] 28)/\w0.cell? (Ad w.heap.size 0)=some (Iv 0)/\w0.cell? (Ad w.heap.size 1)=some (Iv 0)/\w0.frozen? (Ad w.heap.size 0)=false/\w0.frozen? (Ad w.heap.size 1)=false/\w.heap.size<w0.heap.size/\Below w.heap.size w w0:=
  ⟨_,rfl,by simp,by simp,by simp[World.frozen?,World.alloc, -World.alloc_eq],by simp[World.frozen?,World.alloc, -World.alloc_eq],by simp,F4⟩
 rw[<-HB] at G2⊢;have HV:=G2;clear HB F4 G2;go_loopw [4,5,6,7,14] (fun v _ _ _ i wr=> ∃(k:Nat) (X:List Str),k<=ps.length/\i=Iv k/\Hid (X=(ps.take k).map jnS)/\Ce wr w0.heap.size v k X/\Below w0.heap.size w0 wr) (fun _ _ _ _ i _=>ps.length-(intOf i).toNat);case atStart=>exact ⟨0,[],by omega,rfl,hid rfl,Ce.nil _ _,zB⟩
 case round=>
  obtain ⟨k,X,hk,rfl,HX,A1,hb⟩:=hrel;have F3:=hb.size;have q0:wr.cell? (Ad w.heap.size 0)=some (Iv 0):=(hb.cell (p:=(Ad w.heap.size 0)) E1).trans HW;have q1:wr.cell? (Ad w.heap.size 1)=some (Iv 0):=(hb.cell (p:=(Ad w.heap.size 1)) E1).trans I0;have f0:wr.frozen? (Ad w.heap.size 0)=false:=(hb.frozen (p:=(Ad w.heap.size 0)) E1).trans I1;have f1:wr.frozen? (Ad w.heap.size 1)=false:=(hb.frozen (p:=(Ad w.heap.size 1)) E1).trans I2;by_cases A5:k<ps.length
  ·obtain ⟨b,o,x,u,rfl,DA,hd,hc,hu⟩:=HV.out.at_ A5;have HQ:=(hb.cell (p:=(Ad b (o+k))) (by exact DA)).trans hc;have AB:x∈ps:=List.mem_of_mem_drop (by rw[hd];simp);have HA:=HM.out x AB;have G1:=H1.out x AB;have HT:=hid (show X++[jnS x]=(ps.take (k+1)).map jnS by
    rw[List.take_succ_eq_append_getElem A5,List.map_append,HX.out];rw[List.drop_eq_getElem_cons A5] at hd;injection hd with h1 _;rw[h1];rfl)
   obtain ⟨A2,c2,hf⟩:=hu.form;subst hf;have HU:=hid (hu.keep hb F3);have HO:=hid A1;clear hc hd AB A1 HX hu;go_wp2_with fail;refine (Ov x A2 c2 _ HU.out G1 (by omega)).mono ?_;rintro e w1 ⟨rfl,A0⟩;have AL:=hid (Cq HO.out A0);have AN:=hb.trans (A0.mono hb.size);have HS:=AN.size;clear HO A0;go_wp2_with (at_builtin;refine AU rfl _ _ 55 rfl w0.heap.size 9 (.string ⟨#[]⟩) 1 16 underlying55 Fm rfl (by decide) (by decide) _ k _ rfl (AL.out.alloc _) w1.heap.size 1 [sV (jnS x)] rfl rfl (Ed _ _ _) (by simp[sV,Value.oneCell']) (by omega) (by simp;omega) ?_;intro g cap w2 A6 _ _ _ A9;refine Hid.out ?_);refine Lib.hid ?_;have AV:=hid (Ce.snoc A6);have A7:=A9.out w0 (AN.alloc AN.size _);clear A6 A9;go_wp2
   go_roundw;case rel=>exact ⟨k+1,X++[jnS x],by omega,by go_num,HT,AV.out,A7⟩
   case measure=>simp[intOf];omega
  ·obtain rfl:k=ps.length:=(by omega);have AW:=HX.out;rw[List.take_length] at AW;have hS:=hid A1.strs;obtain ⟨A2,c2,hf⟩:=A1.form;subst hf;have DD:=hid (show Bt 59 X=EQ ps by rw[AW,J8]);have DT:(Bt 59 X).length<=1073741824:=(by rw[DD.out];exact HJ.out);have E0:X.length<=1073741824:=(by have:=A1.len;omega);clear A1 AW HX;go_wp2_with fail;refine (Er X 59 _ _ hS.out E0 DT).mono ?_;rintro e w1 ⟨rfl,A0⟩;have E2:w.heap.size<wr.heap.size:=Nat.lt_of_lt_of_le E1 F3;have HC:=(I3.trans (hb.mono (by omega))).trans (A0.mono (by omega));have I4:w.heap.size<w1.heap.size:=Nat.lt_of_lt_of_le E2 A0.size;replace q0:=(A0.cell (p:=(Ad w.heap.size 0)) E2).trans q0;replace q1:=(A0.cell (p:=(Ad w.heap.size 1)) E2).trans q1;replace f0:=(A0.frozen (p:=(Ad w.heap.size 0)) E2).trans f0;replace f1:=(A0.frozen (p:=(Ad w.heap.size 1)) E2).trans f1;rw[DD.out];clear A0 hb hS;go_wp2_with fail;refine (Cm _).mono ?_;rintro e w4 ⟨rfl,rfl⟩;go_wp2
   exact bodyPost_ret (v:= .tuple #[.string ⟨(EQ ps).toArray⟩,.agg #[Iv 0,Iv (-1)]]) (by simp[results,results160,go_sem,q0,q1,I4]) rfl ⟨rfl,((HC.setCell (p:=(Ad w.heap.size 0)) zL _).setCell (p:=(Ad w.heap.size 1)) zL _).alloc (by simpa[World.setCell] using HC.size) _⟩
theorem LD.e4 {w:World} (h:LD w):w.cell? (Ad 1 0)=some (.iface 248 (.agg #[B.hd 32])):=let ⟨_,h⟩:=h;h.et
theorem LD.l1 {w:World} (h:LD w):1<w.heap.size:=let ⟨_,h⟩:=h;by have:=h.n10;have:=h.le;omega
theorem Lf {w:World} {v:Value} {e p:Int} (h:Aj w v e p) (hL:LD w):Calls prog 51 #[v] w fun x w'=>x= .returned (Iv e)/\Below w.heap.size w w':=by
 rcases h with ⟨rfl,rfl,rfl⟩|⟨_,rfl,rfl⟩|⟨_,_,b,rfl,hb,h0,_⟩
 ·exact (B.Tell_nil w).mono fun _ _ h=>⟨h.1,by rw[<-h.2];exact zB⟩
 ·exact B.Tell_ern e w hL.e4 hL.l1
 ·exact B.Tell_ptr b e w hL.e4 hL.l1 h0 hb
theorem Aj.notNil {w:World} {v:Value} {e p:Int} (h:Aj w v e p) (he:e≠0): ∃t x,v= .iface t x:=by
 rcases h with ⟨h0,_⟩|⟨_,_,rfl⟩|⟨_,_,b,rfl,_⟩
 ·exact absurd h0 he
 ·exact ⟨_,_,rfl⟩
 ·exact ⟨_,_,rfl⟩
theorem Aj.isNil {w:World} {v:Value} {p:Int} (h:Aj w v 0 p):v= .nilIface:=by
 rcases h with ⟨_,_,rfl⟩|⟨h0,_⟩|⟨h0,_⟩
 ·rfl
 ·exact absurd rfl h0
 ·exact absurd rfl h0
theorem PH {w:World} {v:Value} {e p:Int} (h:Aj w v e p) (hL:LD w):Calls prog 135 #[v] w fun x w'=>x= .returned (J2 e)/\Below w.heap.size w w':=by
 by_cases he:e=0
 ·subst he;obtain rfl:=h.isNil;clear h hL;go_enter func135,ntmps135;go_wp2
  go_ret;exact ⟨rfl,zB⟩
 ·obtain ⟨t,x,rfl⟩:=h.notNil he;have HV:=hid (show J2 e= .iface 26 (Iv e) by unfold J2;rw[if_neg he]);have H:=hid h;clear h he;go_enter func135,ntmps135;go_wp2_with fail;refine (Lf H.out hL).mono ?_;rintro e1 w1 ⟨rfl,A0⟩;go_wp2
  go_ret;exact ⟨by rw[HV.out];rfl,A0⟩
structure SM (w:World) (v:Vl) (A:Option Addr) (c:Nat):Prop where
 lls:Xw w w.heap.size (.slice A v.parts.length c) v.parts
 text:v.text.length<=134217728
 parts:YV v.parts<=134217728
def XL (E:Int) (w:World) (e:Ending) (w':World):Prop:=e= .returned (J2 E)/\Below w.heap.size w w'
theorem Mi {E E':Int} {v:Value} {w w':World} (h:E=E') (hv:v=J2 E') (hb:Below w.heap.size w w'):XL E w (.returned v) w':=⟨by rw[hv,h],hb⟩
theorem IP (v:Vl) (A:Option Addr) (c:Nat) (w:World) (hL:LD w) (hv:SM w v A c):Calls prog 81 #[YF v (.slice A v.parts.length c)] w (XL (Bl v) w):=by
 obtain ⟨ty,text,parts,⟨y,mo,d,h,mi,sc,zo,zn⟩,n⟩:=v;have I5:=hv.text;have I6:=hv.parts;have E3:=hv.lls;simp only at I5 I6 E3;clear hv;show Calls prog 81 #[.agg #[Iv ty,Sv text,.slice A parts.length c,Iv y,Iv mo,Iv d,Iv h,Iv mi,Iv sc,.bool zo,Iv zn,Iv n]] w _;have B2:Below w.heap.size w (w.alloc (.cells #[Iv ty,Sv text,.slice A parts.length c,Iv y,Iv mo,Iv d,Iv h,Iv mi,Iv sc,.bool zo,Iv zn,Iv n] 42)):=zA;by_cases h1:ty<1
 ·have HR:=hid (show Bl (⟨ty,text,parts,⟨y,mo,d,h,mi,sc,zo,zn⟩,n⟩:Vl)=1 by unfold Bl;rw[if_pos (.inl h1)]);go_enter func81,ntmps81;go_wp2
  go_ret;exact Mi HR.out rfl B2
 by_cases h8:8<ty
 ·have HR:=hid (show Bl (⟨ty,text,parts,⟨y,mo,d,h,mi,sc,zo,zn⟩,n⟩:Vl)=1 by unfold Bl;rw[if_pos (.inr (.inl h8))]);have h9:9<=ty:=(by omega);clear h1 h8;have h1:1<=ty:=(by omega);go_enter func81,ntmps81;go_wp2
  go_ret;exact Mi HR.out rfl B2
 replace h1:1<=ty:=(by omega);replace h8:ty<=8:=(by omega);obtain ⟨x,hx⟩: ∃x,Iy (⟨ty,text,parts,⟨y,mo,d,h,mi,sc,zo,zn⟩,n⟩:Vl)=x:=⟨_,rfl⟩;have HX:=hid hx;cases x with
 |false=>
  have HR:=hid (show Bl (⟨ty,text,parts,⟨y,mo,d,h,mi,sc,zo,zn⟩,n⟩:Vl)=1 by unfold Bl;rw[if_pos (.inr (.inr hx))]);clear hx;go_enter func81,ntmps81;go_wp2_with fail;refine (MQ (⟨ty,text,parts,⟨y,mo,d,h,mi,sc,zo,zn⟩,n⟩:Vl) A c _ h1 h8).mono ?_;rintro e w1 ⟨rfl,A0⟩;rw[HX.out];go_wp2
  go_ret;exact Mi HR.out rfl (B2.trans (A0.mono B2.size))
 |true=>
  have HE:=hid (show Bl (⟨ty,text,parts,⟨y,mo,d,h,mi,sc,zo,zn⟩,n⟩:Vl)=if ty=2∨ty=3 then (if parts=[]∨(ty=2/\parts.length≠1) then 8 else if parts.any (·.isEmpty) then 8 else if parts.all (·.all (AQ · true)) then 0 else 3) else if ty=4 then DG text else if ty=5 then B5 ⟨y,mo,d,h,mi,sc,zo,zn⟩ else if ty=6 then (if Av n then 0 else 2) else if ty=7 then Bf text else if AQ text (ty==1) then 0 else 3 by
   unfold Bl;refine if_neg ?_;rintro (hh|hh|hh)
   ·exact absurd (show ty<1 from hh) (by omega)
   ·exact absurd (show 8<ty from hh) (by omega)
   ·rw[hx] at hh;cases hh)
  clear hx;have HY:=HE;clear HE;go_enter func81,ntmps81;go_wp2_with fail;refine (MQ (⟨ty,text,parts,⟨y,mo,d,h,mi,sc,zo,zn⟩,n⟩:Vl) A c _ h1 h8).mono ?_;rintro e w1 ⟨rfl,A0⟩;rw[HX.out];have HD:=A0.size;have L5:w.heap.size<w1.heap.size:=(by simp at HD;omega);have A3:=B2.trans (A0.mono B2.size);have G4:=hL.below A3;have q0:=Am A0 (j:=0) rfl;have q1:=Am A0 (j:=1) rfl;have q2:=Am A0 (j:=2) rfl;have q3:=Am A0 (j:=3) rfl;have q4:=Am A0 (j:=4) rfl;have q5:=Am A0 (j:=5) rfl;have q6:=Am A0 (j:=6) rfl;have q7:=Am A0 (j:=7) rfl;have q8:=Am A0 (j:=8) rfl;have q9:=Am A0 (j:=9) rfl;have L6:=Am A0 (j:=10) rfl;have L7:=Am A0 (j:=11) rfl;have HP:=hid (show Xw w1 w1.heap.size (.slice A parts.length c) parts from E3.keep A3 A3.size);clear A0 E3 HX HD;by_cases B0:ty=2∨ty=3
  ·have A4:=hid (HY.out.trans (if_pos B0));clear HY h1 h8;by_cases B1:parts.length=0
   ·have IB:((parts.length:Int)==0)=true:=(by simp;exact List.eq_nil_of_length_eq_zero B1);have HR:=hid (show Bl (⟨ty,text,parts,⟨y,mo,d,h,mi,sc,zo,zn⟩,n⟩:Vl)=8 by rw[A4.out,if_pos (.inl (List.eq_nil_of_length_eq_zero B1))]);clear A4 B1;rcases B0 with rfl|rfl;all_goals
     go_wp2
     go_ret;exact Mi HR.out rfl A3
   have IB:((parts.length:Int)==0)=false:=(by simp;exact fun e=>B1 (by rw[e];rfl));by_cases B3:ty=2/\parts.length≠1
   ·have H0:1<parts.length:=(by omega);have HR:=hid (show Bl (⟨ty,text,parts,⟨y,mo,d,h,mi,sc,zo,zn⟩,n⟩:Vl)=8 by rw[A4.out,if_pos (.inr B3)]);obtain ⟨rfl,B3⟩:=B3;clear A4 B1 B3 B0;go_wp2
    go_ret;exact Mi HR.out rfl A3
   have FB:=hid (show Bl (⟨ty,text,parts,⟨y,mo,d,h,mi,sc,zo,zn⟩,n⟩:Vl)=if parts.any (·.isEmpty) then 8 else if parts.all (·.all (AQ · true)) then 0 else 3 by rw[A4.out,if_neg (fun hh=>hh.elim (fun e=>B1 (by rw[e];rfl)) B3)]);clear A4;have H0:ty=2-> ¬1<parts.length:=fun h=>(by omega);clear B1 B3;have L8:=GX parts;rcases B0 with rfl|rfl;all_goals
    (try (replace H0:=H0 rfl));go_wp2
    go_loop [4,47] (fun _ i=> ∃k:Nat,k<=parts.length/\i=Iv k/\Hid ((parts.drop k).any (·.isEmpty)=parts.any (·.isEmpty))) (fun _ i=>parts.length-(intOf i).toNat)
    case atStart=>exact ⟨0,by omega,rfl,hid rfl⟩
    case round=>
     obtain ⟨k,hk,rfl,HF⟩:=hrel;by_cases A5:k<parts.length
     ·obtain ⟨b,o,x,u,rfl,DA,hd,hc,hu⟩:=HP.out.at_ A5;obtain ⟨A2,c2,hf⟩:=hu.form;subst hf;have HM:=hid (show parts.any (·.isEmpty)=(x.isEmpty||(parts.drop (k+1)).any (·.isEmpty)) by rw[<-HF.out,hd];rfl);clear hd HF hu;cases x with
      |nil=>
       have HR:=hid (show Bl (⟨_,text,parts,⟨y,mo,d,h,mi,sc,zo,zn⟩,n⟩:Vl)=8 by rw[FB.out,HM.out];rfl);clear HM FB;go_wp2
       go_ret;exact Mi HR.out rfl A3
      |cons x0 xr=>
       have KI:(((x0::xr).length:Int)==0)=false:=(by simp;omega);obtain ⟨nx,HG⟩: ∃nx,nx=(x0::xr).length:=⟨_,rfl⟩;rw[<-HG] at KI hc;have H2:=hid (show (parts.drop (k+1)).any (·.isEmpty)=parts.any (·.isEmpty) by rw[HM.out];rfl);clear HM HG;go_wp2
       go_round
       case rel=>exact ⟨k+1,by omega,by go_num,H2⟩
       case measure=>simp[intOf];omega
     ·obtain rfl:k=parts.length:=(by omega);have H3:=hid (show Bl (⟨_,text,parts,⟨y,mo,d,h,mi,sc,zo,zn⟩,n⟩:Vl)=if parts.all (·.all (AQ · true)) then 0 else 3 by rw[FB.out,<-HF.out,List.drop_length];rfl);clear HF FB;go_wp2
      go_loop [6,8,59] (fun _ _ i=> ∃k:Nat,k<=parts.length/\i=Iv k/\Hid ((parts.drop k).all (·.all (AQ · true))=parts.all (·.all (AQ · true)))) (fun _ _ i=>parts.length-(intOf i).toNat)
      case atStart=>exact ⟨0,by omega,rfl,hid rfl⟩
      case round=>
       obtain ⟨k,hk,rfl,HF⟩:=hrel;by_cases A5:k<parts.length
       ·obtain ⟨b,o,x,u,rfl,DA,hd,hc,hu⟩:=HP.out.at_ A5;have HA:=GW (List.mem_of_mem_drop (show x∈parts.drop k by rw[hd];simp));have L9:=C3 x;obtain ⟨A2,c2,hf⟩:=hu.form;subst hf;have HU:=hid hu;have HM:=hid (show parts.all (·.all (AQ · true))=(x.all (AQ · true)&&(parts.drop (k+1)).all (·.all (AQ · true))) by rw[<-HF.out,hd];rfl);clear hd HF hu;go_wp2
        go_loop [8,65] (fun _ i=> ∃j:Nat,j<=x.length/\i=Iv j/\Hid ((x.drop j).all (AQ · true)=x.all (AQ · true))) (fun _ i=>x.length-(intOf i).toNat)
        case atStart=>exact ⟨0,by omega,rfl,hid rfl⟩
        case round=>
         obtain ⟨j,hj,rfl,HJ⟩:=hrel;by_cases L1:j<x.length
         ·obtain ⟨b3,o3,s,rfl,L4,H4,LB⟩:=HU.out.at_ L1;have LL:=C2 (List.mem_of_mem_drop (show s∈x.drop j by rw[H4];simp));have HH:=hid (show x.all (AQ · true)=(AQ s true&&(x.drop (j+1)).all (AQ · true)) by rw[<-HJ.out,H4];rfl);clear H4 HJ;go_wp2_with fail;refine (FH s true _ (by omega)).mono ?_;rintro e w2 ⟨rfl,rfl⟩;obtain ⟨z,hz⟩: ∃z,AQ s true=z:=⟨_,rfl⟩;rw[hz];have HZ:=hid hz;clear hz;cases z with
          |false=>
           have HR:=hid (show Bl (⟨_,text,parts,⟨y,mo,d,h,mi,sc,zo,zn⟩,n⟩:Vl)=3 by rw[H3.out,HM.out,HH.out,HZ.out];rfl);go_wp2
           go_ret;exact Mi HR.out rfl A3
          |true=>
           have L2:=hid (show (x.drop (j+1)).all (AQ · true)=x.all (AQ · true) by rw[HH.out,HZ.out];rfl);go_wp2
           go_round
           case rel=>exact ⟨j+1,by omega,by go_num,L2⟩
           case measure=>simp[intOf];omega
         ·obtain rfl:j=x.length:=(by omega);have H2:=hid (show (parts.drop (k+1)).all (·.all (AQ · true))=parts.all (·.all (AQ · true)) by rw[HM.out,<-HJ.out,List.drop_length];rfl);clear HM HJ;go_wp2
          go_round
          case rel=>exact ⟨k+1,by omega,by go_num,H2⟩
          case measure=>simp[intOf];omega
       ·obtain rfl:k=parts.length:=(by omega);have HR:=hid (show Bl (⟨_,text,parts,⟨y,mo,d,h,mi,sc,zo,zn⟩,n⟩:Vl)=0 by rw[H3.out,<-HF.out,List.drop_length];rfl);clear HF H3;go_wp2
        go_ret;exact Mi HR.out rfl A3
  rcases (show ty=1∨ty=2∨ty=3∨ty=4∨ty=5∨ty=6∨ty=7∨ty=8 by omega) with rfl|rfl|rfl|rfl|rfl|rfl|rfl|rfl;all_goals try first|exact absurd (.inl rfl) B0|exact absurd (.inr rfl) B0
  all_goals
   clear h1 h8 B0 HP;go_wp2_with fail
  ·have A4:=hid (show Bl (⟨1,text,parts,⟨y,mo,d,h,mi,sc,zo,zn⟩,n⟩:Vl)=if AQ text true then 0 else 3 from HY.out.trans rfl);refine (FH text true _ (by omega)).mono ?_;rintro e w2 ⟨rfl,rfl⟩;obtain ⟨z,hz⟩: ∃z,AQ text true=z:=⟨_,rfl⟩;rw[hz];rw[hz] at A4;clear hz;cases z;all_goals
    go_wp2
    go_ret;exact Mi A4.out rfl A3
  ·have HR:=hid (show Bl (⟨4,text,parts,⟨y,mo,d,h,mi,sc,zo,zn⟩,n⟩:Vl)=DG text from HY.out.trans rfl);refine (FJ text _ (by omega)).mono ?_;rintro e w2 ⟨⟨ev,ep,rfl,hE⟩,A7⟩;have H8:=G4.below A7;have H9:=hid hE;clear hE;go_wp2_with fail;refine (PH H9.out H8).mono ?_;rintro e w3 ⟨rfl,E9⟩;have F1:=A3.trans ((A7.trans (E9.mono A7.size)).mono A3.size);obtain ⟨HI,A8⟩: ∃z,z=J2 (DG text):=⟨_,rfl⟩;rw[<-A8];have F2:=hid A8;clear A8;go_wp2
   go_ret;exact Mi HR.out F2.out F1
  ·have HR:=hid (show Bl (⟨5,text,parts,⟨y,mo,d,h,mi,sc,zo,zn⟩,n⟩:Vl)=B5 ⟨y,mo,d,h,mi,sc,zo,zn⟩ from HY.out.trans rfl);refine (MP ⟨y,mo,d,h,mi,sc,zo,zn⟩ _ G4).mono ?_;rintro e w3 ⟨rfl,E9⟩;have F1:=A3.trans (E9.mono A3.size);obtain ⟨HI,A8⟩: ∃z,z=J2 (B5 ⟨y,mo,d,h,mi,sc,zo,zn⟩):=⟨_,rfl⟩;rw[<-A8];have F2:=hid A8;clear A8;go_wp2
   go_ret;exact Mi HR.out F2.out F1
  ·have A4:=hid (show Bl (⟨6,text,parts,⟨y,mo,d,h,mi,sc,zo,zn⟩,n⟩:Vl)=if Av n then 0 else 2 from HY.out.trans rfl);refine (EB n _).mono ?_;rintro e w2 ⟨rfl,rfl⟩;obtain ⟨z,hz⟩: ∃z,Av n=z:=⟨_,rfl⟩;rw[hz];rw[hz] at A4;clear hz;cases z;all_goals
    go_wp2
    go_ret;exact Mi A4.out rfl A3
  ·have HR:=hid (show Bl (⟨7,text,parts,⟨y,mo,d,h,mi,sc,zo,zn⟩,n⟩:Vl)=Bf text from HY.out.trans rfl);refine (MX text _ (by omega)).mono ?_;rintro e w2 ⟨⟨ev,ep,rfl,hE⟩,A7⟩;have H8:=G4.below A7;have H9:=hid hE;clear hE;go_wp2_with fail;refine (PH H9.out H8).mono ?_;rintro e w3 ⟨rfl,E9⟩;have F1:=A3.trans ((A7.trans (E9.mono A7.size)).mono A3.size);obtain ⟨HI,A8⟩: ∃z,z=J2 (Bf text):=⟨_,rfl⟩;rw[<-A8];have F2:=hid A8;clear A8;go_wp2
   go_ret;exact Mi HR.out F2.out F1
  ·have A4:=hid (show Bl (⟨8,text,parts,⟨y,mo,d,h,mi,sc,zo,zn⟩,n⟩:Vl)=if AQ text false then 0 else 3 from HY.out.trans rfl);refine (FH text false _ (by omega)).mono ?_;rintro e w2 ⟨rfl,rfl⟩;obtain ⟨z,hz⟩: ∃z,AQ text false=z:=⟨_,rfl⟩;rw[hz];rw[hz] at A4;clear hz;cases z;all_goals
    go_wp2
    go_ret;exact Mi A4.out rfl A3
end Go.Proofs.YtjhpdljphchfaaaGreatDoor
