/- A part of the proof of ConvertUps: Find of the program and of the reference walked; numbers counted, both; Kind, both. -/
import Derived.Test.YtjhpdljphchfaaaGreatDoorA21
import Derived.Test.YtjhpdljphchfaaaGreatDoorA16
import Derived.Test.YtjhpdljphchfaaaGreatDoorA07
import Derived.Test.YtjhpdljphchfaaaGreatDoorA10
import Derived.Lib.AppendIntMem
set_option maxHeartbeats 40000000
set_option maxRecDepth 1000000
set_option linter.all false
namespace Go.Proofs.YtjhpdljphchfaaaGreatDoor
open Go.RowKit
open Go.Proofs.Tryz
def SO (l:List Pm) (s:Str) (i:Int):Prop:=
 (i= -1/\l.find? (fun p=>AF p.name s)=none)∨(∃(k:Nat) (p:Pm),i=k/\k<l.length/\l.drop k=p::l.drop (k+1)/\l.find? (fun p=>AF p.name s)=some p)
def Uo (l:List Pm) (s:Str) (w:World) (e:Ending) (w':World):Prop:=(∃i:Int,e= .returned (Iv i)/\Hid (SO l s i))/\Below w.heap.size w w'
theorem RZ (l:List Pm) (s:Str) (A:Option Addr) (c:Nat) (w:World) (hv:Xv w w.heap.size (.slice A l.length c) l) (hl:l.length<=1073741824) (hn: ∀p∈l,p.name.length<=1073741824) (hs:s.length<=1073741824):
 Calls prog 42 #[.slice A l.length c,Sv s] w (Uo l s w):=by
 have HM:=hid hn;have HV:=hid hv;clear hv hn;go_enter func42,ntmps42;go_wp2
 go_loopw [9] (fun i wr=> ∃k:Nat,k<=l.length/\i=Iv k/\Hid (l.find? (fun p=>AF p.name s)=(l.drop k).find? (fun p=>AF p.name s))/\Below w.heap.size w wr) (fun i _=>l.length-(intOf i).toNat);case atStart=>exact ⟨0,by omega,rfl,hid rfl,zB⟩
 case round=>
  obtain ⟨k,hk,rfl,HX,hb⟩:=hrel;have A6:=hb.size;by_cases A3:k<l.length
  ·obtain ⟨b,o,p,u,rfl,A4,hd,hc,A5,hu⟩:=HV.out.at_ A3;have AV:=(hb.cell (p:=(Ad b (o+k*2))) A4).trans hc;have AB:=(hb.cell (p:=(Ad b (o+k*2+1))) A4).trans A5;have A7:=HM.out p (List.mem_of_mem_drop (by rw[hd];simp));have HD:=hid hd;obtain ⟨A2,c2,hf⟩:=hu.form;subst hf;clear hc A5 hd hu;go_wp2_with fail;refine (Bh p.name s _ A7 hs).mono ?_;rintro e w1 ⟨rfl,A0⟩;have A1:Below w.heap.size w w1:=(hb.alloc A6 _).trans (A0.mono (by simp;omega));clear A0;cases hm:AF p.name s with
   |true=>
    go_wp2
    go_ret;exact ⟨⟨_,rfl,hid (.inr ⟨k,p,by simp,A3,HD.out,by rw[HX.out,HD.out,List.find?_cons,hm]⟩)⟩,A1⟩
   |false=>
    go_wp2
    go_roundw;case rel=>exact ⟨k+1,by omega,by go_num,hid (by rw[HX.out,HD.out,List.find?_cons,hm]),A1⟩
    case measure=>simp[intOf];omega
  ·obtain rfl:k=l.length:=(by omega);go_wp2
   go_ret;exact ⟨⟨_,rfl,hid (.inl ⟨rfl,by rw[HX.out,List.drop_length];rfl⟩)⟩,hb⟩
theorem D0 (l:List Pm) (s:Str) (A:Option Addr) (c:Nat) (w:World) (hv:Xv w w.heap.size (.slice A l.length c) l) (hl:l.length<=1073741824) (hn: ∀p∈l,p.name.length<=1073741824) (hs:s.length<=1073741824):
 Calls prog 15 #[.slice A l.length c,Sv s] w (Uo l s w):=by
 have HM:=hid hn;have HV:=hid hv;clear hv hn;go_enter func15,ntmps15;go_wp2
 go_loopw [8] (fun i wr=> ∃k:Nat,k<=l.length/\i=Iv k/\Hid (l.find? (fun p=>AF p.name s)=(l.drop k).find? (fun p=>AF p.name s))/\Below w.heap.size w wr) (fun i _=>l.length-(intOf i).toNat);case atStart=>exact ⟨0,by omega,rfl,hid rfl,zB⟩
 case round=>
  obtain ⟨k,hk,rfl,HX,hb⟩:=hrel;have A6:=hb.size;by_cases A3:k<l.length
  ·obtain ⟨b,o,p,u,rfl,A4,hd,hc,A5,hu⟩:=HV.out.at_ A3;have AV:=(hb.cell (p:=(Ad b (o+k*2))) A4).trans hc;have AB:=(hb.cell (p:=(Ad b (o+k*2+1))) A4).trans A5;have A7:=HM.out p (List.mem_of_mem_drop (by rw[hd];simp));have HD:=hid hd;obtain ⟨A2,c2,hf⟩:=hu.form;subst hf;clear hc A5 hd hu;go_wp2_with fail;refine (Ay p.name s _ A7 hs).mono ?_;rintro e w1 ⟨rfl,A0⟩;have A1:Below w.heap.size w w1:=hb.trans (A0.mono A6);clear A0;cases hm:AF p.name s with
   |true=>
    go_wp2
    go_ret;exact ⟨⟨_,rfl,hid (.inr ⟨k,p,by simp,A3,HD.out,by rw[HX.out,HD.out,List.find?_cons,hm]⟩)⟩,A1⟩
   |false=>
    go_wp2
    go_roundw;case rel=>exact ⟨k+1,by omega,by go_num,hid (by rw[HX.out,HD.out,List.find?_cons,hm]),A1⟩
    case measure=>simp[intOf];omega
  ·obtain rfl:k=l.length:=(by omega);go_wp2
   go_ret;exact ⟨⟨_,rfl,hid (.inl ⟨rfl,by rw[HX.out,List.drop_length];rfl⟩)⟩,hb⟩
def V8 (s:Str) (w:World) (e:Ending) (w':World):Prop:=
 ((∃n:Int,e= .returned (.tuple #[Iv n,.nilIface])/\Lib.atoiAll s= .ok n)∨(∃(n:Int) (t:TypeId) (p:Value),e= .returned (.tuple #[Iv n,.iface t p])/\ ∀n,Lib.atoiAll s≠ .ok n))/\Below w.heap.size w w'
theorem Ra (s:Str) (hs:s.length<=1073741824) (w:World) (hL:LD w):Calls prog 85 #[Sv s] w (V8 s w):=by
 obtain ⟨B,hB⟩:=hL;have DA:(⟨s.toArray⟩:ByteArray).size<=1073741824:=(by show s.toArray.size<=_;simpa using hs);have A8:(⟨s.toArray⟩:ByteArray).data.toList=s:=rfl;rcases hA:Lib.atoiAll s with n|_|_
 ·refine (strconv_Atoi_ok ⟨s.toArray⟩ (by omega) n (by rw[A8];exact hA) w).mono ?_;rintro e w' ⟨rfl,rfl|⟨t,rfl⟩⟩
  ·exact ⟨.inl ⟨n,rfl,hA⟩,zB⟩
  ·exact ⟨.inl ⟨n,rfl,hA⟩,Lib.bytesWorld_below _ _ _⟩
 ·obtain ⟨t,p,he⟩:=hB.es;refine (Any.strconv_Atoi_syntax laysC172 ⟨s.toArray⟩ (by omega) (by rw[A8];exact hA) _ w he (.inr ⟨t,p,rfl⟩)).mono ?_;rintro e w' ⟨N,rfl,_,_,hb⟩;exact ⟨.inr ⟨_,_,_,rfl,by rw[hA];simp⟩,hb⟩
 ·obtain ⟨t,p,he⟩:=hB.er;refine (strconv_Atoi_range ⟨s.toArray⟩ (by omega) (by rw[A8];exact hA) _ w he (.inr ⟨t,p,rfl⟩)).mono ?_;rintro e w' ⟨N,rfl,_,_,hb⟩;exact ⟨.inr ⟨_,_,_,rfl,by rw[hA];simp⟩,hb⟩
theorem Mp (n:Int) (h0:0<=n) (h1:n<=999) (w:World) (hL:LD w):Calls prog 155 #[Iv n] w fun e w'=>e= .returned (.string ⟨(Lib.itoa n).toArray⟩)/\Below w.heap.size w w':=by obtain ⟨B,hB⟩:=hL;refine (strconv_Itoa n (by omega) (by omega) w hB.p10).mono ?_;rintro e w' ⟨rfl,k,os,rfl⟩;exact ⟨rfl,Lib.below_grow _ w zL k os⟩
theorem IV (s:Str) (m:Nat) (hm:m<=999) (hs:s.length<=1073741824) (w:World) (hL:LD w):Calls prog 131 #[Sv s,Iv (m:Int)] w fun e w'=>e= .returned (.bool (ET s m))/\Below w.heap.size w w':=by
 go_enter func131,ntmps131;go_wp2_with fail;refine (Ra s hs _ hL).mono ?_;rintro e w1 ⟨⟨n,rfl,hA⟩|⟨n,t,p,rfl,hA⟩,A0⟩
 ·have AW:=hL.below A0;by_cases h1:1<=n
  ·by_cases h2:n<=m
   ·have HC:=hid (Sy s m (by omega) n hA h1 h2);have d1:decide (1<=n)=true:=(by simpa using h1);have d2:decide (n<=(m:Int))=true:=(by simpa using h2);go_wp2_with fail;refine (Mp n (by omega) (by omega) _ AW).mono ?_;rintro e w2 ⟨rfl,A1⟩;obtain ⟨I,hI⟩: ∃I,I=Lib.itoa n:=⟨_,rfl⟩;have B0:=hid (show (I==s)=ET s m by rw[hI];exact HC.out);rw[<-hI];clear hI HC;go_wp2
    go_ret;exact ⟨AD (by rw[<-B0.out]),A0.trans (A1.mono A0.size)⟩
   ·have HC:=hid (Mb s m (by omega) n hA (.inr (by omega)));have DD:(m:Int)<n:=(by omega);go_wp2
    go_ret;exact ⟨AD (by rw[HC.out]),A0⟩
  ·have HC:=hid (Mb s m (by omega) n hA (.inl (by omega)));have AL:n<1:=(by omega);go_wp2
   go_ret;exact ⟨AD (by rw[HC.out]),A0⟩
 ·have HC:=hid (Sx s m (by omega) hA);clear hA;go_wp2
  go_ret;exact ⟨AD (by rw[HC.out]),A0⟩
theorem Gp (s:Str) (m:Nat) (hm:m<=999) (hs:s.length<=1073741824) (w:World) (hL:LD w):Calls prog 102 #[Sv s,Iv (m:Int)] w fun e w'=>e= .returned (.bool (ET s m))/\Below w.heap.size w w':=by
 go_enter func102,ntmps102;go_wp2
 go_loopw [5] (fun i wr=> ∃k:Nat,k<=m/\i=Iv ((k+1:Nat):Int)/\Hid (ET s m=JF k (m- k) s)/\Below w.heap.size w wr) (fun i _=>m+1-(intOf i).toNat);case atStart=>exact ⟨0,by omega,rfl,hid rfl,zB⟩
 case round=>
  obtain ⟨k,hk,rfl,HX,hb⟩:=hrel;have B1:=hL.below hb;by_cases DT:k<m
  ·have HY:=hid (show ET s m=(YW (k+1)==s||JF (k+1) (m-(k+1)) s) by
    rw[HX.out,show m- k=(m-(k+1))+1 by omega,JF])
   have B2:((k+1:Nat):Int)<=(m:Int):=(by omega);go_wp2_with fail;refine (Mp ((k+1:Nat):Int) (by omega) (by omega) _ B1).mono ?_;rintro e w2 ⟨rfl,A1⟩;rw[Ma (k+1) (by omega)];obtain ⟨I,hI⟩: ∃I,I=YW (k+1):=⟨_,rfl⟩;rw[<-hI] at HY⊢;clear hI HX;have AN:=hb.trans (A1.mono hb.size);by_cases hc:I=s
   ·subst hc;have HZ:=hid (show ET I m=true by rw[HY.out];simp);go_wp2
    go_ret;exact ⟨AD (by rw[HZ.out]),AN⟩
   ·have HZ:=hid (show ET s m=JF (k+1) (m-(k+1)) s by rw[HY.out];simp[hc]);have E0:(I==s)=false:=(by simpa using hc);go_wp2
    go_roundw;case rel=>exact ⟨k+1,by omega,by go_num,HZ,AN⟩
    case measure=>simp[intOf];omega
  ·obtain rfl:k=m:=(by omega);have B2:(k:Int)<((k+1:Nat):Int):=(by omega);have HZ:=hid (show ET s k=false by rw[HX.out,Nat.sub_self];rfl);go_wp2
   go_ret;exact ⟨AD (by rw[HZ.out]),hb⟩
theorem PN (k:Int) (h:k<1):B6 k=[]:=by unfold B6;repeat (first|rw[if_neg (by omega)]|rfl)
theorem PO (k:Int) (h:9<=k):B6 k=[]:=by unfold B6;repeat (first|rw[if_neg (by omega)]|rfl)
theorem Ye (k:Int) (h1: ¬k<1) (h9: ¬9<=k) (w:World):(Instr.index 150 (.agg #[.string ⟨#[]⟩,.string ⟨#[116,101,120,116]⟩,.string ⟨#[116,101,120,116]⟩,.string ⟨#[116,101,120,116]⟩,.string ⟨#[117,114,105]⟩,.string ⟨#[100,97,116,101,45,97,110,100,45,111,114,45,116,105,109,101]⟩,.string ⟨#[117,116,99,45,111,102,102,115,101,116]⟩,.string ⟨#[108,97,110,103,117,97,103,101,45,116,97,103]⟩,.string ⟨#[117,110,107,110,111,119,110]⟩]) (Iv k)).run prog w= .ok (.string ⟨(B6 k).toArray⟩) w:=by rcases (show k=1∨k=2∨k=3∨k=4∨k=5∨k=6∨k=7∨k=8 by omega) with rfl|rfl|rfl|rfl|rfl|rfl|rfl|rfl<;>kernel_rfl
theorem JO (k:Int) (w:World):Calls prog 49 #[Iv k] w fun e w'=>e= .returned (.string ⟨(B6 k).toArray⟩)/\w=w':=by
 by_cases h1:k<1
 ·have H:=hid (PN k h1);go_enter func49,ntmps49;go_wp2
  go_ret;exact ⟨by rw[H.out];rfl,rfl⟩
 by_cases h9:9<=k
 ·have H:=hid (PO k h9);go_enter func49,ntmps49;go_wp2
  go_ret;exact ⟨by rw[H.out];rfl,rfl⟩
 have H:=hid (Ye k h1 h9);have AL:1<=k:=(by omega);have B3:k<=8:=(by omega);rcases (show k=1∨k=2∨k=3∨k=4∨k=5∨k=6∨k=7∨k=8 by omega) with rfl|rfl|rfl|rfl|rfl|rfl|rfl|rfl;all_goals
  clear h1 h9 AL B3;have ki:=H.out;clear H;go_enter func49,ntmps49;go_wp2
  go_ret;exact ⟨rfl,rfl⟩
theorem BT {W:World} {b:Nat} {cs:Array Value} {t:TypeId} (h:W.heap[b]? =some (.cells cs t (0,0))) (j:Nat):W.cell? (Ad b j)=cs[j]? :=by simp[World.cell?,h]
theorem Bc (w:World) (cs:Array Value) (t:TypeId) (j:Nat) {v:Value} (h:cs[j]? =some v):(w.alloc (.cells cs t)).cell? (Ad w.heap.size j)=some v:=
 (BT (heap_alloc_new w _) j).trans h
def Rc:Str:=[116,101,120,116,32,116,101,120,116,32,116,101,120,116,32,117,114,105,32,100,97,116,101,45,97,110,100,45,111,114,45,116,105,109,101,32,117,116,99,45,111,102,102,115,101,116,32,108,97,110,103,117,97,103,101,45,116,97,103,32,117,110,107,110,111,119,110]
def Gr:List Str:=[[116,101,120,116],[116,101,120,116],[116,101,120,116],[117,114,105],[100,97,116,101,45,97,110,100,45,111,114,45,116,105,109,101],[117,116,99,45,111,102,102,115,101,116],[108,97,110,103,117,97,103,101,45,116,97,103],[117,110,107,110,111,119,110]]
theorem Lh (w:World) (hL:LD w):Calls prog 72 #[Sv Rc] w fun e w'=>e= .returned (.slice (some (Ad w.heap.size 0)) 8 8)/\w'=w.alloc (.cells (Gr.map sV).toArray 9):=by
 obtain ⟨B,hB⟩:=hL;refine (strings_Fields ⟨Rc.toArray⟩ w (by decide) (fun j b hb=> ?_) hB.sp).mono ?_
 ·exact (show∀c∈Rc,c.toNat<128 by decide) b (List.mem_of_getElem? hb)
 rintro e w' ⟨rfl,rfl⟩;rw[show Lib.fields (⟨Rc.toArray⟩:ByteArray).data.toList=Gr by decide+kernel];exact ⟨rfl,rfl⟩
theorem Gs (k:Int) (w:World) (hL:LD w):Calls prog 36 #[Iv k] w fun e w'=>e= .returned (.string ⟨(B6 k).toArray⟩)/\Below w.heap.size w w':=by
 by_cases h1:k<1
 ·have H:=hid (PN k h1);have d1:decide (1<=k)=false:=(by simp;omega);go_enter func36,ntmps36;go_wp2_with fail;refine (AX k 1 8 _).mono ?_;rintro e w' ⟨rfl,rfl⟩;rw[d1];clear h1 d1;go_wp2
  go_ret;exact ⟨by rw[H.out];rfl,zB⟩
 by_cases h9:9<=k
 ·have H:=hid (PO k h9);have d1:decide (1<=k)=true:=(by simp;omega);have d2:decide (k<=8)=false:=(by simp;omega);go_enter func36,ntmps36;go_wp2_with fail;refine (AX k 1 8 _).mono ?_;rintro e w' ⟨rfl,rfl⟩;rw[d1,d2];clear h1 h9 d1 d2;go_wp2
  go_ret;exact ⟨by rw[H.out];rfl,zB⟩
 have d1:(decide (1<=k)&&decide (k<=8))=true:=(by simp;omega);go_enter func36,ntmps36;go_wp2_with fail;refine (AX k 1 8 _).mono ?_;rintro e w' ⟨rfl,rfl⟩;rw[d1];clear d1;go_wp2_with fail;refine (Lh _ hL).mono ?_;rintro e w' ⟨rfl,rfl⟩;have c0:=Bc w (Gr.map sV).toArray 9 0 rfl;have c1:=Bc w (Gr.map sV).toArray 9 1 rfl;have c2:=Bc w (Gr.map sV).toArray 9 2 rfl;have c3:=Bc w (Gr.map sV).toArray 9 3 rfl;have c4:=Bc w (Gr.map sV).toArray 9 4 rfl;have c5:=Bc w (Gr.map sV).toArray 9 5 rfl;have c6:=Bc w (Gr.map sV).toArray 9 6 rfl;have c7:=Bc w (Gr.map sV).toArray 9 7 rfl;obtain ⟨w1,A9⟩: ∃w1,w.alloc (.cells (Gr.map sV).toArray 9)=w1:=⟨_,rfl⟩;have hb:Below w.heap.size w w1:=(by rw[<-A9];exact zA);rw[A9] at c0 c1 c2 c3 c4 c5 c6 c7⊢;clear A9;rcases (show k=1∨k=2∨k=3∨k=4∨k=5∨k=6∨k=7∨k=8 by omega) with rfl|rfl|rfl|rfl|rfl|rfl|rfl|rfl;all_goals
  clear h1 h9;go_wp2
  go_ret;exact ⟨rfl,hb⟩
def Yf:List (List Int):=[[1,1,1,0],[1,1,0,0],[3,1,1,5],[3,0,1,5],[2,0,0,0],[2,0,0,0],[8,0,0,0],[4,0,0,0],[5,0,1,0],[5,0,1,0],[5,0,1,0],[3,0,1,2],[3,0,0,7],[3,0,0,7],[1,0,0,0],[1,0,0,0],[1,0,0,0],[1,0,0,0],[1,0,0,0],[1,0,0,0],[4,0,0,0],[7,0,0,0],[6,0,1,0],[1,0,0,0],[3,0,1,2],[4,0,0,0],[1,0,0,0],[1,0,0,0],[1,0,0,0],[1,0,0,0],[8,0,0,0],[4,0,0,0],[1,0,0,0],[3,0,0,0],[3,0,0,0],[4,0,0,0],[4,0,0,0],[2,0,0,0],[2,0,0,0],[1,0,0,0],[1,0,0,0],[1,0,1,0],[1,0,1,0],[5,0,1,0],[5,0,1,0],[1,0,1,0],[8,0,0,0],[4,0,0,0],[1,0,1,0],[4,0,1,0],[4,0,0,0],[4,0,0,0],[1,0,1,0],[1,0,1,0],[8,0,0,0],[4,0,0,0],[1,0,1,0],[4,0,0,0],[4,0,0,0]]
def Yg:List (Str×Option Nat×Option Nat):=[([70,78],some 0,some 1),([78],some 2,some 3),([78,73,67,75,78,65,77,69],some 4,some 5),([80,72,79,84,79],some 6,some 7),([66,68,65,89],some 8,some 9),([65,78,78,73,86,69,82,83,65,82,89],none,some 10),([71,69,78,68,69,82],none,some 11),([65,68,82],some 12,some 13),([76,65,66,69,76],some 14,none),([84,69,76],some 15,some 16),([69,77,65,73,76],some 17,some 18),([77,65,73,76,69,82],some 19,none),([73,77,80,80],none,some 20),([76,65,78,71],none,some 21),([84,90],some 22,some 23),([71,69,79],some 24,some 25),([84,73,84,76,69],some 26,some 27),([82,79,76,69],some 28,some 29),([76,79,71,79],some 30,some 31),([65,71,69,78,84],some 32,none),([79,82,71],some 33,some 34),([77,69,77,66,69,82],none,some 35),([82,69,76,65,84,69,68],none,some 36),([67,65,84,69,71,79,82,73,69,83],some 37,some 38),([78,79,84,69],some 39,some 40),([80,82,79,68,73,68],some 41,some 42),([82,69,86],some 43,some 44),([83,79,82,84,45,83,84,82,73,78,71],some 45,none),([83,79,85,78,68],some 46,some 47),([85,73,68],some 48,some 49),([85,82,76],some 50,some 51),([67,76,65,83,83],some 52,none),([75,73,78,68],none,some 53),([75,69,89],some 54,some 55),([78,65,77,69],some 56,none),([83,79,85,82,67,69],some 57,some 58)]
def Yh (n:Nat):Option Nat->Value
 |none=> .slice none 0 0
 |some i=> .slice (some ⟨n+i,0,none⟩) 4 4
def Nb (n:Nat):List Value:=Yg.flatMap fun r=>[sV r.1,Yh n r.2.1,Yh n r.2.2]
def Ez (w:World) (l:List (List Int)):World:=l.foldl (fun w l=>w.alloc (.cells (l.map (Value.int .i64)).toArray 3)) w
def Yi (w:World):World:=(Ez w Yf).alloc (.cells (Nb w.heap.size).toArray 106)
theorem Df: ∀(l:List (List Int)) (w:World),(Ez w l).heap.size=w.heap.size+l.length
 |[],w=>rfl
 |x::l,w=>by show (Ez (w.alloc _) l).heap.size=_;rw[Df l,World.size_alloc];simp;omega
theorem C6: ∀(l:List (List Int)) (w:World),Below w.heap.size w (Ez w l)
 |[],w=>Below.refl _ w
 |x::l,w=>by have h1:Below w.heap.size w (w.alloc (.cells (x.map (Value.int .i64)).toArray 3)):=zA;exact h1.trans ((C6 l _).mono h1.size)
theorem KY: ∀(l:List (List Int)) (w:World) (i:Nat) (x:List Int),l[i]? =some x->(Ez w l).heap[w.heap.size+i]? =some (.cells (x.map (Value.int .i64)).toArray 3)
 |[],w,i,x,h=>by simp at h
 |y::l,w,0,x,h=>by obtain rfl:y=x:=(by simpa using h);have h1:(w.alloc (.cells (y.map (Value.int .i64)).toArray 3)).heap[w.heap.size]? =some (.cells (y.map (Value.int .i64)).toArray 3):=heap_alloc_new w _;exact ((C6 l (w.alloc _)).block _ (by simp)).trans h1
 |y::l,w,i+1,x,h=>by have h2:=KY l (w.alloc (.cells (y.map (Value.int .i64)).toArray 3)) i x (by simpa using h);rw[World.size_alloc] at h2;show (Ez (w.alloc _) l).heap[w.heap.size+(i+1)]? =_;rw[show w.heap.size+(i+1)=w.heap.size+1+i by omega];exact h2
theorem Gt (w:World):Calls prog 52 #[] w fun e w'=>e= .returned (.slice (some (Ad (w.heap.size+59) 0)) 36 36)/\w'=Yi w:=by
 go_enter func52,ntmps52;go_wp2
 go_ret;exact ⟨rfl,rfl⟩
def Nc (v:Int) (r:Str×Option Nat×Option Nat):Option Nat:=if v=3 then r.2.1 else r.2.2
def Yj (i:Nat):Ru:=match Yf.getD i [] with
 |[a,b,c,d]=>⟨a,b,c,d⟩
 |_=>⟨0,0,0,0⟩
def Qe (v:Int) (r:Str×Option Nat×Option Nat):Option (Str×Ru):=(Nc v r).map fun i=>(r.1,Yj i)
instance :DecidableEq Ru:=fun a b=>decidable_of_iff (a.type=b.type/\a.least=b.least/\a.most=b.most/\a.parts=b.parts) (by
 constructor
 ·rintro ⟨h1,h2,h3,h4⟩;cases a;cases b;simp_all
 ·rintro rfl;simp)
theorem Yk:Tp=Yg.filterMap (Qe 3):=by decide+kernel
theorem Yl:Tq=Yg.filterMap (Qe 4):=by decide+kernel
theorem SP (v:Int) (hv:v=3∨v=4):EP v=Yg.filterMap (Qe v):=by
 rcases hv with rfl|rfl
 ·exact Yk
 ·exact Yl
def XP (r:Str×Option Nat×Option Nat):Bool:=Xs r.1==r.1&&decide (r.1.length<=100)&&(r.2.1.all fun i=>decide (i<59))&&(r.2.2.all fun i=>decide (i<59))
theorem WB:Yg.all XP=true:=by decide+kernel
theorem Re: ∀i:Fin 59,∃a b c d:Int,Yf[i.val]? =some [a,b,c,d]/\Yj i.val=⟨a,b,c,d⟩:=by
 intro i;have h: ∀i:Fin 59,(Yf.getD i.val []).length=4/\i.val<Yf.length:=(by decide+kernel);obtain ⟨h1,h2⟩:=h i;obtain ⟨l,hl⟩: ∃l,Yf[i.val]? =some l:=⟨_,List.getElem?_eq_getElem h2⟩;have hg:Yf.getD i.val []=l:=(by rw[List.getD_eq_getElem?_getD,hl];rfl);unfold Yj;rw[hg] at h1⊢
 match l,h1 with
 |[a,b,c,d],_=>exact ⟨a,b,c,d,hl,rfl⟩
theorem IW:Yg.length=36:=by decide
theorem Uq {α β:Type} (f g h:α->β): ∀(l:List α) (k:Nat) (x:α),l[k]? =some x->(l.flatMap fun r=>[f r,g r,h r])[k*3]? =some (f x)/\(l.flatMap fun r=>[f r,g r,h r])[k*3+1]? =some (g x)/\(l.flatMap fun r=>[f r,g r,h r])[k*3+2]? =some (h x)
 |[],k,x,e=>by simp at e
 |y::l,0,x,e=>by obtain rfl:y=x:=(by simpa using e);exact ⟨rfl,rfl,rfl⟩
 |y::l,k+1,x,e=>by
  obtain ⟨h1,h2,h3⟩:=Uq f g h l k x (by simpa using e);rw[show (k+1)*3=k*3+3 by omega];simp only[List.flatMap_cons];refine ⟨?_, ?_, ?_⟩
  ·show ([f y,g y,h y]++_)[k*3+3]? =_;rw[List.getElem?_append_right (by simp)];simpa using h1
  ·show ([f y,g y,h y]++_)[k*3+3+1]? =_;rw[List.getElem?_append_right (by simp)];rw[show k*3+3+1-[f y,g y,h y].length=k*3+1 by simp];exact h2
  ·show ([f y,g y,h y]++_)[k*3+3+2]? =_;rw[List.getElem?_append_right (by simp)];rw[show k*3+3+2-[f y,g y,h y].length=k*3+2 by simp];exact h3
theorem EG (n:Nat) (o:Option Nat): ∃A m,Yh n o= .slice A m m/\(o=none->A=none/\m=0)/\(∀i,o=some i->A=some ⟨n+i,0,none⟩/\m=4):=by
 cases o with
 |none=>exact ⟨none,0,rfl,fun _=>⟨rfl,rfl⟩,fun i h=>by cases h⟩
 |some i=>
  refine ⟨some ⟨n+i,0,none⟩,4,rfl, ?_, ?_⟩
  ·intro h;cases h
  ·intro j h;cases h;exact ⟨rfl,rfl⟩
theorem Li:Yf.length=59:=by decide
theorem Lj (w:World):(Yi w).heap.size=w.heap.size+60:=by unfold Yi;rw[World.size_alloc,Df,Li]
theorem JP (w:World):Below w.heap.size w (Yi w):=(C6 Yf w).trans (((Below.refl _ (Ez w Yf)).alloc zL _).mono (C6 Yf w).size)
theorem JQ (w:World) (k:Nat) (r:Str×Option Nat×Option Nat) (h:Yg[k]? =some r):
 (Yi w).cell? (Ad (w.heap.size+59) (k*3))=some (sV r.1)/\(Yi w).cell? (Ad (w.heap.size+59) (k*3+1))=some (Yh w.heap.size r.2.1)/\(Yi w).cell? (Ad (w.heap.size+59) (k*3+2))=some (Yh w.heap.size r.2.2):=by
 have hr:(Yi w).heap[w.heap.size+59]? =some (.cells (Nb w.heap.size).toArray 106):=(by have h1:=heap_alloc_new (Ez w Yf) (.cells (Nb w.heap.size).toArray 106);rw[Df,Li] at h1;exact h1);obtain ⟨h1,h2,h3⟩:=Uq (fun r:Str×Option Nat×Option Nat=>sV r.1) (fun r=>Yh w.heap.size r.2.1) (fun r=>Yh w.heap.size r.2.2) Yg k r h;refine ⟨(BT hr _).trans ?_,(BT hr _).trans ?_,(BT hr _).trans ?_⟩
 ·simpa[Nb] using h1
 ·simpa[Nb] using h2
 ·simpa[Nb] using h3
theorem Rf (w:World) (i:Nat) (hi:i<59): ∃a b c d:Int,(Yi w).heap[w.heap.size+i]? =some (.cells #[Iv a,Iv b,Iv c,Iv d] 3)/\Yj i=⟨a,b,c,d⟩:=by obtain ⟨a,b,c,d,h1,h2⟩:=Re ⟨i,hi⟩;refine ⟨a,b,c,d, ?_,h2⟩;have h3:=KY Yf w i _ h1;have hl:w.heap.size+i<(Ez w Yf).heap.size:=(by rw[Df,Li];omega);exact (Below.heap_alloc _ _ _ hl).trans h3
theorem Ur {k:Nat} {r:Str×Option Nat×Option Nat} (h:Yg[k]? =some r):Xs r.1=r.1/\r.1.length<=100/\(∀i,r.2.1=some i->i<59)/\(∀i,r.2.2=some i->i<59):=by
 have:=List.all_eq_true.1 WB r (List.mem_of_getElem? h);simp only[XP,Bool.and_eq_true,beq_iff_eq,decide_eq_true_eq] at this;obtain ⟨⟨⟨h1,h2⟩,h3⟩,h4⟩:=this;refine ⟨h1,h2,fun i hi=> ?_,fun i hi=> ?_⟩
 ·rw[hi] at h3;simpa using h3
 ·rw[hi] at h4;simpa using h4
def CV (v:Int) (u:Str) (k:Nat):Ru:=DN ((Yg.drop k).filterMap (Qe v)) u
theorem JR (prop:Str) (v:Int) (hv:v=3∨v=4):AR prop v=CV v (Xs prop) 0:=by unfold AR CV;rw[SP v hv];rfl
theorem KZ (v:Int) (u:Str):CV v u 36=⟨8,0,0,0⟩:=by unfold CV;rw[List.drop_eq_nil_of_le (by rw[IW];omega)];rfl
theorem E4 {v:Int} {u:Str} {k:Nat} {r:Str×Option Nat×Option Nat} (h:Yg[k]? =some r) (hm:Nc v r=none∨(r.1==u)=false):CV v u k=CV v u (k+1):=by
 unfold CV;obtain ⟨hk,he⟩:=List.getElem?_eq_some_iff.1 h;rw[List.drop_eq_getElem_cons hk,he,List.filterMap_cons];cases hc:Nc v r with
 |none=>simp[Qe,hc]
 |some i=>
  have h2:(r.1==u)=false:=(by rcases hm with h|h;(rw[hc] at h;cases h);exact h);simp[Qe,hc,DN,h2]
theorem Ka {v:Int} {u:Str} {k i:Nat} {r:Str×Option Nat×Option Nat} (h:Yg[k]? =some r) (hc:Nc v r=some i) (he:(r.1==u)=true):CV v u k=Yj i:=by unfold CV;obtain ⟨hk,e⟩:=List.getElem?_eq_some_iff.1 h;rw[List.drop_eq_getElem_cons hk,e,List.filterMap_cons];simp[Qe,hc,DN,he]
end Go.Proofs.YtjhpdljphchfaaaGreatDoor
