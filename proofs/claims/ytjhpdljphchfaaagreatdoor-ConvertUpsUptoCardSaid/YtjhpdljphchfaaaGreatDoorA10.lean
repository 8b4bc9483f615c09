/- A part of the proof of ConvertUps: value.Holds of the program, Holds of the reference walked. -/
import Derived.Test.YtjhpdljphchfaaaGreatDoorA07
import Derived.Test.YtjhpdljphchfaaaGreatDoorA09
import Derived.Lib.OthersKept
import Derived.Lib.SplitLaws
import Derived.Lib.ItoaMem
import Derived.Lib.ItoaLen
import Derived.Lib.AppendIntMem
set_option maxHeartbeats 40000000
set_option maxRecDepth 1000000
set_option linter.all false
namespace Go.Proofs.YtjhpdljphchfaaaGreatDoor
open Go.RowKit
open Go.Proofs.Tryz
def hdl (t:Nat):Value:= .pointer (some (Ad 14 t))
def DB:List (List Str):=[[[],[],[]],[[97],[57,57,57,57],[57,57]],[[97,98],[57,57,57,57,45,57,57],[57,57,57,57]],[[97,98,99],[57,57,57,57,57,57,57,57],[57,57,57,57,57,57]],[[98],[45,45,57,57],[45,57,57]],[[98,99],[45,45,57,57,57,57],[45,57,57,57,57]],[[99],[45,45,45,57,57],[45,45,57,57]]]
structure VK (w:World) (B:Nat):Prop where
 le:B<=w.heap.size
 n10:14<=B
 mx: ∃m:Int,w.cell? (Ad 2 0)=some (Iv m)
 u8:Lib.Utf8Tabs 8 9 w
 p10:Lib.TabIs prog w "internal/strconv.uint64pow10" .u64 Lib.pow10Tab
 sp:Lib.TabIs prog w "strings.asciiSpace" .u8 Lib.asciiSpaceTab
 es: ∃t p,w.cell? (Ad 6 0)=some (.iface t p)
 er: ∃t p,w.cell? (Ad 7 0)=some (.iface t p)
 et:w.cell? (Ad 1 0)=some (.iface 248 (.agg #[hdl 32]))
 db:w.cell? (Ad 12 1)=some (.int .u8 1)
 sh: ∃b o c,w.cell? (Ad 4 0)=some (.slice (some (Ad b o)) 7 c)/\b<B/\ ∀i,i<7-> ∀j,j<3->w.cell? (Ad b (o+i*3+j))=some (.string ⟨((DB.getD i []).getD j []).toArray⟩)
def LD (w:World):Prop:= ∃B,VK w B
theorem VK.below {w w':World} {B:Nat} (h:VK w B) (hb:Below w.heap.size w w'):VK w' B:=by
 have HW:=h.n10;have H1:=h.le;refine ⟨Nat.le_trans h.le hb.size,h.n10, ?_, ?_, ?_, ?_, ?_, ?_, ?_, ?_, ?_⟩
 ·obtain ⟨m,hm⟩:=h.mx;exact ⟨m,(hb.cell (p:=(Ad 2 0)) (show 2<w.heap.size by omega)).trans hm⟩
 ·exact ⟨fun c hc=>(hb.cell (p:=(Ad 8 c)) (show 8<w.heap.size by omega)).trans (h.u8.1 c hc),fun i hi=>⟨(hb.cell (p:=(Ad 9 (2*i))) (show 9<w.heap.size by omega)).trans (h.u8.2 i hi).1,(hb.cell (p:=(Ad 9 (2*i+1))) (show 9<w.heap.size by omega)).trans (h.u8.2 i hi).2⟩⟩
 ·exact var?_below hb (show prog.globalNamed "internal/strconv.uint64pow10" =some 10 by kernel_rfl) (by omega) h.p10
 ·exact var?_below hb (show prog.globalNamed "strings.asciiSpace" =some 0 by kernel_rfl) (by omega) h.sp
 ·obtain ⟨t,p,hm⟩:=h.es;exact ⟨t,p,(hb.cell (p:=(Ad 6 0)) (show 6<w.heap.size by omega)).trans hm⟩
 ·obtain ⟨t,p,hm⟩:=h.er;exact ⟨t,p,(hb.cell (p:=(Ad 7 0)) (show 7<w.heap.size by omega)).trans hm⟩
 ·exact (hb.cell (p:=(Ad 1 0)) (show 1<w.heap.size by omega)).trans h.et
 ·exact (hb.cell (p:=(Ad 12 1)) (show 12<w.heap.size by omega)).trans h.db
 ·obtain ⟨b,o,c,h1,h2,h3⟩:=h.sh;exact ⟨b,o,c,(hb.cell (p:=(Ad 4 0)) (show 4<w.heap.size by omega)).trans h1,h2,fun i hi j hj=>(hb.cell (p:=(Ad b (o+i*3+j))) (show b<w.heap.size by omega)).trans (h3 i hi j hj)⟩
theorem LD.below {w w':World} (h:LD w) (hb:Below w.heap.size w w'):LD w':=let ⟨B,h⟩:=h;⟨B,h.below hb⟩
theorem Fv {c:UInt8} (h:(c.toNat<32/\c.toNat≠9)∨c.toNat=127):ctl c=true:=decide_eq_true h
theorem En {c:UInt8} (h: ¬((c.toNat<32/\c.toNat≠9)∨c.toNat=127)):ctl c=false:=decide_eq_false h
theorem LN (c:UInt8) (w:World):Calls prog 187 #[.int .u8 c.toNat] w fun e w'=>e= .returned (.bool (ctl c))/\w=w':=by
 rcases (show (c.toNat<32/\c.toNat≠9)∨c.toNat=9∨(32<=c.toNat/\c.toNat≠127)∨c.toNat=127 by omega) with h|h|h|h;have H:=hid (Fv (c:=c) (by omega));have h1:c.toNat<32:=h.1;have q1:((c.toNat:Int) != 9)=true:=(by simp;omega);have q2:((c.toNat:Int)==127)=false:=(by simp;omega);rotate_left;have H:=hid (En (c:=c) (by omega));have h1:c.toNat<32:=(by omega);have q1:((c.toNat:Int) != 9)=false:=(by simp;omega);have q2:((c.toNat:Int)==127)=false:=(by simp;omega);rotate_left;have H:=hid (En (c:=c) (by omega));have h1:32<=c.toNat:=h.1;have q1:((c.toNat:Int) != 9)=true:=(by simp;omega);have q2:((c.toNat:Int)==127)=false:=(by simp;omega);rotate_left;have H:=hid (Fv (c:=c) (by omega));have h1:32<=c.toNat:=(by omega);have q1:((c.toNat:Int) != 9)=true:=(by simp;omega);have q2:((c.toNat:Int)==127)=true:=(by simp;omega);rotate_left;all_goals
  clear h;go_enter func187,ntmps187;go_wp2
  go_ret;exact ⟨AD (by first|(rw[H.out];done)|(rw[H.out];simp;omega)),rfl⟩
theorem FX (c:UInt8) (w:World):Calls prog 154 #[.int .u8 c.toNat] w fun e w'=>e= .returned (.bool (ctl c))/\w=w':=by
 rcases (show (c.toNat<32/\c.toNat≠9)∨c.toNat=9∨(32<=c.toNat/\c.toNat≠127)∨c.toNat=127 by omega) with h|h|h|h;have H:=hid (Fv (c:=c) (by omega));have h1:c.toNat<32:=h.1;have q1:((c.toNat:Int) != 9)=true:=(by simp;omega);have q2:((c.toNat:Int)==127)=false:=(by simp;omega);rotate_left;have H:=hid (En (c:=c) (by omega));have h1:c.toNat<32:=(by omega);have q1:((c.toNat:Int) != 9)=false:=(by simp;omega);have q2:((c.toNat:Int)==127)=false:=(by simp;omega);rotate_left;have H:=hid (En (c:=c) (by omega));have h1:32<=c.toNat:=h.1;have q1:((c.toNat:Int) != 9)=true:=(by simp;omega);have q2:((c.toNat:Int)==127)=false:=(by simp;omega);rotate_left;have H:=hid (Fv (c:=c) (by omega));have h1:32<=c.toNat:=(by omega);have q1:((c.toNat:Int) != 9)=true:=(by simp;omega);have q2:((c.toNat:Int)==127)=true:=(by simp;omega);rotate_left;all_goals
  clear h;go_enter func154,ntmps154;go_wp2
  go_ret;exact ⟨AD (by first|(rw[H.out];done)|(rw[H.out];simp;omega)),rfl⟩
theorem Dq (l:Str) (w:World) (hs:l.length<=1073741824):
 Calls prog 129 #[Sv l] w fun e w'=>e= .returned (.bool (BB l))/\w=w':=by
 go_enter func129,ntmps129;go_wp2
 go_loop [3,6] (fun _ i=> ∃k:Nat,i=Iv k/\k<=l.length/\Hid (Jq (l.drop k)=Jq l)) (fun _ i=>l.length-(intOf i).toNat)
 case atStart=>exact ⟨0,rfl,by omega,hid rfl⟩
 case round=>
  obtain ⟨k,rfl,hk,HF⟩:=hrel;by_cases A0:k<l.length
  ·obtain ⟨c,hx,hc⟩: ∃c,(∀h,(⟨l.toArray⟩:ByteArray)[k]'h=c)/\l.drop k=c::l.drop (k+1):=⟨l[k],fun _=>rfl,List.drop_eq_getElem_cons A0⟩;have HM:=hid (show Jq (l.drop k)=(!ctl c&&Jq (l.drop (k+1))) by rw[hc];rfl);clear hc;go_wp2_with fail;refine (LN c _).mono ?_;rintro e w1 ⟨rfl,rfl⟩;cases hg:ctl c with
   |false=>
    have HG:=hid hg;clear hg;go_wp2
    go_round
    case rel=>exact ⟨k+1,by go_num,by omega,hid (by rw[<-HF.out,HM.out,HG.out];rfl)⟩
    case measure=>simp[intOf];omega
   |true=>
    have HN:=hid (show BB l=false by rw[BB,<-HF.out,HM.out,hg];rfl);clear hg;go_wp2
    go_ret;exact ⟨AD (by rw[HN.out]),rfl⟩
  ·have A1:k=l.length:=(by omega);subst A1;have B2:Jq l=true:=(by rw[<-HF.out,List.drop_length];rfl);have HN:=hid (show BB l=B4 l by rw[BB,B2,Bool.true_and]);clear B2 HF;go_wp2_with fail;refine (bad_any l _ hs).mono ?_;rintro e w1 ⟨⟨n,rfl,HD,_⟩,rfl⟩;go_wp2
   go_ret;exact ⟨AD (by rw[HN.out,<-HD.out]),rfl⟩
theorem Fw (l:Str) (i:Nat):(⟨l.toArray⟩:ByteArray).get! i=l.getD i 0:=by
 simp only[ByteArray.get!];rw[Array.getElem!_eq_getD];simp[Array.getD,List.getD];split
 ·simp_all
 ·simp_all;rfl
theorem EZ (l:Str) (k:Nat):Utf8.decode ⟨l.toArray⟩ k=Lib.decodeN (l.length- k) (l.getD k 0).toNat (l.getD (k+1) 0).toNat (l.getD (k+2) 0).toNat (l.getD (k+3) 0).toNat:=by rw[Lib.decode_at,Fw,Fw,Fw,Fw];rfl
theorem OP (l:Str) (k i:Nat):(l.drop k).getD i 0=l.getD (k+i) 0:=by simp[List.getD]
theorem Jy (l:Str) (k:Nat) (h:k<l.length):nx (l.drop k)=if Utf8.decode ⟨l.toArray⟩ k=(65533,1) then 0 else (Utf8.decode ⟨l.toArray⟩ k).2:=by have H2:l.drop k≠[]:=(by intro e;have:=congrArg List.length e;rw[List.length_drop,List.length_nil] at this;omega);rw[EZ,nx,if_neg H2];simp only[List.length_drop,OP,Nat.add_zero]
theorem NH (l:Str) (k:Nat):1<=(Utf8.decode ⟨l.toArray⟩ k).2:=by
 rw[EZ];unfold Lib.decodeN
 repeat' split
 all_goals simp
theorem Tn (l:Str) (k:Nat):(Utf8.decode ⟨l.toArray⟩ k).1<=1114111:=by
 rw[EZ];have h0:=(l.getD k 0).toNat_lt;unfold Lib.decodeN
 repeat' split
 all_goals first|omega|(simp only;omega)
theorem OQ (l:Str) (w:World) (hs:l.length<=1073741824) (hL:LD w):Calls prog 201 #[Sv l] w fun e w'=>(∃r:Int,e= .returned (.tuple #[Iv r,Iv (nx l)]))/\Below w.heap.size w w':=by
 obtain ⟨B,hB⟩:=hL;have H0:=hB.u8;go_enter func201,ntmps201;go_wp2_with fail;refine (utf8_DecodeRuneInString _ _ H0).mono ?_;rintro e w1 ⟨rfl,hb⟩;obtain ⟨r,n,hd,hn⟩: ∃r n,Lib.decodeGo ⟨l.toArray⟩=(r,n)/\nx l=if n=0∨(r=65533/\n=1) then 0 else n:=by
  refine ⟨(Lib.decodeGo ⟨l.toArray⟩).1,(Lib.decodeGo ⟨l.toArray⟩).2,rfl, ?_⟩;by_cases hl:l=[]
  ·subst hl;rfl
  ·have h0:0<l.length:=(by cases l<;>simp_all);have e:=Jy l 0 h0;have p:=NH l 0;have hg:Lib.decodeGo ⟨l.toArray⟩=Utf8.decode ⟨l.toArray⟩ 0:=by
    rw[Lib.decodeGo,if_neg (by show l.length≠0;omega)]
   rw[hg];rw[List.drop_zero] at e;rw[e];by_cases q:Utf8.decode ⟨l.toArray⟩ 0=(65533,1)
   ·rw[q];rfl
   ·rw[if_neg q,if_neg];rintro (h|⟨h1,h2⟩)
    ·omega
    ·exact q (Prod.ext h1 h2)
 rw[hd];have HN:=hid hn;clear hd hn hB H0;by_cases h0:n=0
 ·have q0:((n:Int)==0)=true:=(by simpa using h0);have HE:=hid (show nx l=0 by rw[HN.out,if_pos (.inl h0)]);clear h0;go_wp2
  go_ret2;exact ⟨⟨0,by rw[HE.out];rfl⟩,hb⟩
 ·have q0:((n:Int)==0)=false:=(by simpa using h0);by_cases h1:r=65533
  ·have q1:((r:Int)==65533)=true:=(by simp;omega);by_cases h2:n=1
   ·have q2:((n:Int)==1)=true:=(by simp;omega);have HE:=hid (show nx l=0 by rw[HN.out,if_pos (.inr ⟨h1,h2⟩)]);clear h0 h1 h2;go_wp2
    go_ret2;exact ⟨⟨0,by rw[HE.out];rfl⟩,hb⟩
   ·have q2:((n:Int)==1)=false:=(by simp;omega);have HE:=hid (show nx l=n by rw[HN.out,if_neg (by omega)]);clear h0 h1 h2;go_wp2
    go_ret2;exact ⟨⟨_,by rw[HE.out];rfl⟩,hb⟩
  ·have q1:((r:Int)==65533)=false:=(by simp;omega);have HE:=hid (show nx l=n by rw[HN.out,if_neg (by omega)]);clear h0 h1;go_wp2
   go_ret2;exact ⟨⟨_,by rw[HE.out];rfl⟩,hb⟩
theorem GL {w:World} {k:Nat} {s:ByteArray} {p:Nat} (h:w.heap[k]? =some (.stringIter s p)):w.iterPos k=p:=by simp[World.iterPos,h]
theorem MK (l:Str) (w:World) (hs:l.length<=1073741824) (hL:LD w):Calls prog 153 #[Sv l] w fun e w'=>(∃n:Int,e= .returned (Iv n)/\Hid (decide (n<0)=B4 l)/\(n= -1∨0<=n))/\Below w.heap.size w w':=by
 go_enter func153,ntmps153;go_wp2
 go_loopw [3,4,5] (fun _ _ _ wr=> ∃k:Nat,k<=l.length/\Hid (B4 (l.drop k)=B4 l)/\wr.heap[w.heap.size]? =some (.stringIter ⟨l.toArray⟩ k)/\Below w.heap.size w wr) (fun _ _ _ wr=>l.length- wr.iterPos w.heap.size);case atStart=>exact ⟨0,by omega,hid rfl,World.iter_heap w ⟨l.toArray⟩ 0,zA⟩
 case round=>
  obtain ⟨k,hk,HF,hit,hb⟩:=hrel;have P1:=GL hit;by_cases A0:k<l.length
  ·have P2: ∀ty,(Instr.next (.pointer (some (Ad w.heap.size 0))) true ty).run prog wr=_:=fun ty=>Lib.run_next_any_at wr w.heap.size ⟨l.toArray⟩ k ty hit A0;have H8:=Lib.iterAt_heap wr w.heap.size ⟨l.toArray⟩ k (k+(Utf8.decode ⟨l.toArray⟩ k).2) hit;have A2:=Lib.below_iterAt hb (k:=w.heap.size) zL ⟨l.toArray⟩ (k+(Utf8.decode ⟨l.toArray⟩ k).2);have e1:(⟨l.toArray⟩:ByteArray).extract k l.length=⟨(l.drop k).toArray⟩:=(by rw[ba_cut,List.take_of_length_le (by rw[List.length_drop];omega)]);have H2:l.drop k≠[]:=by
    intro e;have:=congrArg List.length e;rw[List.length_drop,List.length_nil] at this;omega
   have B1:=Hw H2;have H1:=UA (l.drop k);rw[List.length_drop] at H1;have L2:nx (l.drop k)=0∨(Utf8.decode ⟨l.toArray⟩ k).2=nx (l.drop k):=by
    rw[Jy l k A0];split
    ·exact .inl rfl
    ·exact .inr rfl
   have HS:=hid B1;have E1:=hid e1;obtain ⟨W1,B3⟩: ∃W1,W1=wr.iterAt w.heap.size ⟨l.toArray⟩ (k+(Utf8.decode ⟨l.toArray⟩ k).2):=⟨_,rfl⟩;rw[<-B3] at P2 H8 A2;obtain ⟨d,hd⟩: ∃d,d=Utf8.decode ⟨l.toArray⟩ k:=⟨_,rfl⟩;rw[<-hd] at P2 H8 L2;obtain ⟨n,hn⟩: ∃n,n=nx (l.drop k):=⟨_,rfl⟩;have HN:=hid hn;rw[<-hn] at H1 L2;have TX:=hid H8;have HD:=hid L2;clear B3 B1 H2 e1 hit hb hd hn H8 L2;go_wp2_with fail;rw[E1.out];refine (OQ (l.drop k) _ (by rw[List.length_drop];omega) (hL.below A2)).mono ?_;rintro e w1 ⟨⟨r,rfl⟩,A6⟩;have MM:w.heap.size<W1.heap.size:=(Array.getElem?_eq_some_iff.1 TX.out).1;have N0:w1.heap[w.heap.size]? =some (.stringIter ⟨l.toArray⟩ (k+d.2)):=(A6.block _ MM).trans TX.out;have AV:=A2.trans (A6.mono A2.size);have X2:=hid N0;rw[<-HN.out];clear A2 A6 MM N0;by_cases hz:n=0
   ·have q:((n:Int)==0)=true:=(by simpa using hz);have HG:=hid (show B4 l=false by rw[<-HF.out,HS.out,<-HN.out,hz];rfl);clear hz;go_wp2
    go_ret;exact ⟨⟨k,rfl,hid (by rw[HG.out];simp),.inr (by omega)⟩,AV⟩
   ·have q:((n:Int)==0)=false:=(by simpa using hz);have N1:d.2=n:=HD.out.resolve_left hz;have HG:=hid (show B4 (l.drop (k+n))=B4 l by
     rw[<-HF.out,HS.out,<-HN.out,List.drop_drop];have:(n != 0)=true:=(by simpa using hz);rw[this,Bool.true_and])
    have PB:=X2.out;rw[N1] at PB;have U1:=hid PB;clear PB N1;go_wp2
    go_roundw;case rel=>exact ⟨k+n,by omega,HG,U1.out,AV⟩
    case measure=>
     rw[GL U1.out,P1];omega
  ·have A1:k=l.length:=(by omega);subst A1;have HG:=hid (show B4 l=true by rw[<-HF.out,List.drop_length];rfl);have P2: ∀ty,(Instr.next (.pointer (some (Ad w.heap.size 0))) true ty).run prog wr=_:=fun ty=>Lib.run_next_end_at wr w.heap.size ⟨l.toArray⟩ l.length ty hit (by show¬l.length<l.length;omega);clear HF hit;go_wp2
   go_ret;exact ⟨⟨-1,rfl,hid (by rw[HG.out];rfl),.inl rfl⟩,hb⟩
def CW (p:UInt8->Bool):Nat->Str->Int
 |_,[]=> -1
 |i,c::r=>if p c then (i:Int) else CW p (i+1) r
theorem DK (p:UInt8->Bool): ∀(l:Str) (i:Nat),decide (CW p i l<0)=l.all fun c=> !p c
 |[],i=>by simp[CW]
 |c::r,i=>by
  unfold CW;cases h:p c with
  |true=>simp[h]
  |false=>
   rw[if_neg (by simp),List.all_cons,h,DK p r (i+1)];rfl
theorem first_any (g:FuncId) (lb:Array Value) (p:UInt8->Bool) (l:Str) (w:World) (hs:l.length<=1073741824)
 (hg: ∀(args:Array Value) (w:World),(callFunc g args).run prog w= .ok (.enter g args) w)
 (hp: ∀(c:UInt8) (wr:World),Below w.heap.size w wr->Calls prog g (#[.int .u8 c.toNat]++lb) wr fun e w'=>e= .returned (.bool (p c))/\wr=w'):
 Calls prog 68 #[Sv l,.func (.func g) #[] lb] w fun e w'=>e= .returned (Iv (CW p 0 l))/\Below w.heap.size w w':=by
 obtain ⟨W1,cap,F4,H9,hB,hb,hz⟩:=BU l w;have HP:=hid hp;clear hp;go_enter func68,ntmps68;go_wp2
 go_loopw [5,6,10] (fun _ _ i wr=> ∃k:Nat,i=Iv k/\k<=l.length/\Hid (CW p k (l.drop k)=CW p 0 l)/\Buf wr w.heap.size l/\Below w.heap.size w wr) (fun _ _ i _=>l.length-(intOf i).toNat);case atStart=>exact ⟨0,rfl,by omega,hid rfl,hB,hb⟩
 case round=>
  clear F4 hB hb;obtain ⟨k,rfl,hk,HF,hB,hb⟩:=hrel;by_cases A0:k<l.length
  ·have F1:=hB.cell k A0;obtain ⟨c,AW,hc⟩: ∃c,l[k]=c/\l.drop k=c::l.drop (k+1):=⟨l[k],rfl,List.drop_eq_getElem_cons A0⟩;rw[AW] at F1;have HM:=hid (show CW p k (l.drop k)=if p c then (k:Int) else CW p (k+1) (l.drop (k+1)) by rw[hc];rfl);have HB:=hid hB;clear hc AW hB;go_wp2_with fail;refine (HP.out c _ hb).mono ?_;rintro e w1 ⟨rfl,rfl⟩;cases L4:p c with
   |true=>
    have HN:=hid (show CW p 0 l=(k:Int) by rw[<-HF.out,HM.out,L4];rfl);clear L4;go_wp2
    go_ret;exact ⟨by rw[HN.out];rfl,hb⟩
   |false=>
    have HN:=hid (show CW p (k+1) (l.drop (k+1))=CW p 0 l by rw[<-HF.out,HM.out,L4];rfl);clear L4;go_wp2
    go_roundw;case rel=>exact ⟨k+1,by go_num,by omega,HN,HB.out,hb⟩
    case measure=>simp[intOf];omega
  ·have A1:k=l.length:=(by omega);subst A1;have HN:=hid (show CW p 0 l= -1 by rw[<-HF.out,List.drop_length];rfl);clear HF hB;go_wp2
   go_ret;exact ⟨by rw[HN.out];rfl,hb⟩
theorem OR (args:Array Value) (w:World):(callFunc 154 args).run prog w= .ok (.enter 154 args) w:=enters_of func154 (by kernel_rfl) rfl args w
theorem OS (l:Str) (w:World) (hs:l.length<=1073741824):
 Calls prog 68 #[Sv l,.func (.func 154) #[] #[]] w fun e w'=>(∃n:Int,e= .returned (Iv n)/\Hid (decide (n<0)=Jq l))/\Below w.heap.size w w':=
 (first_any 154 #[] ctl l w hs OR (fun c wr _=>FX c wr)).mono fun _ _ ⟨h1,h2⟩=>⟨⟨_,h1,hid (DK ctl l 0)⟩,h2⟩
theorem FG (l:Str) (w:World) (hs:l.length<=1073741824) (hL:LD w):
 Calls prog 100 #[Sv l] w fun e w'=>e= .returned (.bool (BB l))/\Below w.heap.size w w':=by
 go_enter func100,ntmps100;go_wp2_with fail;refine (MK l _ hs hL).mono ?_;rintro e w1 ⟨⟨n,rfl,HD,hn⟩,hb⟩;cases hu:B4 l with
 |true=>
  have PF:n<0:=(by have:=HD.out;rw[hu] at this;exact of_decide_eq_true this);have HE:=hid (show BB l=Jq l by rw[BB,hu,Bool.and_true]);clear HD hn hu;go_wp2_with fail;refine (OS l _ hs).mono ?_;rintro e w2 ⟨⟨m,rfl,HM⟩,A2⟩;go_wp2
  go_ret;exact ⟨AD (by rw[HE.out,<-HM.out]),hb.trans (A2.mono hb.size)⟩
 |false=>
  have PF:0<=n:=(by have:=HD.out;rw[hu] at this;have:=of_decide_eq_false this;omega);have HE:=hid (show BB l=false by rw[BB,hu,Bool.and_false]);clear HD hn hu;go_wp2
  go_ret;exact ⟨AD (by rw[HE.out]),hb⟩
theorem AM (a b:Str):(⟨a.toArray⟩:ByteArray)++⟨b.toArray⟩=⟨(a++b).toArray⟩:=by apply ByteArray.ext;simp
theorem CZ {a b:Str} (h:a=b):Ending.returned (Sv a)= .returned (Sv b):=by rw[h]
theorem Af {a:ByteArray} {b:Str} (h:a=⟨b.toArray⟩):Value.string a=Sv b:=by rw[h]
theorem Jz (f:UInt8->Str) (l:Str) {k:Nat} (h:k<l.length):(l.take (k+1)).flatMap f=(l.take k).flatMap f++f l[k]:=by rw[List.take_succ_eq_append_getElem h,List.flatMap_append];simp
theorem D9 (f:UInt8->Str) (hf: ∀c,(f c).length<=2): ∀(l:Str),(l.flatMap f).length<=2*l.length
 |[]=>by simp
 |c::r=>by have:=D9 f hf r;have:=hf c;simp only[List.flatMap_cons,List.length_append,List.length_cons];omega
theorem Iz (c:UInt8):(Jn c).length<=2:=by
 unfold Jn
 repeat' split
 all_goals simp
theorem ML (c:UInt8):(LC c).length<=2:=by
 unfold LC
 repeat' split
 all_goals simp
theorem Fx (c:UInt8) (w:World):(convert 113 9 (.slice (some (Ad w.heap.size 0)) 1 1)).run prog (w.alloc (.cells #[.int .u8 c.toNat] 5))= .ok (.string ⟨[c].toArray⟩) (w.alloc (.cells #[.int .u8 c.toNat] 5)):=by have h:Buf (w.alloc (.cells #[.int .u8 c.toNat] 5)) w.heap.size [c]:=⟨by simp,fun j hj=>by have:j=0:=(by simp at hj;omega);subst this;simp,fun j hj=>by simp[World.frozen?,World.alloc, -World.alloc_eq]⟩;exact h.text 1 113 underlying113
theorem GM (l:Str) (w:World) (hs:l.length<=1073741824):
 Calls prog 152 #[Sv l] w fun e w'=>e= .returned (.string ⟨(Fk l).toArray⟩)/\Below w.heap.size w w':=by
 obtain ⟨W1,cap,F4,H9,hB,hb,hz⟩:=BU l w;go_enter func152,ntmps152;go_wp2
 go_loopw [3,5,9] (fun o _ i wr=> ∃k:Nat,i=Iv k/\k<=l.length/\o= .string ⟨(Fk (l.take k)).toArray⟩/\Buf wr w.heap.size l/\Below w.heap.size w wr) (fun _ _ i _=>l.length-(intOf i).toNat);case atStart=>exact ⟨0,rfl,by omega,rfl,hB,hb⟩
 case round=>
  clear F4 hB hb;obtain ⟨k,rfl,hk,rfl,hB,hb⟩:=hrel;by_cases A0:k<l.length
  ·have F1:=hB.cell k A0;obtain ⟨c,AW⟩: ∃c,l[k]=c:=⟨_,rfl⟩;have B1:=Jz Jn l A0;have A7:=D9 Jn Iz (l.take k);rw[List.length_take,Nat.min_eq_left hk] at A7;rw[AW] at F1 B1;obtain ⟨A,hA⟩: ∃A,Fk (l.take k)=A:=⟨_,rfl⟩;change Fk (l.take (k+1))=Fk (l.take k)++Jn c at B1;change (Fk (l.take k)).length<=2*k at A7;rw[hA] at B1 A7⊢;have HS:=hid B1;have HY:=hid hB;clear B1 hB hA AW;by_cases h1:c.toNat=94
   ·have q1:((c.toNat:Int)==94)=true:=(by simp;omega);have HC:=hid (show Jn c=[94,94] by rw[Jn,if_pos (UInt8.toNat.inj h1)]);clear h1;go_wp2
    go_roundw;case rel=>exact ⟨k+1,by go_num,by omega,Af (by rw[HS.out,HC.out,<-AM]),HY.out,hb⟩
    case measure=>simp[intOf];omega
   ·have q1:((c.toNat:Int)==94)=false:=(by simp;omega);have n1:=hid (show¬c=94 from fun e=>h1 (by rw[e];rfl));clear h1;by_cases h2:c.toNat=10
    ·have q2:((c.toNat:Int)==10)=true:=(by simp;omega);have HC:=hid (show Jn c=[94,110] by rw[Jn,if_neg n1.out,if_pos (UInt8.toNat.inj h2)]);clear h2;go_wp2
     go_roundw;case rel=>exact ⟨k+1,by go_num,by omega,Af (by rw[HS.out,HC.out,<-AM]),HY.out,hb⟩
     case measure=>simp[intOf];omega
    ·have q2:((c.toNat:Int)==10)=false:=(by simp;omega);have n2:=hid (show¬c=10 from fun e=>h2 (by rw[e];rfl));clear h2;by_cases h3:c.toNat=34
     ·have q3:((c.toNat:Int)==34)=true:=(by simp;omega);have HC:=hid (show Jn c=[94,39] by rw[Jn,if_neg n1.out,if_neg n2.out,if_pos (UInt8.toNat.inj h3)]);clear h3;go_wp2
      go_roundw;case rel=>exact ⟨k+1,by go_num,by omega,Af (by rw[HS.out,HC.out,<-AM]),HY.out,hb⟩
      case measure=>simp[intOf];omega
     ·have q3:((c.toNat:Int)==34)=false:=(by simp;omega);have n3:=hid (show¬c=34 from fun e=>h3 (by rw[e];rfl));have HC:=hid (show Jn c=[c] by rw[Jn,if_neg n1.out,if_neg n2.out,if_neg n3.out]);have X3:=Fx c wr;clear h3;go_wp2
      go_roundw;case rel=>exact ⟨k+1,by go_num,by omega,Af (by rw[HS.out,HC.out,<-AM]),HY.out.keep zA HY.out.lt,hb.alloc hb.size _⟩
      case measure=>simp[intOf];omega
  ·have A1:k=l.length:=(by omega);subst A1;have HN:=hid (show Fk (l.take l.length)=Fk l by rw[List.take_length]);clear hB;go_wp2
   go_ret;exact ⟨CZ HN.out,hb⟩
theorem GN (l:Str) {k:Nat} {c:UInt8} (A0:k<l.length) (hc:l[k]=c):(⟨l.toArray⟩:ByteArray).extract k (k+1)=⟨[c].toArray⟩:=by rw[ba_cut,Nat.add_sub_cancel_left];rw[List.drop_eq_getElem_cons A0,hc];rfl
theorem DR (l:Str) (w:World) (hs:l.length<=1073741824):
 Calls prog 34 #[Sv l] w fun e w'=>e= .returned (.string ⟨(Cz l).toArray⟩)/\w=w':=by
 go_enter func34,ntmps34;go_wp2
 go_loop [3,4,7] (fun o _ i=> ∃k:Nat,i=Iv k/\k<=l.length/\o= .string ⟨(Cz (l.take k)).toArray⟩) (fun _ _ i=>l.length-(intOf i).toNat)
 case atStart=>exact ⟨0,rfl,by omega,rfl⟩
 case round=>
  obtain ⟨k,rfl,hk,rfl⟩:=hrel;by_cases A0:k<l.length
  ·obtain ⟨c,AW⟩: ∃c,l[k]=c:=⟨_,rfl⟩;have hx: ∀h,(⟨l.toArray⟩:ByteArray)[k]'h=c:=fun _=>AW;have B1:=Jz LC l A0;have A7:=D9 LC ML (l.take k);rw[List.length_take,Nat.min_eq_left hk] at A7;rw[AW] at B1;have hcut:=GN l A0 AW;obtain ⟨A,hA⟩: ∃A,Cz (l.take k)=A:=⟨_,rfl⟩;change Cz (l.take (k+1))=Cz (l.take k)++LC c at B1;change (Cz (l.take k)).length<=2*k at A7;rw[hA] at B1 A7⊢;have HS:=hid B1;clear B1 hA AW;by_cases L5:c.toNat=92
   ·have XB:((c.toNat:Int)==92)=true:=(by simp;omega);obtain rfl:c=92:=UInt8.toNat.inj L5;have HC:=hid (show LC 92=[92,92] from by decide);clear L5;go_wp2
    go_round
    case rel=>exact ⟨k+1,by go_num,by omega,Af (by rw[HS.out,HC.out,<-AM];try rfl)⟩
    case measure=>simp[intOf];omega
   ·have XB:((c.toNat:Int)==92)=false:=(by simp;omega);have n92:=hid (show¬c=92 from fun e=>L5 (by rw[e];rfl));clear L5;by_cases L6:c.toNat=44
    ·have Y1:((c.toNat:Int)==44)=true:=(by simp;omega);obtain rfl:c=44:=UInt8.toNat.inj L6;have HC:=hid (show LC 44=[92,44] from by decide);clear L6;go_wp2
     go_round
     case rel=>exact ⟨k+1,by go_num,by omega,Af (by rw[HS.out,HC.out,<-AM];try rfl)⟩
     case measure=>simp[intOf];omega
    ·have Y1:((c.toNat:Int)==44)=false:=(by simp;omega);have n44:=hid (show¬c=44 from fun e=>L6 (by rw[e];rfl));clear L6;by_cases L7:c.toNat=59
     ·have Y2:((c.toNat:Int)==59)=true:=(by simp;omega);obtain rfl:c=59:=UInt8.toNat.inj L7;have HC:=hid (show LC 59=[92,59] from by decide);clear L7;go_wp2
      go_round
      case rel=>exact ⟨k+1,by go_num,by omega,Af (by rw[HS.out,HC.out,<-AM];try rfl)⟩
      case measure=>simp[intOf];omega
     ·have Y2:((c.toNat:Int)==59)=false:=(by simp;omega);have n59:=hid (show¬c=59 from fun e=>L7 (by rw[e];rfl));clear L7;by_cases HW:c.toNat=10
      ·have Y3:((c.toNat:Int)==10)=true:=(by simp;omega);obtain rfl:c=10:=UInt8.toNat.inj HW;have HC:=hid (show LC 10=[92,110] from by decide);clear HW;go_wp2
       go_round
       case rel=>exact ⟨k+1,by go_num,by omega,Af (by rw[HS.out,HC.out,<-AM];try rfl)⟩
       case measure=>simp[intOf];omega
      ·have Y3:((c.toNat:Int)==10)=false:=(by simp;omega);have n10:=hid (show¬c=10 from fun e=>HW (by rw[e];rfl));clear HW;have HC:=hid (show LC c=[c] by rw[LC,if_neg (by rintro (e|e|e);exact n92.out e;exact n44.out e;exact n59.out e),if_neg n10.out]);go_wp2
       go_round
       case rel=>exact ⟨k+1,by go_num,by omega,Af (by rw[HS.out,HC.out,<-AM])⟩
       case measure=>simp[intOf];omega
  ·have A1:k=l.length:=(by omega);subst A1;go_wp2
   go_ret;exact ⟨CZ rfl,rfl⟩
theorem UB (l:Str) (c:UInt8): -1<=Lib.indexByte l c:=by
 induction l with
 |nil=>show (-1:Int)<= -1;omega
 |cons a r ih=>
  show-1<=(if a==c then (0:Int) else if Lib.indexByte r c== -1 then-1 else Lib.indexByte r c+1)
  repeat' split
  all_goals omega
theorem UC (l:Str) (c:UInt8):decide (Lib.indexByte l c<0)= !l.contains c:=by
 induction l with
 |nil=>rfl
 |cons a r ih=>
  rw[List.contains_cons];by_cases h:a=c
  ·subst h;simp[Lib.indexByte]
  ·have h':(a==c)=false:=(by simpa using h);have h2:(c==a)=false:=(by simpa using fun e:c=a=>h e.symm);rw[h2,Bool.false_or,<-ih];have YB:=UB r c;show decide ((if a==c then (0:Int) else if Lib.indexByte r c== -1 then-1 else Lib.indexByte r c+1)<0)=_;rw[h',if_neg (by simp)];generalize Lib.indexByte r c=x at YB;rw[Bool.eq_iff_iff,decide_eq_true_eq,decide_eq_true_eq];by_cases hx:x= -1
   ·subst hx;simp
   ·rw[if_neg (by simpa using hx)];omega
theorem EA (l:Str):decide (0<=Lib.indexByte l 34)=decide (34∈l):=by
 have h:=UC l 34;rw[List.contains_eq_mem] at h;by_cases hm:34∈l
 ·rw[decide_eq_true hm,Bool.not_true,decide_eq_false_iff_not] at h;rw[decide_eq_true hm];exact decide_eq_true (by omega)
 ·rw[decide_eq_false hm,Bool.not_false,decide_eq_true_eq] at h;rw[decide_eq_false hm];exact decide_eq_false (by omega)
theorem LO (l:Str) (b:Bool) (w:World) (hs:l.length<=536870912) (hL:LD w):
 Calls prog 99 #[Sv l,.bool b] w fun e w'=>e= .returned (.bool (BI l b))/\Below w.heap.size w w':=by
 have A7:=D9 Jn Iz l;change (Fk l).length<=2*l.length at A7;have key: ∀(s:Str) (w1:World),s.length<=1073741824->Below w.heap.size w w1->True:=fun _ _ _ _=>trivial;clear key;cases b with
 |true=>
  have HE:=hid (show BI l true=(BB (Fk l)&& !(Fk l).contains 34) from rfl);go_enter func99,ntmps99;go_wp2_with fail;refine (GM l _ (by omega)).mono ?_;rintro e w1 ⟨rfl,hb⟩;obtain ⟨s,Q1⟩: ∃s,s=Fk l:=⟨_,rfl⟩;rw[<-Q1] at A7 HE⊢;have HS:=hid Q1;clear Q1;go_wp2_with fail;refine (FG s _ (by omega) (hL.below hb)).mono ?_;rintro e w2 ⟨rfl,A2⟩;have A6:=hb.trans (A2.mono hb.size);cases hu:BB s with
  |true=>
   have HN:=hid (show BI l true= !decide (34∈s) by rw[HE.out,hu,Bool.true_and,List.contains_eq_mem]);clear hu HE;go_wp2_with fail;refine (strings_Contains_one _ 34 _).mono ?_;rintro e w3 ⟨rfl,rfl⟩;rw[show decide (0<=Lib.indexByte (⟨s.toArray⟩:ByteArray).data.toList 34)=decide (34∈s) from EA s];go_wp2
   go_ret;exact ⟨AD (by rw[HN.out]),A6⟩
  |false=>
   have HN:=hid (show BI l true=false by rw[HE.out,hu,Bool.false_and]);clear hu HE;go_wp2
   go_ret;exact ⟨AD (by rw[HN.out]),A6⟩
 |false=>
  have HE:=hid (show BI l false=(BB l&& !l.contains 34) from rfl);go_enter func99,ntmps99;go_wp2_with fail;refine (FG l _ (by omega) hL).mono ?_;rintro e w2 ⟨rfl,A6⟩;cases hu:BB l with
  |true=>
   have HN:=hid (show BI l false= !decide (34∈l) by rw[HE.out,hu,Bool.true_and,List.contains_eq_mem]);clear hu HE;go_wp2_with fail;refine (strings_Contains_one _ 34 _).mono ?_;rintro e w3 ⟨rfl,rfl⟩;rw[show decide (0<=Lib.indexByte (⟨l.toArray⟩:ByteArray).data.toList 34)=decide (34∈l) from EA l];go_wp2
   go_ret;exact ⟨AD (by rw[HN.out]),A6⟩
  |false=>
   have HN:=hid (show BI l false=false by rw[HE.out,hu,Bool.false_and]);clear hu HE;go_wp2
   go_ret;exact ⟨AD (by rw[HN.out]),A6⟩
def okV (b:Bool) (l:Str):Bool:=l.all fun c=> !OB b c
theorem Dr {b:Bool} {c:UInt8} (h:(c.toNat<32/\c.toNat≠9/\(c.toNat≠10∨b=false))∨c.toNat=127):OB b c=true:=decide_eq_true h
theorem DL {b:Bool} {c:UInt8} (h: ¬((c.toNat<32/\c.toNat≠9/\(c.toNat≠10∨b=false))∨c.toNat=127)):OB b c=false:=decide_eq_false h
theorem LP (l:Str) (w:World) (hs:l.length<=1073741824):
 Calls prog 134 #[Sv l,.bool true] w fun e w'=>e= .returned (.bool (AQ l true))/\w=w':=by
 go_enter func134,ntmps134;go_wp2
 go_loop [5,6,9] (fun _ _ i=> ∃k:Nat,i=Iv k/\k<=l.length/\Hid (okV true (l.drop k)=okV true l)) (fun _ _ i=>l.length-(intOf i).toNat)
 case atStart=>exact ⟨0,rfl,by omega,hid rfl⟩
 case round=>
  obtain ⟨k,rfl,hk,HF⟩:=hrel;by_cases A0:k<l.length
  ·obtain ⟨c,hx,hc⟩: ∃c,(∀h,(⟨l.toArray⟩:ByteArray)[k]'h=c)/\l.drop k=c::l.drop (k+1):=⟨l[k],fun _=>rfl,List.drop_eq_getElem_cons A0⟩;have HM:=hid (show okV true (l.drop k)=(!OB true c&&okV true (l.drop (k+1))) by rw[hc];rfl);clear hc;rcases (show (c.toNat<32/\c.toNat≠9/\c.toNat≠10)∨c.toNat=9∨c.toNat=10∨(32<=c.toNat/\c.toNat≠127)∨c.toNat=127 by omega) with h|h|h|h|h
   ·have HB:=hid (Dr (b:=true) (c:=c) (by first|omega|(simp;omega)));have h1:c.toNat<32:=(by omega);have q1:((c.toNat:Int) != 9)=true:=(by simp;omega);have q2:((c.toNat:Int) != 10)=true:=(by simp;omega);have q3:((c.toNat:Int)==127)=false:=(by simp;omega);clear h;have HN:=hid (show AQ l true=false by
     show (okV true l&&B4 l)=false;rw[<-HF.out,HM.out,HB.out];rfl)
    go_wp2
    go_ret;exact ⟨AD (by rw[HN.out]),rfl⟩
   ·have HB:=hid (DL (b:=true) (c:=c) (by first|omega|(simp;omega)));have h1:c.toNat<32:=(by omega);have q1:((c.toNat:Int) != 9)=false:=(by simp;omega);have q2:((c.toNat:Int) != 10)=true:=(by simp;omega);have q3:((c.toNat:Int)==127)=false:=(by simp;omega);clear h;go_wp2
    go_round
    case rel=>exact ⟨k+1,by go_num,by omega,hid (by rw[<-HF.out,HM.out,HB.out];rfl)⟩
    case measure=>simp[intOf];omega
   ·have HB:=hid (DL (b:=true) (c:=c) (by first|omega|(simp;omega)));have h1:c.toNat<32:=(by omega);have q1:((c.toNat:Int) != 9)=true:=(by simp;omega);have q2:((c.toNat:Int) != 10)=false:=(by simp;omega);have q3:((c.toNat:Int)==127)=false:=(by simp;omega);clear h;go_wp2
    go_round
    case rel=>exact ⟨k+1,by go_num,by omega,hid (by rw[<-HF.out,HM.out,HB.out];rfl)⟩
    case measure=>simp[intOf];omega
   ·have HB:=hid (DL (b:=true) (c:=c) (by first|omega|(simp;omega)));have h1:32<=c.toNat:=(by omega);have q1:((c.toNat:Int) != 9)=true:=(by simp;omega);have q2:((c.toNat:Int) != 10)=true:=(by simp;omega);have q3:((c.toNat:Int)==127)=false:=(by simp;omega);clear h;go_wp2
    go_round
    case rel=>exact ⟨k+1,by go_num,by omega,hid (by rw[<-HF.out,HM.out,HB.out];rfl)⟩
    case measure=>simp[intOf];omega
   ·have HB:=hid (Dr (b:=true) (c:=c) (by first|omega|(simp;omega)));have h1:32<=c.toNat:=(by omega);have q1:((c.toNat:Int) != 9)=true:=(by simp;omega);have q2:((c.toNat:Int) != 10)=true:=(by simp;omega);have q3:((c.toNat:Int)==127)=true:=(by simp;omega);clear h;have HN:=hid (show AQ l true=false by
     show (okV true l&&B4 l)=false;rw[<-HF.out,HM.out,HB.out];rfl)
    go_wp2
    go_ret;exact ⟨AD (by rw[HN.out]),rfl⟩
  ·have A1:k=l.length:=(by omega);subst A1;have B2:okV true l=true:=(by rw[<-HF.out,List.drop_length];rfl);have HN:=hid (show AQ l true=B4 l by show (okV true l&&B4 l)=B4 l;rw[B2,Bool.true_and]);clear B2 HF;go_wp2_with fail;refine (bad_any l _ hs).mono ?_;rintro e w1 ⟨⟨n,rfl,HD,_⟩,rfl⟩;go_wp2
   go_ret;exact ⟨AD (by rw[HN.out,<-HD.out]),rfl⟩
theorem J0 (l:Str) (w:World) (hs:l.length<=1073741824):
 Calls prog 134 #[Sv l,.bool false] w fun e w'=>e= .returned (.bool (AQ l false))/\w=w':=by
 go_enter func134,ntmps134;go_wp2
 go_loop [5,6,9] (fun _ _ i=> ∃k:Nat,i=Iv k/\k<=l.length/\Hid (okV false (l.drop k)=okV false l)) (fun _ _ i=>l.length-(intOf i).toNat)
 case atStart=>exact ⟨0,rfl,by omega,hid rfl⟩
 case round=>
  obtain ⟨k,rfl,hk,HF⟩:=hrel;by_cases A0:k<l.length
  ·obtain ⟨c,hx,hc⟩: ∃c,(∀h,(⟨l.toArray⟩:ByteArray)[k]'h=c)/\l.drop k=c::l.drop (k+1):=⟨l[k],fun _=>rfl,List.drop_eq_getElem_cons A0⟩;have HM:=hid (show okV false (l.drop k)=(!OB false c&&okV false (l.drop (k+1))) by rw[hc];rfl);clear hc;rcases (show (c.toNat<32/\c.toNat≠9/\c.toNat≠10)∨c.toNat=9∨c.toNat=10∨(32<=c.toNat/\c.toNat≠127)∨c.toNat=127 by omega) with h|h|h|h|h
   ·have HB:=hid (Dr (b:=false) (c:=c) (by first|omega|(simp;omega)));have h1:c.toNat<32:=(by omega);have q1:((c.toNat:Int) != 9)=true:=(by simp;omega);have q2:((c.toNat:Int) != 10)=true:=(by simp;omega);have q3:((c.toNat:Int)==127)=false:=(by simp;omega);clear h;have HN:=hid (show AQ l false=false by
     show (okV false l&&B4 l)=false;rw[<-HF.out,HM.out,HB.out];rfl)
    go_wp2
    go_ret;exact ⟨AD (by rw[HN.out]),rfl⟩
   ·have HB:=hid (DL (b:=false) (c:=c) (by first|omega|(simp;omega)));have h1:c.toNat<32:=(by omega);have q1:((c.toNat:Int) != 9)=false:=(by simp;omega);have q2:((c.toNat:Int) != 10)=true:=(by simp;omega);have q3:((c.toNat:Int)==127)=false:=(by simp;omega);clear h;go_wp2
    go_round
    case rel=>exact ⟨k+1,by go_num,by omega,hid (by rw[<-HF.out,HM.out,HB.out];rfl)⟩
    case measure=>simp[intOf];omega
   ·have HB:=hid (Dr (b:=false) (c:=c) (by first|omega|(simp;omega)));have h1:c.toNat<32:=(by omega);have q1:((c.toNat:Int) != 9)=true:=(by simp;omega);have q2:((c.toNat:Int) != 10)=false:=(by simp;omega);have q3:((c.toNat:Int)==127)=false:=(by simp;omega);clear h;have HN:=hid (show AQ l false=false by
     show (okV false l&&B4 l)=false;rw[<-HF.out,HM.out,HB.out];rfl)
    go_wp2
    go_ret;exact ⟨AD (by rw[HN.out]),rfl⟩
   ·have HB:=hid (DL (b:=false) (c:=c) (by first|omega|(simp;omega)));have h1:32<=c.toNat:=(by omega);have q1:((c.toNat:Int) != 9)=true:=(by simp;omega);have q2:((c.toNat:Int) != 10)=true:=(by simp;omega);have q3:((c.toNat:Int)==127)=false:=(by simp;omega);clear h;go_wp2
    go_round
    case rel=>exact ⟨k+1,by go_num,by omega,hid (by rw[<-HF.out,HM.out,HB.out];rfl)⟩
    case measure=>simp[intOf];omega
   ·have HB:=hid (Dr (b:=false) (c:=c) (by first|omega|(simp;omega)));have h1:32<=c.toNat:=(by omega);have q1:((c.toNat:Int) != 9)=true:=(by simp;omega);have q2:((c.toNat:Int) != 10)=true:=(by simp;omega);have q3:((c.toNat:Int)==127)=true:=(by simp;omega);clear h;have HN:=hid (show AQ l false=false by
     show (okV false l&&B4 l)=false;rw[<-HF.out,HM.out,HB.out];rfl)
    go_wp2
    go_ret;exact ⟨AD (by rw[HN.out]),rfl⟩
  ·have A1:k=l.length:=(by omega);subst A1;have B2:okV false l=true:=(by rw[<-HF.out,List.drop_length];rfl);have HN:=hid (show AQ l false=B4 l by show (okV false l&&B4 l)=B4 l;rw[B2,Bool.true_and]);clear B2 HF;go_wp2_with fail;refine (bad_any l _ hs).mono ?_;rintro e w1 ⟨⟨n,rfl,HD,_⟩,rfl⟩;go_wp2
   go_ret;exact ⟨AD (by rw[HN.out,<-HD.out]),rfl⟩
theorem FH (l:Str) (b:Bool) (w:World) (hs:l.length<=1073741824):
 Calls prog 134 #[Sv l,.bool b] w fun e w'=>e= .returned (.bool (AQ l b))/\w=w':=by
 cases b
 ·exact J0 l w hs
 ·exact LP l w hs
theorem Sd (b:Bool) (c:UInt8):OB b c=(ctl c&&((c.toNat != 10)|| !b)):=by rw[Bool.eq_iff_iff,OB,ctl];cases b<;>simp<;>omega
theorem LQ (b:Bool) (B:Nat) (c:UInt8) (w:World) (hB:w.cell? (Ad B 0)=some (.bool b)):
 Calls prog 157 #[.int .u8 c.toNat,.pointer (some (Ad B 0))] w fun e w'=>e= .returned (.bool (OB b c))/\w=w':=by
 have HB:=hid (Sd b c);obtain ⟨x,hx⟩: ∃x,x=((c.toNat:Int) != 10):=⟨_,rfl⟩;have HX:=hid (show (c.toNat != 10)=x by rw[hx,Bool.eq_iff_iff];simp;omega);have L8:=hx.symm;clear hx;go_enter func157,ntmps157;go_wp2_with fail;refine (FX c _).mono ?_;rintro e w1 ⟨rfl,rfl⟩;cases hc:ctl c with
 |false=>
  have HC:=hid hc;clear hc;go_wp2
  go_ret;exact ⟨AD (by rw[HB.out,HC.out];rfl),rfl⟩
 |true=>
  have HC:=hid hc;clear hc;cases x with
  |true=>
   go_wp2
   go_ret;exact ⟨AD (by rw[HB.out,HC.out,HX.out];rfl),rfl⟩
  |false=>
   go_wp2
   go_ret;exact ⟨AD (by rw[HB.out,HC.out,HX.out];rfl),rfl⟩
theorem OT (args:Array Value) (w:World):(callFunc 157 args).run prog w= .ok (.enter 157 args) w:=enters_of func157 (by kernel_rfl) rfl args w
theorem FI (l:Str) (b:Bool) (w:World) (hs:l.length<=1073741824) (hL:LD w):
 Calls prog 104 #[Sv l,.bool b] w fun e w'=>e= .returned (.bool (AQ l b))/\Below w.heap.size w w':=by
 have A9:Below w.heap.size w (w.alloc (.cells #[.bool b] 4)):=zA;have HE:=hid (show AQ l b=(okV b l&&B4 l) from rfl);go_enter func104,ntmps104;go_wp2_with fail;refine (MK l _ hs (hL.below A9)).mono ?_;rintro e w1 ⟨⟨n,rfl,HD,hn⟩,hb⟩;have B0:=A9.trans (hb.mono A9.size);have Z0:w1.cell? (Ad w.heap.size 0)=some (.bool b):=(by rw[hb.cell (p:=(Ad w.heap.size 0)) (by simp)];simp);have A0:w.heap.size<w1.heap.size:=(by have:=hb.size;simp at this;omega);clear A9 hb;cases hu:B4 l with
 |true=>
  have PF:n<0:=(by have:=HD.out;rw[hu] at this;exact of_decide_eq_true this);have HN:=hid (show AQ l b=okV b l by rw[HE.out,hu,Bool.and_true]);have HF:=hid (DK (OB b) l 0);clear HD hn hu;go_wp2_with fail;refine (first_any 157 #[.pointer (some (Ad w.heap.size 0))] (OB b) l _ hs OT (fun c wr DA=>LQ b w.heap.size c wr ?_)).mono ?_
  ·exact (DA.cell (p:=(Ad w.heap.size 0)) A0).trans Z0
  rintro e w2 ⟨rfl,A2⟩;obtain ⟨m,hm⟩: ∃m,m=CW (OB b) 0 l:=⟨_,rfl⟩;rw[<-hm] at HF⊢;clear hm;go_wp2
  go_ret;exact ⟨AD (by rw[HN.out];exact HF.out),B0.trans (A2.mono B0.size)⟩
 |false=>
  have PF:0<=n:=(by have:=HD.out;rw[hu] at this;have:=of_decide_eq_false this;omega);have HN:=hid (show AQ l b=false by rw[HE.out,hu,Bool.and_false]);clear HD hn hu;go_wp2
  go_ret;exact ⟨AD (by rw[HN.out]),B0⟩
def Aj (w:World) (v:Value) (e p:Int):Prop:=
 (e=0/\p= -1/\v= .nilIface)∨(e≠0/\p= -1/\v= .iface 26 (Iv e))∨
 (e≠0/\0<=p/\ ∃b,v= .iface 63 (.pointer (some (Ad b 0)))/\b<w.heap.size/\w.cell? (Ad b 0)=some (Iv e)/\w.cell? (Ad b 1)=some (Iv p))
theorem Aj.nil (w:World):Aj w .nilIface 0 (-1):= .inl ⟨rfl,rfl,rfl⟩
theorem Aj.bare (w:World) {e:Int} (h:e≠0):Aj w (.iface 26 (Iv e)) e (-1):= .inr (.inl ⟨h,rfl,rfl⟩)
theorem Aj.new (w:World) {e p:Int} (h:e≠0) (hp:0<=p) (t:TypeId):Aj (w.alloc (.cells #[Iv e,Iv p] t)) (.iface 63 (.pointer (some (Ad w.heap.size 0)))) e p:=
 .inr (.inr ⟨h,hp,w.heap.size,rfl,by simp,by simp,by simp⟩)
theorem Aj.keep {w w':World} {v:Value} {e p:Int} (h:Aj w v e p) (hb:Below w.heap.size w w'):Aj w' v e p:=by
 rcases h with h|h|⟨h1,h2,b,h3,h4,h5,h6⟩
 ·exact .inl h
 ·exact .inr (.inl h)
 ·exact .inr (.inr ⟨h1,h2,b,h3,Nat.lt_of_lt_of_le h4 hb.size,(hb.cell (p:=(Ad b 0)) h4).trans h5,(hb.cell (p:=(Ad b 1)) h4).trans h6⟩)
theorem Hx {c:UInt8} (h:(97<=c.toNat/\c.toNat<=122)∨(65<=c.toNat/\c.toNat<=90)):Ck c=true:=decide_eq_true h
theorem BP {c:UInt8} (h: ¬((97<=c.toNat/\c.toNat<=122)∨(65<=c.toNat/\c.toNat<=90))):Ck c=false:=decide_eq_false h
theorem Eo {c:UInt8} (h:(48<=c.toNat/\c.toNat<=57)∨c.toNat=43∨c.toNat=45∨c.toNat=46):GI c=true:=decide_eq_true h
theorem Cg {c:UInt8} (h: ¬((48<=c.toNat/\c.toNat<=57)∨c.toNat=43∨c.toNat=45∨c.toNat=46)):GI c=false:=decide_eq_false h
theorem NI (l:Str) (w:World) (hs:l.length<=1073741824):
 Calls prog 96 #[Sv l] w fun e w'=>e= .returned (Iv (AJ l))/\w=w':=by
 go_enter func96,ntmps96;go_wp2
 go_loop [3,4,7] (fun _ _ i=> ∃k:Nat,i=Iv k/\k<=l.length/\Hid (Aa k (l.drop k)=AJ l)) (fun _ _ i=>l.length-(intOf i).toNat)
 case atStart=>exact ⟨0,rfl,by omega,hid rfl⟩
 case round=>
  obtain ⟨k,rfl,hk,HF⟩:=hrel;by_cases A0:k<l.length
  ·obtain ⟨c,hx,hc⟩: ∃c,(∀h,(⟨l.toArray⟩:ByteArray)[k]'h=c)/\l.drop k=c::l.drop (k+1):=⟨l[k],fun _=>rfl,List.drop_eq_getElem_cons A0⟩;have HM:=hid (show Aa k (l.drop k)=if c=58 then k else if Ck c||(decide (0<k)&&GI c) then Aa (k+1) (l.drop (k+1)) else 0 by rw[hc];rfl);clear hc;rcases (show (0<=c.toNat/\c.toNat<=42)∨(43<=c.toNat/\c.toNat<=43)∨(44<=c.toNat/\c.toNat<=44)∨(45<=c.toNat/\c.toNat<=45)∨(46<=c.toNat/\c.toNat<=46)∨(47<=c.toNat/\c.toNat<=47)∨(48<=c.toNat/\c.toNat<=57)∨(58<=c.toNat/\c.toNat<=58)∨(59<=c.toNat/\c.toNat<=64)∨(65<=c.toNat/\c.toNat<=90)∨(91<=c.toNat/\c.toNat<=96)∨(97<=c.toNat/\c.toNat<=122)∨(123<=c.toNat/\c.toNat<=255) by have:=c.toNat_lt;omega) with ⟨h1,h2⟩|⟨h1,h2⟩|⟨h1,h2⟩|⟨h1,h2⟩|⟨h1,h2⟩|⟨h1,h2⟩|⟨h1,h2⟩|⟨h1,h2⟩|⟨h1,h2⟩|⟨h1,h2⟩|⟨h1,h2⟩|⟨h1,h2⟩|⟨h1,h2⟩
   ·have DD:((c.toNat:Int)==58)=false:=(by simp;omega);have DT:((c.toNat:Int)==43)=false:=(by simp;omega);have E0:((c.toNat:Int)==45)=false:=(by simp;omega);have E2:((c.toNat:Int)==46)=false:=(by simp;omega);have HC:=hid (show¬c=58 from fun e=>by rw[e] at h1 h2;revert h1 h2;decide);have HA:=hid (BP (c:=c) (by omega));have HO:=hid (Cg (c:=c) (by omega));by_cases A4:k=0
    ·subst A4;have HN:=hid (show AJ l=0 by rw[<-HF.out,HM.out,if_neg HC.out,HA.out];rfl);go_wp2
     go_ret;exact ⟨by rw[HN.out];rfl,rfl⟩
    ·have AN:0<k:=(by omega);have HN:=hid (show AJ l=0 by rw[<-HF.out,HM.out,if_neg HC.out,HA.out,HO.out,decide_eq_true AN];rfl);clear A4;go_wp2
     go_ret;exact ⟨by rw[HN.out];rfl,rfl⟩
   ·have DD:((c.toNat:Int)==58)=false:=(by simp;omega);have DT:((c.toNat:Int)==43)=true:=(by simp;omega);have E0:((c.toNat:Int)==45)=false:=(by simp;omega);have E2:((c.toNat:Int)==46)=false:=(by simp;omega);have HC:=hid (show¬c=58 from fun e=>by rw[e] at h1 h2;revert h1 h2;decide);have HA:=hid (BP (c:=c) (by omega));have HO:=hid (Eo (c:=c) (by omega));by_cases A4:k=0
    ·subst A4;have HN:=hid (show AJ l=0 by rw[<-HF.out,HM.out,if_neg HC.out,HA.out];rfl);go_wp2
     go_ret;exact ⟨by rw[HN.out];rfl,rfl⟩
    ·have AN:0<k:=(by omega);have HN:=hid (show Aa (k+1) (l.drop (k+1))=AJ l by rw[<-HF.out,HM.out,if_neg HC.out,HA.out,HO.out,decide_eq_true AN];rfl);clear A4;go_wp2
     go_round
     case rel=>exact ⟨k+1,by go_num,by omega,HN⟩
     case measure=>simp[intOf];omega
   ·have DD:((c.toNat:Int)==58)=false:=(by simp;omega);have DT:((c.toNat:Int)==43)=false:=(by simp;omega);have E0:((c.toNat:Int)==45)=false:=(by simp;omega);have E2:((c.toNat:Int)==46)=false:=(by simp;omega);have HC:=hid (show¬c=58 from fun e=>by rw[e] at h1 h2;revert h1 h2;decide);have HA:=hid (BP (c:=c) (by omega));have HO:=hid (Cg (c:=c) (by omega));by_cases A4:k=0
    ·subst A4;have HN:=hid (show AJ l=0 by rw[<-HF.out,HM.out,if_neg HC.out,HA.out];rfl);go_wp2
     go_ret;exact ⟨by rw[HN.out];rfl,rfl⟩
    ·have AN:0<k:=(by omega);have HN:=hid (show AJ l=0 by rw[<-HF.out,HM.out,if_neg HC.out,HA.out,HO.out,decide_eq_true AN];rfl);clear A4;go_wp2
     go_ret;exact ⟨by rw[HN.out];rfl,rfl⟩
   ·have DD:((c.toNat:Int)==58)=false:=(by simp;omega);have DT:((c.toNat:Int)==43)=false:=(by simp;omega);have E0:((c.toNat:Int)==45)=true:=(by simp;omega);have E2:((c.toNat:Int)==46)=false:=(by simp;omega);have HC:=hid (show¬c=58 from fun e=>by rw[e] at h1 h2;revert h1 h2;decide);have HA:=hid (BP (c:=c) (by omega));have HO:=hid (Eo (c:=c) (by omega));by_cases A4:k=0
    ·subst A4;have HN:=hid (show AJ l=0 by rw[<-HF.out,HM.out,if_neg HC.out,HA.out];rfl);go_wp2
     go_ret;exact ⟨by rw[HN.out];rfl,rfl⟩
    ·have AN:0<k:=(by omega);have HN:=hid (show Aa (k+1) (l.drop (k+1))=AJ l by rw[<-HF.out,HM.out,if_neg HC.out,HA.out,HO.out,decide_eq_true AN];rfl);clear A4;go_wp2
     go_round
     case rel=>exact ⟨k+1,by go_num,by omega,HN⟩
     case measure=>simp[intOf];omega
   ·have DD:((c.toNat:Int)==58)=false:=(by simp;omega);have DT:((c.toNat:Int)==43)=false:=(by simp;omega);have E0:((c.toNat:Int)==45)=false:=(by simp;omega);have E2:((c.toNat:Int)==46)=true:=(by simp;omega);have HC:=hid (show¬c=58 from fun e=>by rw[e] at h1 h2;revert h1 h2;decide);have HA:=hid (BP (c:=c) (by omega));have HO:=hid (Eo (c:=c) (by omega));by_cases A4:k=0
    ·subst A4;have HN:=hid (show AJ l=0 by rw[<-HF.out,HM.out,if_neg HC.out,HA.out];rfl);go_wp2
     go_ret;exact ⟨by rw[HN.out];rfl,rfl⟩
    ·have AN:0<k:=(by omega);have HN:=hid (show Aa (k+1) (l.drop (k+1))=AJ l by rw[<-HF.out,HM.out,if_neg HC.out,HA.out,HO.out,decide_eq_true AN];rfl);clear A4;go_wp2
     go_round
     case rel=>exact ⟨k+1,by go_num,by omega,HN⟩
     case measure=>simp[intOf];omega
   ·have DD:((c.toNat:Int)==58)=false:=(by simp;omega);have DT:((c.toNat:Int)==43)=false:=(by simp;omega);have E0:((c.toNat:Int)==45)=false:=(by simp;omega);have E2:((c.toNat:Int)==46)=false:=(by simp;omega);have HC:=hid (show¬c=58 from fun e=>by rw[e] at h1 h2;revert h1 h2;decide);have HA:=hid (BP (c:=c) (by omega));have HO:=hid (Cg (c:=c) (by omega));by_cases A4:k=0
    ·subst A4;have HN:=hid (show AJ l=0 by rw[<-HF.out,HM.out,if_neg HC.out,HA.out];rfl);go_wp2
     go_ret;exact ⟨by rw[HN.out];rfl,rfl⟩
    ·have AN:0<k:=(by omega);have HN:=hid (show AJ l=0 by rw[<-HF.out,HM.out,if_neg HC.out,HA.out,HO.out,decide_eq_true AN];rfl);clear A4;go_wp2
     go_ret;exact ⟨by rw[HN.out];rfl,rfl⟩
   ·have DD:((c.toNat:Int)==58)=false:=(by simp;omega);have DT:((c.toNat:Int)==43)=false:=(by simp;omega);have E0:((c.toNat:Int)==45)=false:=(by simp;omega);have E2:((c.toNat:Int)==46)=false:=(by simp;omega);have HC:=hid (show¬c=58 from fun e=>by rw[e] at h1 h2;revert h1 h2;decide);have HA:=hid (BP (c:=c) (by omega));have HO:=hid (Eo (c:=c) (by omega));by_cases A4:k=0
    ·subst A4;have HN:=hid (show AJ l=0 by rw[<-HF.out,HM.out,if_neg HC.out,HA.out];rfl);go_wp2
     go_ret;exact ⟨by rw[HN.out];rfl,rfl⟩
    ·have AN:0<k:=(by omega);have HN:=hid (show Aa (k+1) (l.drop (k+1))=AJ l by rw[<-HF.out,HM.out,if_neg HC.out,HA.out,HO.out,decide_eq_true AN];rfl);clear A4;go_wp2
     go_round
     case rel=>exact ⟨k+1,by go_num,by omega,HN⟩
     case measure=>simp[intOf];omega
   ·have DD:((c.toNat:Int)==58)=true:=(by simp;omega);have DT:((c.toNat:Int)==43)=false:=(by simp;omega);have E0:((c.toNat:Int)==45)=false:=(by simp;omega);have E2:((c.toNat:Int)==46)=false:=(by simp;omega);have HN:=hid (show AJ l=k by rw[<-HF.out,HM.out,if_pos (UInt8.toNat.inj (by show c.toNat=58;omega))]);go_wp2
    go_ret;exact ⟨by rw[HN.out];rfl,rfl⟩
   ·have DD:((c.toNat:Int)==58)=false:=(by simp;omega);have DT:((c.toNat:Int)==43)=false:=(by simp;omega);have E0:((c.toNat:Int)==45)=false:=(by simp;omega);have E2:((c.toNat:Int)==46)=false:=(by simp;omega);have HC:=hid (show¬c=58 from fun e=>by rw[e] at h1 h2;revert h1 h2;decide);have HA:=hid (BP (c:=c) (by omega));have HO:=hid (Cg (c:=c) (by omega));by_cases A4:k=0
    ·subst A4;have HN:=hid (show AJ l=0 by rw[<-HF.out,HM.out,if_neg HC.out,HA.out];rfl);go_wp2
     go_ret;exact ⟨by rw[HN.out];rfl,rfl⟩
    ·have AN:0<k:=(by omega);have HN:=hid (show AJ l=0 by rw[<-HF.out,HM.out,if_neg HC.out,HA.out,HO.out,decide_eq_true AN];rfl);clear A4;go_wp2
     go_ret;exact ⟨by rw[HN.out];rfl,rfl⟩
   ·have DD:((c.toNat:Int)==58)=false:=(by simp;omega);have DT:((c.toNat:Int)==43)=false:=(by simp;omega);have E0:((c.toNat:Int)==45)=false:=(by simp;omega);have E2:((c.toNat:Int)==46)=false:=(by simp;omega);have HC:=hid (show¬c=58 from fun e=>by rw[e] at h1 h2;revert h1 h2;decide);have HA:=hid (Hx (c:=c) (by omega));have HN:=hid (show Aa (k+1) (l.drop (k+1))=AJ l by rw[<-HF.out,HM.out,if_neg HC.out,HA.out];rfl);go_wp2
    go_round
    case rel=>exact ⟨k+1,by go_num,by omega,HN⟩
    case measure=>simp[intOf];omega
   ·have DD:((c.toNat:Int)==58)=false:=(by simp;omega);have DT:((c.toNat:Int)==43)=false:=(by simp;omega);have E0:((c.toNat:Int)==45)=false:=(by simp;omega);have E2:((c.toNat:Int)==46)=false:=(by simp;omega);have HC:=hid (show¬c=58 from fun e=>by rw[e] at h1 h2;revert h1 h2;decide);have HA:=hid (BP (c:=c) (by omega));have HO:=hid (Cg (c:=c) (by omega));by_cases A4:k=0
    ·subst A4;have HN:=hid (show AJ l=0 by rw[<-HF.out,HM.out,if_neg HC.out,HA.out];rfl);go_wp2
     go_ret;exact ⟨by rw[HN.out];rfl,rfl⟩
    ·have AN:0<k:=(by omega);have HN:=hid (show AJ l=0 by rw[<-HF.out,HM.out,if_neg HC.out,HA.out,HO.out,decide_eq_true AN];rfl);clear A4;go_wp2
     go_ret;exact ⟨by rw[HN.out];rfl,rfl⟩
   ·have DD:((c.toNat:Int)==58)=false:=(by simp;omega);have DT:((c.toNat:Int)==43)=false:=(by simp;omega);have E0:((c.toNat:Int)==45)=false:=(by simp;omega);have E2:((c.toNat:Int)==46)=false:=(by simp;omega);have HC:=hid (show¬c=58 from fun e=>by rw[e] at h1 h2;revert h1 h2;decide);have HA:=hid (Hx (c:=c) (by omega));have HN:=hid (show Aa (k+1) (l.drop (k+1))=AJ l by rw[<-HF.out,HM.out,if_neg HC.out,HA.out];rfl);go_wp2
    go_round
    case rel=>exact ⟨k+1,by go_num,by omega,HN⟩
    case measure=>simp[intOf];omega
   ·have DD:((c.toNat:Int)==58)=false:=(by simp;omega);have DT:((c.toNat:Int)==43)=false:=(by simp;omega);have E0:((c.toNat:Int)==45)=false:=(by simp;omega);have E2:((c.toNat:Int)==46)=false:=(by simp;omega);have HC:=hid (show¬c=58 from fun e=>by rw[e] at h1 h2;revert h1 h2;decide);have HA:=hid (BP (c:=c) (by omega));have HO:=hid (Cg (c:=c) (by omega));by_cases A4:k=0
    ·subst A4;have HN:=hid (show AJ l=0 by rw[<-HF.out,HM.out,if_neg HC.out,HA.out];rfl);go_wp2
     go_ret;exact ⟨by rw[HN.out];rfl,rfl⟩
    ·have AN:0<k:=(by omega);have HN:=hid (show AJ l=0 by rw[<-HF.out,HM.out,if_neg HC.out,HA.out,HO.out,decide_eq_true AN];rfl);clear A4;go_wp2
     go_ret;exact ⟨by rw[HN.out];rfl,rfl⟩
  ·have A1:k=l.length:=(by omega);subst A1;have HN:=hid (show AJ l=0 by rw[<-HF.out,List.drop_length];rfl);go_wp2
   go_ret;exact ⟨by rw[HN.out];rfl,rfl⟩
theorem Se {c:UInt8} (h:33<=c.toNat/\c.toNat<=126):Xu c=true:=decide_eq_true h
theorem MN {c:UInt8} (h: ¬(33<=c.toNat/\c.toNat<=126)):Xu c=false:=decide_eq_false h
theorem Ea: ∀(l:Str) (i:Nat),Aa i l<=i+l.length
 |[],i=>by simp[Aa]
 |c::r,i=>by
  have:=Ea r (i+1);unfold Aa;simp only[List.length_cons]
  repeat' split
  all_goals omega
def Xa (l:Str) (w:World) (e:Ending) (w':World):Prop:=(∃v p,e= .returned v/\Aj w' v (DG l) p)/\Below w.heap.size w w'
theorem FJ (l:Str) (w:World) (hs:l.length<=1073741824):Calls prog 50 #[Sv l] w (Xa l w):=by
 have H1:AJ l<=l.length:=(by have:=Ea l 0;rw[Nat.zero_add] at this;exact this);have HE:=hid (show DG l=if AJ l=0 then 8 else if !l.all Xu then 3 else if AJ l+1=l.length then 7 else 0 from rfl);obtain ⟨n,hn⟩: ∃n,n=AJ l:=⟨_,rfl⟩;rw[<-hn] at H1 HE;have HN:=hid hn;clear hn;go_enter func50,ntmps50;go_wp2_with fail;refine (NI l _ hs).mono ?_;rintro e w1 ⟨rfl,rfl⟩;rw[<-HN.out];by_cases h0:n=0
 ·have q:((n:Int)==0)=true:=(by simpa using h0);have HR:=hid (show DG l=8 by rw[HE.out,if_pos h0]);clear h0 HE;go_wp2
  go_ret;exact ⟨⟨_, -1,rfl,by rw[HR.out];exact Aj.bare _ (by decide)⟩,zB⟩
 ·have q:((n:Int)==0)=false:=(by simpa using h0);have HK:=hid (show DG l=if !l.all Xu then 3 else if n+1=l.length then 7 else 0 by rw[HE.out,if_neg h0]);clear h0 HE;go_wp2
  go_loop [4,12] (fun _ i=> ∃k:Nat,i=Iv k/\k<=l.length/\Hid ((l.drop k).all Xu=l.all Xu)) (fun _ i=>l.length-(intOf i).toNat)
  case atStart=>exact ⟨0,rfl,by omega,hid rfl⟩
  case round=>
   obtain ⟨k,rfl,hk,HF⟩:=hrel;by_cases A0:k<l.length
   ·obtain ⟨c,hx,hc⟩: ∃c,(∀h,(⟨l.toArray⟩:ByteArray)[k]'h=c)/\l.drop k=c::l.drop (k+1):=⟨l[k],fun _=>rfl,List.drop_eq_getElem_cons A0⟩;have HM:=hid (show (l.drop k).all Xu=(Xu c&&(l.drop (k+1)).all Xu) by rw[hc];rfl);clear hc;by_cases h1:33<=c.toNat
    ·by_cases h2:c.toNat<=126
     ·have HG:=hid (Se ⟨h1,h2⟩);go_wp2
      go_round
      case rel=>exact ⟨k+1,by go_num,by omega,hid (by rw[<-HF.out,HM.out,HG.out];rfl)⟩
      case measure=>simp[intOf];omega
     ·have HR:=hid (show DG l=3 by rw[HK.out,<-HF.out,HM.out,MN (by omega)];rfl);go_wp2
      go_ret;exact ⟨⟨_,k,rfl,by rw[HR.out];exact Aj.new w (e:=3) (p:=k) (by decide) (by omega) 65⟩,zA⟩
    ·have HR:=hid (show DG l=3 by rw[HK.out,<-HF.out,HM.out,MN (by omega)];rfl);go_wp2
     go_ret;exact ⟨⟨_,k,rfl,by rw[HR.out];exact Aj.new w (e:=3) (p:=k) (by decide) (by omega) 65⟩,zA⟩
   ·have A1:k=l.length:=(by omega);subst A1;have I0:=hid (show DG l=if n+1=l.length then 7 else 0 by rw[HK.out,<-HF.out,List.drop_length];rfl);clear HF;by_cases h3:n+1=l.length
    ·have q3:(((n:Int)+1)==(l.length:Int))=true:=(by simp;omega);have HR:=hid (show DG l=7 by rw[I0.out,if_pos h3]);clear h3;go_wp2
     go_ret;exact ⟨⟨_,l.length,rfl,by rw[HR.out];exact Aj.new w (e:=7) (p:=l.length) (by decide) (by omega) 65⟩,zA⟩
    ·have q3:(((n:Int)+1)==(l.length:Int))=false:=(by simp;omega);have HR:=hid (show DG l=0 by rw[I0.out,if_neg h3]);clear h3;go_wp2
     go_ret;exact ⟨⟨_, -1,rfl,by rw[HR.out];exact Aj.nil _⟩,zB⟩
def X4 (e p:Int):Value:= .agg #[Iv e,Iv p]
theorem CG (c:Int) (w:World):Calls prog 13 #[Iv c] w fun e w'=>e= .returned (.agg #[Iv c,Iv (-1)])/\w.alloc (.cells #[Iv c,Iv (-1)] 28)=w':=by
 go_enter func13,ntmps13;go_wp2
 exact bodyPost_ret (v:= .agg #[Iv c,Iv (-1)]) (by simp[results,results13,go_sem]) rfl ⟨rfl,rfl⟩
theorem Cm (w:World):Calls prog 18 #[] w fun e w'=>e= .returned (.agg #[Iv 0,Iv (-1)])/\w.alloc (.cells #[Iv 0,Iv (-1)] 28)=w':=by
 go_enter func18,ntmps18;go_wp2
 exact bodyPost_ret (v:= .agg #[Iv 0,Iv (-1)]) (by simp[results,results18,go_sem]) rfl ⟨rfl,rfl⟩
theorem CU (c p:Int) (w:World):Calls prog 12 #[.agg #[Iv c,Iv p]] w fun e w'=>e= .returned (.bool (c==0))/\w.alloc (.cells #[Iv c,Iv p] 28)=w':=by
 go_enter func12,ntmps12;go_wp2
 go_ret;exact ⟨rfl,rfl⟩
theorem NJ (c:UInt8) (w:World):Calls prog 70 #[.int .u8 c.toNat] w fun e w'=>e= .returned (.bool (Xu c))/\w=w':=by
 have ZL:=Bm c;have HG:=hid (show (decide ((33:Int)<=c.toNat)&&decide ((c.toNat:Int)<=126))=Xu c by rw[Xu,Bool.eq_iff_iff];simp;omega);go_enter func70,ntmps70;go_wp2_with fail;refine (AX c.toNat 33 126 _).mono ?_;rintro e w1 ⟨rfl,rfl⟩;go_wp2
 go_ret;exact ⟨AD (by rw[<-HG.out]),rfl⟩
theorem LR (c:UInt8) (w:World):Calls prog 69 #[.int .u8 c.toNat] w fun e w'=>e= .returned (.bool (!Xu c))/\w=w':=by
 go_enter func69,ntmps69;go_wp2_with fail;refine (NJ c _).mono ?_;rintro e w1 ⟨rfl,rfl⟩;go_wp2
 go_ret;exact ⟨rfl,rfl⟩
theorem Qo (args:Array Value) (w:World):(callFunc 69 args).run prog w= .ok (.enter 69 args) w:=enters_of func69 (by kernel_rfl) rfl args w
theorem Qp (l:Str) (w:World) (hs:l.length<=1073741824):
 Calls prog 68 #[Sv l,.func (.func 69) #[] #[]] w fun e w'=>(∃n:Int,e= .returned (Iv n)/\Hid (decide (n<0)=l.all Xu))/\Below w.heap.size w w':=
 (first_any 69 #[] (fun c=> !Xu c) l w hs Qo (fun c wr _=>LR c wr)).mono fun _ _ ⟨h1,h2⟩=>⟨⟨_,h1,hid (by rw[DK];simp)⟩,h2⟩
theorem I7 (l:Str) (n:Int) (c:UInt8) (h:n.toNat.toUInt8=c) (w:World):Calls prog 58 #[Sv l,.int .u8 n] w fun e w'=>e= .returned (Iv (Lib.indexByte l c))/\w=w':=
 (strings_IndexByte _ _ w).mono fun e w' ⟨h1,h2⟩=>⟨by rw[h1,h],h2.symm⟩
theorem J1 (s:ByteArray) (l:Str) (c:UInt8) (h:s.data.toList=l) (w:World):Calls prog 58 #[.string s,.int .u8 c.toNat] w fun e w'=>e= .returned (Iv (Lib.indexByte l c))/\w=w':=
 (strings_IndexByte _ _ w).mono fun e w' ⟨h1,h2⟩=>⟨by rw[h1,h,GK],h2.symm⟩
theorem DS (c:UInt8): ∀(l:Str),(Lib.indexByte l c= -1/\ ∀x∈l,x≠c)∨ ∃k:Nat,Lib.indexByte l c=k/\k<l.length/\l[k]? =some c/\ ∀j x,j<k->l[j]? =some x->x≠c
 |[]=> .inl ⟨rfl,by simp⟩
 |a::r=>by
  have e:Lib.indexByte (a::r) c=if a==c then (0:Int) else if Lib.indexByte r c== -1 then-1 else Lib.indexByte r c+1:=rfl;by_cases h:a=c
  ·subst h;exact .inr ⟨0,by rw[e];simp,by simp,by simp,fun j x hj=>absurd hj (by omega)⟩
  ·have h':(a==c)=false:=(by simpa using h);rw[h',if_neg (by simp)] at e;rcases DS c r with ⟨h1,h2⟩|⟨k,h1,h2,h3,h4⟩
   ·rw[h1] at e;exact .inl ⟨by rw[e];rfl,fun x hx=>by
     rcases List.mem_cons.1 hx with rfl|hx
     ·exact h
     ·exact h2 x hx⟩
   ·rw[h1,if_neg (by simp)] at e;refine .inr ⟨k+1,by rw[e];omega,by simp;omega,by simpa using h3,fun j x hj hx=> ?_⟩;cases j with
    |zero=>simp at hx;rw[<-hx];exact h
    |succ j=>exact h4 j x (by omega) (by simpa using hx)
theorem DU: ∀(l:Str) (i:Nat),(∀x∈l,x≠58)->Aa i l=0
 |[],i,_=>rfl
 |c::r,i,h=>by
  unfold Aa;rw[if_neg (h c (by simp))];split
  ·exact DU r (i+1) fun x hx=>h x (by simp[hx])
  ·rfl
def X5:List UInt8:=Xy++Xz
def X6:List UInt8:=Xy++Xz++[48,49,50,51,52,53,54,55,56,57,43,45,46]
theorem Sf: ∀n:Fin 256,decide (Lib.indexByte X5 (UInt8.ofNat n.val)<0)= !Ck (UInt8.ofNat n.val):=by decide+kernel
theorem Qq (c:UInt8):decide (Lib.indexByte X5 c<0)= !Ck c:=by have h:=Sf ⟨c.toNat,c.toNat_lt⟩;simpa only[UInt8.ofNat_toNat] using h
theorem Sg: ∀n:Fin 256,decide (Lib.indexByte X6 (UInt8.ofNat n.val)<0)= !(Ck (UInt8.ofNat n.val)||GI (UInt8.ofNat n.val)):=by decide+kernel
theorem Qr (c:UInt8):decide (Lib.indexByte X6 c<0)= !(Ck c||GI c):=by have h:=Sg ⟨c.toNat,c.toNat_lt⟩;simpa only[UInt8.ofNat_toNat] using h
theorem UD:((⟨#[65,66,67,68,69,70,71,72,73,74,75,76,77,78,79,80,81,82,83,84,85,86,87,88,89,90]⟩:ByteArray)++⟨Xz.toArray⟩++⟨#[]⟩).data.toList=X5:=by decide
theorem UE:((⟨#[65,66,67,68,69,70,71,72,73,74,75,76,77,78,79,80,81,82,83,84,85,86,87,88,89,90]⟩:ByteArray)++⟨Xz.toArray⟩++⟨#[48,49,50,51,52,53,54,55,56,57,43,45,46]⟩).data.toList=X6:=by decide
def Vj (l:Str) (w:World) (e:Ending) (w':World):Prop:=e= .returned (.tuple #[.string ⟨(l.take (AJ l)).toArray⟩,Iv (if AJ l=0 then 8 else 0)])/\Below w.heap.size w w'
theorem I8 {l:Str} {w w':World} (h:AJ l=0) (hb:Below w.heap.size w w'):Vj l w (.returned (.tuple #[.string ⟨#[]⟩,Iv 8])) w':=by refine ⟨?_,hb⟩;rw[h];simp
theorem Qs {l:Str} {w w':World} {k:Nat} (h:AJ l=k) (hk:0<k) (hb:Below w.heap.size w w'):Vj l w (.returned (.tuple #[.string ⟨(l.take k).toArray⟩,Iv 0])) w':=by refine ⟨?_,hb⟩;rw[h,if_neg (by omega)]
theorem LS (l:Str) (w:World) (hs:l.length<=1073741824):Calls prog 67 #[Sv l] w (Vj l w):=by
 rcases DS 58 l with ⟨hi,L9⟩|⟨i,hi,I1,F2,FB⟩
 ·have HN:=hid (show AJ l=0 from DU l 0 L9);have HI:=hid hi;clear hi L9;go_enter func67,ntmps67;go_wp2_with fail;refine (I7 l 58 58 rfl _).mono ?_;rintro e w1 ⟨rfl,rfl⟩;rw[HI.out];go_wp2
  go_ret2;exact I8 HN.out zB
 ·have HI:=hid hi;clear hi;by_cases h0:i=0
  ·subst h0;have HN:=hid (show AJ l=0 by
    cases l with
    |nil=>rfl
    |cons a r=>
     simp at F2;subst F2;rfl)
   clear F2 FB;go_enter func67,ntmps67;go_wp2_with fail;refine (I7 l 58 58 rfl _).mono ?_;rintro e w1 ⟨rfl,rfl⟩;rw[HI.out];go_wp2
   go_ret2;exact I8 HN.out zB
  ·have ZM:1<=i:=(by omega);have e1:(⟨l.toArray⟩:ByteArray).extract 0 i=⟨(l.take i).toArray⟩:=(by rw[ba_cut];simp);have I2:(l.take i).length=i:=(by rw[List.length_take];omega);have U2:=fun wx=>BU (l.take i) wx;obtain ⟨W1,cap,F4,H9,hB,hb,hz⟩:=U2 w;rw[I2] at F4 H9;have HC:=hid F2;have Z1:=hid FB;have H0:=hid I2;clear h0 F2 FB U2 I2;go_enter func67,ntmps67;go_wp2_with fail;refine (I7 l 58 58 rfl _).mono ?_;rintro e w1 ⟨rfl,rfl⟩;rw[HI.out];go_wp2;go_loopw [5,6,7,17] (fun _ _ _ j wr=> ∃k:Nat,j=Iv k/\k<=i/\Hid (Aa k (l.drop k)=AJ l)/\Buf wr w.heap.size (l.take i)/\Below w.heap.size w wr) (fun _ _ _ j _=>i-(intOf j).toNat);case atStart=>exact ⟨0,rfl,by omega,hid rfl,hB,hb⟩
   case round=>
    clear F4 hB hb;obtain ⟨k,rfl,hk,HF,hB,hb⟩:=hrel;by_cases A0:k<i
    ·have A1:k<l.length:=(by omega);have A7:k<(l.take i).length:=(by rw[H0.out];exact A0);have F1:=hB.cell k A7;obtain ⟨c,AW,hc⟩: ∃c,l[k]=c/\l.drop k=c::l.drop (k+1):=⟨l[k],rfl,List.drop_eq_getElem_cons A1⟩;rw[List.getElem_take,AW] at F1;have LB:c≠58:=Z1.out k c A0 (by rw[List.getElem?_eq_getElem A1,AW]);have HM:=hid (show Aa k (l.drop k)=if Ck c||(decide (0<k)&&GI c) then Aa (k+1) (l.drop (k+1)) else 0 by rw[hc];show (if c=58 then k else _)=_;rw[if_neg LB]);have A9:=Qq c;have G1:=Qr c;have HB:=hid hB;clear hc AW hB LB A7;by_cases A4:k=0
     ·subst A4;have AB:=hid (show AJ l=if Ck c then Aa (0+1) (l.drop (0+1)) else 0 by rw[<-HF.out,HM.out];simp);clear G1;go_wp2_with fail;refine (OI _).mono ?_;rintro e w3 ⟨rfl,A6⟩;have AV:=hb.trans (A6.mono hb.size);have Q2:=hid (HB.out.keep A6 HB.out.lt);clear F1 hb A6;go_wp2_with fail;refine (J1 _ X5 c UD _).mono ?_;rintro e w4 ⟨rfl,rfl⟩;obtain ⟨x,I3⟩: ∃x,x=Lib.indexByte X5 c:=⟨_,rfl⟩;rw[<-I3] at A9⊢;clear I3;cases hg:Ck c with
      |true=>
       have hx:0<=x:=(by rw[hg] at A9;have:=of_decide_eq_false A9;omega);have HN:=hid (show Aa (0+1) (l.drop (0+1))=AJ l by rw[AB.out,hg];rfl);clear A9 hg;go_wp2
       go_roundw;case rel=>exact ⟨0+1,by go_num,by omega,HN,Q2.out,AV⟩
       case measure=>simp[intOf];omega
      |false=>
       have hx:x<0:=(by rw[hg] at A9;exact of_decide_eq_true A9);have HN:=hid (show AJ l=0 by rw[AB.out,hg];rfl);clear A9 hg;go_wp2
       go_ret2;exact I8 HN.out AV
     ·have q0:((k:Int)==0)=false:=(by simpa using A4);have AN:0<k:=(by omega);have AB:=hid (show AJ l=if Ck c||GI c then Aa (k+1) (l.drop (k+1)) else 0 by rw[<-HF.out,HM.out,decide_eq_true AN,Bool.true_and]);clear A9 A4;go_wp2_with fail;refine (OI _).mono ?_;rintro e w3 ⟨rfl,A6⟩;have AV:=hb.trans (A6.mono hb.size);have Q2:=hid (HB.out.keep A6 HB.out.lt);clear F1 hb A6;go_wp2_with fail;refine (J1 _ X6 c UE _).mono ?_;rintro e w4 ⟨rfl,rfl⟩;obtain ⟨x,I3⟩: ∃x,x=Lib.indexByte X6 c:=⟨_,rfl⟩;rw[<-I3] at G1⊢;clear I3;cases hg:(Ck c||GI c) with
      |true=>
       have hx:0<=x:=(by rw[hg] at G1;have:=of_decide_eq_false G1;omega);have HN:=hid (show Aa (k+1) (l.drop (k+1))=AJ l by rw[AB.out,hg];rfl);clear G1 hg;go_wp2
       go_roundw;case rel=>exact ⟨k+1,by go_num,by omega,HN,Q2.out,AV⟩
       case measure=>simp[intOf];omega
      |false=>
       have hx:x<0:=(by rw[hg] at G1;exact of_decide_eq_true G1);have HN:=hid (show AJ l=0 by rw[AB.out,hg];rfl);clear G1 hg;go_wp2
       go_ret2;exact I8 HN.out AV
    ·have A1:k=i:=(by omega);subst A1;have HN:=hid (show AJ l=k by
      rw[<-HF.out];have A1:k<l.length:=I1;have h2:=HC.out;rw[List.getElem?_eq_getElem A1] at h2;rw[List.drop_eq_getElem_cons A1,Option.some.inj h2];rfl)
     clear hB HF;go_wp2
     go_ret2;exact Qs HN.out (by omega) hb
def VL (E:Int) (w:World) (e:Ending) (w':World):Prop:=(∃p:Int,e= .returned (.agg #[Iv E,Iv p]))/\Below w.heap.size w w'
theorem K7 {E E' p:Int} {w w':World} (h:E=E') (hb:Below w.heap.size w w'):VL E w (.returned (.agg #[Iv E',Iv p])) w':=⟨⟨p,by rw[h]⟩,hb⟩
theorem NK (l:Str) (n:Nat) (hn:0<n) (h:AJ l=n):(l=l.take n++[58])↔n+1=l.length:=by
 rcases DS 58 l with ⟨_,L9⟩|⟨i,_,I1,F2,FB⟩
 ·have:=DU l 0 L9;have h2:AJ l=0:=this;omega
 ·have key: ∀(k:Nat),k<=i->Aa k (l.drop k)=0∨Aa k (l.drop k)=i:=by
   intro k hk
   induction hj:i- k generalizing k with
   |zero=>
    have:k=i:=(by omega);subst this;right
    have A1:k<l.length:=I1;rw[List.getElem?_eq_getElem A1] at F2;rw[List.drop_eq_getElem_cons A1,Option.some.inj F2];rfl
   |succ j ih=>
    have A1:k<l.length:=(by omega);have LB:l[k]≠58:=FB k _ (by omega) (List.getElem?_eq_getElem A1);have e:Aa k (l.drop k)=if Ck l[k]||(decide (0<k)&&GI l[k]) then Aa (k+1) (l.drop (k+1)) else 0:=(by rw[List.drop_eq_getElem_cons A1];show (if l[k]=58 then k else if Ck l[k]||(decide (0<k)&&GI l[k]) then Aa (k+1) (l.drop (k+1)) else 0)=_;rw[if_neg LB]);rw[e];split
    ·exact ih (k+1) (by omega) (by omega)
    ·exact .inl rfl
  have Z2:n=i:=by
   rcases key 0 (by omega) with h0|h0
   ·have:AJ l=0:=h0;omega
   ·have:AJ l=i:=h0;omega
  subst Z2;rw[List.getElem?_eq_getElem I1] at F2;have HH:l=l.take n++58::l.drop (n+1):=(by have:=List.take_append_drop n l;rw[List.drop_eq_getElem_cons I1,Option.some.inj F2] at this;exact this.symm);constructor
  ·intro e;have:=congrArg List.length e;rw[List.length_append,List.length_take] at this;simp at this;omega
  ·intro e;rw[List.drop_of_length_le (by omega)] at HH;exact HH
theorem DV (l:Str) (w:World) (hs:l.length<=1073741824):Calls prog 35 #[Sv l] w (VL (DG l) w):=by
 have HE:=hid (show DG l=if AJ l=0 then 8 else if !l.all Xu then 3 else if AJ l+1=l.length then 7 else 0 from rfl);have H1:AJ l<=l.length:=(by have:=Ea l 0;rw[Nat.zero_add] at this;exact this);obtain ⟨n,hn⟩: ∃n,n=AJ l:=⟨_,rfl⟩;rw[<-hn] at HE H1;have HN:=hid hn;clear hn;have A9:Below w.heap.size w (w.alloc (.cells #[Iv 0,Iv 0] 28)):=zA;go_enter func35,ntmps35;go_wp2_with fail;refine (LS l _ hs).mono ?_;rintro e w1 ⟨rfl,hb⟩;rw[<-HN.out];have B0:=A9.trans (hb.mono A9.size);have A0:w.heap.size<w1.heap.size:=(by have:=hb.size;simp at this;omega);have q0:w1.cell? (Ad w.heap.size 0)=some (Iv 0):=(by rw[hb.cell (p:=(Ad w.heap.size 0)) (by simp)];simp);have q1:w1.cell? (Ad w.heap.size 1)=some (Iv 0):=(by rw[hb.cell (p:=(Ad w.heap.size 1)) (by simp)];simp);have f0:w1.frozen? (Ad w.heap.size 0)=false:=(by rw[hb.frozen (p:=(Ad w.heap.size 0)) (by simp)];simp[World.frozen?,World.alloc, -World.alloc_eq]);have f1:w1.frozen? (Ad w.heap.size 1)=false:=(by rw[hb.frozen (p:=(Ad w.heap.size 1)) (by simp)];simp[World.frozen?,World.alloc, -World.alloc_eq]);clear A9 hb;by_cases h0:n=0
 ·have HR:=hid (show DG l=8 by rw[HE.out,if_pos h0]);rw[if_pos h0];clear h0 HE;go_wp2_with fail;refine (CG 8 _).mono ?_;rintro e w2 ⟨rfl,rfl⟩;go_wp2
  exact bodyPost_ret (v:= .agg #[Iv 8,Iv (-1)]) (by simp[results,results35,go_sem,q0,q1,A0]) rfl (K7 HR.out (((B0.setCell (p:=(Ad w.heap.size 0)) zL _).setCell (p:=(Ad w.heap.size 1)) zL _).alloc (by simpa[World.setCell] using B0.size) _))
 ·have HK:=hid (show DG l=if !l.all Xu then 3 else if n+1=l.length then 7 else 0 by rw[HE.out,if_neg h0]);have Z3:0<n:=(by omega);have HT:=hid (NK l n Z3 HN.out.symm);rw[if_neg h0];clear h0 HE;go_wp2_with fail;refine (Qp l _ hs).mono ?_;rintro e w2 ⟨⟨m,rfl,HM⟩,A2⟩;have A6:=B0.trans (A2.mono B0.size);have r0:=(A2.cell (p:=(Ad w.heap.size 0)) A0).trans q0;have r1:=(A2.cell (p:=(Ad w.heap.size 1)) A0).trans q1;have g0:=(A2.frozen (p:=(Ad w.heap.size 0)) A0).trans f0;have g1:=(A2.frozen (p:=(Ad w.heap.size 1)) A0).trans f1;have V5:w.heap.size<w2.heap.size:=Nat.lt_of_lt_of_le A0 A2.size;clear q0 q1 f0 f1 A2 B0 A0;cases hg:l.all Xu with
  |false=>
   have hm:0<=m:=(by have:=HM.out;rw[hg] at this;have:=of_decide_eq_false this;omega);have HR:=hid (show DG l=3 by rw[HK.out,hg];rfl);clear HM hg;go_wp2
   exact bodyPost_ret (v:= .agg #[Iv 3,Iv m]) (by simp[results,results35,go_sem,r0,r1]) rfl (K7 HR.out ((A6.setCell (p:=(Ad w.heap.size 0)) zL _).setCell (p:=(Ad w.heap.size 1)) zL _))
  |true=>
   have hm:m<0:=(by have:=HM.out;rw[hg] at this;exact of_decide_eq_true this);have I0:=hid (show DG l=if n+1=l.length then 7 else 0 by rw[HK.out,hg];rfl);clear HM hg;have V6:(l.take n).length<=1073741824:=(by rw[List.length_take];omega);by_cases h3:n+1=l.length
   ·have HR:=hid (show DG l=7 by rw[I0.out,if_pos h3]);have HQ:=hid (HT.out.2 h3);obtain ⟨T,hT⟩: ∃T,T=l.take n:=⟨_,rfl⟩;rw[<-hT] at HQ V6⊢;have VC:(⟨T.toArray⟩:ByteArray)++⟨#[58]⟩=⟨(T++[58]).toArray⟩:=AM T [58];have hq:(l==T++[58])=true:=(by rw[<-HQ.out];simp);clear HT hT h3;go_wp2
    exact bodyPost_ret (v:= .agg #[Iv 7,Iv l.length]) (by simp[results,results35,go_sem,r0,r1]) rfl (K7 HR.out ((A6.setCell (p:=(Ad w.heap.size 0)) zL _).setCell (p:=(Ad w.heap.size 1)) zL _))
   ·have HR:=hid (show DG l=0 by rw[I0.out,if_neg h3]);have HQ:=hid (fun e=>h3 (HT.out.1 e));obtain ⟨T,hT⟩: ∃T,T=l.take n:=⟨_,rfl⟩;rw[<-hT] at HQ V6⊢;have VC:(⟨T.toArray⟩:ByteArray)++⟨#[58]⟩=⟨(T++[58]).toArray⟩:=AM T [58];have hq:(l==T++[58])=false:=(by simpa using HQ.out);clear HT hT h3;go_wp2_with fail;refine (Cm _).mono ?_;rintro e w4 ⟨rfl,rfl⟩;go_wp2
    exact bodyPost_ret (v:= .agg #[Iv 0,Iv (-1)]) (by simp[results,results35,go_sem,r0,r1,V5]) rfl (K7 HR.out (((A6.setCell (p:=(Ad w.heap.size 0)) zL _).setCell (p:=(Ad w.heap.size 1)) zL _).alloc (by simpa[World.setCell] using A6.size) _))
theorem EB (n:Int) (w:World):Calls prog 137 #[Iv n] w fun e w'=>e= .returned (.bool (Av n))/\w=w':=by
 by_cases h1: -840<=n
 ·have HZ:=hid (show Av n=decide (n<=840) by rw[Av,decide_eq_true h1,Bool.true_and]);go_enter func137,ntmps137;go_wp2
  go_ret;exact ⟨AD (by rw[HZ.out]),rfl⟩
 ·have HZ:=hid (show Av n=false by rw[Av,decide_eq_false h1,Bool.false_and]);go_enter func137,ntmps137;go_wp2
  go_ret;exact ⟨AD (by rw[HZ.out]),rfl⟩
theorem DW (n:Int) (w:World):Calls prog 106 #[Iv n] w fun e w'=>e= .returned (.bool (Av n))/\w=w':=by
 go_enter func106,ntmps106;go_wp2_with fail;refine (AX n (-840) 840 _).mono ?_;rintro e w1 ⟨rfl,rfl⟩;go_wp2
 go_ret;exact ⟨rfl,rfl⟩
def two (m:Nat):Str:=[UInt8.ofNat (48+m/10),UInt8.ofNat (48+m%10)]
theorem C0 (m:Nat):Qg (m:Int)=two m:=by
 simp only[Qg,two]
 congr 3
theorem Qt (m:Nat) (h:m<10):IntKind.u8.wrap (48+(m:Int))=((UInt8.ofNat (48+m)).toNat:Int):=by have:(UInt8.ofNat (48+m)).toNat=48+m:=(by simp;omega);rw[this];simp[IntKind.wrap,IntKind.bits,IntKind.signed];omega
theorem Qu (c d:UInt8) (w:World):(convert 113 9 (.slice (some (Ad w.heap.size 0)) 2 2)).run prog (w.alloc (.cells #[.int .u8 c.toNat,.int .u8 d.toNat] 5))= .ok (.string ⟨[c,d].toArray⟩) (w.alloc (.cells #[.int .u8 c.toNat,.int .u8 d.toNat] 5)):=by have h:Buf (w.alloc (.cells #[.int .u8 c.toNat,.int .u8 d.toNat] 5)) w.heap.size [c,d]:=⟨by simp,fun j hj=>by have:j=0∨j=1:=(by simp at hj;omega);rcases this with rfl|rfl<;>simp,fun j hj=>by simp[World.frozen?,World.alloc, -World.alloc_eq]⟩;exact h.text 2 113 underlying113
theorem OU (m:Nat) (w:World) (hm:m<100):Calls prog 226 #[Iv m] w fun e w'=>e= .returned (.string ⟨(two m).toArray⟩)/\Below w.heap.size w w':=by
 obtain ⟨a,ha⟩: ∃a,a=m/10:=⟨_,rfl⟩;obtain ⟨b,hb⟩: ∃b,b=m%10:=⟨_,rfl⟩;have e1:(m:Int)/10=(a:Int):=(by omega);have e2:(m:Int)%10=(b:Int):=(by omega);have u1:=Qt a (by omega);have u2:=Qt b (by omega);have HT:=hid (show two m=[UInt8.ofNat (48+a),UInt8.ofNat (48+b)] by rw[ha,hb];rfl);have la:a<10:=(by omega);have lb:b<10:=(by omega);have ht:=Qu (UInt8.ofNat (48+a)) (UInt8.ofNat (48+b)) w;generalize UInt8.ofNat (48+a)=x at u1 ht HT;generalize UInt8.ofNat (48+b)=y at u2 ht HT;clear ha hb;go_enter func226,ntmps226;go_wp2
 go_ret;exact ⟨CZ HT.out.symm,zA⟩
def XE (n:Int) (w:World) (e:Ending) (w':World):Prop:=e= .returned (.tuple #[.string ⟨(CL n).toArray⟩,.nilIface])/\Below w.heap.size w w'
theorem XF {n:Int} {w w':World} {s:ByteArray} (h:s=⟨(CL n).toArray⟩) (hb:Below w.heap.size w w'):XE n w (.returned (.tuple #[.string s,.nilIface])) w':=⟨by rw[h],hb⟩
theorem EC (n:Int) (w:World) (hz:Av n=true):Calls prog 194 #[Iv n] w (XE n w):=by
 have HV:=hz;simp only[Av,Bool.and_eq_true,decide_eq_true_eq] at HV;obtain ⟨h1,h2⟩:=HV;have HZ:=hid hz;clear hz;rcases (show n=0∨n<0∨0<n by omega) with h|h|h
 ·subst h;go_enter func194,ntmps194;go_wp2_with fail;refine (EB 0 _).mono ?_;rintro e w1 ⟨rfl,rfl⟩;rw[HZ.out];go_wp2
  go_ret2;exact XF rfl zB
 obtain ⟨m,rfl⟩: ∃m:Nat,n= -(m:Int):=⟨(-n).toNat,by omega⟩;obtain ⟨a,ha⟩: ∃a,a=m/60:=⟨_,rfl⟩;obtain ⟨b,hb⟩: ∃b,b=m%60:=⟨_,rfl⟩;have e1:(m:Int)/60=(a:Int):=(by omega);have e2:(m:Int)%60=(b:Int):=(by omega);have R0:0<m:=(by omega);have S1:m<=840:=(by omega);have la:a<100:=(by omega);have lb:b<100:=(by omega);have HS:=hid (show CL (-(m:Int))=45::(two a++two b) by rw[CL,if_neg (by omega),if_pos (by omega),show-(-(m:Int))/60=(a:Int) by omega,show-(-(m:Int))%60=(b:Int) by omega,C0,C0]);have q0:(-(m:Int)==0)=false:=(by simp;omega);have q1: -(m:Int)<0:=(by omega);rotate_left;obtain ⟨m,rfl⟩: ∃m:Nat,n=(m:Int):=⟨n.toNat,by omega⟩;obtain ⟨a,ha⟩: ∃a,a=m/60:=⟨_,rfl⟩;obtain ⟨b,hb⟩: ∃b,b=m%60:=⟨_,rfl⟩;have e1:(m:Int)/60=(a:Int):=(by omega);have e2:(m:Int)%60=(b:Int):=(by omega);have R0:0<m:=(by omega);have S1:m<=840:=(by omega);have la:a<100:=(by omega);have lb:b<100:=(by omega);have HS:=hid (show CL (m:Int)=43::(two a++two b) by rw[CL,if_neg (by omega),if_neg (by omega),e1,e2,C0,C0]);have q0:((m:Int)==0)=false:=(by simp;omega);rotate_left;all_goals
  clear ha hb;go_enter func194,ntmps194;go_wp2_with fail;refine (EB _ _).mono ?_;rintro e w1 ⟨rfl,rfl⟩;rw[HZ.out];go_wp2_with fail;refine (OU a _ la).mono ?_;rintro e w2 ⟨rfl,A2⟩;have l1:(two a).length=2:=rfl;go_wp2_with fail;refine (OU b _ lb).mono ?_;rintro e w3 ⟨rfl,A6⟩;have l2:(two b).length=2:=rfl;go_wp2
  go_ret2;exact XF (by rw[HS.out];rfl) (A2.trans (A6.mono A2.size))
theorem UJ (w:World):(Instr.makeSlice 113 (Iv 2) (Iv 2)).run prog w= .ok (.slice (some (Ad w.heap.size 0)) 2 2) (w.alloc (.cells #[.int .u8 0,.int .u8 0] 5)):=by kernel_rfl
theorem digits2 (n:Nat) (w:World) (hn:n<=1000000):Calls prog 225 #[Iv n,Iv 2] w fun e w'=>e= .returned (.string ⟨(BG n 2).toArray⟩)/\Below w.heap.size w w':=by
 have I4:=UJ w;obtain ⟨W1,B3⟩: ∃W1,W1=w.alloc (.cells #[.int .u8 0,.int .u8 0] 5):=⟨_,rfl⟩;have I5:Buf W1 w.heap.size [0,0]:=(by rw[B3];exact ⟨by simp,fun j hj=>by have:j=0∨j=1:=(by simp at hj;omega);rcases this with rfl|rfl<;>simp,fun j hj=>by simp[World.frozen?,World.alloc, -World.alloc_eq]⟩);have I6:Below w.heap.size w W1:=(by rw[B3];exact zA);rw[<-B3] at I4;clear B3;go_enter func225,ntmps225;go_wp2
 go_loopw [0,6] (fun v i wr=> ∃(j m:Nat) (t:Str),v=Iv m/\i=Iv ((j:Int) - 1)/\j<=2/\m<=n/\Hid (t.length=2)/\Hid (BG n 2=BG m j++t.drop j)/\Buf wr w.heap.size t/\Below w.heap.size w wr) (fun v i _=>((intOf i)+1).toNat);case atStart=>exact ⟨2,n,[0,0],rfl,rfl,by omega,by omega,hid rfl,hid (by simp),I5,I6⟩
 case round=>
  clear I4 I5 I6;obtain ⟨j,m,t,rfl,rfl,hj,hm,HT,HD,hB,hb⟩:=hrel;cases j with
  |zero=>
   have ht:=hB.text 2 113 underlying113;rw[HT.out] at ht;have HR:=hid (show BG n 2=t by rw[HD.out];rfl);have HB:=hid hB;clear hB;go_wp2
   go_ret;exact ⟨CZ HR.out.symm,hb⟩
  |succ j=>
   obtain ⟨a,ha⟩: ∃a,a=m/10:=⟨_,rfl⟩;obtain ⟨b,SS⟩: ∃b,b=m%10:=⟨_,rfl⟩;have e1:(m:Int)/10=(a:Int):=(by omega);have e2:(m:Int)%10=(b:Int):=(by omega);have lb:b<10:=(by omega);have la:a<=n:=(by omega);have u1:=Qt b (by omega);have ej:((j+1:Nat):Int) - 1=(j:Int):=(by omega);have HS:=hid (show BG m (j+1)=BG a j++[UInt8.ofNat (48+b)] by show BG ((m:Int)/10) j++[UInt8.ofNat (48+((m:Int)%10).toNat)]=_;rw[e1,e2];simp);generalize UInt8.ofNat (48+b)=x at u1 HS;have E9:j<t.length:=(by rw[HT.out];omega);have hc:=hB.cell j E9;have hf:=hB.free j E9;generalize t[j]=c0 at hc;have G2:=hB.set_ (k:=j) x;have HB:=hid G2;have Z4:j<2:=(by omega);have HL:=hid (show (t.set j x).length=2 by rw[List.length_set];exact HT.out);have HN:=hid (show BG n 2=BG a j++(t.set j x).drop j by rw[HD.out,HS.out,List.append_assoc,List.drop_eq_getElem_cons (l:=t.set j x) (by rw[HL.out];omega),List.getElem_set_self,List.drop_set_of_lt (by omega)];rfl);rw[ej];clear ha SS E9 G2 hB ej;go_wp2
   go_roundw;case rel=>exact ⟨j,a,t.set j x,by go_num,by go_num,by omega,la,HL,HN,HB.out,hb.setCell zL _⟩
   case measure=>simp[intOf]
theorem UK (w:World):(Instr.makeSlice 113 (Iv 4) (Iv 4)).run prog w= .ok (.slice (some (Ad w.heap.size 0)) 4 4) (w.alloc (.cells #[.int .u8 0,.int .u8 0,.int .u8 0,.int .u8 0] 5)):=by kernel_rfl
theorem LT (n:Nat) (w:World) (hn:n<=1000000):Calls prog 225 #[Iv n,Iv 4] w fun e w'=>e= .returned (.string ⟨(BG n 4).toArray⟩)/\Below w.heap.size w w':=by
 have I4:=UK w;obtain ⟨W1,B3⟩: ∃W1,W1=w.alloc (.cells #[.int .u8 0,.int .u8 0,.int .u8 0,.int .u8 0] 5):=⟨_,rfl⟩;have I5:Buf W1 w.heap.size [0,0,0,0]:=(by rw[B3];exact ⟨by simp,fun j hj=>by have:j=0∨j=1∨j=2∨j=3:=(by simp at hj;omega);rcases this with rfl|rfl|rfl|rfl<;>simp,fun j hj=>by simp[World.frozen?,World.alloc, -World.alloc_eq]⟩);have I6:Below w.heap.size w W1:=(by rw[B3];exact zA);rw[<-B3] at I4;clear B3;go_enter func225,ntmps225;go_wp2
 go_loopw [0,6] (fun v i wr=> ∃(j m:Nat) (t:Str),v=Iv m/\i=Iv ((j:Int) - 1)/\j<=4/\m<=n/\Hid (t.length=4)/\Hid (BG n 4=BG m j++t.drop j)/\Buf wr w.heap.size t/\Below w.heap.size w wr) (fun v i _=>((intOf i)+1).toNat);case atStart=>exact ⟨4,n,[0,0,0,0],rfl,rfl,by omega,by omega,hid rfl,hid (by simp),I5,I6⟩
 case round=>
  clear I4 I5 I6;obtain ⟨j,m,t,rfl,rfl,hj,hm,HT,HD,hB,hb⟩:=hrel;cases j with
  |zero=>
   have ht:=hB.text 4 113 underlying113;rw[HT.out] at ht;have HR:=hid (show BG n 4=t by rw[HD.out];rfl);have HB:=hid hB;clear hB;go_wp2
   go_ret;exact ⟨CZ HR.out.symm,hb⟩
  |succ j=>
   obtain ⟨a,ha⟩: ∃a,a=m/10:=⟨_,rfl⟩;obtain ⟨b,SS⟩: ∃b,b=m%10:=⟨_,rfl⟩;have e1:(m:Int)/10=(a:Int):=(by omega);have e2:(m:Int)%10=(b:Int):=(by omega);have lb:b<10:=(by omega);have la:a<=n:=(by omega);have u1:=Qt b (by omega);have ej:((j+1:Nat):Int) - 1=(j:Int):=(by omega);have HS:=hid (show BG m (j+1)=BG a j++[UInt8.ofNat (48+b)] by show BG ((m:Int)/10) j++[UInt8.ofNat (48+((m:Int)%10).toNat)]=_;rw[e1,e2];simp);generalize UInt8.ofNat (48+b)=x at u1 HS;have E9:j<t.length:=(by rw[HT.out];omega);have hc:=hB.cell j E9;have hf:=hB.free j E9;generalize t[j]=c0 at hc;have G2:=hB.set_ (k:=j) x;have HB:=hid G2;have Z4:j<4:=(by omega);have HL:=hid (show (t.set j x).length=4 by rw[List.length_set];exact HT.out);have HN:=hid (show BG n 4=BG a j++(t.set j x).drop j by rw[HD.out,HS.out,List.append_assoc,List.drop_eq_getElem_cons (l:=t.set j x) (by rw[HL.out];omega),List.getElem_set_self,List.drop_set_of_lt (by omega)];rfl);rw[ej];clear ha SS E9 G2 hB ej;go_wp2
   go_roundw;case rel=>exact ⟨j,a,t.set j x,by go_num,by go_num,by omega,la,HL,HN,HB.out,hb.setCell zL _⟩
   case measure=>simp[intOf]
def Xf (l:Str) (w:World) (e:Ending) (w':World):Prop:=(∃v p,e= .returned v/\Aj w' v (Bf l) p)/\Below w.heap.size w w'
theorem Ox (first:Bool) (n:Nat) (c:UInt8) (r:Str):CK first n (c::r)=if c≠45 then (if !Ab c||(first&&decide (c.toNat<=57)) then 3 else CK first (n+1) r) else if n=0 then 7 else if 8<n then 4 else CK false 0 r:=rfl
theorem IE (c:UInt8):AP [c]=Ab c:=by simp[AP]
theorem MX (l:Str) (w:World) (hs:l.length<=1073741824):Calls prog 130 #[Sv l] w (Xf l w):=by
 go_enter func130,ntmps130;go_wp2
 go_loop [3,4] (fun f i=> ∃k n:Nat,f=Iv n/\i=Iv k/\n<=k/\k<=l.length+1/\(k<=l.length->Hid (CK (n==0) (k- n) (l.drop k)=Bf l))/\(k=l.length+1->Hid (Bf l=0))) (fun _ i=>l.length+1-(intOf i).toNat)
 case atStart=>exact ⟨0,0,rfl,rfl,by omega,by omega,fun _=>hid rfl,fun h=>absurd h (by omega)⟩
 case round=>
  obtain ⟨k,n,rfl,rfl,hn,hk,HF,HZ⟩:=hrel;by_cases A0:k<l.length
  ·have HF:=HF (by omega);obtain ⟨c,hx,hc,F1⟩: ∃c,(∀h,(⟨l.toArray⟩:ByteArray)[k]'h=c)/\l.drop k=c::l.drop (k+1)/\l[k]=c:=⟨l[k],fun _=>rfl,List.drop_eq_getElem_cons A0,rfl⟩;have hcut:=GN l A0 F1;have HM:=hid (show CK (n==0) (k- n) (l.drop k)=if c≠45 then (if !Ab c||((n==0)&&decide (c.toNat<=57)) then 3 else CK (n==0) (k- n+1) (l.drop (k+1))) else if k- n=0 then 7 else if 8<k- n then 4 else CK false 0 (l.drop (k+1)) by rw[hc,Ox]);clear hc F1 HZ;by_cases F3:c=45
   ·have Z5:((c.toNat:Int) != 45)=false:=(by rw[F3];rfl);by_cases H3:k=n
    ·have q:((k:Int)==(n:Int))=true:=(by simp;omega);have HR:=hid (show Bf l=7 by rw[<-HF.out,HM.out,if_neg (by simpa using F3),if_pos (by omega)]);clear F3 H3;go_wp2
     go_ret;exact ⟨⟨_,k,rfl,by rw[HR.out];exact Aj.new w (e:=7) (p:=k) (by decide) (by omega) 65⟩,zA⟩
    ·have q:((k:Int)==(n:Int))=false:=(by simp;omega);by_cases h8:8<k- n
     ·have HR:=hid (show Bf l=4 by rw[<-HF.out,HM.out,if_neg (by simpa using F3),if_neg (by omega),if_pos h8]);have T5:(8:Int)<(k:Int) - n:=(by omega);clear F3 H3 h8;go_wp2
      go_ret;exact ⟨⟨_,n,rfl,by rw[HR.out];exact Aj.new w (e:=4) (p:=n) (by decide) (by omega) 65⟩,zA⟩
     ·have HR:=hid (show Bf l=CK false 0 (l.drop (k+1)) by rw[<-HF.out,HM.out,if_neg (by simpa using F3),if_neg (by omega),if_neg h8]);have T5:(k:Int) - n<=8:=(by omega);clear F3 H3 h8;go_wp2
      go_round
      case rel=>exact ⟨k+1,k+1,by go_num,by go_num,by omega,by omega,fun _=>hid (by rw[HR.out,Nat.sub_self];rfl),fun h=>absurd h (by omega)⟩
      case measure=>simp[intOf];omega
   ·have Z5:((c.toNat:Int) != 45)=true:=by
     have:c.toNat≠45:=fun h=>F3 (UInt8.toNat_inj.mp h);simpa using (by omega: ¬(c.toNat:Int)=45)
    have AB:=hid (show Bf l=if !Ab c||((n==0)&&decide (c.toNat<=57)) then 3 else CK (n==0) (k- n+1) (l.drop (k+1)) by rw[<-HF.out,HM.out,if_pos F3]);have HN:=hid (IE c);clear HF HM F3;obtain ⟨x,L8⟩: ∃x,Ab c=x:=⟨_,rfl⟩;obtain ⟨z,hz⟩: ∃z,(n==0)=z:=⟨_,rfl⟩;have HV:((n:Int)==0)=z:=(by rw[<-hz];cases n<;>rfl);rw[L8,hz] at AB;rw[L8] at HN;clear L8;cases x with
    |false=>
     have HR:=hid (show Bf l=3 by rw[AB.out];rfl);clear hz AB;cases z<;>
     (go_wp2_with fail
      refine (Dp [c] _ (by simp)).mono ?_;rintro e w1 ⟨rfl,rfl⟩;rw[HN.out];go_wp2
      go_ret;exact ⟨⟨_,k,rfl,by rw[HR.out];exact Aj.new w (e:=3) (p:=k) (by decide) (by omega) 65⟩,zA⟩)
    |true=>
     cases z with
     |false=>
      have HR:=hid (show CK false (k- n+1) (l.drop (k+1))=Bf l by rw[AB.out];rfl);have HZ:=hid hz;clear hz AB;go_wp2_with fail;refine (Dp [c] _ (by simp)).mono ?_;rintro e w1 ⟨rfl,rfl⟩;rw[HN.out];go_wp2
      go_round
      case rel=>exact ⟨k+1,n,by go_num,by go_num,by omega,by omega,fun _=>hid (by rw[HZ.out,show k+1- n=k- n+1 by omega];exact HR.out),fun h=>absurd h (by omega)⟩
      case measure=>simp[intOf];omega
     |true=>
      by_cases TT:c.toNat<=57
      ·have HR:=hid (show Bf l=3 by rw[AB.out];simp[TT]);clear hz AB;go_wp2_with fail;refine (Dp [c] _ (by simp)).mono ?_;rintro e w1 ⟨rfl,rfl⟩;rw[HN.out];go_wp2
       go_ret;exact ⟨⟨_,k,rfl,by rw[HR.out];exact Aj.new w (e:=3) (p:=k) (by decide) (by omega) 65⟩,zA⟩
      ·have HR:=hid (show CK true (k- n+1) (l.drop (k+1))=Bf l by rw[AB.out];simp[TT]);have HZ:=hid hz;have ZK:58<=c.toNat:=(by omega);clear hz AB TT;go_wp2_with fail;refine (Dp [c] _ (by simp)).mono ?_;rintro e w1 ⟨rfl,rfl⟩;rw[HN.out];go_wp2
       go_round
       case rel=>exact ⟨k+1,n,by go_num,by go_num,by omega,by omega,fun _=>hid (by rw[HZ.out,show k+1- n=k- n+1 by omega];exact HR.out),fun h=>absurd h (by omega)⟩
       case measure=>simp[intOf];omega
  ·by_cases A1:k=l.length
   ·have HF:=HF (by omega);subst A1;have HM:=hid (show Bf l=if l.length- n=0 then 7 else if 8<l.length- n then 4 else 0 by rw[<-HF.out,List.drop_length];rfl);clear HF HZ;by_cases H3:l.length=n
    ·have q:((l.length:Int)==(n:Int))=true:=(by simp;omega);have HR:=hid (show Bf l=7 by rw[HM.out,if_pos (by omega)]);clear H3;go_wp2
     go_ret;exact ⟨⟨_,l.length,rfl,by rw[HR.out];exact Aj.new w (e:=7) (p:=l.length) (by decide) (by omega) 65⟩,zA⟩
    ·have q:((l.length:Int)==(n:Int))=false:=(by simp;omega);by_cases h8:8<l.length- n
     ·have HR:=hid (show Bf l=4 by rw[HM.out,if_neg (by omega),if_pos h8]);have T5:(8:Int)<(l.length:Int) - n:=(by omega);clear H3 h8;go_wp2
      go_ret;exact ⟨⟨_,n,rfl,by rw[HR.out];exact Aj.new w (e:=4) (p:=n) (by decide) (by omega) 65⟩,zA⟩
     ·have HR:=hid (show Bf l=0 by rw[HM.out,if_neg (by omega),if_neg h8]);have T5:(l.length:Int) - n<=8:=(by omega);clear H3 h8;go_wp2
      go_round
      case rel=>exact ⟨l.length+1,l.length+1,by go_num,by go_num,by omega,by omega,fun h=>absurd h (by omega),fun _=>HR⟩
      case measure=>simp[intOf]
   ·have VX:k=l.length+1:=(by omega);have HR:=HZ VX;subst VX;clear HZ HF A1;go_wp2
    go_ret;exact ⟨⟨_, -1,rfl,by rw[HR.out];exact Aj.nil _⟩,zB⟩
def pcs (sp:UInt8):Str->List Str
 |[]=>[[]]
 |c::r=>if c=sp then []::pcs sp r else match pcs sp r with|[]=>[[c]]|p::q=>(c::p)::q
theorem Es (sp:UInt8): ∀(l:Str),(∀x∈l,x≠sp)->pcs sp l=[l]
 |[],_=>rfl
 |c::r,h=>by rw[pcs,if_neg (h c (by simp)),Es sp r fun x hx=>h x (by simp[hx])]
theorem GY (sp:UInt8): ∀(l:Str) (i:Nat),l[i]? =some sp->(∀j x,j<i->l[j]? =some x->x≠sp)->pcs sp l=l.take i::pcs sp (l.drop (i+1))
 |[],i,h,_=>by simp at h
 |c::r,0,h,_=>by have:c=sp:=(by simpa using h);rw[pcs,if_pos this];rfl
 |c::r,i+1,h,hb=>by have hc:c≠sp:=hb 0 c (by omega) (by simp);rw[pcs,if_neg hc,GY sp r i (by simpa using h) fun j x hj hx=>hb (j+1) x (by omega) (by simpa using hx)];rfl
theorem NP (sp:UInt8): ∀(n:Nat) (l:Str),l.length<=n->Lib.splitK [sp] 0 (Lib.count l [sp]) l=pcs sp l:=by
 intro n
 induction n with
 |zero=>
  intro l h;have:l=[]:=List.length_eq_zero_iff.1 (by omega);subst this;rw[Lib.count_miss (by rw[Lib.index_one];rfl)];rfl
 |succ n ih=>
  intro l h;rcases DS sp l with ⟨h1,h2⟩|⟨i,h1,h2,h3,h4⟩
  ·rw[Lib.count_miss (by rw[Lib.index_one];exact h1),Es sp l h2];rfl
  ·have hi:Lib.index l [sp]=(i:Int):=(by rw[Lib.index_one];exact h1);rw[Lib.count_hit (by simp) hi,GY sp l i h3 h4,Nat.add_comm,Lib.splitK,if_neg (by rw[hi];simp),hi];rw[show ((i:Int)).toNat+[sp].length=i+1 by simp,show i+[sp].length=i+1 by simp,ih _ (by rw[List.length_drop];omega)];simp
theorem J9 (sp:UInt8) (l:Str):Lib.splitB ⟨#[sp]⟩ 0 (Lib.countB ⟨l.toArray⟩ ⟨#[sp]⟩) ⟨l.toArray⟩=(pcs sp l).map fun p=>⟨p.toArray⟩:=by
 have h:=Lib.splitB_data ⟨#[sp]⟩ 0 (Lib.countB ⟨l.toArray⟩ ⟨#[sp]⟩) ⟨l.toArray⟩;have e:Lib.splitK (⟨#[sp]⟩:ByteArray).data.toList 0 (Lib.countB ⟨l.toArray⟩ ⟨#[sp]⟩) (⟨l.toArray⟩:ByteArray).data.toList=pcs sp l:=(by show Lib.splitK [sp] 0 (Lib.count (⟨l.toArray⟩:ByteArray).data.toList [sp]) (⟨l.toArray⟩:ByteArray).data.toList=pcs sp l;have:(⟨l.toArray⟩:ByteArray).data.toList=l:=(by simp);rw[this];exact NP sp l.length l zL);rw[e] at h;rw[<-h,List.map_map]
 symm
 have: ∀(L:List ByteArray),L.map ((fun p:Str=>(⟨p.toArray⟩:ByteArray))∘fun x=>x.data.toList)=L:=by
  intro L
  induction L with
  |nil=>rfl
  |cons a r ih=>rw[List.map_cons,ih];simp
 exact this _
theorem Ow (sp:UInt8) (l:Str):Lib.countB ⟨l.toArray⟩ ⟨#[sp]⟩+1=(pcs sp l).length:=by have h:=Lib.splitB_all ⟨#[sp]⟩ (show 1<=(#[sp]:Array UInt8).size by simp) 0 (Lib.countB ⟨l.toArray⟩ ⟨#[sp]⟩) ⟨l.toArray⟩ rfl;rw[J9,List.length_map] at h;exact h.symm
theorem FO (sp:UInt8): ∀(l:Str),((pcs sp l).map (fun p=>p.length+1)).sum=l.length+1
 |[]=>rfl
 |c::r=>by
  have ih:=FO sp r;by_cases h:c=sp
  ·rw[pcs,if_pos h];simp at ih⊢;omega
  ·rw[pcs,if_neg h];generalize pcs sp r=P at ih;cases P with
   |nil=>simp at ih
   |cons p q=>simp at ih⊢;omega
theorem GZ (sp:UInt8) (l p:Str) (h:p∈pcs sp l):p.length<=l.length:=by
 have hs:=FO sp l;have: ∀(L:List Str),p∈L->p.length+1<=(L.map (fun p=>p.length+1)).sum:=by
  intro L
  induction L with
  |nil=>intro h;simp at h
  |cons a r ih=>
   intro h;rcases List.mem_cons.1 h with rfl|h
   ·simp
   ·have:=ih h;simp;omega
 have:=this _ h;omega
theorem ID (sp:UInt8) (l:Str):(pcs sp l).length<=l.length+1:=by
 have hs:=FO sp l;have: ∀(L:List Str),L.length<=(L.map (fun p=>p.length+1)).sum:=by
  intro L
  induction L with
  |nil=>simp
  |cons a r ih=>simp;omega
 have:=this (pcs sp l);omega
def KA (first:Bool) (c:UInt8):Bool:= !Ab c||(first&&decide (c.toNat<=57))
def Fo:Bool->List Str->Int
 |_,[]=>0
 |f,x::r=>if x.any (KA f) then 3 else if x=[] then 7 else if 8<x.length then 4 else Fo false r
theorem Ga: ∀(l:Str) (f:Bool) (n:Nat),CK f n l=match pcs 45 l with|[]=>0|x::r=>if x.any (KA f) then 3 else if n+x.length=0 then 7 else if 8<n+x.length then 4 else Fo false r
 |[],f,n=>by simp[pcs,CK,Fo]
 |c::r,f,n=>by
  rw[CK];by_cases h:c=45
  ·rw[if_neg (by simpa using h),pcs,if_pos h];have ih:=Ga r false 0;show _=if ([]:Str).any (KA f) then 3 else if n+0=0 then 7 else if 8<n+0 then 4 else Fo false (pcs 45 r);rw[Nat.add_zero,if_neg (show¬([]:Str).any (KA f)=true by simp)];have e:CK false 0 r=Fo false (pcs 45 r):=by
    rw[ih];cases pcs 45 r with
    |nil=>rfl
    |cons x q=>
     simp only[Fo,Nat.zero_add];by_cases hx:x=[]
     ·simp[hx]
     ·rw[if_neg hx];simp[hx]
   rw[e]
  ·rw[if_pos h,pcs,if_neg h];have ih:=Ga r f (n+1);have H2:pcs 45 r≠[]:=by
    intro e;have:=FO 45 r;rw[e] at this;simp at this
   rw[ih];generalize pcs 45 r=P at H2;cases P with
   |nil=>exact absurd rfl H2
   |cons x q=>
    simp only[List.any_cons,KA,List.length_cons];by_cases hb:(!Ab c||f&&decide (c.toNat<=57))=true
    ·rw[if_pos hb,hb,Bool.true_or,if_pos rfl]
    ·rw[if_neg hb];have Z6:(!Ab c||f&&decide (c.toNat<=57))=false:=(by simpa using hb);rw[Z6,Bool.false_or,show n+1+x.length=n+(x.length+1) by omega]
theorem RC (l:Str):Bf l=Fo true (pcs 45 l):=by
 rw[Bf,Ga];cases pcs 45 l with
 |nil=>rfl
 |cons x q=>
  simp only[Fo,Nat.zero_add];by_cases hx:x=[]
  ·simp[hx]
  ·rw[if_neg hx];simp[hx]
theorem SI (sp:UInt8): ∀(l:Str),∀p∈pcs sp l,∀x∈p,x≠sp
 |[],p,hp,x,hx=>by have:p=[]:=(by simpa[pcs] using hp);rw[this] at hx;simp at hx
 |c::r,p,hp,x,hx=>by
  have ih:=SI sp r;by_cases h:c=sp
  ·rw[pcs,if_pos h] at hp;rcases List.mem_cons.1 hp with rfl|hp
   ·simp at hx
   ·exact ih p hp x hx
  ·rw[pcs,if_neg h] at hp;generalize pcs sp r=P at ih hp;cases P with
   |nil=>
    have:p=[c]:=(by simpa using hp);rw[this] at hx;have:x=c:=(by simpa using hx);rw[this];exact h
   |cons a q=>
    rcases List.mem_cons.1 hp with rfl|hp
    ·rcases List.mem_cons.1 hx with rfl|hx
     ·exact h
     ·exact ih a (by simp) x hx
    ·exact ih p (by simp[hp]) x hx
theorem KB (l:Str) (sp:UInt8) (w:World) (hs:l.length<=1073741824) (hL:LD w):
 Calls prog 103 #[Sv l,.string ⟨#[sp]⟩] w fun e w'=>(∃A c,e= .returned (.slice A (pcs sp l).length c)/\CD w' w'.heap.size (.slice A (pcs sp l).length c) (pcs sp l))/\Below w.heap.size w w':=by
 obtain ⟨B,hB⟩:=hL;obtain ⟨m,hm⟩:=hB.mx;refine (strings_Split ⟨l.toArray⟩ ⟨#[sp]⟩ m w (show l.toArray.size<_ by simp;omega) hm (show 1<=(#[sp]:Array UInt8).size by simp)).mono ?_;rintro e w1 ⟨rfl,rfl⟩;rw[Ow,J9];refine ⟨⟨_,_,rfl,_,_,rfl,Nat.le_refl _,fun _=>⟨w.heap.size,0,rfl,by simp,fun i hi j hj=> ?_⟩⟩,zA⟩;obtain rfl:j=0:=(by omega);have Z7:i<(pcs sp l).length:=hi;simp[Z7]
theorem NQ {c:UInt8} (h:c≠45) (hl:Ab c=true):(decide ((48:Int)<=(c.toNat:Int))&&decide ((c.toNat:Int)<=57))=decide (c.toNat<=57):=by have hc:c.toNat≠45:=fun e=>h (UInt8.toNat.inj e);have ZN:=of_decide_eq_true hl;rw[Bool.eq_iff_iff];simp;omega
theorem KC (l:Str) (w:World) (hs:l.length<=1073741823) (hL:LD w):Calls prog 101 #[Sv l] w (VL (Bf l) w):=by
 have A9:Below w.heap.size w (w.alloc (.cells #[Iv 0,Iv 0] 28)):=zA;have HE:=hid (RC l);have W0:=hid (GZ 45 l);have W3:=hid (SI 45 l);have W4:=hid (FO 45 l);have Z8:=ID 45 l;go_enter func101,ntmps101;go_wp2_with fail;refine (KB l 45 _ (by omega) (hL.below A9)).mono ?_;rintro e w1 ⟨⟨A,cp,rfl,hS⟩,B0⟩;obtain ⟨P,hP⟩: ∃P,P=pcs 45 l:=⟨_,rfl⟩;rw[<-hP] at HE W0 W3 W4 Z8 hS⊢;clear hP;have W5:=A9.trans (B0.mono A9.size);have A0:w.heap.size<w1.heap.size:=(by have:=B0.size;simp at this;omega);have q0:w1.cell? (Ad w.heap.size 0)=some (Iv 0):=(by rw[B0.cell (p:=(Ad w.heap.size 0)) (by simp)];simp);have f0:w1.frozen? (Ad w.heap.size 0)=false:=(by rw[B0.frozen (p:=(Ad w.heap.size 0)) (by simp)];simp[World.frozen?,World.alloc, -World.alloc_eq]);have q1:w1.cell? (Ad w.heap.size 1)=some (Iv 0):=(by rw[B0.cell (p:=(Ad w.heap.size 1)) (by simp)];simp);have f1:w1.frozen? (Ad w.heap.size 1)=false:=(by rw[B0.frozen (p:=(Ad w.heap.size 1)) (by simp)];simp[World.frozen?,World.alloc, -World.alloc_eq]);clear A9 B0;go_wp2
 go_loopw [3,4,5,6,7,11] (fun s3 _ _ _ _ i wr=> ∃(k a:Nat),i=Iv k/\k<=P.length/\s3=Iv a/\a<=1073741825/\Hid (a+((P.drop k).map (fun p=>p.length+1)).sum=l.length+1)/\Hid (Fo (k==0) (P.drop k)=Bf l)/\Below w1.heap.size w1 wr) (fun _ _ _ _ _ i _=>P.length-(intOf i).toNat);case atStart=>exact ⟨0,0,rfl,by omega,rfl,by omega,hid (by rw[List.drop_zero,Nat.zero_add];exact W4.out),hid HE.out.symm,zB⟩
 case round=>
  obtain ⟨k,at_,rfl,hk,rfl,ZO,HA,HF,DA⟩:=hrel;replace q0:=(DA.cell (p:=(Ad w.heap.size 0)) A0).trans q0;replace q1:=(DA.cell (p:=(Ad w.heap.size 1)) A0).trans q1;replace f0:=(DA.frozen (p:=(Ad w.heap.size 0)) A0).trans f0;replace f1:=(DA.frozen (p:=(Ad w.heap.size 1)) A0).trans f1;have H4:w.heap.size<wr.heap.size:=Nat.lt_of_lt_of_le A0 DA.size;have IB:=W5.trans (DA.mono W5.size);by_cases A1:k<P.length
  ·obtain ⟨b,o,s,rfl,ZP,hd,hc⟩:=(hS.keep DA zL).at_ A1;have KI:s∈P:=List.mem_of_mem_drop (by rw[hd];simp);have ZQ:s.length<=1073741823:=Nat.le_trans (W0.out s KI) hs;have Z9:=hid (W3.out s KI);have W6:=hid (show at_+(s.length+1)+((P.drop (k+1)).map (fun p=>p.length+1)).sum=l.length+1 by have:=HA.out;rw[hd] at this;simp only[List.map_cons,List.sum_cons] at this;omega);have W7:at_+(s.length+1)<=1073741825:=(by have:=W6.out;omega);have HM:=hid (show Bf l=if s.any (KA (k==0)) then 3 else if s=[] then 7 else if 8<s.length then 4 else Fo false (P.drop (k+1)) by rw[<-HF.out,hd];rfl);clear hd KI HA HF;obtain ⟨W2,cap,F4,H9,hB,A2,W8⟩:=BU s wr;have HB:=hid hB;replace q0:=(A2.cell (p:=(Ad w.heap.size 0)) H4).trans q0;replace q1:=(A2.cell (p:=(Ad w.heap.size 1)) H4).trans q1;replace f0:=(A2.frozen (p:=(Ad w.heap.size 0)) H4).trans f0;replace f1:=(A2.frozen (p:=(Ad w.heap.size 1)) H4).trans f1;have L1:w.heap.size<W2.heap.size:=Nat.lt_of_lt_of_le H4 A2.size;have N2:=IB.trans (A2.mono IB.size);have N3:Below w1.heap.size w1 W2:=DA.trans (A2.mono DA.size);clear hB A2 W8 IB H4 DA;go_wp2
   go_loopw [6,7,19] (fun _ _ i wx=> ∃j:Nat,i=Iv j/\j<=s.length/\Hid ((s.drop j).any (KA (k==0))=s.any (KA (k==0)))/\Below W2.heap.size W2 wx) (fun _ _ i _=>s.length-(intOf i).toNat);case atStart=>exact ⟨0,rfl,by omega,hid rfl,zB⟩
   case round=>
    obtain ⟨j,rfl,hj,HJ,AL⟩:=hrel;replace q0:=(AL.cell (p:=(Ad w.heap.size 0)) L1).trans q0;replace q1:=(AL.cell (p:=(Ad w.heap.size 1)) L1).trans q1;replace f0:=(AL.frozen (p:=(Ad w.heap.size 0)) L1).trans f0;replace f1:=(AL.frozen (p:=(Ad w.heap.size 1)) L1).trans f1;have A5:w.heap.size<wr.heap.size:=Nat.lt_of_lt_of_le L1 AL.size;have A8:=N2.trans (AL.mono N2.size);by_cases E9:j<s.length
    ·have ZI:=(HB.out.keep AL HB.out.lt).cell j E9;obtain ⟨c,AW,hd⟩: ∃c,s[j]=c/\s.drop j=c::s.drop (j+1):=⟨_,rfl,List.drop_eq_getElem_cons E9⟩;have OV:c≠45:=Z9.out c (by rw[<-AW];exact List.getElem_mem E9);rw[AW] at ZI;have G4:=hid (show s.any (KA (k==0))=(KA (k==0) c||(s.drop (j+1)).any (KA (k==0))) by rw[<-HJ.out,hd];rfl);have W9:=hid (fun h=>NQ OV h);have LL:=hid (IE c);clear AW hd OV HJ;have X3:=Fx c wr;have E3:Below wr.heap.size wr (wr.alloc (.cells #[.int .u8 c.toNat] 5)):=zA;obtain ⟨x,hx⟩: ∃x,Ab c=x:=⟨_,rfl⟩;obtain ⟨z,hz⟩: ∃z,(k==0)=z:=⟨_,rfl⟩;have W8:((k:Int)==0)=z:=(by rw[<-hz];cases k<;>rfl);obtain ⟨u,hu⟩: ∃u,decide (c.toNat<=57)=u:=⟨_,rfl⟩;have HX:=hid hx;have HU:=hid hu;have HZ:=hid hz;have M2:=hid (show KA (k==0) c=(!x||(z&&u)) by rw[KA,hx,hz,hu]);clear hz hu hx;cases x with
     |false=>
      have HR:=hid (show Bf l=3 by rw[HM.out,G4.out,M2.out];rfl);clear HM G4;go_wp2_with fail;refine (DQ [c] _ (by simp)).mono ?_;rintro e w4 ⟨rfl,AV⟩;rw[LL.out,HX.out];have A3:=E3.trans (AV.mono E3.size);replace q0:=(A3.cell (p:=(Ad w.heap.size 0)) A5).trans q0;replace f0:=(A3.frozen (p:=(Ad w.heap.size 0)) A5).trans f0;replace q1:=(A3.cell (p:=(Ad w.heap.size 1)) A5).trans q1;replace f1:=(A3.frozen (p:=(Ad w.heap.size 1)) A5).trans f1;replace A8:=A8.trans (A3.mono A8.size);replace A5:=Nat.lt_of_lt_of_le A5 A3.size;replace AL:=AL.trans (A3.mono AL.size);clear AV A3 E3;go_wp2
      exact bodyPost_ret (v:= .agg #[Iv 3,Iv (at_+j:Int)]) (by simp[results,results101,go_sem,q0,q1,A5]) rfl (K7 HR.out ((A8.setCell (p:=(Ad w.heap.size 0)) zL _).setCell (p:=(Ad w.heap.size 1)) zL _))
     |true=>
      cases z with
      |false=>
       have HR:=hid (show (s.drop (j+1)).any (KA (k==0))=s.any (KA (k==0)) by rw[G4.out,M2.out];rfl);clear G4;go_wp2_with fail;refine (DQ [c] _ (by simp)).mono ?_;rintro e w4 ⟨rfl,AV⟩;rw[LL.out,HX.out];have A3:=E3.trans (AV.mono E3.size);replace q0:=(A3.cell (p:=(Ad w.heap.size 0)) A5).trans q0;replace f0:=(A3.frozen (p:=(Ad w.heap.size 0)) A5).trans f0;replace q1:=(A3.cell (p:=(Ad w.heap.size 1)) A5).trans q1;replace f1:=(A3.frozen (p:=(Ad w.heap.size 1)) A5).trans f1;replace A8:=A8.trans (A3.mono A8.size);replace A5:=Nat.lt_of_lt_of_le A5 A3.size;replace AL:=AL.trans (A3.mono AL.size);clear AV A3 E3;go_wp2
       go_roundw;case rel=>exact ⟨j+1,by go_num,by omega,HR,AL⟩
       case measure=>simp[intOf];omega
      |true=>
       cases u with
       |false=>
        have HR:=hid (show (s.drop (j+1)).any (KA (k==0))=s.any (KA (k==0)) by rw[G4.out,M2.out];rfl);clear G4;go_wp2_with fail;refine (DQ [c] _ (by simp)).mono ?_;rintro e w4 ⟨rfl,AV⟩;rw[LL.out,HX.out];have A3:=E3.trans (AV.mono E3.size);replace q0:=(A3.cell (p:=(Ad w.heap.size 0)) A5).trans q0;replace f0:=(A3.frozen (p:=(Ad w.heap.size 0)) A5).trans f0;replace q1:=(A3.cell (p:=(Ad w.heap.size 1)) A5).trans q1;replace f1:=(A3.frozen (p:=(Ad w.heap.size 1)) A5).trans f1;replace A8:=A8.trans (A3.mono A8.size);replace A5:=Nat.lt_of_lt_of_le A5 A3.size;replace AL:=AL.trans (A3.mono AL.size);clear AV A3 E3;go_wp2_with fail;refine (AX _ _ _ _).mono ?_;rintro e w5 ⟨rfl,rfl⟩;rw[Bm,W9.out HX.out,HU.out];go_wp2
        go_roundw;case rel=>exact ⟨j+1,by go_num,by omega,HR,AL⟩
        case measure=>simp[intOf];omega
       |true=>
        have HR:=hid (show Bf l=3 by rw[HM.out,G4.out,M2.out];rfl);clear HM G4;go_wp2_with fail;refine (DQ [c] _ (by simp)).mono ?_;rintro e w4 ⟨rfl,AV⟩;rw[LL.out,HX.out];have A3:=E3.trans (AV.mono E3.size);replace q0:=(A3.cell (p:=(Ad w.heap.size 0)) A5).trans q0;replace f0:=(A3.frozen (p:=(Ad w.heap.size 0)) A5).trans f0;replace q1:=(A3.cell (p:=(Ad w.heap.size 1)) A5).trans q1;replace f1:=(A3.frozen (p:=(Ad w.heap.size 1)) A5).trans f1;replace A8:=A8.trans (A3.mono A8.size);replace A5:=Nat.lt_of_lt_of_le A5 A3.size;replace AL:=AL.trans (A3.mono AL.size);clear AV A3 E3;go_wp2_with fail;refine (AX _ _ _ _).mono ?_;rintro e w5 ⟨rfl,rfl⟩;rw[Bm,W9.out HX.out,HU.out];go_wp2
        exact bodyPost_ret (v:= .agg #[Iv 3,Iv (at_+j:Int)]) (by simp[results,results101,go_sem,q0,q1,A5]) rfl (K7 HR.out ((A8.setCell (p:=(Ad w.heap.size 0)) zL _).setCell (p:=(Ad w.heap.size 1)) zL _))
    ·have WA:j=s.length:=(by omega);have AB:=hid (show Bf l=if s=[] then 7 else if 8<s.length then 4 else Fo false (P.drop (k+1)) by rw[HM.out,<-HJ.out,WA,List.drop_length];rfl);clear HM HJ F4 HB;subst WA;cases s with
     |nil=>
      have HR:=hid (show Bf l=7 by rw[AB.out];rfl);clear AB;go_wp2
      exact bodyPost_ret (v:= .agg #[Iv 7,Iv (at_:Int)]) (by simp[results,results101,go_sem,q0,q1,A5]) rfl (K7 HR.out ((A8.setCell (p:=(Ad w.heap.size 0)) zL _).setCell (p:=(Ad w.heap.size 1)) zL _))
     |cons c r=>
      have ZR:(c::r==[])=false:=rfl;by_cases h8:8<r.length+1
      ·have HR:=hid (show Bf l=4 by rw[AB.out,if_neg (by simp),if_pos (show 8<(c::r).length from h8)]);clear AB;go_wp2
       exact bodyPost_ret (v:= .agg #[Iv 4,Iv (at_:Int)]) (by simp[results,results101,go_sem,q0,q1,A5]) rfl (K7 HR.out ((A8.setCell (p:=(Ad w.heap.size 0)) zL _).setCell (p:=(Ad w.heap.size 1)) zL _))
      ·have HR:=hid (show Fo false (P.drop (k+1))=Bf l by rw[AB.out,if_neg (by simp),if_neg (show¬8<(c::r).length from h8)]);clear AB;go_wp2
       go_roundw;case rel=>exact ⟨k+1,at_+(r.length+1+1),by go_num,by omega,by go_num,by simpa using W7,W6,HR,N3.trans (AL.mono N3.size)⟩
       case measure=>simp[intOf];omega
  ·have WF:k=P.length:=(by omega);have HR:=hid (show Bf l=0 by rw[<-HF.out,WF,List.drop_length];rfl);clear HA HF hS;subst WF;go_wp2_with fail;refine (Cm _).mono ?_;rintro e w4 ⟨rfl,rfl⟩;go_wp2
   exact bodyPost_ret (v:= .agg #[Iv 0,Iv (-1)]) (by simp[results,results101,go_sem,q0,q1,H4]) rfl (K7 HR.out (((IB.setCell (p:=(Ad w.heap.size 0)) zL _).setCell (p:=(Ad w.heap.size 1)) zL _).alloc (by simpa[World.setCell] using IB.size) _))
def pad (k:Nat) (s:Str):Str:=List.replicate (k- s.length) 48++s
theorem OW (k:Nat):BG 0 k=List.replicate k 48:=by
 induction k with
 |zero=>rfl
 |succ k ih=>show BG (0/10) k++[_]=_;rw[show (0:Int)/10=0 from rfl,ih,List.replicate_succ'];rfl
theorem MO: ∀(k u:Nat),1<=k->u<10 ^ k->pad k (Lib.decDigits u)=BG u k
 |0,_,h,_=>absurd h (by omega)
 |k+1,u,_,hu=>by
  have e:BG (u:Int) (k+1)=BG ((u/10:Nat):Int) k++[UInt8.ofNat (48+u%10)]:=(by show BG ((u:Int)/10) k++[UInt8.ofNat (48+((u:Int)%10).toNat)]=_;rw[show (u:Int)/10=((u/10:Nat):Int) by omega,show ((u:Int)%10).toNat=u%10 by omega]);rw[e,Lib.decDigits];by_cases h:u<10
  ·rw[dif_pos h,show u/10=0 by omega,show ((0:Nat):Int)=0 from rfl,OW,show u%10=u by omega];simp[pad]
  ·rw[dif_neg h];have hk:1<=k:=by
    rcases Nat.eq_zero_or_pos k with rfl|h0
    ·simp at hu;omega
    ·omega
   have ih:=MO k (u/10) hk (by rw[Nat.pow_succ] at hu;omega);rw[<-ih];simp[pad,List.length_append]
theorem Qv {k:Nat} {s:Str} (h:s.length<k):pad k (48::s)=pad k s:=by obtain ⟨d,rfl⟩: ∃d,k=s.length+1+d:=⟨k- s.length- 1,by omega⟩;simp only[pad,List.length_cons];rw[show s.length+1+d-(s.length+1)=d by omega,show s.length+1+d- s.length=d+1 by omega,List.replicate_succ',List.append_assoc];rfl
theorem Qw {k:Nat} {s:Str} (h:k<=s.length):pad k s=s:=by simp[pad,Nat.sub_eq_zero_of_le h]
theorem DX (n k:Nat) (w:World) (hk:1<=k) (ZJ:k<=8) (hn:n<10 ^ k) (hL:LD w):
 Calls prog 62 #[Iv n,Iv 10,Iv k] w fun e w'=>e= .returned (.string ⟨(BG n k).toArray⟩)/\Below w.heap.size w w':=by
 have ZS:n<10 ^ 8:=Nat.lt_of_lt_of_le hn (Nat.pow_le_pow_right (by omega) ZJ);have hi:Lib.itoa (n:Int)=Lib.decDigits n:=(by rw[Lib.itoa,if_neg (by omega)];rfl);have A7:=Lib.itoa_length_le (n:Int) (by omega) (by omega);have HP:=hid (MO k n hk hn);obtain ⟨B,hB⟩:=hL;have HB:=hB.p10;rw[hi] at A7;have HI:=hid hi;clear hi hn hB;go_enter func62,ntmps62;go_wp2_with fail;refine (strconv_FormatInt_10 (n:Int) (by omega) (by omega) _ HB).mono ?_;rintro e w1 ⟨rfl,q,os,X1⟩;have hb:Below w.heap.size w w1:=(by rw[X1];exact Lib.below_grow _ _ zL _ _);rw[HI.out];clear X1 HB;obtain ⟨D,hD⟩: ∃D,D=Lib.decDigits n:=⟨_,rfl⟩;rw[<-hD] at HP A7⊢;clear hD;go_wp2
 go_loop [7] (fun s=> ∃t:Str,s=Sv t/\t.length<=30/\Hid (pad k t=BG n k)) (fun s=>match s with| .string b=>k- b.size|_=>0)
 case atStart=>exact ⟨D,rfl,by omega,HP⟩
 case round=>
  obtain ⟨t,rfl,ht,HT⟩:=hrel;by_cases A0:t.length<k
  ·have hc:(⟨#[48]⟩:ByteArray)++⟨t.toArray⟩=⟨(48::t).toArray⟩:=AM [48] t;have HS:=hid (Qv A0);go_wp2
   go_round
   case rel=>exact ⟨48::t,rfl,by show t.length+1<=30;omega,hid (by rw[HS.out,HT.out])⟩
   case measure=>show k-(t.length+1)<k- t.length;omega
  ·have HS:=hid (Qw (k:=k) (s:=t) (by omega));go_wp2
   go_ret;exact ⟨CZ (by rw[<-HT.out,HS.out]),hb⟩
theorem Fy (m:Nat) (h:m<100):BG (m:Int) 2=two m:=by have e1:((m:Int)/10%10).toNat=m/10:=(by omega);have e2:((m:Int)%10).toNat=m%10:=(by omega);simp[BG,two,e1,e2]
def UF (n:Int) (w:World) (e:Ending) (w':World):Prop:=e= .returned (.tuple #[.string ⟨(CL n).toArray⟩,Iv 0])/\Below w.heap.size w w'
theorem UG {n:Int} {w w':World} {s:ByteArray} (h:s=⟨(CL n).toArray⟩) (hb:Below w.heap.size w w'):UF n w (.returned (.tuple #[.string s,Iv 0])) w':=⟨by rw[h],hb⟩
theorem GO (n:Int) (w:World) (hz:Av n=true) (hL:LD w):Calls prog 162 #[Iv n] w (UF n w):=by
 have HV:=hz;simp only[Av,Bool.and_eq_true,decide_eq_true_eq] at HV;obtain ⟨h1,h2⟩:=HV;have HZ:=hid hz;clear hz;rcases (show n=0∨n<0∨0<n by omega) with h|h|h
 ·subst h;go_enter func162,ntmps162;go_wp2_with fail;refine (DW 0 _).mono ?_;rintro e w1 ⟨rfl,rfl⟩;rw[HZ.out];go_wp2
  go_ret2;exact UG rfl zB
 obtain ⟨m,rfl⟩: ∃m:Nat,n= -(m:Int):=⟨(-n).toNat,by omega⟩;obtain ⟨a,ha⟩: ∃a,a=m/60:=⟨_,rfl⟩;obtain ⟨b,hb⟩: ∃b,b=m%60:=⟨_,rfl⟩;have e1:(m:Int)/60=(a:Int):=(by omega);have e2:(m:Int)%60=(b:Int):=(by omega);have R0:0<m:=(by omega);have S1:m<=840:=(by omega);have la:a<100:=(by omega);have lb:b<100:=(by omega);have HS:=hid (show CL (-(m:Int))=[45]++BG a 2++BG b 2 by rw[CL,if_neg (by omega),if_pos (by omega),show-(-(m:Int))/60=(a:Int) by omega,show-(-(m:Int))%60=(b:Int) by omega,C0,C0,Fy a la,Fy b lb];rfl);have q0:(-(m:Int)==0)=false:=(by simp;omega);have q1: -(m:Int)<0:=(by omega);rotate_left;obtain ⟨m,rfl⟩: ∃m:Nat,n=(m:Int):=⟨n.toNat,by omega⟩;obtain ⟨a,ha⟩: ∃a,a=m/60:=⟨_,rfl⟩;obtain ⟨b,hb⟩: ∃b,b=m%60:=⟨_,rfl⟩;have e1:(m:Int)/60=(a:Int):=(by omega);have e2:(m:Int)%60=(b:Int):=(by omega);have R0:0<m:=(by omega);have S1:m<=840:=(by omega);have la:a<100:=(by omega);have lb:b<100:=(by omega);have HS:=hid (show CL ((m:Int))=[43]++BG a 2++BG b 2 by rw[CL,if_neg (by omega),if_neg (by omega),e1,e2,C0,C0,Fy a la,Fy b lb];rfl);have q0:((m:Int)==0)=false:=(by simp;omega);rotate_left;all_goals
  clear ha hb;go_enter func162,ntmps162;go_wp2_with fail;refine (DW _ _).mono ?_;rintro e w1 ⟨rfl,rfl⟩;rw[HZ.out];go_wp2_with fail;refine (DX a 2 _ (by omega) (by omega) (by omega) hL).mono ?_;rintro e w2 ⟨rfl,A2⟩;have l1:(BG (a:Int) 2).length=2:=(by simp[BG]);go_wp2_with fail;refine (DX b 2 _ (by omega) (by omega) (by omega) (hL.below A2)).mono ?_;rintro e w3 ⟨rfl,A6⟩;have l2:(BG (b:Int) 2).length=2:=(by simp[BG]);go_wp2
  go_ret2;exact UG (by rw[HS.out,<-AM,<-AM]) (A2.trans (A6.mono A2.size))
end Go.Proofs.YtjhpdljphchfaaaGreatDoor
