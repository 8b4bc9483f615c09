/- A part of the proof of ConvertUps: Plain law on base64: the two decoders agree. -/
import Derived.Test.YtjhpdljphchfaaaGreatDoorA06
import Derived.Test.YtjhpdljphchfaaaGreatDoorA05
import Derived.Test.YtjhpdljphchfaaaGreatDoorA03
import Derived.Lib.Case
import Derived.Deep.RegionWith
set_option maxHeartbeats 40000000
set_option maxRecDepth 1000000
set_option linter.all false
namespace Go.Proofs.YtjhpdljphchfaaaGreatDoor
open Go.RowKit
open Go.Proofs.Tryz
namespace B
theorem lower_alpha (w:World):Calls prog 59 #[.string ⟨#[65,66,67,68,69,70,71,72,73,74,75,76,77,78,79,80,81,82,83,84,85,86,87,88,89,90]⟩] w fun e w'=>e= .returned (.string ⟨#[97,98,99,100,101,102,103,104,105,106,107,108,109,110,111,112,113,114,115,116,117,118,119,120,121,122]⟩)/\Below w.heap.size w w':=
 (strings_ToLower_ascii _ w (by decide) (by have h: ∀b∈([65,66,67,68,69,70,71,72,73,74,75,76,77,78,79,80,81,82,83,84,85,86,87,88,89,90]:List UInt8),b.toNat<128:=(by decide);intro j b hb;exact h b (List.mem_of_getElem? hb))).mono fun e w' h=>by obtain ⟨rfl,hb⟩:=h;exact ⟨rfl,hb⟩
theorem cat1:(⟨#[65,66,67,68,69,70,71,72,73,74,75,76,77,78,79,80,81,82,83,84,85,86,87,88,89,90]⟩:ByteArray)++(⟨#[97,98,99,100,101,102,103,104,105,106,107,108,109,110,111,112,113,114,115,116,117,118,119,120,121,122]⟩:ByteArray)=⟨#[65,66,67,68,69,70,71,72,73,74,75,76,77,78,79,80,81,82,83,84,85,86,87,88,89,90,97,98,99,100,101,102,103,104,105,106,107,108,109,110,111,112,113,114,115,116,117,118,119,120,121,122]⟩:=by rfl
theorem cat2:(⟨#[65,66,67,68,69,70,71,72,73,74,75,76,77,78,79,80,81,82,83,84,85,86,87,88,89,90,97,98,99,100,101,102,103,104,105,106,107,108,109,110,111,112,113,114,115,116,117,118,119,120,121,122]⟩:ByteArray)++(⟨#[48,49,50,51,52,53,54,55,56,57,43,47]⟩:ByteArray)=⟨#[65,66,67,68,69,70,71,72,73,74,75,76,77,78,79,80,81,82,83,84,85,86,87,88,89,90,97,98,99,100,101,102,103,104,105,106,107,108,109,110,111,112,113,114,115,116,117,118,119,120,121,122,48,49,50,51,52,53,54,55,56,57,43,47]⟩:=by rfl
def bodyOf (l:List UInt8):List UInt8:=if Lib.trimSuffix l [61]=l then l else Lib.trimSuffix (Lib.trimSuffix l [61]) [61]
def firstBad:Nat->List UInt8->Option Nat
 |_,[]=>none
 |i,c::r=>if dgt c<0 then some i else firstBad (i+1) r
theorem good_of_none: ∀{l:List UInt8} {i:Nat},firstBad i l=none-> ∀c∈l,0<=dgt c
 |[],_,_,c,hc=>by simp at hc
 |a::l,i,h,c,hc=>by
  unfold firstBad at h;split at h
  ·cases h
  ·rcases List.mem_cons.1 hc with rfl|hc
   ·omega
   ·exact good_of_none h c hc
def bytes8:List UInt8->List UInt8×List UInt8
 |a::b::c::d::e::f::g::h::r=>(UInt8.ofNat (bval [a,b,c,d,e,f,g,h])::(bytes8 r).1,(bytes8 r).2)
 |l=>([],l)
def bits6 (l:List UInt8):List UInt8:=l.flatMap fun c=>binL 6 (dgt c).toNat
theorem bits6_bits (l:List UInt8):Bits (bits6 l):=by intro c hc;simp only[bits6,List.mem_flatMap] at hc;obtain ⟨x,_,hx⟩:=hc;exact bin_bits _ _ c hx
def unB (l:List UInt8):Except (Int×Int) (List UInt8):=
 if l.length%4=0 then
  match firstBad 0 (bodyOf l) with
  |some i=> .error (3,(i:Int))
  |none=>if 0<=Lib.indexByte (bytes8 (bits6 (bodyOf l))).2 49∨4<(bytes8 (bits6 (bodyOf l))).2.length then .error (3,((bodyOf l).length:Int) - 1) else .ok (bytes8 (bits6 (bodyOf l))).1
 else .error (7,(l.length:Int))
def UnPost (l:List UInt8) (w:World) (e:Ending) (w':World):Prop:=
 (∀x,unB l= .error x->e= .returned (.tuple #[.string ⟨#[]⟩,.agg #[Iv x.1,Iv x.2]]))/\(∀o,unB l= .ok o->e= .returned (.tuple #[Sv o,.agg #[Iv 0,Iv (-1)]]))/\Below w.heap.size w w'
theorem un_err {l:List UInt8} {w w':World} {a b:Int} (h:unB l= .error (a,b)) (hb:Below w.heap.size w w'):UnPost l w (.returned (.tuple #[.string ⟨#[]⟩,.agg #[Iv a,Iv b]])) w':=
 ⟨(fun x hx=>by rw[h] at hx;cases hx;rfl),(fun o ho=>by rw[h] at ho;cases ho),hb⟩
theorem un_ok {l o:List UInt8} {w w':World} (h:unB l= .ok o) (hb:Below w.heap.size w w'):UnPost l w (.returned (.tuple #[Sv o,.agg #[Iv 0,Iv (-1)]])) w':=
 ⟨(fun x hx=>by rw[h] at hx;cases hx),(fun o' ho=>by rw[h] at ho;cases ho;rfl),hb⟩
theorem unB_bad {l:List UInt8} {i:Nat} (hm:l.length%4=0) (h:firstBad 0 (bodyOf l)=some i):unB l= .error (3,(i:Int)):=by unfold unB;rw[if_pos hm,h]
theorem unB_rest {l bd rest:List UInt8} (hm:l.length%4=0) (hb:bd=bodyOf l) (hf:firstBad 0 bd=none) (h2:rest=(bytes8 (bits6 bd)).2) (h:0<=Lib.indexByte rest 49∨4<rest.length):unB l= .error (3,(bd.length:Int) - 1):=by unfold unB;rw[if_pos hm,<-hb,hf];simp only;rw[<-h2,if_pos h]
theorem unB_good {l bd rest out:List UInt8} (hm:l.length%4=0) (hb:bd=bodyOf l) (hf:firstBad 0 bd=none) (h1:out=(bytes8 (bits6 bd)).1) (h2:rest=(bytes8 (bits6 bd)).2) (h: ¬(0<=Lib.indexByte rest 49∨4<rest.length)):unB l= .ok out:=by unfold unB;rw[if_pos hm,<-hb,hf];simp only;rw[<-h2,if_neg h,<-h1]
theorem trim_len (l p:List UInt8):(Lib.trimSuffix l p).length<=l.length:=by unfold Lib.trimSuffix;split<;>simp
theorem trim1 (l:List UInt8) (w:World) (hs:l.length<=2147483648):Calls prog 60 #[Sv l,.string ⟨#[61]⟩] w fun e w'=>e= .returned (.string ⟨(Lib.trimSuffix l [61]).toArray⟩)/\w=w':=
 (strings_TrimSuffix _ _ w (by show l.length<=_;omega)).mono fun e w' h=>⟨by rw[h.1],h.2.symm⟩
theorem digits6 (n:Nat) (w:World) (hn:n<64) (hL:Laid w):Calls prog 62 #[Iv (n:Int),Iv 2,Iv 6] w fun e w'=>e= .returned (.string ⟨(binL 6 n).toArray⟩)/\Below w.heap.size w w':=
 digits2 n 6 w (by omega) (by omega) hn hL.z9 (by have:=hL.sz;omega)
theorem below_set2 {w w3:World} (h:Below w.heap.size w w3) (u v:Value):Below w.heap.size w ((w3.setCell (Ad w.heap.size 0) u).setCell (Ad w.heap.size 1) v):=
 (h.setCell (show w.heap.size<=((Ad w.heap.size 0):Addr).block from Nat.le_refl _) u).setCell (show w.heap.size<=((Ad w.heap.size 1):Addr).block from Nat.le_refl _) v
theorem below_end {w wr:World} (h:Below w.heap.size w wr) (u v:Value) (o:Obj):Below w.heap.size w (((wr.setCell (Ad w.heap.size 0) u).setCell (Ad w.heap.size 1) v).alloc o):=
 (below_set2 h u v).alloc (below_set2 h u v).size o
theorem eight {l:List UInt8} (h:8<=l.length): ∃a b c d e f g i r,l=a::b::c::d::e::f::g::i::r:=by
 rcases l with _|⟨a,_|⟨b,_|⟨c,_|⟨d,_|⟨e,_|⟨f,_|⟨g,_|⟨i,r⟩⟩⟩⟩⟩⟩⟩⟩
 ·simp at h
 ·simp at h
 ·simp at h
 ·simp at h
 ·simp at h
 ·simp at h
 ·simp at h
 ·simp at h
 ·exact ⟨_,_,_,_,_,_,_,_,_,rfl⟩
theorem ext8 (a b c d e f g i:UInt8) (r:List UInt8):(⟨(a::b::c::d::e::f::g::i::r).toArray⟩:ByteArray).extract 8 (r.length+1+1+1+1+1+1+1+1)=⟨r.toArray⟩:=by rw[ba_cut];simp
theorem contains49 (l:List UInt8) (w:World):Calls prog 33 #[Sv l,.string ⟨#[49]⟩] w fun e w'=>e= .returned (.bool (decide (0<=Lib.indexByte l 49)))/\w=w':=
 (strings_Contains_one _ _ w).mono fun e w' h=>⟨by rw[h.1],h.2.symm⟩
theorem bytes8_short {l:List UInt8} (h:l.length<8):bytes8 l=([],l):=by
 unfold bytes8;split
 ·simp at h;omega
 ·rfl
theorem own_below {B:Nat} {w1 w2:World} {v:Value} {n:Nat} {xs:List Value} (h:w1.ownsRow B 5 1 v n xs) (hb:Below w1.heap.size w1 w2):w2.ownsRow B 5 1 v n xs:=
 h.kept (row:=some w1.heap.size) ⟨hb.os,hb.tape,hb.output,hb.size,fun i hi _=>hb.block i hi⟩ (.inr fun e=>by have:=(h.lt _ e).2;omega)
theorem good_any (w:World):Calls prog 18 #[] w fun e w'=>e= .returned (.agg #[Iv 0,Iv (-1)])/\w.alloc (.cells #[Iv 0,Iv (-1)] 28)=w':=by
 go_enter func18,ntmps18;go_wp2
 exact bodyPost_ret (v:= .agg #[Iv 0,Iv (-1)]) (by simp[results,results18,go_sem]) rfl ⟨rfl,rfl⟩
theorem conv_own {B:Nat} {wr:World} {g cap:Nat} {out:List UInt8} (h:wr.ownsRow B 5 1 (.slice (some (Ad g 0)) out.length cap) out.length (Lib.byteCells out)) (w9:World) (hw: ∀j,w9.cell? (Ad g j)=wr.cell? (Ad g j)):
 (convert 113 9 (.slice (some (Ad g 0)) out.length cap)).run prog w9= .ok (Sv out) w9:=by
 have hc:=run_convert_bytes_arg (P:=prog) w9 113 5 underlying113 underlying5 g 0 out.length cap (out.map fun b=>(b.toNat:Int)) (by simp) (fun i hi=>by rw[hw,Nat.zero_add,h.cellAt i (by omega)];simp[Lib.byteCells,List.getD,List.getElem?_map,List.getElem?_eq_getElem hi]) 9 underlying9;rw[strOf] at hc;exact hc
theorem cell1_new (w:World) (a:Value): ∀j u,([a]:List Value)[j]? =some u->(w.alloc (.cells #[a] 5)).cell? (((Ad w.heap.size 0):Addr).add j)=some u:=by
 intro j u hu;rcases j with _|j
 ·simp at hu;subst hu;simp[Addr.add]
 ·simp at hu
structure Slot (b:Nat) (w:World):Prop where
 c0:w.cell? (Ad b 0)=some (Iv 0)
 c1:w.cell? (Ad b 1)=some (Iv 0)
 f0:w.frozen? (Ad b 0)=false
 f1:w.frozen? (Ad b 1)=false
 lt:b<w.heap.size
theorem Slot.below {b B:Nat} {w w':World} (h:Slot b w) (hB:b<B) (hb:Below B w w'):Slot b w':=
 ⟨by rw[hb.cell (p:=(Ad b 0)) hB];exact h.c0,by rw[hb.cell (p:=(Ad b 1)) hB];exact h.c1,by rw[hb.frozen (p:=(Ad b 0)) hB];exact h.f0,by rw[hb.frozen (p:=(Ad b 1)) hB];exact h.f1,Nat.lt_of_lt_of_le h.lt hb.size⟩
theorem Slot.new (w:World):Slot w.heap.size (w.alloc (.cells #[Iv 0,Iv 0] 28)):=⟨by simp,by simp,by simp,by simp,by simp⟩
theorem unb64_any (l:List UInt8) (w:World) (hs:l.length<=2147483648) (hL:Laid w):
 Calls prog 31 #[Sv l] w (UnPost l w):=by
 by_cases hm:l.length%4=0
 ·have HY:((l.length:Int)%4 != 0)=false:=(by simp;omega);have Hm:=hid hm;clear hm;obtain ⟨i0,hi,HZ,I0,I1⟩:=info_parts info5;go_enter func31,ntmps31;go_wp2_with fail;refine (trim1 l _ hs).mono ?_;rintro e w1 ⟨rfl,rfl⟩;obtain ⟨b1,A3⟩: ∃b1,Lib.trimSuffix l [61]=b1:=⟨_,rfl⟩;have HA:b1.length<=l.length:=(by rw[<-A3];exact trim_len _ _);rw[A3];by_cases he:b1=l
  case' pos=>
   subst he;have HB:Hid (b1=bodyOf b1):=hid (by unfold bodyOf;rw[if_pos A3]);clear A3 HA;obtain ⟨bd,A4⟩: ∃bd,bd=b1:=⟨_,rfl⟩;have HC:Hid (bd=bodyOf b1):=hid (by rw[A4];exact HB.out);clear HB;have HB:=HC;clear HC;have I2:bd.length<=2147483648:=(by rw[A4];exact hs);subst A4
  case' neg=>
   have HB:Hid (Lib.trimSuffix b1 [61]=bodyOf l):=hid (by unfold bodyOf;rw[if_neg (by rw[A3];exact he),A3]);have L6:(b1==l)=false:=(by simpa using he);clear A3 he;go_wp2_with fail;refine (trim1 b1 _ (by omega)).mono ?_;rintro e w1 ⟨rfl,rfl⟩;obtain ⟨bd,A4⟩: ∃bd,bd=Lib.trimSuffix b1 [61]:=⟨_,rfl⟩;have I2:bd.length<=2147483648:=(by rw[A4];exact Nat.le_trans (trim_len _ _) (by omega));rw[<-A4] at HB⊢;clear A4
  all_goals
   have HE:=Lib.run_convert_string_bytes (P:=prog) (w.alloc (.cells #[Iv 0,Iv 0] 28)) 9 113 5 ⟨bd.toArray⟩ (u:= .string) underlying9 underlying113 underlying5;have hB: ∀j,j<bd.length->(Lib.bytesWorld (w.alloc (.cells #[Iv 0,Iv 0] 28)) 5 ⟨bd.toArray⟩).cell? (Ad (w.heap.size+1) j)=some (.int .u8 (bd.getD j 0).toNat):=fun j hj=>(by have:=Lib.bytesWorld_cell (w.alloc (.cells #[Iv 0,Iv 0] 28)) 5 ⟨bd.toArray⟩ j hj;simpa using this);have A8:Below (w.heap.size+1) (w.alloc (.cells #[Iv 0,Iv 0] 28)) (Lib.bytesWorld (w.alloc (.cells #[Iv 0,Iv 0] 28)) 5 ⟨bd.toArray⟩):=(by have:=below_bytes (w.alloc (.cells #[Iv 0,Iv 0] 28)) 5 ⟨bd.toArray⟩;simpa using this);have E2:(Lib.bytesWorld (w.alloc (.cells #[Iv 0,Iv 0] 28)) 5 ⟨bd.toArray⟩).heap.size=w.heap.size+2:=(by rw[Lib.bytesWorld_size];simp);obtain ⟨W1,HH⟩: ∃W1,W1=Lib.bytesWorld (w.alloc (.cells #[Iv 0,Iv 0] 28)) 5 ⟨bd.toArray⟩:=⟨_,rfl⟩;rw[<-HH] at HE hB A8 E2;clear HH;have AL:Slot w.heap.size W1:=(Slot.new w).below (by omega) A8;have A5:Below w.heap.size w W1:=((Below.refl _ w).alloc (Nat.le_refl _) _).trans (A8.mono (by omega));have E3:w.heap.size+2<=W1.heap.size:=(by omega);clear E2;have k1:=cat1;have k2:=cat2;go_wp2;go_loopw [29] (fun i wr=> ∃k:Nat,i=Iv k/\k<=bd.length/\Hid (firstBad k (bd.drop k)=firstBad 0 bd)/\Below W1.heap.size W1 wr) (fun i _=>bd.length-(intOf i).toNat);case atStart=>exact ⟨0,rfl,by omega,hid rfl,Below.refl _ _⟩
   case round=>
    obtain ⟨k,rfl,hk,HF,A0⟩:=hrel;have DD:Laid wr:=hL.below hL.sz (A5.trans (A0.mono (by omega)));have G1:=AL.below (by omega) A0;by_cases A9:k<bd.length
    ·have HI:=hB k A9;rw[<-A0.cell (p:=(Ad (w.heap.size+1) k)) (by show w.heap.size+1<_;omega)] at HI;obtain ⟨c,DT,E0⟩: ∃c,bd.getD k 0=c/\bd.drop k=c::bd.drop (k+1):=⟨bd[k],by simp[List.getD,List.getElem?_eq_getElem A9],List.drop_eq_getElem_cons A9⟩;rw[DT] at HI;have HD:=hid E0;clear DT E0;have L7:wrap32 (c.toNat:Int)=(c.toNat:Int):=IntWalk.wrap32_in _ (by have:=c.toNat_lt;omega);go_wp2_with fail;refine (lower_alpha _).mono ?_;rintro e2 w2 ⟨rfl,I3⟩;have E9:=A0.trans (I3.mono A0.size);go_wp2_with fail;refine (contains_sign c _).mono ?_;rintro e3 w3 ⟨rfl,I4⟩;have AN:=E9.trans (I4.mono E9.size);have A6:=AL.below (by omega) AN;by_cases hg:0<=dgt c
     ·rw[show decide (0<=dgt c)=true from by simpa using hg];go_wp2_with fail;refine ⟨⟨k+1,by go_num,by omega,hid ?_,AN⟩,by simp[intOf];omega⟩;rw[<-HF.out,HD.out];exact (if_neg (by omega)).symm
     ·rw[show decide (0<=dgt c)=false from by simpa using hg];obtain ⟨s0,s1,s2,s3,s4⟩:=A6;go_wp2
      exact bodyPost_ret (v:= .tuple #[.string ⟨#[]⟩,.agg #[Iv 3,Iv k]]) (by simp[results,results31,go_sem, *]) rfl (un_err (unB_bad Hm.out (by rw[<-HB.out,<-HF.out,HD.out];exact if_pos (by omega))) (below_set2 (A5.trans (AN.mono (by omega))) _ _))
    ·have G2:k=bd.length:=(by omega);subst G2;have G4:Hid (firstBad 0 bd=none):=hid (by rw[<-HF.out,List.drop_length];rfl);have HG:Hid (∀c∈bd,0<=dgt c):=hid (good_of_none G4.out);have AV:Below w.heap.size w wr:=A5.trans (A0.mono (by omega));have AW:w.heap.size+2<=wr.heap.size:=Nat.le_trans E3 A0.size;obtain ⟨W2,HJ⟩: ∃W2,W2=wr:=⟨_,rfl⟩;rw[<-HJ] at AV AW G1 DD⊢;clear HJ A0 HF hB HE A8 AL A5 E3;go_wp2
     go_loopw [7,46] (fun v i wr=> ∃(k:Nat) (B:List UInt8),v=Sv B/\i=Iv k/\k<=bd.length/\B.length<=6*k/\Hid (B=bits6 (bd.take k))/\Below W2.heap.size W2 wr) (fun _ i _=>bd.length-(intOf i).toNat);case atStart=>exact ⟨0,[],rfl,rfl,by omega,by simp,hid rfl,Below.refl _ _⟩
     case round=>
      obtain ⟨k,B,rfl,rfl,hk,L9,B0,A0⟩:=hrel;have HK:Laid wr:=DD.below DD.sz A0;by_cases A9:k<bd.length
      ·obtain ⟨c,hx,hc⟩: ∃c,(∀h,(⟨bd.toArray⟩:ByteArray)[k]'h=c)/\bd[k]=c:=⟨bd[k],fun _=>rfl,rfl⟩;have hg:=HG.out bd[k] (List.getElem_mem A9);have E1:bits6 (bd.take (k+1))=bits6 (bd.take k)++binL 6 (dgt bd[k]).toNat:=by
        rw[List.take_succ_eq_append_getElem A9,bits6,List.flatMap_append];simp[bits6]
       rw[hc] at E1 hg;obtain ⟨N,hN⟩:=Int.eq_ofNat_of_zero_le hg;have HL:N<64:=(by rcases dgt_cases c with h|h<;>omega);rw[hN,Int.toNat_natCast] at E1;have HN:=hid hN;have HS:=hid E1;clear E1 hN hg hc;have LB:=binL_length 6 N;go_wp2_with fail;refine (index_alpha c _).mono ?_;rintro e4 w4 ⟨rfl,rfl⟩;rw[HN.out];go_wp2_with fail;refine (digits6 N _ HL HK).mono ?_;rintro e5 w5 ⟨rfl,I5⟩;have HM:=A0.trans (I5.mono A0.size);go_wp2_with fail;rw[ba_app];refine ⟨⟨k+1,B++binL 6 N,rfl,by go_num,by omega,by rw[List.length_append,binL_length];omega,hid (by rw[HS.out,B0.out]),HM⟩,by simp[intOf];omega⟩
      ·have G2:k=bd.length:=(by omega);subst G2;rw[List.take_length] at B0;have F1:B.length<=12884901888:=(by omega);have I6:Hid (Bits B):=hid (by rw[B0.out];exact bits6_bits bd);have F2:=AV.trans (A0.mono (by omega));have A6:=G1.below (by omega) A0;have F3:w.heap.size+2<=wr.heap.size:=Nat.le_trans AW A0.size;obtain ⟨W3,HO⟩: ∃W3,W3=wr:=⟨_,rfl⟩;rw[<-HO] at F2 A6 HK F3⊢;clear HO A0 AV G1 AW DD;go_wp2
       go_loopw [7,9] (fun v o wr=> ∃(rest out:List UInt8),v=Sv rest/\rest.length<=12884901888/\out.length+rest.length<=12884901888/\wr.ownsRow W3.heap.size 5 1 o out.length (Lib.byteCells out)/\Hid (Bits rest/\out++(bytes8 rest).1=(bytes8 B).1/\(bytes8 rest).2=(bytes8 B).2)/\Below W3.heap.size W3 wr) (fun v _ _=>(match v with| .string b=>b.size|_=>0));case atStart=>exact ⟨B,[],rfl,F1,by simpa using F1,World.ownsRow_nil _ _ _ _,hid ⟨I6.out,rfl,rfl⟩,Below.refl _ _⟩
       case round=>
        obtain ⟨rest,out,rfl,hr,IB,A2,HR,A0⟩:=hrel;by_cases h8:8<=rest.length
        ·obtain ⟨a,b,c,d,e,f,g,i,r,rfl⟩:=eight h8;go_wp2_with fail;rw[show (⟨(a::b::c::d::e::f::g::i::r).toArray⟩:ByteArray).extract 0 8=⟨[a,b,c,d,e,f,g,i].toArray⟩ from by rw[ba_cut];simp];have H0:Bits [a,b,c,d,e,f,g,i]:=fun x hx=>HR.out.1 x (by simp at hx⊢;rcases hx with h|h|h|h|h|h|h|h<;>simp[h]);have KI:bval [a,b,c,d,e,f,g,i]<256:=bval_lt _ H0;refine (pint [a,b,c,d,e,f,g,i] _ (by simp) (by simp) H0).mono ?_;rintro e6 w6 ⟨rfl,HP⟩;have B1:=A0.trans (HP.mono A0.size);have B2:=own_below A2 HP;obtain ⟨N,hN⟩: ∃N,bval [a,b,c,d,e,f,g,i]=N:=⟨_,rfl⟩;rw[hN];rw[hN] at KI;have HN:=hid hN;clear hN H0;simp only[List.length_cons] at IB hr;go_wp2_with
          (at_builtin
           refine wpList_append_own _ rfl (.tmp 68) (.tmp 71) _ rfl W3.heap.size 5 i0 (.int .u8 0) 1 1 underlying113 hi HZ I0 I1 rfl (by decide) _ out.length _ rfl (B2.alloc _) (Ad w6.heap.size 0) 1 1 [.int .u8 (N:Int)] ?c1 ?c0 ?c2 ?c3 ?c4 ?c5 ?c6 ?_;case c1=>rfl
           case c0=>rfl
           case c2=>exact cell1_new w6 _
           case c3=>intro u hu;simp at hu;subst hu;rfl
           case c4=>simp only[maxLen];omega
           case c5=>omega
           case c6=>simp;exact Nat.le_succ_of_le B1.size
           intro v7 w7 B3 HQ _;have L1:=below_app B1 B1.size B2 HQ;have H3:=own_app (bs:=[UInt8.ofNat N]) B3 rfl (by simp[Lib.byteCells];omega);clear B3 HQ)
         rw[ext8];refine ⟨⟨r,out++[UInt8.ofNat N],rfl,by omega,by simp;omega,H3,hid ⟨fun x hx=>HR.out.1 x (by simp[hx]), ?_, ?_⟩,L1⟩, ?_⟩
         ·rw[<-HR.out.2.1,bytes8,HN.out,List.append_assoc];rfl
         ·rw[<-HR.out.2.2,bytes8]
         ·show r.length<r.length+1+1+1+1+1+1+1+1;omega
        ·have DA:rest.length<8:=(by omega);have H1:Hid (out=(bytes8 (bits6 bd)).1):=hid (by
          have h:out=(bytes8 B).1:=(by have:=HR.out.2.1;rw[bytes8_short DA,List.append_nil] at this;exact this);rw[h,B0.out])
         have H2:Hid (rest=(bytes8 (bits6 bd)).2):=hid (by have h:rest=(bytes8 B).2:=(by have:=HR.out.2.2;rw[bytes8_short DA] at this;exact this);rw[h,B0.out]);have F4:=A6.below (by omega) A0;have A7:=F2.trans (A0.mono (by omega));have L8:w.heap.size+2<=wr.heap.size:=Nat.le_trans F3 A0.size;clear DA;go_wp2_with fail;refine (contains49 rest _).mono ?_;rintro e9 w9 ⟨rfl,rfl⟩;by_cases A1:0<=Lib.indexByte rest 49∨4<rest.length
         ·have HT:unB _= .error (3,(bd.length:Int) - 1):=unB_rest Hm.out HB.out G4.out H2.out A1;have HU:=hid HT;clear HT;obtain ⟨s0,s1,s2,s3,s4⟩:=F4;rcases Classical.em (0<=Lib.indexByte rest 49) with AB|AB
          ·rw[show decide (0<=Lib.indexByte rest 49)=true from by simpa using AB];clear AB A1;go_wp2
           exact bodyPost_ret (v:= .tuple #[.string ⟨#[]⟩,.agg #[Iv 3,Iv ((bd.length:Int) - 1)]]) (by simp[results,results31,go_sem, *]) rfl (un_err HU.out (below_set2 A7 _ _))
          ·rw[show decide (0<=Lib.indexByte rest 49)=false from by simpa using AB];have h4:4<rest.length:=(by rcases A1 with h|h;exact absurd h AB;exact h);clear AB A1;go_wp2
           exact bodyPost_ret (v:= .tuple #[.string ⟨#[]⟩,.agg #[Iv 3,Iv ((bd.length:Int) - 1)]]) (by simp[results,results31,go_sem, *]) rfl (un_err HU.out (below_set2 A7 _ _))
         ·have HV:unB _= .ok out:=unB_good Hm.out HB.out G4.out H1.out H2.out A1;have H4:=hid HV;clear HV;rw[show decide (0<=Lib.indexByte rest 49)=false from by have:=fun h=>A1 (Or.inl h);simp;omega];have h4:rest.length<=4:=(by have:=fun h=>A1 (Or.inr h);omega);clear A1;obtain ⟨s0,s1,s2,s3,s4⟩:=F4;rcases A2.2 with ⟨rfl,hn⟩|⟨g,cap,cur,rfl,LL,FB,M2,_,HW,H8⟩
          ·have HX:out=[]:=List.eq_nil_of_length_eq_zero hn;have DT:=run_convert_bytes_nil (P:=prog) wr.drew 113 5 underlying113 underlying5 0 0 9 underlying9;have E0:=run_convert_bytes_nil (P:=prog) (wr.alloc (.cells #[Iv 0,Iv (-1)] 28)).drew 113 5 underlying113 underlying5 0 0 9 underlying9;rw[HX] at H4;clear hn HX A2;go_wp2_with fail;go_region_with (go_at_call 18;refine (good_any _).mono ?_;rintro e9 w9 ⟨rfl,rfl⟩);all_goals
            go_wp2
            refine bodyPost_ret (v:= .tuple #[.string ⟨([]:List UInt8).toArray⟩,.agg #[Iv 0,Iv (-1)]]) (by simp[results,results31,go_sem, *];rfl) rfl (un_ok H4.out ?_);exact Below.drew (below_end A7 _ _ _)
          ·have H9:=fun (w9:World) (L2: ∀j,w9.cell? (Ad g j)=wr.cell? (Ad g j))=>conv_own A2 w9 L2;have DT:=H9 wr.drew (fun _=>rfl);have E0:=H9 (wr.alloc (.cells #[Iv 0,Iv (-1)] 28)).drew (fun j=>by exact World.cell?_alloc_lt _ _ _ (by
            have:=(Array.getElem?_eq_some_iff.1 FB).1;exact this))
           clear H9 H8 HW FB A2;go_wp2_with fail;go_region_with (go_at_call 18;refine (good_any _).mono ?_;rintro e9 w9 ⟨rfl,rfl⟩);all_goals
            go_wp2
            refine bodyPost_ret (v:= .tuple #[Sv out,.agg #[Iv 0,Iv (-1)]]) (by simp[results,results31,go_sem, *]) rfl (un_ok H4.out ?_);exact Below.drew (below_end A7 _ _ _)
 ·have HY:((l.length:Int)%4 != 0)=true:=(by simp;omega);have Hm:=hid hm;clear hm;go_enter func31,ntmps31;go_wp2
  exact bodyPost_ret (v:= .tuple #[.string ⟨#[]⟩,.agg #[Iv 7,Iv l.length]]) (by simp[results,results31,go_sem]) rfl (un_err (by unfold unB;rw[if_neg Hm.out]) ((Below.refl _ _).alloc (Nat.le_refl _) _))
theorem trim_snoc (X:List UInt8) (c:UInt8):Lib.trimSuffix (X++[c]) [61]=if c=61 then X else X++[c]:=by
 have h:Lib.hasSuffix (X++[c]) [61]=decide (c=61):=by
  unfold Lib.hasSuffix;simp only[List.isSuffixOf,List.reverse_append,List.reverse_cons,List.reverse_nil,List.nil_append,List.singleton_append,List.isPrefixOf];by_cases e:c=61
  ·simp[e]
  ·have:(61==c)=false:=(by simpa using fun h=>e h.symm);simp[e,this]
 unfold Lib.trimSuffix;rw[h];by_cases e:c=61
 ·simp[e]
 ·simp[e]
theorem body_snoc (Z:List UInt8) (c2 c3:UInt8):bodyOf (Z++[c2]++[c3])=if c3=61 then (if c2=61 then Z else Z++[c2]) else Z++[c2]++[c3]:=by
 unfold bodyOf;rw[trim_snoc];by_cases e:c3=61
 ·rw[if_pos e,if_pos e,if_neg (fun h=>by have:=congrArg List.length h;simp at this),trim_snoc]
 ·rw[if_neg e,if_neg e,if_pos rfl]
theorem two_last {r:List UInt8} (h:r.length%4=0) (hn:r≠[]): ∃Z x y,r=Z++[x]++[y]:=by
 have h2:2<=r.length:=by
  rcases r with _|⟨a,_|⟨b,r⟩⟩
  ·exact absurd rfl hn
  ·simp at h
  ·simp
 obtain ⟨X,y,rfl⟩: ∃X y,r=X++[y]:=⟨_,_,(List.dropLast_concat_getLast hn).symm⟩;have hX:X≠[]:=(by intro e;subst e;simp at h2);obtain ⟨Z,x,rfl⟩: ∃Z x,X=Z++[x]:=⟨_,_,(List.dropLast_concat_getLast hX).symm⟩;exact ⟨Z,x,y,rfl⟩
theorem body_cons4 (a b c d:UInt8) {r:List UInt8} (h:r.length%4=0) (hn:r≠[]):bodyOf (a::b::c::d::r)=a::b::c::d::bodyOf r:=by
 obtain ⟨Z,x,y,rfl⟩:=two_last h hn;rw[body_snoc,show a::b::c::d::(Z++[x]++[y])=(a::b::c::d::Z)++[x]++[y] from by simp,body_snoc];by_cases e:y=61
 ·by_cases e2:x=61
  ·simp[e,e2]
  ·simp[e,e2]
 ·simp[e]
def unR (i:Nat) (acc l:List UInt8):Except Nat (List UInt8):=
 match firstBad i (bodyOf l) with
 |some j=> .error j
 |none=>if 0<=Lib.indexByte (bytes8 (bits6 (bodyOf l))).2 49∨4<(bytes8 (bits6 (bodyOf l))).2.length then .error (i+(bodyOf l).length- 1) else .ok (acc++(bytes8 (bits6 (bodyOf l))).1)
theorem binL6 (n:Nat):binL 6 n=[UInt8.ofNat (48+n/32%2),UInt8.ofNat (48+n/16%2),UInt8.ofNat (48+n/8%2),UInt8.ofNat (48+n/4%2),UInt8.ofNat (48+n/2%2),UInt8.ofNat (48+n%2)]:=by simp[binL,List.range,List.range.loop]
theorem bval8 (a b c d e f g h:UInt8):bval [a,b,c,d,e,f,g,h]=(((((((a.toNat- 48)*2+(b.toNat- 48))*2+(c.toNat- 48))*2+(d.toNat- 48))*2+(e.toNat- 48))*2+(f.toNat- 48))*2+(g.toNat- 48))*2+(h.toNat- 48):=by simp[bval]
theorem bits6_cons (c:UInt8) (l:List UInt8):bits6 (c::l)=binL 6 (dgt c).toNat++bits6 l:=by simp[bits6]
theorem e_0 (n m:Nat) (h:n<64) (k:m<64):((((((n/32%2*2+n/16%2)*2+n/8%2)*2+n/4%2)*2+n/2%2)*2+n%2)*2+m/32%2)*2+m/16%2=n*4+m/16:=by omega
theorem e_1 (n m:Nat) (k:m<64):((((((n/8%2*2+n/4%2)*2+n/2%2)*2+n%2)*2+m/32%2)*2+m/16%2)*2+m/8%2)*2+m/4%2=n%16*16+m/4:=by omega
theorem e_2 (n m:Nat) (k:m<64):((((((n/2%2*2+n%2)*2+m/32%2)*2+m/16%2)*2+m/8%2)*2+m/4%2)*2+m/2%2)*2+m%2=n%4*64+m:=by omega
theorem n_0 (a b c d:Nat) (hb:b<64) (hc:c<64) (hd:d<64):num a b c d/65536=a*4+b/16:=by unfold num;omega
theorem n_1 (a b c d:Nat) (hc:c<64) (hd:d<64):(num a b c d/256)%256=(b%16*16+c/4)%256:=by unfold num;omega
theorem n_2 (a b c d:Nat) (hd:d<64):num a b c d%256=(c%4*64+d)%256:=by unfold num;omega
theorem ofNat_mod {x y:Nat} (h:x%256=y%256):UInt8.ofNat x=UInt8.ofNat y:=by apply UInt8.toNat_inj.1;simpa using h
theorem four_signs (n0 n1 n2 n3:Nat) (h0:n0<64) (h1:n1<64) (h2:n2<64) (h3:n3<64) (B:List UInt8):
 bytes8 (binL 6 n0++(binL 6 n1++(binL 6 n2++(binL 6 n3++B))))=(by0 (num n0 n1 n2 n3)::by1 (num n0 n1 n2 n3)::by2 (num n0 n1 n2 n3)::(bytes8 B).1,(bytes8 B).2):=by
 rw[binL6,binL6,binL6,binL6];simp only[List.cons_append,List.nil_append];rw[bytes8,bytes8,bytes8,bval8,bval8,bval8];simp only[bit_val];rw[e_0 _ _ h0 h1,e_1 _ _ h2,e_2 _ _ h3];unfold by0 by1 by2;rw[n_0 _ _ _ _ h1 h2 h3,ofNat_mod (n_1 n0 n1 n2 n3 h2 h3),ofNat_mod (n_2 n0 n1 n2 n3 h3)]
theorem three_signs (n0 n1 n2:Nat) (h0:n0<64) (h1:n1<64) (h2:n2<64):
 bytes8 (binL 6 n0++(binL 6 n1++(binL 6 n2++[])))=([by0 (num n0 n1 n2 0),by1 (num n0 n1 n2 0)],[UInt8.ofNat (48+n2/2%2),UInt8.ofNat (48+n2%2)]):=by
 rw[binL6,binL6,binL6];simp only[List.cons_append,List.nil_append];rw[bytes8,bytes8,bytes8_short (by simp),bval8,bval8];simp only[bit_val];rw[e_0 _ _ h0 h1,e_1 _ _ h2];unfold by0 by1;rw[n_0 _ _ _ _ h1 h2 (by omega),ofNat_mod (n_1 n0 n1 n2 0 h2 (by omega))]
theorem two_signs (n0 n1:Nat) (h0:n0<64) (h1:n1<64):
 bytes8 (binL 6 n0++(binL 6 n1++[]))=([by0 (num n0 n1 0 0)],[UInt8.ofNat (48+n1/8%2),UInt8.ofNat (48+n1/4%2),UInt8.ofNat (48+n1/2%2),UInt8.ofNat (48+n1%2)]):=by
 rw[binL6,binL6];simp only[List.cons_append,List.nil_append];rw[bytes8,bytes8_short (by simp),bval8];simp only[bit_val];rw[e_0 _ _ h0 h1];unfold by0;rw[n_0 _ _ _ _ h1 (by omega) (by omega)]
theorem index_ge: ∀(l:List UInt8) (c:UInt8), -1<=Lib.indexByte l c
 |[],_=>by simp[Lib.indexByte]
 |b::l,c=>by
  have:=index_ge l c;rw[Lib.indexByte];split
  ·omega
  ·split<;>omega
theorem index_cons (b c:UInt8) (l:List UInt8):0<=Lib.indexByte (b::l) c↔b=c∨0<=Lib.indexByte l c:=by
 rw[Lib.indexByte];by_cases h:b=c
 ·simp[h]
 ·have h1:(b==c)=false:=(by simpa using h);rw[h1];by_cases h2:Lib.indexByte l c= -1
  ·simp[h,h2]
  ·have h3:(Lib.indexByte l c== -1)=false:=(by simpa using h2);simp only[h3,h,false_or,Bool.false_eq_true,if_false];have:=index_ge l c;omega
theorem bit_is (x:Nat):UInt8.ofNat (48+x%2)=49↔x%2=1:=by rcases Nat.mod_two_eq_zero_or_one x with h|h<;>rw[h]<;>decide
theorem index_nil (c:UInt8): ¬0<=Lib.indexByte [] c:=by simp[Lib.indexByte]
theorem num_256 (a b c:Nat):num a b c 0%256=0↔c%4=0:=by unfold num;omega
theorem num_65536 (a b:Nat):num a b 0 0%65536=0↔b%16=0:=by unfold num;omega
theorem good_nat {c:UInt8} (h: ¬dgt c<0):(dgt c).toNat<64:=by rcases dgt_cases c with h'|h'<;>omega
theorem bad61 {c:UInt8} (h:c=61):dgt c<0:=by rw[h,dgt_eq61];omega
theorem firstBad_cons (i:Nat) (c:UInt8) (l:List UInt8):firstBad i (c::l)=if dgt c<0 then some i else firstBad (i+1) l:=rfl
theorem unR_full {i:Nat} {acc:List UInt8} {c0 c1 c2 c3:UInt8} {r b:List UInt8} (hb:bodyOf (c0::c1::c2::c3::r)=c0::c1::c2::c3::b) (L4:bodyOf r=b) (h0: ¬dgt c0<0) (h1: ¬dgt c1<0) (h2: ¬dgt c2<0) (h3: ¬dgt c3<0):
 unR i acc (c0::c1::c2::c3::r)=unR (i+4) (acc++[by0 (num (dgt c0).toNat (dgt c1).toNat (dgt c2).toNat (dgt c3).toNat),by1 (num (dgt c0).toNat (dgt c1).toNat (dgt c2).toNat (dgt c3).toNat),by2 (num (dgt c0).toNat (dgt c1).toNat (dgt c2).toNat (dgt c3).toNat)]) r:=by
 unfold unR;rw[hb,L4,firstBad_cons,firstBad_cons,firstBad_cons,firstBad_cons,if_neg h0,if_neg h1,if_neg h2,if_neg h3];rw[bits6_cons,bits6_cons,bits6_cons,bits6_cons,four_signs _ _ _ _ (good_nat h0) (good_nat h1) (good_nat h2) (good_nat h3)];rw[show i+1+1+1+1=i+4 from by omega];cases firstBad (i+4) b with
 |some j=>rfl
 |none=>
  simp only[List.length_cons,List.append_assoc,List.cons_append,List.nil_append];rw[show i+(b.length+1+1+1+1) - 1=i+4+b.length- 1 from by omega]
theorem unR_bad {i j:Nat} {acc l:List UInt8} (h:firstBad i (bodyOf l)=some j):unR i acc l= .error j:=by unfold unR;rw[h]
theorem unR_nil (i:Nat) (acc:List UInt8):unR i acc []= .ok acc:=by have hb:bodyOf []=[]:=(by unfold bodyOf;simp[Lib.trimSuffix]);unfold unR;rw[hb];have:bytes8 (bits6 [])=([],[]):=bytes8_short (by simp[bits6]);simp only[firstBad,this];rw[if_neg (by intro h;rcases h with h|h;exact index_nil _ h;simp at h)];simp
theorem dec_eq: ∀(l:List UInt8) (i:Nat) (acc:List UInt8),l.length%4=0->decR i acc l=unR i acc l
 |[],i,acc,_=>by rw[decR_nil,unR_nil]
 |[a],_,_,h=>by simp at h
 |[a,b],_,_,h=>by simp at h
 |[a,b,c],_,_,h=>by simp at h
 |c0::c1::c2::c3::r,i,acc,h=>by
  have hr:r.length%4=0:=(by simp only[List.length_cons] at h;omega);have ih:=fun a=>dec_eq r (i+4) a hr;rw[decR];by_cases hn:r=[]
  ·subst hn;by_cases e3:c3=61
   ·subst e3;by_cases e2:c2=61
    ·subst e2;have hb:bodyOf [c0,c1,61,61]=[c0,c1]:=by
      rw[show [c0,c1,61,61]=[c0,c1]++[61]++[61] from rfl,body_snoc];rfl
     by_cases h0:dgt c0<0
     ·rw[if_pos h0,unR_bad (by rw[hb,firstBad_cons,if_pos h0])]
     ·by_cases h1:dgt c1<0
      ·rw[if_neg h0,if_pos h1,unR_bad (by rw[hb,firstBad_cons,if_neg h0,firstBad_cons,if_pos h1])]
      ·rw[if_neg h0,if_neg h1,if_pos ⟨rfl,rfl,rfl⟩];unfold unR;rw[hb,firstBad_cons,firstBad_cons,if_neg h0,if_neg h1];rw[bits6_cons,bits6_cons,show bits6 []=[] from rfl,two_signs _ _ (good_nat h0) (good_nat h1)];simp only[firstBad,index_cons,index_nil,or_false,bit_is,List.length_cons,List.length_nil];by_cases hz:(dgt c1).toNat%16=0
       ·rw[if_pos ((num_65536 _ _).2 hz),if_neg (by omega)]
       ·rw[if_neg (fun h=>hz ((num_65536 _ _).1 h)),if_pos (by omega),show i+(0+1+1) - 1=i+1 from by omega]
    ·have hb:bodyOf [c0,c1,c2,61]=[c0,c1,c2]:=by
      rw[show [c0,c1,c2,61]=[c0,c1]++[c2]++[61] from rfl,body_snoc,if_pos rfl,if_neg e2];rfl
     by_cases h0:dgt c0<0
     ·rw[if_pos h0,unR_bad (by rw[hb,firstBad_cons,if_pos h0])]
     ·by_cases h1:dgt c1<0
      ·rw[if_neg h0,if_pos h1,unR_bad (by rw[hb,firstBad_cons,if_neg h0,firstBad_cons,if_pos h1])]
      ·rw[if_neg h0,if_neg h1,if_neg (fun h=>e2 h.2.2)];by_cases h2:dgt c2<0
       ·rw[if_pos h2,unR_bad (by rw[hb,firstBad_cons,if_neg h0,firstBad_cons,if_neg h1,firstBad_cons,if_pos h2])]
       ·rw[if_neg h2,if_pos ⟨rfl,rfl⟩];unfold unR;rw[hb,firstBad_cons,firstBad_cons,firstBad_cons,if_neg h0,if_neg h1,if_neg h2];rw[bits6_cons,bits6_cons,bits6_cons,show bits6 []=[] from rfl,three_signs _ _ _ (good_nat h0) (good_nat h1) (good_nat h2)];simp only[firstBad,index_cons,index_nil,or_false,bit_is,List.length_cons,List.length_nil];by_cases hz:(dgt c2).toNat%4=0
        ·rw[if_pos ((num_256 _ _ _).2 hz),if_neg (by omega)]
        ·rw[if_neg (fun h=>hz ((num_256 _ _ _).1 h)),if_pos (by omega),show i+(0+1+1+1) - 1=i+2 from by omega]
   ·have hb:bodyOf [c0,c1,c2,c3]=[c0,c1,c2,c3]:=by
     rw[show [c0,c1,c2,c3]=[c0,c1]++[c2]++[c3] from rfl,body_snoc,if_neg e3]
    have A8:bodyOf []=[]:=(by unfold bodyOf;simp[Lib.trimSuffix]);by_cases h0:dgt c0<0
    ·rw[if_pos h0,unR_bad (by rw[hb,firstBad_cons,if_pos h0])]
    ·by_cases h1:dgt c1<0
     ·rw[if_neg h0,if_pos h1,unR_bad (by rw[hb,firstBad_cons,if_neg h0,firstBad_cons,if_pos h1])]
     ·rw[if_neg h0,if_neg h1,if_neg (fun h=>e3 h.2.1)];by_cases h2:dgt c2<0
      ·rw[if_pos h2,unR_bad (by rw[hb,firstBad_cons,if_neg h0,firstBad_cons,if_neg h1,firstBad_cons,if_pos h2])]
      ·rw[if_neg h2,if_neg (fun h=>e3 h.2)];by_cases h3:dgt c3<0
       ·rw[if_pos h3,unR_bad (by rw[hb,firstBad_cons,if_neg h0,firstBad_cons,if_neg h1,firstBad_cons,if_neg h2,firstBad_cons,if_pos h3])]
       ·rw[if_neg h3,ih,unR_full hb A8 h0 h1 h2 h3]
  ·have hb:=body_cons4 c0 c1 c2 c3 hr hn;by_cases h0:dgt c0<0
   ·rw[if_pos h0,unR_bad (by rw[hb,firstBad_cons,if_pos h0])]
   ·by_cases h1:dgt c1<0
    ·rw[if_neg h0,if_pos h1,unR_bad (by rw[hb,firstBad_cons,if_neg h0,firstBad_cons,if_pos h1])]
    ·rw[if_neg h0,if_neg h1,if_neg (fun h=>hn h.1)];by_cases h2:dgt c2<0
     ·rw[if_pos h2,unR_bad (by rw[hb,firstBad_cons,if_neg h0,firstBad_cons,if_neg h1,firstBad_cons,if_pos h2])]
     ·rw[if_neg h2,if_neg (fun h=>hn h.1)];by_cases h3:dgt c3<0
      ·rw[if_pos h3,unR_bad (by rw[hb,firstBad_cons,if_neg h0,firstBad_cons,if_neg h1,firstBad_cons,if_neg h2,firstBad_cons,if_pos h3])]
      ·rw[if_neg h3,ih,unR_full hb rfl h0 h1 h2 h3]
theorem dec_law (l:List UInt8):decB l=unB l:=by
 unfold decB unB;by_cases hm:l.length%4=0
 ·rw[if_pos hm,if_pos hm,dec_eq l 0 [] hm,unR];cases hf:firstBad 0 (bodyOf l) with
  |some j=>rfl
  |none=>
   simp only[Nat.zero_add,List.nil_append];by_cases hc:0<=Lib.indexByte (bytes8 (bits6 (bodyOf l))).2 49∨4<(bytes8 (bits6 (bodyOf l))).2.length
   ·rw[if_pos hc,if_pos hc];have hp:1<=(bodyOf l).length:=by
     rcases L5:bodyOf l with _|⟨a,t⟩
     ·rw[L5] at hc;have:bytes8 (bits6 [])=([],[]):=bytes8_short (by simp[bits6]);rw[this] at hc;rcases hc with hc|hc
      ·exact absurd hc (index_nil _)
      ·simp at hc
     ·simp
    simp only;rw[show (((bodyOf l).length- 1:Nat):Int)=((bodyOf l).length:Int) - 1 from by omega]
   ·rw[if_neg hc,if_neg hc]
 ·rw[if_neg hm,if_neg hm]
end B
end Go.Proofs.YtjhpdljphchfaaaGreatDoor
