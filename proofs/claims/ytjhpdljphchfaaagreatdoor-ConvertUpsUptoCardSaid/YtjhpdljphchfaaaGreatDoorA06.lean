/- A part of the proof of ConvertUps: strings.ContainsRune of the 64 signs, at every byte. -/
import Derived.Test.YtjhpdljphchfaaaGreatDoorA00
import Derived.Test.YtjhpdljphchfaaaGreatDoorA01
import Derived.BigQuiet
import Derived.Test.YtjhpdljphchfaaaGreatDoorA05
import Derived.Deep.QuietTactic
import Derived.WalkKit
import Derived.BigCall
import Derived.WalkSpells
import Derived.WalkLawsBesides
set_option maxHeartbeats 40000000
set_option maxRecDepth 1000000
set_option linter.all false
namespace Go.Proofs.YtjhpdljphchfaaaGreatDoor
open Go.RowKit
open Go.Proofs.Tryz
namespace B
theorem enc2 (n:Nat) (h0:128<=n) (h1:n<256): ∃x y:UInt8,Utf8.encode (n:Int)=⟨#[x,y]⟩/\128<=y.toNat:=by have hv:Utf8.valid (n:Int)=true:=(by unfold Utf8.valid;simp;omega);refine ⟨UInt8.ofNat (192+n/64),UInt8.ofNat (128+n%64), ?_,by simp;omega⟩;unfold Utf8.encode;rw[if_pos hv];simp only[Int.toNat_natCast];rw[if_neg (by omega),if_pos (by omega)]
theorem quiet_add_same {P:Program} {f:FuncId} {args:Array Value} {w:World} {a n:Nat} {v:Value}
 (h:Calls P f args (w.drewN (a+n)) fun e w'=>e= .returned v/\w'=w.drewN (a+n)):
 Calls P f args (w.drewN (a+n)) fun e w''=>e= .returned v/\ ∃m,w''=w.drewN (a+m):=
 h.mono fun _ _ ⟨he,hm⟩=>⟨he,n,hm⟩
theorem indexByte_none {c:UInt8}: ∀{l:List UInt8},(∀b∈l,b≠c)->Lib.indexByte l c= -1
 |[],_=>rfl
 |b::l,h=>by have h1:(b==c)=false:=(by simpa using h b (by simp));have h2:Lib.indexByte l c= -1:=indexByte_none fun x hx=>h x (by simp[hx]);simp[Lib.indexByte,h1,h2]
theorem alpha_low: ∀b∈alphaL,b.toNat<128:=by decide
theorem cutL (l:List UInt8) (i j:Nat):((⟨l.toArray⟩:ByteArray).extract i j).data.toList=(l.drop i).take (j- i):=by simp
theorem idx_high (x y:UInt8) (hy:128<=y.toNat) (w:World):Calls prog 58 #[.string ((⟨#[65,66,67,68,69,70,71,72,73,74,75,76,77,78,79,80,81,82,83,84,85,86,87,88,89,90,97,98,99,100,101,102,103,104,105,106,107,108,109,110,111,112,113,114,115,116,117,118,119,120,121,122,48,49,50,51,52,53,54,55,56,57,43,47]⟩:ByteArray).extract 2 64),.int .u8 (((⟨#[x,y]⟩:ByteArray)[1]'(by decide:1<2)).toNat:Int)] w fun e w'=>e= .returned (Iv (-1))/\w'=w:=
 (strings_IndexByte _ _ w).mono fun e w' h=>by obtain ⟨rfl,rfl⟩:=h;refine ⟨?_,rfl⟩;have hc:(((⟨#[x,y]⟩:ByteArray)[1]'(by decide:1<2)).toNat:Int).toNat.toUInt8=y:=(by show ((y.toNat:Int)).toNat.toUInt8=y;simp);rw[hc,indexByte_none];intro b hb e;have hm:b∈alphaL:=(by rw[show (⟨#[65,66,67,68,69,70,71,72,73,74,75,76,77,78,79,80,81,82,83,84,85,86,87,88,89,90,97,98,99,100,101,102,103,104,105,106,107,108,109,110,111,112,113,114,115,116,117,118,119,120,121,122,48,49,50,51,52,53,54,55,56,57,43,47]⟩:ByteArray)=⟨alphaL.toArray⟩ from rfl,cutL] at hb;exact List.mem_of_mem_drop (List.mem_of_mem_take hb));have:=alpha_low b hm;rw[e] at this;omega
theorem irune_high (n:Nat) (h0:128<=n) (h1:n<256) (w:World):Calls prog 117 #[.string ⟨#[65,66,67,68,69,70,71,72,73,74,75,76,77,78,79,80,81,82,83,84,85,86,87,88,89,90,97,98,99,100,101,102,103,104,105,106,107,108,109,110,111,112,113,114,115,116,117,118,119,120,121,122,48,49,50,51,52,53,54,55,56,57,43,47]⟩,.int .i32 (n:Int)] w fun e w'=>e= .returned (Iv (-1))/\ ∃m,w'=w.drewN m:=by
 have e1:((n:Int)==65533)=false:=(by simp;omega);have A9:Lib.validRune (n:Int)=true:=(by unfold Lib.validRune;simp;omega);obtain ⟨x,y,A4,hy⟩:=enc2 n h0 h1;have B1:=hid A4;clear A4;have A5:((((⟨#[65,66,67,68,69,70,71,72,73,74,75,76,77,78,79,80,81,82,83,84,85,86,87,88,89,90,97,98,99,100,101,102,103,104,105,106,107,108,109,110,111,112,113,114,115,116,117,118,119,120,121,122,48,49,50,51,52,53,54,55,56,57,43,47]⟩:ByteArray)[1]'(by decide)).toNat:Int) !=(((⟨#[x,y]⟩:ByteArray)[1]'(by decide:1<2)).toNat:Int))=true:=(by show ((66:Int) !=(y.toNat:Int))=true;simp;omega);have B2:=hid A9;clear A9;have Hy:=hid hy;have B3:=hid A5;clear hy A5;have hg:(128:Int)<=(n:Int):=(by omega);go_enter func117,ntmps117;go_wp2_with fail;refine (utf8_ValidRune _ w).mono ?_;rintro e w1 ⟨rfl,rfl⟩;rw[B2.out];have A4:=B1.out;go_wp2_with fail
 go_step3
 go_wp2_with fail;refine wp_loop_rounds 1 ?_;rw[rounds_succ];go_wp2_with fail
 go_step3
 go_wp2_with fail;have hy:=Hy.out;have A5:=B3.out
 go_quiet (fail)
 go_wp2_with fail
 go_quiet ((go_at_call 58;exact quiet_add_same (idx_high x y hy _)))
 go_wp2_with fail;rw[Exit.noGoto_ret];go_wp2_with fail;rw[Exit.noGoto_ret];go_wp2
 go_ret;exact ⟨rfl,_,rfl⟩
theorem contains_sign (c:UInt8) (w:World):Calls prog 61 #[.string ⟨#[65,66,67,68,69,70,71,72,73,74,75,76,77,78,79,80,81,82,83,84,85,86,87,88,89,90,97,98,99,100,101,102,103,104,105,106,107,108,109,110,111,112,113,114,115,116,117,118,119,120,121,122,48,49,50,51,52,53,54,55,56,57,43,47]⟩,.int .i32 (c.toNat:Int)] w fun e w'=>e= .returned (.bool (decide (0<=dgt c)))/\Below w.heap.size w w':=by
 by_cases hc:c.toNat<128
 ·refine (strings_ContainsRune_ascii _ _ w (by omega) (by omega)).mono fun e w' h=> ?_;obtain ⟨rfl,rfl⟩:=h;refine ⟨?_,Below.refl _ _⟩;rw[show ((c.toNat:Int)).toNat.toUInt8=c from by simp];rfl
 ·have hd:dgt c= -1:=indexByte_none fun b hb e=>by
   have:=alpha_low b hb;rw[e] at this;omega
  have HD:=hid hd;have h1:128<=c.toNat:=(by omega);have h2:=c.toNat_lt;clear hd hc;go_enter func61,ntmps61;go_wp2_with fail;refine (irune_high c.toNat h1 h2 _).mono ?_;rintro e w1 ⟨rfl,m,rfl⟩;go_wp2
  go_ret;exact ⟨by rw[HD.out];rfl,below_drewN' (Below.refl _ _) _⟩
def okM (c:UInt8):Bool:=decide (33<=c.toNat)&&decide (c.toNat<=126)&&decide (c.toNat≠44)&&decide (c.toNat≠59)
def medB (l:List UInt8):Bool:=l.all okM
theorem okM_spec (c:UInt8):okM c=true↔33<=c.toNat/\c.toNat<=126/\c.toNat≠44/\c.toNat≠59:=by simp[okM,and_assoc]
def firstNot:Nat->List UInt8->Int
 |_,[]=> -1
 |i,c::r=>if okM c then firstNot (i+1) r else (i:Int)
theorem firstNot_med: ∀(l:List UInt8) (i:Nat),decide (firstNot i l<0)=medB l
 |[],i=>by simp[firstNot,medB]
 |c::r,i=>by
  unfold firstNot medB;by_cases h:okM c=true
  ·rw[if_pos h,List.all_cons,h,Bool.true_and];exact firstNot_med r (i+1)
  ·rw[if_neg h,List.all_cons];have:okM c=false:=(by simpa using h);rw[this];simp
theorem media_any (l:List UInt8) (w:World) (hs:l.length<=2147483648):
 Calls prog 143 #[Sv l] w fun e w'=>e= .returned (.bool (medB l))/\w=w':=by
 go_enter func143,ntmps143;go_wp2
 go_loop [6] (fun i=> ∃k:Nat,i=Iv k/\k<=l.length/\Hid (medB (l.drop k)=medB l)) (fun i=>l.length-(intOf i).toNat)
 case atStart=>exact ⟨0,rfl,by omega,hid rfl⟩
 case round=>
  obtain ⟨k,rfl,hk,HF⟩:=hrel;by_cases A0:k<l.length
  ·obtain ⟨c,hx,hc⟩: ∃c,(∀h,(⟨l.toArray⟩:ByteArray)[k]'h=c)/\l.drop k=c::l.drop (k+1):=⟨l[k],fun _=>rfl,List.drop_eq_getElem_cons A0⟩;have HD:=hid hc;clear hc;have A2:=okM_spec c;have hm:medB (l.drop k)=(okM c&&medB (l.drop (k+1))):=(by rw[HD.out];rfl);have HM:=hid hm;clear hm;by_cases hg:okM c=true
   ·have hr:=A2.1 hg;obtain ⟨h1,h2,h3,h4⟩:=hr;have HG:=hid hg;have q3:((c.toNat:Int)==44)=false:=(by simp;omega);have q4:((c.toNat:Int)==59)=false:=(by simp;omega);clear A2 hg h3 h4;go_wp2_with fail;refine ⟨⟨k+1,by go_num,by omega,hid ?_⟩,by simp[intOf];omega⟩;rw[<-HF.out,HM.out,HG.out,Bool.true_and]
   ·have AB:medB l=false:=by
     rw[<-HF.out,HM.out];simp[show okM c=false by simpa using hg]
    have HN:=hid AB;have hr: ¬(33<=c.toNat/\c.toNat<=126/\c.toNat≠44/\c.toNat≠59):=fun h=>hg (A2.2 h);clear A2 hg AB;by_cases h1:33<=c.toNat
    ·by_cases h2:c.toNat<=126
     ·by_cases h3:c.toNat=44
      ·have q3:((c.toNat:Int)==44)=true:=(by simp;omega);clear hr h3;go_wp2
       go_ret;exact ⟨by rw[HN.out];rfl,rfl⟩
      ·have q3:((c.toNat:Int)==44)=false:=(by simp;omega);have q4:((c.toNat:Int)==59)=true:=(by simp;omega);clear hr h3;go_wp2
       go_ret;exact ⟨by rw[HN.out];rfl,rfl⟩
     ·clear hr;go_wp2
      go_ret;exact ⟨by rw[HN.out];rfl,rfl⟩
    ·clear hr;go_wp2
     go_ret;exact ⟨by rw[HN.out];rfl,rfl⟩
  ·have A6:k=l.length:=(by omega);subst A6;have A3:medB l=true:=(by rw[<-HF.out,List.drop_length];rfl);have HN:=hid A3;clear A3;go_wp2
   go_ret;exact ⟨by rw[HN.out];rfl,rfl⟩
theorem within_any (n:Int) (w:World):Calls prog 71 #[Iv n,Iv 33,Iv 126] w fun e w'=>e= .returned (.bool (decide (33<=n)&&decide (n<=126)))/\w=w':=by
 by_cases h1:33<=n
 ·go_enter func71,ntmps71;go_wp2
  go_ret;exact ⟨by rw[show decide (33<=n)=true by simpa using h1];rfl,rfl⟩
 ·go_enter func71,ntmps71;go_wp2
  go_ret;exact ⟨by rw[show decide (33<=n)=false by simpa using h1];rfl,rfl⟩
theorem grEq (c:UInt8):(decide ((33:Int)<=c.toNat)&&decide ((c.toNat:Int)<=126))=(decide (33<=c.toNat)&&decide (c.toNat<=126)):=by rw[Bool.eq_iff_iff,Bool.and_eq_true,Bool.and_eq_true,decide_eq_true_eq,decide_eq_true_eq,decide_eq_true_eq,decide_eq_true_eq];omega
theorem graph_any (c:UInt8) (w:World):Calls prog 70 #[.int .u8 c.toNat] w fun e w'=>e= .returned (.bool (decide (33<=c.toNat)&&decide (c.toNat<=126)))/\w=w':=by
 have DT:=wrap_byte c;go_enter func70,ntmps70;go_wp2_with fail;refine (within_any c.toNat _).mono ?_;rintro e w1 ⟨rfl,rfl⟩;go_wp2
 go_ret;exact ⟨by rw[<-grEq];rfl,rfl⟩
theorem bad_any (c:UInt8) (w:World):Calls prog 121 #[.int .u8 c.toNat] w fun e w'=>e= .returned (.bool (!okM c))/\w=w':=by
 obtain ⟨g,hg⟩: ∃g,g=(decide (33<=c.toNat)&&decide (c.toNat<=126)):=⟨_,rfl⟩;obtain ⟨x,hx⟩: ∃x,x=((c.toNat:Int)==44):=⟨_,rfl⟩;obtain ⟨y,hy⟩: ∃y,y=((c.toNat:Int)==59):=⟨_,rfl⟩;have AL:(!okM c)=(!g||x||y):=(by rw[hg,hx,hy,okM];have e3:((c.toNat:Int)==44)=decide (c.toNat=44):=(by rw[Bool.eq_iff_iff];simp;omega);have e4:((c.toNat:Int)==59)=decide (c.toNat=59):=(by rw[Bool.eq_iff_iff];simp;omega);rw[e3,e4];by_cases h3:c.toNat=44<;>by_cases h4:c.toNat=59<;>simp[h3,h4]);rw[AL];clear AL;have E0:=hx.symm;have E1:=hy.symm;have Hg:=hid hg;clear hx hy hg;go_enter func121,ntmps121;go_wp2_with fail;refine (graph_any c _).mono ?_;rintro e w1 ⟨rfl,rfl⟩;rw[<-Hg.out];cases g
 ·go_wp2
  go_ret;exact ⟨rfl,rfl⟩
 ·cases x
  ·go_wp2
   go_ret;exact ⟨by simp,rfl⟩
  ·go_wp2
   go_ret;exact ⟨rfl,rfl⟩
theorem first_any (l:List UInt8) (w:World) (hs:l.length<=2147483648):
 Calls prog 68 #[Sv l,.func (.func 121) #[] #[]] w fun e w'=>e= .returned (Iv (firstNot 0 l))/\Below w.heap.size w w':=by
 have AN:=Lib.run_convert_string_bytes (P:=prog) w 9 113 5 ⟨l.toArray⟩ (u:= .string) underlying9 underlying113 underlying5;have hB: ∀j,j<l.length->(Lib.bytesWorld w 5 ⟨l.toArray⟩).cell? (Ad w.heap.size j)=some (.int .u8 (l.getD j 0).toNat):=fun j hj=>(by have:=Lib.bytesWorld_cell w 5 ⟨l.toArray⟩ j hj;simpa using this);have A7:=below_bytes w 5 ⟨l.toArray⟩;obtain ⟨W1,AV⟩: ∃W1,W1=Lib.bytesWorld w 5 ⟨l.toArray⟩:=⟨_,rfl⟩;rw[<-AV] at AN hB A7;clear AV;go_enter func68,ntmps68;go_wp2
 go_loop [10] (fun i=> ∃k:Nat,i=Iv k/\k<=l.length/\Hid (firstNot k (l.drop k)=firstNot 0 l)) (fun i=>l.length-(intOf i).toNat)
 case atStart=>exact ⟨0,rfl,by omega,hid rfl⟩
 case round=>
  obtain ⟨k,rfl,hk,HF⟩:=hrel;by_cases A0:k<l.length
  ·have DA:=hB k A0;obtain ⟨c,AW,B0⟩: ∃c,l.getD k 0=c/\l.drop k=c::l.drop (k+1):=⟨l[k],by simp[List.getD,List.getElem?_eq_getElem A0],List.drop_eq_getElem_cons A0⟩;rw[AW] at DA;have HD:=hid B0;clear AW B0 hB AN;go_wp2_with fail;refine (bad_any c _).mono ?_;rintro e w1 ⟨rfl,rfl⟩;by_cases hg:okM c=true
   ·rw[hg];go_wp2_with fail;refine ⟨⟨k+1,by go_num,by omega,hid ?_⟩,by simp[intOf];omega⟩;rw[<-HF.out,HD.out];exact (if_pos hg).symm
   ·rw[show okM c=false by simpa using hg];go_wp2
    go_ret;refine ⟨?_,A7⟩;rw[<-HF.out,HD.out];unfold firstNot;rw[if_neg hg];rfl
  ·have A6:k=l.length:=(by omega);subst A6;have hz:firstNot 0 l= -1:=(by rw[<-HF.out,List.drop_length];rfl);have HZ:=hid hz;clear hz HF;go_wp2
   go_ret;exact ⟨by rw[HZ.out];rfl,A7⟩
theorem mediaR_any (l:List UInt8) (w:World) (hs:l.length<=2147483648):
 Calls prog 64 #[Sv l] w fun e w'=>e= .returned (.bool (medB l))/\Below w.heap.size w w':=by
 have hm:=firstNot_med l 0;have HM:=hid hm;clear hm;go_enter func64,ntmps64;go_wp2_with fail;refine (first_any l _ hs).mono ?_;rintro e w1 ⟨rfl,hb⟩;go_wp2
 go_ret;exact ⟨by rw[<-HM.out];rfl,hb⟩
theorem binL8 (n:Nat):binL 8 n=[UInt8.ofNat (48+n/128%2),UInt8.ofNat (48+n/64%2),UInt8.ofNat (48+n/32%2),UInt8.ofNat (48+n/16%2),UInt8.ofNat (48+n/8%2),UInt8.ofNat (48+n/4%2),UInt8.ofNat (48+n/2%2),UInt8.ofNat (48+n%2)]:=by simp[binL,List.range,List.range.loop]
theorem bit_val (x:Nat):(UInt8.ofNat (48+x%2)).toNat- 48=x%2:=by rcases Nat.mod_two_eq_zero_or_one x with h|h<;>rw[h]<;>rfl
theorem bval6 (a b c d e f:UInt8):bval [a,b,c,d,e,f]=(((((a.toNat- 48)*2+(b.toNat- 48))*2+(c.toNat- 48))*2+(d.toNat- 48))*2+(e.toNat- 48))*2+(f.toNat- 48):=by simp[bval]
theorem bitsOf_cons (a:UInt8) (l:List UInt8):bitsOf (a::l)=binL 8 a.toNat++bitsOf l:=by simp[bitsOf]
theorem padTo_append {m:Nat} {c:UInt8} {A B:List UInt8} (h:A.length%m=0):padTo m c (A++B)=A++padTo m c B:=by unfold padTo padN;rw[List.append_assoc,List.length_append,Nat.add_mod,h,Nat.zero_add,Nat.mod_mod]
theorem pad8 (a b c d e f g h:UInt8):padTo 6 48 [a,b,c,d,e,f,g,h]=[a,b,c,d,e,f,g,h,48,48,48,48]:=by simp[padTo,padN,List.replicate]
theorem pad16 (a b c d e f g h i j k l m n o p:UInt8):padTo 6 48 [a,b,c,d,e,f,g,h,i,j,k,l,m,n,o,p]=[a,b,c,d,e,f,g,h,i,j,k,l,m,n,o,p,48,48]:=by simp[padTo,padN,List.replicate]
theorem pad2 (a b:UInt8):padTo 4 61 [a,b]=[a,b,61,61]:=rfl
theorem pad3 (a b c:UInt8):padTo 4 61 [a,b,c]=[a,b,c,61]:=rfl
theorem v48:(48:UInt8).toNat- 48=0:=rfl
theorem enc_eq: ∀l:List UInt8,refB l=encL l
 |[]=>by simp[refB,encL,bitsOf,padTo,padN,chunks]
 |[a]=>by have ha:=a.toNat_lt;rw[refB,bitsOf_cons,show bitsOf []=[] from rfl,List.append_nil,binL8,pad8,chunks,chunks,chunks,pad2,encL,bval6,bval6];simp only[bit_val,v48];generalize a.toNat=n at ha;rw[show ((((n/128%2*2+n/64%2)*2+n/32%2)*2+n/16%2)*2+n/8%2)*2+n/4%2=n*65536/262144%64 from by omega,show ((((n/2%2*2+n%2)*2+0)*2+0)*2+0)*2+0=n*65536/4096%64 from by omega];all_goals (intro _ _ _ _ _ _ _ h;cases h)
 |[a,b]=>by have ha:=a.toNat_lt;have hb:=b.toNat_lt;rw[refB,bitsOf_cons,bitsOf_cons,show bitsOf []=[] from rfl,List.append_nil,binL8,binL8];simp only[List.cons_append,List.nil_append];rw[pad16,chunks,chunks,chunks,chunks,pad3,encL,bval6,bval6,bval6];simp only[bit_val,v48];generalize a.toNat=n at ha;generalize b.toNat=m at hb;rw[show ((((n/128%2*2+n/64%2)*2+n/32%2)*2+n/16%2)*2+n/8%2)*2+n/4%2=(n*65536+m*256)/262144%64 from by omega,show ((((n/2%2*2+n%2)*2+m/128%2)*2+m/64%2)*2+m/32%2)*2+m/16%2=(n*65536+m*256)/4096%64 from by omega,show ((((m/8%2*2+m/4%2)*2+m/2%2)*2+m%2)*2+0)*2+0=(n*65536+m*256)/64%64 from by omega];all_goals (intro _ _ _ _ _ _ _ h;cases h)
 |a::b::c::r=>by have ha:=a.toNat_lt;have hb:=b.toNat_lt;have hc:=c.toNat_lt;have ih:=enc_eq r;rw[encL,<-ih,refB,refB,bitsOf_cons,bitsOf_cons,bitsOf_cons];rw[<-List.append_assoc,<-List.append_assoc,padTo_append (by simp[binL_length]),binL8,binL8,binL8];simp only[List.cons_append,List.nil_append];rw[chunks,chunks,chunks,chunks];rw[show∀(x y z u:UInt8) (l:List UInt8),padTo 4 61 (x::y::z::u::l)=x::y::z::u::padTo 4 61 l from fun x y z u l=>padTo_append (A:=[x,y,z,u]) (by simp)];rw[bval6,bval6,bval6,bval6];simp only[bit_val];generalize a.toNat=n at ha;generalize b.toNat=m at hb;generalize c.toNat=k at hc;rw[show ((((n/128%2*2+n/64%2)*2+n/32%2)*2+n/16%2)*2+n/8%2)*2+n/4%2=(n*65536+m*256+k)/262144%64 from by omega,show ((((n/2%2*2+n%2)*2+m/128%2)*2+m/64%2)*2+m/32%2)*2+m/16%2=(n*65536+m*256+k)/4096%64 from by omega,show ((((m/8%2*2+m/4%2)*2+m/2%2)*2+m%2)*2+k/128%2)*2+k/64%2=(n*65536+m*256+k)/64%64 from by omega,show ((((k/32%2*2+k/16%2)*2+k/8%2)*2+k/4%2)*2+k/2%2)*2+k%2=(n*65536+m*256+k)%64 from by omega]
theorem encL_len: ∀l:List UInt8,(encL l).length<=4*l.length
 |[]=>by simp[encL]
 |[_]=>by simp[encL]
 |[_,_]=>by simp[encL]
 |_::_::_::r=>by have:=encL_len r;simp only[encL,List.length_cons] at this⊢;omega
def dataS (k b:List UInt8):ByteArray:=(((⟨#[100,97,116,97,58]⟩:ByteArray)++⟨k.toArray⟩)++⟨#[59,98,97,115,101,54,52,44]⟩)++⟨b.toArray⟩
theorem dataR_yes (k b:List UInt8) (w:World) (hk:k.length<=800) (hb:b.length<=800) (hm:medB k=true) (hL:Laid w):
 Calls prog 32 #[Sv k,Sv b] w fun e w'=>e= .returned (.tuple #[.string (dataS k (refB b)),Iv 0])/\Below w.heap.size w w':=by
 have DD:(refB b).length<=4*b.length:=(by rw[enc_eq];exact encL_len b);go_enter func32,ntmps32;go_wp2_with fail;refine (mediaR_any k _ (by omega)).mono ?_;rintro e w1 ⟨rfl,A1⟩;rw[hm];go_wp2_with fail;refine (refB64_any b _ (by omega) (hL.below hL.sz A1)).mono ?_;rintro e w2 ⟨rfl,A8⟩;go_wp2
 go_ret2;exact ⟨rfl,A1.trans (A8.mono A1.size)⟩
theorem dataR_no (k b:List UInt8) (w:World) (hk:k.length<=800) (hm:medB k=false):
 Calls prog 32 #[Sv k,Sv b] w fun e w'=>e= .returned (.tuple #[.string ⟨#[]⟩,Iv 3])/\Below w.heap.size w w':=by
 go_enter func32,ntmps32;go_wp2_with fail;refine (mediaR_any k _ (by omega)).mono ?_;rintro e w1 ⟨rfl,A1⟩;rw[hm];go_wp2
 go_ret2;exact ⟨rfl,A1⟩
theorem data_yes (k b:List UInt8) (w:World) (hk:k.length<=800) (hb:b.length<=800) (hm:medB k=true):
 Calls prog 91 #[Sv k,Sv b] w fun e w'=>e= .returned (.tuple #[.string (dataS k (encL b)),.nilIface])/\Below w.heap.size w w':=by
 have DD:=encL_len b;go_enter func91,ntmps91;go_wp2_with fail;refine (media_any k _ (by omega)).mono ?_;rintro e w1 ⟨rfl,rfl⟩;rw[hm];go_wp2_with fail;refine (encode_any b _ (by omega)).mono ?_;rintro e w2 ⟨rfl,A8⟩;go_wp2
 go_ret2;exact ⟨rfl,A8⟩
theorem data_no (k b:List UInt8) (w:World) (hk:k.length<=800) (hm:medB k=false):
 Calls prog 91 #[Sv k,Sv b] w fun e w'=>e= .returned (.tuple #[.string ⟨#[]⟩,.iface 26 (Iv 3)])/\w=w':=by
 go_enter func91,ntmps91;go_wp2_with fail;refine (media_any k _ (by omega)).mono ?_;rintro e w1 ⟨rfl,rfl⟩;rw[hm];go_wp2
 go_ret2;exact ⟨rfl,rfl⟩
end B
end Go.Proofs.YtjhpdljphchfaaaGreatDoor
