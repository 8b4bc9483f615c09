/- A part of the proof of ConvertUps: strconv.ParseInt at base 2 and 64 bits, of one to eight binary digits: their number, no error. -/
import Derived.Test.YtjhpdljphchfaaaGreatDoorA00
import Derived.WalkKit
import Derived.BigCall
import Derived.WalkSpells
import Derived.WalkLawsBesides
import Derived.BigQuiet
import Derived.Lib.ConvBytes
import Derived.Test.YtjhpdljphchfaaaGreatDoorA01
import Derived.Deep.DeepFit
set_option maxHeartbeats 40000000
set_option maxRecDepth 1000000
set_option linter.all false
namespace Go.Proofs.YtjhpdljphchfaaaGreatDoor
open Go.RowKit
open Go.Proofs.Tryz
namespace B
theorem tz2 (w:World) (hg:w.cell? (Ad 12 1)=some (.int .u8 1)):Calls prog 242 #[.int .u64 2] w fun e w'=>e= .returned (Iv 1)/\w=w':=by
 have hx:IntKind.u64.wrap (bits BinOp.and IntKind.u64 2 (IntKind.u64.wrap (-2))*285870213051353865)=571740426102707730:=(by decide+kernel);go_enter func242,ntmps242;go_wp2
 go_ret;exact ⟨rfl,rfl⟩
theorem pow2_2 (w:World):Calls prog 241 #[Iv 2] w fun e w'=>e= .returned (.bool true)/\w=w':=by
 have hx:bits BinOp.and IntKind.i64 2 1=0:=(by decide+kernel);go_enter func241,ntmps241;go_wp2
 go_ret;exact ⟨rfl,rfl⟩
theorem wraps_u64 (n:Int) (h₀:0<=n) (h₁:n<2 ^ 64):IntKind.u64.wrap n=n:=by rw[IntKind.wrap_u64];omega
theorem and1u (x:Nat) (h1:x<256):bits .and .u64 (x:Int) 1=((x%2:Nat):Int):=by have:=bits_mask .u64 64 (by decide) wraps_u64 1 (by decide) (x:Int) (by omega) (by omega);simpa using this
theorem zc_size:zeroCells309.size=65:=by kernel_rfl
def Tail (n k:Nat) (A:Array Value):Prop:=A.size=65/\ ∀j,j<k->A[64- j]? =some (.int .u8 ((48+n/2 ^ j%2:Nat):Int))
theorem Tail.put {n k:Nat} {A:Array Value} (h:Tail n k A) (hk:k<=60) (d:Int) (hd:d=((48+n/2 ^ k%2:Nat):Int)):Tail n (k+1) (A.setIfInBounds (64- k) (.int .u8 d)):=by
 refine ⟨by simpa using h.1,fun j hj=> ?_⟩;rw[Array.getElem?_setIfInBounds];by_cases e:64- k=64- j
 ·have:j=k:=(by omega);subst this;rw[if_pos rfl,if_pos (by rw[h.1];omega),hd]
 ·rw[if_neg e];exact h.2 j (by omega)
theorem slice309 (W:World) (b k:Nat) (hk:k<=64):(Instr.sliceAt 309 (.pointer (some (Ad b 0))) (some (Iv (65-(k:Int) - 1))) none none).run prog W= .ok (.slice (some ⟨b,64- k,none⟩) (k+1) (k+1)) W:=by have ht:prog.underlying 309=some (.array (prog.arrayLen 309) (prog.elem 309)):=(by kernel_rfl);have HH:prog.arrayLen 309=65:=(by kernel_rfl);have KI:prog.elem 309=5:=(by kernel_rfl);rw[run_sliceAt_array_l W 309 (Ad b 0) ht .i64 (65-(k:Int) - 1) (by omega) (by rw[HH];omega),HH,KI,sizeOf5 W];simp only[Result.andThen_ok,slicedAt];rw[if_neg (by omega),show (65-(k:Int) - 1).toNat=64- k from by omega,show 65-(64- k)=k+1 from by omega];simp only[Addr.add];split<;>simp_all
theorem Tail.put' {n k:Nat} {A:Array Value} (h:Tail n k A) (hk:k<=60) {d:Int} (hd:d=((48+n/2 ^ k%2:Nat):Int)):Tail n (k+1) (A.setIfInBounds (65- k- 1) (.int .u8 d)):=by rw[show 65- k- 1=64- k from by omega];exact h.put hk d hd
def binL (L n:Nat):List UInt8:=(List.range L).map fun j=>UInt8.ofNat (48+n/2 ^(L- 1- j)%2)
theorem fb_len {n k U:Nat} (hU:U=n/2 ^ k) (h2:U<2) (h:k=0∨1<=U):(k+1=1∨2 ^ k<=n)/\n<2 ^(k+1):=by
 have hp:0<2 ^ k:=Nat.two_pow_pos k;refine ⟨?_, ?_⟩
 ·rcases h with h|h
  ·exact .inl (by omega)
  ·rw[hU,Nat.le_div_iff_mul_le hp] at h;exact .inr (by omega)
 ·rw[hU,Nat.div_lt_iff_lt_mul hp] at h2;rw[Nat.pow_succ];omega
theorem str_bin (n k:Nat):strOfNums ((List.range (k+1)).map fun j=>((48+n/2 ^(k- j)%2:Nat):Int))=⟨(binL (k+1) n).toArray⟩:=by apply ByteArray.ext;simp only[strOfNums,binL,List.map_map];rw[show (List.map ((fun n:Int=>UInt8.ofNat n.toNat)∘fun j=>((48+n/2 ^(k- j)%2:Nat):Int)) (List.range (k+1)))=List.map (fun j=>UInt8.ofNat (48+n/2 ^(k+1- 1- j)%2)) (List.range (k+1)) from List.map_congr_left fun j _=>by simp only[Function.comp,Int.toNat_natCast,Nat.add_sub_cancel]]
theorem conv_tail (n k:Nat) (w:World) (A:Array Value) (hk:k<=60) (hT:Tail n (k+1) A):
 (convert 113 9 (.slice (some ⟨w.heap.size,64- k,none⟩) (k+1) (k+1))).run prog (w.alloc (.cells A 309))= .ok (.string ⟨(binL (k+1) n).toArray⟩) (w.alloc (.cells A 309)):=by
 have h:=run_convert_bytes_arg (P:=prog) (w.alloc (.cells A 309)) 113 5 underlying113 underlying5 w.heap.size (64- k) (k+1) (k+1) ((List.range (k+1)).map fun j=>((48+n/2 ^(k- j)%2:Nat):Int)) (by simp) (fun i hi=>by rw[World.cell?_alloc_new,show 64- k+i=64-(k- i) from by omega,hT.2 (k- i) (by omega)];simp[List.getD,List.getElem?_map,List.getElem?_range hi]) 9 underlying9;rw[str_bin] at h;exact h
theorem fbits (n:Nat) (w:World) (hn:n<256) (hg:w.cell? (Ad 12 1)=some (.int .u8 1)) (B2:12<w.heap.size):Calls prog 215 #[.slice none 0 0,.int .u64 n,Iv 2,.bool false,.bool false] w fun e w'=> ∃m,1<=m/\m<=8/\n<2 ^ m/\(m=1∨2 ^(m- 1)<=n)/\e= .returned (.tuple #[.slice none 0 0,.string ⟨(binL m n).toArray⟩])/\Below w.heap.size w w':=by
 have HH:prog.arrayLen 309=65:=(by kernel_rfl);have I2:=zc_size;have L1:=hid I2;clear I2;go_enter func215,ntmps215;go_wp2_with fail;refine (pow2_2 _).mono ?_;rintro e w1 ⟨rfl,rfl⟩;go_wp2_with fail;refine (tz2 _ (by rw[World.cell?_alloc_lt _ _ _ (by exact B2)];exact hg)).mono ?_;rintro e w1 ⟨rfl,rfl⟩;go_wp2
 go_loopw [1,13] (fun u i wr=> ∃(k U:Nat) (A:Array Value),k<=7/\(k=0∨1<=U)/\U<256/\Hid (U<2 ^(8- k))/\Hid (U=n/2 ^ k)/\u= .int .u64 U/\i=Iv (65-(k:Int))/\wr=w.alloc (.cells A 309)/\Hid (Tail n k A)) (fun u _ _=>(intOf u).toNat);case atStart=>exact ⟨0,n,zeroCells309,by omega,.inl rfl,hn,hid (by omega),hid (by simp),rfl,rfl,rfl,hid ⟨L1.out,fun j hj=>by omega⟩⟩
 case round=>
  obtain ⟨k,U,A,hk,h7,hU,h8,HU,rfl,rfl,rfl,HT⟩:=hrel;have q:bits .and .u64 (U:Int) 1=((U%2:Nat):Int):=and1u U hU;obtain ⟨v0,P2⟩: ∃v,A[65- k- 1]? =some v:=(by have:=HT.out.1;exact ⟨A[65- k- 1]'(by omega),Array.getElem?_eq_getElem _⟩);by_cases h2:2<=U
  ·have PB:k<=6:=by
    rcases Nat.lt_or_ge k 7 with h|h
    ·omega
    ·have h9:=h8.out;have:2 ^(8- k)<=2 ^ 1:=Nat.pow_le_pow_right (by decide) (by omega);omega
   rcases Nat.mod_two_eq_zero_or_one U with hm|hm;all_goals
    rw[hm] at q;have Hm:=hid hm;clear hm;go_wp2
    refine ⟨⟨k+1,U/2,_,by omega,.inr (by omega),by omega,hid ?_,hid ?_,by simp,by simp;omega,rfl,hid (HT.out.put' (by omega) ?_)⟩,by simp[intOf];omega⟩
    ·have h9:=h8.out;rw[show 8- k=(8-(k+1))+1 from by omega,Nat.pow_succ] at h9;omega
    ·rw[HU.out,Nat.div_div_eq_div_mul,Nat.pow_succ]
    ·rw[<-HU.out,Hm.out];rfl
  ·have PF:=fun W:World=>slice309 W w.heap.size k (by omega);have HM:Hid ((k+1=1∨2 ^ k<=n)/\n<2 ^(k+1)):=hid (fb_len HU.out (by omega) h7);have I3:U=0∨U=1:=(by omega);rcases I3 with rfl|rfl
   ·have H8:Tail n (k+1) (A.setIfInBounds (65- k- 1) (.int .u8 ((⟨#[48,49,50,51,52,53,54,55,56,57,97,98,99,100,101,102,103,104,105,106,107,108,109,110,111,112,113,114,115,116,117,118,119,120,121,122]⟩:ByteArray)[0].toNat:Int))):=HT.out.put' (by omega) (by rw[<-HU.out];rfl);have hc:=conv_tail n k w _ (by omega) H8;clear H8;go_wp2
    go_ret2;exact ⟨k+1,by omega,by omega,HM.out.2,HM.out.1,rfl,(Below.refl _ _).alloc (Nat.le_refl _) _⟩
   ·have H8:Tail n (k+1) (A.setIfInBounds (65- k- 1) (.int .u8 ((⟨#[48,49,50,51,52,53,54,55,56,57,97,98,99,100,101,102,103,104,105,106,107,108,109,110,111,112,113,114,115,116,117,118,119,120,121,122]⟩:ByteArray)[1].toNat:Int))):=HT.out.put' (by omega) (by rw[<-HU.out];rfl);have hc:=conv_tail n k w _ (by omega) H8;clear H8;go_wp2
    go_ret2;exact ⟨k+1,by omega,by omega,HM.out.2,HM.out.1,rfl,(Below.refl _ _).alloc (Nat.le_refl _) _⟩
theorem fmt2 (n:Nat) (w:World) (hn:n<256) (hg:w.cell? (Ad 12 1)=some (.int .u8 1)) (B2:12<w.heap.size):Calls prog 118 #[Iv n,Iv 2] w fun e w'=> ∃m,1<=m/\m<=8/\n<2 ^ m/\(m=1∨2 ^(m- 1)<=n)/\e= .returned (.string ⟨(binL m n).toArray⟩)/\Below w.heap.size w w':=by
 go_enter func118,ntmps118;go_wp2_with (go_at_call 177;go_in);refine (fbits n _ hn hg B2).mono ?_;rintro e w1 ⟨m,h1,h2,h3,h4,rfl,hb⟩;have H3:=hid h3;have H4:=hid h4;clear h3 h4;go_wp2
 go_ret;exact ⟨m,h1,h2,H3.out,H4.out,rfl,hb⟩
theorem ba_app (a b:List UInt8):(⟨a.toArray⟩:ByteArray)++⟨b.toArray⟩=⟨(a++b).toArray⟩:=by apply ByteArray.ext;simp
theorem binL_length (L n:Nat):(binL L n).length=L:=by simp[binL]
theorem binL_pad (k n:Nat) (h:n<2 ^ k):binL (k+1) n=48::binL k n:=by
 unfold binL;rw[List.range_succ_eq_map,List.map_cons,List.map_map]
 congr 1
 ·rw[show k+1- 1- 0=k from by omega,Nat.div_eq_of_lt h];rfl
 ·apply List.map_congr_left;intro j _;simp only[Function.comp];rw[show k+1- 1- Nat.succ j=k- 1- j from by omega]
theorem digits2 (n L:Nat) (w:World) (hL:L<=8) (Q1:1<=L) (hn:n<2 ^ L) (hg:w.cell? (Ad 12 1)=some (.int .u8 1)) (B2:12<w.heap.size):Calls prog 62 #[Iv n,Iv 2,Iv L] w fun e w'=>e= .returned (.string ⟨(binL L n).toArray⟩)/\Below w.heap.size w w':=by
 have L2:n<256:=(by have:2 ^ L<=2 ^ 8:=Nat.pow_le_pow_right (by decide) hL;omega);have HN:=hid hn;clear hn;go_enter func62,ntmps62;go_wp2_with fail;refine (fmt2 n _ L2 hg B2).mono ?_;rintro e w1 ⟨m,h1,h2,h3,h4,rfl,hb⟩;have hm:m<=L:=by
  rcases h4 with h4|h4
  ·omega
  ·rcases Nat.lt_or_ge L m with h|h
   ·have h5:2 ^ L<=2 ^(m- 1):=Nat.pow_le_pow_right (by decide) (by omega);have:=HN.out;omega
   ·exact h
 have H3:=hid h3;clear h3 h4;have hl:=binL_length;go_wp2
 go_loop [7] (fun v=> ∃k:Nat,m<=k/\k<=L/\v= .string ⟨(binL k n).toArray⟩) (fun v=>L-(match v with| .string b=>b.size|_=>0))
 case atStart=>exact ⟨m,Nat.le_refl _,hm,rfl⟩
 case round=>
  obtain ⟨k,A9,AN,rfl⟩:=hrel;by_cases HX:k<L
  ·have hp:n<2 ^ k:=Nat.lt_of_lt_of_le H3.out (Nat.pow_le_pow_right (by decide) A9);have Hp:=hid (binL_pad k n hp);clear hp;go_wp2
   rw[show (⟨#[48]⟩:ByteArray)++⟨(binL k n).toArray⟩=⟨(binL (k+1) n).toArray⟩ from by rw[Hp.out];exact ba_app [48] _];refine ⟨⟨k+1,by omega,by omega,rfl⟩, ?_⟩;show L-(binL (k+1) n).length<L-(binL k n).length;rw[binL_length,binL_length];omega
  ·have L4:k=L:=(by omega);subst L4;go_wp2
   go_ret;exact ⟨rfl,hb⟩
def bval (l:List UInt8):Nat:=l.foldl (fun a c=>a*2+(c.toNat- 48)) 0
def Bits (l:List UInt8):Prop:= ∀c∈l,c=48∨c=49
theorem bval_snoc (l:List UInt8) (c:UInt8):bval (l++[c])=bval l*2+(c.toNat- 48):=by simp[bval]
theorem bval_lt_aux: ∀(l:List UInt8) (a:Nat),Bits l->l.foldl (fun a c=>a*2+(c.toNat- 48)) a<(a+1)*2 ^ l.length:=by
 intro l
 induction l with
 |nil=>intro a _;simp
 |cons c l ih=>
  intro a h;have hc:c.toNat- 48<=1:=(by rcases h c (by simp) with rfl|rfl<;>decide);have:=ih (a*2+(c.toNat- 48)) (fun x hx=>h x (by simp[hx]));rw[List.foldl_cons,List.length_cons,Nat.pow_succ];have h2:(a*2+(c.toNat- 48)+1)*2 ^ l.length<=(a+1)*2*2 ^ l.length:=Nat.mul_le_mul_right _ (by omega);have h3:(a+1)*(2 ^ l.length*2)=(a+1)*2*2 ^ l.length:=(by rw[Nat.mul_assoc,Nat.mul_comm 2]);omega
theorem bval_lt (l:List UInt8) (h:Bits l):bval l<2 ^ l.length:=by have:=bval_lt_aux l 0 h;rw[Nat.zero_add,Nat.one_mul] at this;exact this
theorem bval_small (l:List UInt8) (h:Bits l) (k:Nat) (h8:l.length<=8):bval (l.take k)<256:=by have h1:=bval_lt (l.take k) (fun c hc=>h c (List.mem_of_mem_take hc));have h2:2 ^(l.take k).length<=2 ^ 8:=Nat.pow_le_pow_right (by decide) (by simp;omega);omega
theorem bval_step {l:List UInt8} {k:Nat} (h:k<l.length):bval (l.take (k+1))=bval (l.take k)*2+(l[k].toNat- 48):=by rw[List.take_succ_eq_append_getElem h,bval_snoc]
theorem below_bytes (w:World) (e:TypeId) (s:ByteArray):Below w.heap.size w (Lib.bytesWorld w e s):=
 ⟨rfl,rfl,rfl,by rw[Lib.bytesWorld_size];omega,fun k hk=>Lib.bytesWorld_at_old w e s k hk⟩
theorem puint (l:List UInt8) (w:World) (h1:1<=l.length) (h8:l.length<=8) (hb:Hid (Bits l)):Calls prog 178 #[Sv l,Iv 2,Iv 64] w fun e w'=>e= .returned (.tuple #[.int .u64 (bval l),.nilIface])/\Below w.heap.size w w':=by
 have he:l.isEmpty=false:=(by cases l with|nil=>simp at h1|cons=>rfl);have L5: ¬l=[]:=(by cases l with|nil=>simp at h1|cons=>simp);have L6:=Lib.run_convert_string_bytes (P:=prog) w 9 113 5 ⟨l.toArray⟩ (u:= .string) underlying9 underlying113 underlying5;have hB: ∀j,j<l.length->(Lib.bytesWorld w 5 ⟨l.toArray⟩).cell? (Ad w.heap.size j)=some (.int .u8 (l.getD j 0).toNat):=fun j hj=>Lib.bytesWorld_cell w 5 ⟨l.toArray⟩ j hj;have HP:=Lib.hid (below_bytes w 5 ⟨l.toArray⟩);obtain ⟨W1,I4⟩: ∃W1,W1=Lib.bytesWorld w 5 ⟨l.toArray⟩:=⟨_,rfl⟩;rw[<-I4] at L6 hB HP;clear I4;have Q2:IntKind.u64.wrap (IntKind.u64.wrap 18446744073709551616- 1)=18446744073709551615:=(by rw[IntKind.wrap_u64,IntKind.wrap_u64];decide);go_enter func178,ntmps178;go_wp2
 go_loop [12,13,101] (fun vu vn vi=> ∃(k:Nat) (a:Int),vu= .bool false/\vn= .int .u64 a/\vi=Iv k/\k<=l.length/\0<=a/\a<256/\Hid (a=(bval (l.take k):Int)))
  (fun _ _ vi=>l.length-(intOf vi).toNat)
 case atStart=>exact ⟨0,0,rfl,rfl,rfl,by omega,by omega,by omega,rfl⟩
 case round=>
  obtain ⟨k,a,rfl,rfl,rfl,hk,R0,S1,Ha⟩:=hrel;by_cases HI:k<l.length
  ·have hc:=hB k HI;have HQ:l.getD k 0=l[k]:=(by simp[List.getD,List.getElem?_eq_getElem HI]);rw[HQ] at hc;have hs:=bval_small l hb.out (k+1) h8;have G1:=bval_step HI;have G2:=hb.out l[k] (List.getElem_mem HI);generalize hx:l[k]=c at hc G1 G2;clear hx HQ hB;rcases G2 with rfl|rfl
   ·have Hs:=hid hs;have HY:=hid G1;clear hs G1;have L7:W1.cell? (Ad w.heap.size k)=some (.int .u8 48):=hc;clear hc;have a2:a*2<512:=(by omega);go_wp2
    refine ⟨⟨k+1,_,rfl,rfl,by go_num,by omega, ?_, ?_,hid ?_⟩,by simp[intOf];omega⟩;all_goals (have h1:=Hs.out;have h2:=HY.out;have h3:=Ha.out;simp at h2;omega)
   ·have Hs:=hid hs;have HY:=hid G1;have h3:=Ha.out;have a2:a*2+1<256:=(by rw[h3];have h2:=G1;simp at h2;omega);clear hs G1 h3;have L7:W1.cell? (Ad w.heap.size k)=some (.int .u8 49):=hc;clear hc;go_wp2
    refine ⟨⟨k+1,_,rfl,rfl,by go_num,by omega, ?_, ?_,hid ?_⟩,by simp[intOf];omega⟩;all_goals (have h1:=Hs.out;have h2:=HY.out;have h3:=Ha.out;simp at h2;omega)
  ·have L8:k=l.length:=(by omega);subst L8;have h3:=Ha.out;rw[List.take_length] at h3;subst h3;go_wp2
   go_ret2;exact ⟨rfl,HP.out⟩
theorem pint_in (l:List UInt8) (w:World) (h1:1<=l.length) (h8:l.length<=8) (hb:Bits l):Calls prog 119 #[Sv l,Iv 2,Iv 64] w fun e w'=>e= .returned (.tuple #[Iv (bval l),.nilIface])/\Below w.heap.size w w':=by
 have he:l.isEmpty=false:=(by cases l with|nil=>simp at h1|cons=>rfl);have L5: ¬l=[]:=(by cases l with|nil=>simp at h1|cons=>simp);have HX:bval l<256:=by
  have h:=bval_small l hb l.length h8
  rwa [List.take_length] at h
 obtain ⟨c,r,hl⟩: ∃c r,l=c::r:=(by cases l with|nil=>simp at h1|cons c r=>exact ⟨c,r,rfl⟩);have h0: ∀h,(⟨l.toArray⟩:ByteArray)[0]'h=c:=(by subst hl;intro _;rfl);have G2:=hb c (by rw[hl];simp);have n43:((c.toNat:Int)==43)=false:=(by rcases G2 with rfl|rfl<;>rfl);have n45:((c.toNat:Int)==45)=false:=(by rcases G2 with rfl|rfl<;>rfl);obtain ⟨V,hV⟩: ∃V:Int,V=(bval l:Int):=⟨_,rfl⟩;have SS:0<=V:=(by omega);have T5:V<256:=(by omega);have HV:=hid hV;have HB:=hid hb;clear hl G2 hV HX hb;go_enter func119,ntmps119;go_wp2_with fail;refine (puint l _ h1 h8 HB).mono ?_;rintro e w1 ⟨rfl,A3⟩;rw[<-HV.out];go_wp2
 go_ret2;exact ⟨by rw[<-HV.out];rfl,A3⟩
theorem pint (l:List UInt8) (w:World) (h1:1<=l.length) (h8:l.length<=8) (hb:Bits l):Calls prog 63 #[Sv l,Iv 2,Iv 64] w fun e w'=>e= .returned (.tuple #[Iv (bval l),.nilIface])/\Below w.heap.size w w':=by
 go_enter func63,ntmps63;go_wp2_with fail;refine (pint_in l _ h1 h8 hb).mono ?_;rintro e w1 ⟨rfl,A3⟩;go_wp2
 go_ret2;exact ⟨rfl,A3⟩
theorem ba0 (a:UInt8) (l:List UInt8) (h):(⟨(a::l).toArray⟩:ByteArray)[0]'h=a:=rfl
theorem ba1 (a b:UInt8) (l:List UInt8) (h):(⟨(a::b::l).toArray⟩:ByteArray)[1]'h=b:=rfl
theorem ba2 (a b c:UInt8) (l:List UInt8) (h):(⟨(a::b::c::l).toArray⟩:ByteArray)[2]'h=c:=rfl
theorem ba_cut (l:List UInt8) (i j:Nat):(⟨l.toArray⟩:ByteArray).extract i j=⟨((l.drop i).take (j- i)).toArray⟩:=by apply ByteArray.ext;simp
theorem ext3 (a b c:UInt8) (r:List UInt8):(⟨(a::b::c::r).toArray⟩:ByteArray).extract (min 3 ((r.length:Int)+1+1+1)).toNat (r.length+1+1+1)=⟨r.toArray⟩:=by rw[show (min 3 ((r.length:Int)+1+1+1)).toNat=3 from by omega,ba_cut];simp
theorem or256 (x y:Int) (h0:0<=x) (h1:x<2 ^ 40) (h2:0<=y) (h3:y<256):bits .or .i64 (wrap64 (x*256)) y=x*256+y:=by rw[IntWalk.wrap64_in _ (by omega)];exact bits_join .i64 63 (by decide) wraps_i64 8 (x*256) y (by omega) (by simp) (by omega) (by omega) (by omega) (by omega)
theorem or0 (y:Int) (h2:0<=y) (h3:y<256):bits .or .i64 0 y=y:=by have:=bits_join .i64 63 (by decide) wraps_i64 8 0 y (by omega) (by simp) (by omega) (by omega) (by omega) (by omega);simpa using this
theorem byte_lt (a:UInt8):(a.toNat:Int)<256:=by have:=a.toNat_lt;omega
theorem wrap_byte (a:UInt8):wrap64 (a.toNat:Int)=a.toNat:=IntWalk.wrap64_in _ (by have:=byte_lt a;omega)
theorem n3 (a b c:UInt8):bits .or .i64 (wrap64 (bits .or .i64 (wrap64 (bits .or .i64 0 (wrap64 ↑a.toNat)*256)) (wrap64 ↑b.toNat)*256)) (wrap64 ↑c.toNat)=(a.toNat:Int)*65536+b.toNat*256+c.toNat:=by have ha:=byte_lt a;have hb:=byte_lt b;have hc:=byte_lt c;rw[wrap_byte,wrap_byte,wrap_byte,or0 _ (by omega) ha,or256 _ _ (by omega) (by omega) (by omega) hb,or256 _ _ (by omega) (by omega) (by omega) hc];omega
theorem n2 (a b:UInt8):wrap64 (bits .or .i64 (wrap64 (bits .or .i64 0 (wrap64 ↑a.toNat)*256)) (wrap64 ↑b.toNat)*256)=(a.toNat:Int)*65536+b.toNat*256:=by have ha:=byte_lt a;have hb:=byte_lt b;rw[wrap_byte,wrap_byte,or0 _ (by omega) ha,or256 _ _ (by omega) (by omega) (by omega) hb,IntWalk.wrap64_in _ (by omega)];omega
theorem n1 (a:UInt8):wrap64 (wrap64 (bits .or .i64 0 (wrap64 ↑a.toNat)*256)*256)=(a.toNat:Int)*65536:=by have ha:=byte_lt a;rw[wrap_byte,or0 _ (by omega) ha,IntWalk.wrap64_in ((a.toNat:Int)*256) (by omega),IntWalk.wrap64_in _ (by omega)];omega
theorem and63 (x:Int) (h0:0<=x) (h1:x<2 ^ 63):bits .and .i64 x 63=x%64:=
 bits_mask .i64 63 (by decide) wraps_i64 6 (by decide) x h0 h1
def alpha:ByteArray:=⟨#[65,66,67,68,69,70,71,72,73,74,75,76,77,78,79,80,81,82,83,84,85,86,87,88,89,90,97,98,99,100,101,102,103,104,105,106,107,108,109,110,111,112,113,114,115,116,117,118,119,120,121,122,48,49,50,51,52,53,54,55,56,57,43,47]⟩
def letter (k:Nat):UInt8:=alpha.data.toList.getD k 0
theorem letter_at (k:Nat) (h:k<(⟨#[65,66,67,68,69,70,71,72,73,74,75,76,77,78,79,80,81,82,83,84,85,86,87,88,89,90,97,98,99,100,101,102,103,104,105,106,107,108,109,110,111,112,113,114,115,116,117,118,119,120,121,122,48,49,50,51,52,53,54,55,56,57,43,47]⟩:ByteArray).size):
 (⟨#[65,66,67,68,69,70,71,72,73,74,75,76,77,78,79,80,81,82,83,84,85,86,87,88,89,90,97,98,99,100,101,102,103,104,105,106,107,108,109,110,111,112,113,114,115,116,117,118,119,120,121,122,48,49,50,51,52,53,54,55,56,57,43,47]⟩:ByteArray)[k]'h=letter k:=by
 have L9:k<64:=h;have: ∀k:Fin 64,alpha[k.val]'(k.isLt)=letter k.val:=(by decide);exact this ⟨k,L9⟩
def encL:List UInt8->List UInt8
 |[]=>[]
 |[a]=>[letter (a.toNat*65536/262144%64),letter (a.toNat*65536/4096%64),61,61]
 |[a,b]=>[letter ((a.toNat*65536+b.toNat*256)/262144%64),letter ((a.toNat*65536+b.toNat*256)/4096%64),letter ((a.toNat*65536+b.toNat*256)/64%64),61]
 |a::b::c::r=>letter ((a.toNat*65536+b.toNat*256+c.toNat)/262144%64)::letter ((a.toNat*65536+b.toNat*256+c.toNat)/4096%64)::
   letter ((a.toNat*65536+b.toNat*256+c.toNat)/64%64)::letter ((a.toNat*65536+b.toNat*256+c.toNat)%64)::encL r
theorem bc_snoc (acc:List UInt8) (x:UInt8):Lib.byteCells acc++[Value.int .u8 (x.toNat:Int)]=Lib.byteCells (acc++[x]):=by simp[Lib.byteCells]
theorem encode_any (l:List UInt8) (w:World) (hs:l.length<=2147483648):
 Calls prog 144 #[Sv l] w fun e w'=>e= .returned (.string ⟨(encL l).toArray⟩)/\Below w.heap.size w w':=by
 go_enter func144,ntmps144;go_wp2
 go_loopw [0,4,5,6,14,30] (fun v0 _ _ _ _ _ wr=> ∃(rest acc:List UInt8),v0=Sv rest/\rest.length<=l.length/\acc.length+4*rest.length<=4*l.length+4/\(rest≠[]->acc.length+4*rest.length<=4*l.length)/\acc++encL rest=encL l/\Lib.IsBuilder 163 5 w.heap.size w.heap.size (Lib.byteCells acc) wr/\Below w.heap.size w wr) (fun v0 _ _ _ _ _ _=>match v0 with| .string b=>b.size|_=>0);case atStart=>
  exact ⟨l,[],rfl,Nat.le_refl _,by simp,by simp,rfl,Lib.fresh_isBuilder 163 5 w,(Below.refl _ w).alloc (Nat.le_refl _) _⟩
 case round=>
  obtain ⟨rest,acc,rfl,hr,HH,A8,HR,hI,hb⟩:=hrel;have G4:=hb;have FB:=hid HR;clear HR;have h4:acc.length+4<=8589934600:=(by omega);rcases rest with _|⟨a,_|⟨b,_|⟨c,r⟩⟩⟩
  ·clear A8;go_wp2_with fail;refine (Builder_String_any _ _ acc _ hI hb.size).mono ?_;rintro e W1 ⟨rfl,b1⟩;go_wp2
   go_ret;refine ⟨?_,hb.trans b1⟩;have:=FB.out;simp only[encL,List.append_nil] at this;rw[this];rfl
  ·have hq:=A8 (by simp);simp only[List.length_cons,List.length_nil] at hq;clear A8;go_wp2
   refine wp_loop_rounds 4 ?_;rw[rounds_succ];go_wp2
   rw[rounds_succ];go_wp2
   rw[rounds_succ];go_wp2
   rw[rounds_succ];go_wp2
   simp only[ba0,n1];obtain ⟨N,hN⟩: ∃N:Nat,N=a.toNat*65536:=⟨_,rfl⟩;have I5:N<16777216:=(by have:=a.toNat_lt;omega);have AV:((a.toNat:Int)*65536:Int)=(N:Int):=(by rw[hN];simp);simp only[AV];have HN:=hid hN;clear hN AV;have q0:bits .and .i64 ((N:Int)/262144) 63=((N/262144%64:Nat):Int):=(by rw[and63 _ (by omega) (by omega)];omega);have l0:N/262144%64<64:=(by omega);have q1:bits .and .i64 ((N:Int)/4096) 63=((N/4096%64:Nat):Int):=(by rw[and63 _ (by omega) (by omega)];omega);have l1:N/4096%64<64:=(by omega);refine wp_loop_rounds 5 ?_;rw[rounds_succ];go_wp2_with fail;refine (Builder_WriteByte _ _ _ _ _ hI (by simp only[Lib.byteCells_length,List.length_append,List.length_cons,List.length_nil];omega) G4.size).mono ?_;rintro e W1 ⟨rfl,h1,b1⟩;simp only[Int.toNat_natCast,letter_at,bc_snoc] at h1;have A3:=G4.trans b1;go_wp2_with fail;rw[rounds_succ];go_wp2_with fail;refine (Builder_WriteByte _ _ _ _ _ (.inr h1) (by simp only[Lib.byteCells_length,List.length_append,List.length_cons,List.length_nil];omega) A3.size).mono ?_;rintro e W2 ⟨rfl,h2,b2⟩;simp only[Int.toNat_natCast,letter_at,bc_snoc] at h2;have AW:=A3.trans b2;go_wp2_with fail;rw[rounds_succ];go_wp2_with fail;refine (Builder_WriteByte _ _ _ _ _ (.inr h2) (by simp only[Lib.byteCells_length,List.length_append,List.length_cons,List.length_nil];omega) AW.size).mono ?_;rintro e W3 ⟨rfl,h3,b3⟩;have I0:=bc_snoc ((acc++[letter (N/262144%64)])++[letter (N/4096%64)]) 61;simp only[show ((61:UInt8).toNat:Int)=61 from rfl] at I0;rw[I0] at h3;clear I0;have B0:=AW.trans b3;go_wp2_with fail;rw[rounds_succ];go_wp2_with fail;refine (Builder_WriteByte _ _ _ _ _ (.inr h3) (by simp only[Lib.byteCells_length,List.length_append,List.length_cons,List.length_nil];omega) B0.size).mono ?_;rintro e W4 ⟨rfl,h4,b4⟩;have B3:=bc_snoc (((acc++[letter (N/262144%64)])++[letter (N/4096%64)])++[61]) 61;simp only[show ((61:UInt8).toNat:Int)=61 from rfl] at B3;rw[B3] at h4;clear B3;have H9:=B0.trans b4;go_wp2_with fail;rw[rounds_succ];go_wp2
   rw[show (⟨#[a]⟩:ByteArray).extract (min (3:Int) 1).toNat 1=⟨([]:List UInt8).toArray⟩ from rfl];refine ⟨⟨[],((((acc++[letter (N/262144%64)])++[letter (N/4096%64)])++[61])++[61]),rfl, ?_, ?_, ?_, ?_,.inr h4,H9⟩, ?_⟩
   ·simp only[List.length_cons,List.length_nil] at hr⊢;omega
   ·simp only[List.length_append,List.length_cons,List.length_nil];omega
   ·intro h;exact absurd rfl h
   ·have h:=FB.out;have hN:=HN.out;rw[<-h];simp only[encL,<-hN,List.append_assoc,List.append_nil,List.cons_append,List.nil_append]
   ·show 0<1;omega
  ·have hq:=A8 (by simp);simp only[List.length_cons,List.length_nil] at hq;clear A8;go_wp2
   refine wp_loop_rounds 4 ?_;rw[rounds_succ];go_wp2
   rw[rounds_succ];go_wp2
   rw[rounds_succ];go_wp2
   rw[rounds_succ];go_wp2
   simp only[ba0,ba1,n2];obtain ⟨N,hN⟩: ∃N:Nat,N=a.toNat*65536+b.toNat*256:=⟨_,rfl⟩;have I5:N<16777216:=(by have:=a.toNat_lt;have:=b.toNat_lt;omega);have AV:((a.toNat:Int)*65536+b.toNat*256:Int)=(N:Int):=(by rw[hN];simp);simp only[AV];have HN:=hid hN;clear hN AV;have q0:bits .and .i64 ((N:Int)/262144) 63=((N/262144%64:Nat):Int):=(by rw[and63 _ (by omega) (by omega)];omega);have l0:N/262144%64<64:=(by omega);have q1:bits .and .i64 ((N:Int)/4096) 63=((N/4096%64:Nat):Int):=(by rw[and63 _ (by omega) (by omega)];omega);have l1:N/4096%64<64:=(by omega);have q2:bits .and .i64 ((N:Int)/64) 63=((N/64%64:Nat):Int):=(by rw[and63 _ (by omega) (by omega)];omega);have l2:N/64%64<64:=(by omega);refine wp_loop_rounds 5 ?_;rw[rounds_succ];go_wp2_with fail;refine (Builder_WriteByte _ _ _ _ _ hI (by simp only[Lib.byteCells_length,List.length_append,List.length_cons,List.length_nil];omega) G4.size).mono ?_;rintro e W1 ⟨rfl,h1,b1⟩;simp only[Int.toNat_natCast,letter_at,bc_snoc] at h1;have A3:=G4.trans b1;go_wp2_with fail;rw[rounds_succ];go_wp2_with fail;refine (Builder_WriteByte _ _ _ _ _ (.inr h1) (by simp only[Lib.byteCells_length,List.length_append,List.length_cons,List.length_nil];omega) A3.size).mono ?_;rintro e W2 ⟨rfl,h2,b2⟩;simp only[Int.toNat_natCast,letter_at,bc_snoc] at h2;have AW:=A3.trans b2;go_wp2_with fail;rw[rounds_succ];go_wp2_with fail;refine (Builder_WriteByte _ _ _ _ _ (.inr h2) (by simp only[Lib.byteCells_length,List.length_append,List.length_cons,List.length_nil];omega) AW.size).mono ?_;rintro e W3 ⟨rfl,h3,b3⟩;simp only[Int.toNat_natCast,letter_at,bc_snoc] at h3;have B0:=AW.trans b3;go_wp2_with fail;rw[rounds_succ];go_wp2_with fail;refine (Builder_WriteByte _ _ _ _ _ (.inr h3) (by simp only[Lib.byteCells_length,List.length_append,List.length_cons,List.length_nil];omega) B0.size).mono ?_;rintro e W4 ⟨rfl,h4,b4⟩;have B3:=bc_snoc (((acc++[letter (N/262144%64)])++[letter (N/4096%64)])++[letter (N/64%64)]) 61;simp only[show ((61:UInt8).toNat:Int)=61 from rfl] at B3;rw[B3] at h4;clear B3;have H9:=B0.trans b4;go_wp2_with fail;rw[rounds_succ];go_wp2
   rw[show (⟨#[a,b]⟩:ByteArray).extract (min (3:Int) 2).toNat 2=⟨([]:List UInt8).toArray⟩ from rfl];refine ⟨⟨[],((((acc++[letter (N/262144%64)])++[letter (N/4096%64)])++[letter (N/64%64)])++[61]),rfl, ?_, ?_, ?_, ?_,.inr h4,H9⟩, ?_⟩
   ·simp only[List.length_cons,List.length_nil] at hr⊢;omega
   ·simp only[List.length_append,List.length_cons,List.length_nil];omega
   ·intro h;exact absurd rfl h
   ·have h:=FB.out;have hN:=HN.out;rw[<-h];simp only[encL,<-hN,List.append_assoc,List.append_nil,List.cons_append,List.nil_append]
   ·show 0<2;omega
  ·have hq:=A8 (by simp);simp only[List.length_cons,List.length_nil] at hq;clear A8;go_wp2
   refine wp_loop_rounds 4 ?_;rw[rounds_succ];go_wp2
   rw[rounds_succ];go_wp2
   rw[rounds_succ];go_wp2
   rw[rounds_succ];go_wp2
   simp only[ba0,ba1,ba2,n3];obtain ⟨N,hN⟩: ∃N:Nat,N=a.toNat*65536+b.toNat*256+c.toNat:=⟨_,rfl⟩;have I5:N<16777216:=(by have:=a.toNat_lt;have:=b.toNat_lt;have:=c.toNat_lt;omega);have AV:((a.toNat:Int)*65536+b.toNat*256+c.toNat:Int)=(N:Int):=(by rw[hN];simp);simp only[AV];have HN:=hid hN;clear hN AV;have q0:bits .and .i64 ((N:Int)/262144) 63=((N/262144%64:Nat):Int):=(by rw[and63 _ (by omega) (by omega)];omega);have l0:N/262144%64<64:=(by omega);have q1:bits .and .i64 ((N:Int)/4096) 63=((N/4096%64:Nat):Int):=(by rw[and63 _ (by omega) (by omega)];omega);have l1:N/4096%64<64:=(by omega);have q2:bits .and .i64 ((N:Int)/64) 63=((N/64%64:Nat):Int):=(by rw[and63 _ (by omega) (by omega)];omega);have l2:N/64%64<64:=(by omega);have q3:bits .and .i64 ((N:Int)) 63=((N%64:Nat):Int):=(by rw[and63 _ (by omega) (by omega)];omega);have l3:N%64<64:=(by omega);refine wp_loop_rounds 5 ?_;rw[rounds_succ];go_wp2_with fail;refine (Builder_WriteByte _ _ _ _ _ hI (by simp only[Lib.byteCells_length,List.length_append,List.length_cons,List.length_nil];omega) G4.size).mono ?_;rintro e W1 ⟨rfl,h1,b1⟩;simp only[Int.toNat_natCast,letter_at,bc_snoc] at h1;have A3:=G4.trans b1;go_wp2_with fail;rw[rounds_succ];go_wp2_with fail;refine (Builder_WriteByte _ _ _ _ _ (.inr h1) (by simp only[Lib.byteCells_length,List.length_append,List.length_cons,List.length_nil];omega) A3.size).mono ?_;rintro e W2 ⟨rfl,h2,b2⟩;simp only[Int.toNat_natCast,letter_at,bc_snoc] at h2;have AW:=A3.trans b2;go_wp2_with fail;rw[rounds_succ];go_wp2_with fail;refine (Builder_WriteByte _ _ _ _ _ (.inr h2) (by simp only[Lib.byteCells_length,List.length_append,List.length_cons,List.length_nil];omega) AW.size).mono ?_;rintro e W3 ⟨rfl,h3,b3⟩;simp only[Int.toNat_natCast,letter_at,bc_snoc] at h3;have B0:=AW.trans b3;go_wp2_with fail;rw[rounds_succ];go_wp2_with fail;refine (Builder_WriteByte _ _ _ _ _ (.inr h3) (by simp only[Lib.byteCells_length,List.length_append,List.length_cons,List.length_nil];omega) B0.size).mono ?_;rintro e W4 ⟨rfl,h4,b4⟩;simp only[Int.toNat_natCast,letter_at,bc_snoc] at h4;have H9:=B0.trans b4;go_wp2_with fail;rw[rounds_succ];go_wp2
   rw[ext3];refine ⟨⟨r,((((acc++[letter (N/262144%64)])++[letter (N/4096%64)])++[letter (N/64%64)])++[letter (N%64)]),rfl, ?_, ?_, ?_, ?_,.inr h4,H9⟩, ?_⟩
   ·simp only[List.length_cons,List.length_nil] at hr⊢;omega
   ·simp only[List.length_append,List.length_cons,List.length_nil];omega
   ·intro _;simp only[List.length_append,List.length_cons,List.length_nil];omega
   ·have h:=FB.out;have hN:=HN.out;rw[<-h];simp only[encL,<-hN,List.append_assoc,List.append_nil,List.cons_append,List.nil_append]
   ·show r.length<r.length+1+1+1;omega
theorem index_alpha (c:UInt8) (w:World):Calls prog 58 #[.string ⟨#[65,66,67,68,69,70,71,72,73,74,75,76,77,78,79,80,81,82,83,84,85,86,87,88,89,90,97,98,99,100,101,102,103,104,105,106,107,108,109,110,111,112,113,114,115,116,117,118,119,120,121,122,48,49,50,51,52,53,54,55,56,57,43,47]⟩,.int .u8 (c.toNat:Int)] w fun e w'=>e= .returned (Iv (dgt c))/\w=w':=
 (strings_IndexByte _ _ w).mono fun e w' h=>by obtain ⟨rfl,rfl⟩:=h;refine ⟨?_,rfl⟩;simp[dgt,alphaL]
def ErrAt (w w':World) (v:Value) (code place:Int):Prop:= ∃b,v= .iface 63 (.pointer (some (Ad b 0)))/\w.heap.size<=b/\w'.heap[b]? =some (.cells #[Iv code,Iv place] 65 (0,0))
def DecPost (l:List UInt8) (w:World) (e:Ending) (w':World):Prop:=
 (∀x,decB l= .error x-> ∃v,e= .returned (.tuple #[.string ⟨#[]⟩,v])/\ErrAt w w' v x.1 x.2)/\(∀o,decB l= .ok o->e= .returned (.tuple #[Sv o,.nilIface]))/\Below w.heap.size w w'
theorem ne61 {c:UInt8} (h:c≠61):((c.toNat:Int)==61)=false:=by rw[beq_eq_false_iff_ne];intro e;have e':c.toNat=61:=(by omega);exact h (UInt8.toNat_inj.1 (by rw[e'];rfl))
theorem news_cells (w:World) (a b c:Value) (m:Nat): ∀j u,([a,b,c].take m)[j]? =some u->(w.alloc (.cells #[a,b,c] 5)).cell? (((Ad w.heap.size 0):Addr).add j)=some u:=by
 intro j u hu;have hj:[a,b,c][j]? =some u:=by
  rw[List.getElem?_take] at hu;split at hu
  ·exact hu
  ·cases hu
 rw[show (((Ad w.heap.size 0):Addr).add j)=(Ad w.heap.size j) from by unfold Addr.add;split<;>simp_all,World.cell?_alloc_new];rcases j with _|_|_|j
 ·simpa using hj
 ·simpa using hj
 ·simpa using hj
 ·simp at hj
theorem info5:(prog.info? 5).map (fun i=>(i.zero,i.size,i.bytes))=some (some (.int .u8 0),1,1):=by kernel_rfl
theorem below_app {B:Nat} {w wr w1:World} {v:Value} {n:Nat} {xs:List Value} {o:Obj} (hb:Below B w wr) (hB:B<=wr.heap.size) (A4:wr.ownsRow B 5 1 v n xs) (hg:(wr.alloc o).grownBy w1 v.ownBlock):Below B w w1:=
 (hb.alloc hB o).grown hg (by simp;omega) fun k hk=>(A4.lt k hk).1
theorem own_app {B:Nat} {w1:World} {v:Value} {out bs:List UInt8} {m:Nat} {ys:List Value} (h:w1.ownsRow B 5 1 v (out.length+m) (Lib.byteCells out++ys)) (hm:bs.length=m) (hy:ys=Lib.byteCells bs):
 w1.ownsRow B 5 1 v (out++bs).length (Lib.byteCells (out++bs)):=by
 rw[List.length_append,hm,show Lib.byteCells (out++bs)=Lib.byteCells out++ys by rw[hy];simp[Lib.byteCells]];exact h
theorem by0_val {n:Nat} (h:n<16777216):(n:Int)/65536=((by0 n).toNat:Int):=by rw[by0_nat];omega
theorem by1_val {n:Nat}:(n:Int)/256%256=((by1 n).toNat:Int):=by rw[by1_nat];omega
theorem by2_val {n:Nat}:(n:Int)%256=((by2 n).toNat:Int):=by rw[by2_nat]
theorem dR_eqeq (k:Nat) (out:List UInt8) (c0 c1:UInt8) (k0 k1 N:Nat) (h0:dgt c0=(k0:Int)) (h1:dgt c1=(k1:Int)) (hN:N=num k0 k1 0 0):
 decR k out [c0,c1,61,61]=if N%65536=0 then .ok (out++[by0 N]) else .error (k+1):=by
 unfold decR;rw[if_neg (by omega),if_neg (by omega),if_pos ⟨rfl,rfl,rfl⟩,h0,h1,Int.toNat_natCast,Int.toNat_natCast,<-hN]
theorem dR_eq (k:Nat) (out:List UInt8) (c0 c1 c2:UInt8) (k0 k1 k2 N:Nat) (h0:dgt c0=(k0:Int)) (h1:dgt c1=(k1:Int)) (h2:dgt c2=(k2:Int)) (n2:c2≠61) (hN:N=num k0 k1 k2 0):
 decR k out [c0,c1,c2,61]=if N%256=0 then .ok (out++[by0 N,by1 N]) else .error (k+2):=by
 unfold decR;rw[if_neg (by omega),if_neg (by omega),if_neg (fun h=>n2 h.2.2),if_neg (by omega),if_pos ⟨rfl,rfl⟩,h0,h1,h2,Int.toNat_natCast,Int.toNat_natCast,Int.toNat_natCast,<-hN]
theorem dR_full (k:Nat) (out r:List UInt8) (c0 c1 c2 c3:UInt8) (k0 k1 k2 k3 N:Nat) (h0:dgt c0=(k0:Int)) (h1:dgt c1=(k1:Int)) (h2:dgt c2=(k2:Int)) (h3:dgt c3=(k3:Int)) (n3:c3≠61) (hN:N=num k0 k1 k2 k3):
 decR k out (c0::c1::c2::c3::r)=decR (k+4) (out++[by0 N,by1 N,by2 N]) r:=by
 rw[decR];rw[if_neg (by omega),if_neg (by omega),if_neg (fun h=>n3 h.2.1),if_neg (by omega),if_neg (fun h=>n3 h.2),if_neg (by omega),h0,h1,h2,h3,Int.toNat_natCast,Int.toNat_natCast,Int.toNat_natCast,Int.toNat_natCast,<-hN]
theorem decR_nil (k:Nat) (out:List UInt8):decR k out []= .ok out:=by simp[decR]
theorem strOf (l:List UInt8):strOfNums (l.map fun b=>(b.toNat:Int))=⟨l.toArray⟩:=by apply ByteArray.ext;simp only[strOfNums,List.map_map];rw[show ((fun n:Int=>UInt8.ofNat n.toNat)∘fun b:UInt8=>(b.toNat:Int))=id from funext fun b=>by simp];simp
theorem neF {x y:Int} (h:x=0) (e:y=x):(y != 0)=false:=by rw[e,h];rfl
theorem neT {x y:Int} (h:x≠0) (e:y=x):(y != 0)=true:=by rw[e,bne_iff_ne];exact h
theorem dec_ok (l o:List UInt8) (w wr:World) (hm:l.length%4=0) (hb:Below w.heap.size w wr) (HA:decR 0 [] l= .ok o):DecPost l w (.returned (.tuple #[Sv o,.nilIface])) wr:=by
 have h:decB l= .ok o:=(by unfold decB;rw[if_pos hm,HA]);refine ⟨fun x hx=> ?_,fun o' ho=> ?_,hb⟩
 ·rw[h] at hx;cases hx
 ·rw[h] at ho;cases ho;rfl
theorem dec_err (l:List UInt8) (w wr:World) (p:Nat) (q:Int) (hq:q=(p:Int)) (hm:l.length%4=0) (hb:Below w.heap.size w wr) (HA:decR 0 [] l= .error p):
 DecPost l w (.returned (.tuple #[.string ⟨#[]⟩,.iface 63 (.pointer (some (Ad wr.heap.size 0)))])) (wr.alloc (.cells #[Iv 3,Iv q] 65)):=by
 have h:decB l= .error (3,(p:Int)):=(by unfold decB;rw[if_pos hm,HA]);refine ⟨fun x hx=> ?_,fun o ho=> ?_,hb.alloc hb.size _⟩
 ·rw[h] at hx;cases hx;exact ⟨_,rfl,_,rfl,hb.size,by rw[<-hq];exact heap_alloc_new wr _⟩
 ·rw[h] at ho;cases ho
theorem decode_any (l:List UInt8) (w:World) (hs:l.length<=2147483648):
 Calls prog 90 #[Sv l] w (DecPost l w):=by
 by_cases hm:l.length%4=0
 ·have LB:((l.length:Int)%4 != 0)=false:=(by simp;omega);have Hm:=hid hm;clear hm;obtain ⟨i0,hi,HJ,HK,HO⟩:=info_parts info5;go_enter func90,ntmps90;go_wp2
  go_loopw [4,5] (fun v i wr=> ∃(k:Nat) (out:List UInt8),i=Iv k/\k<=l.length/\Hid (k%4=0)/\out.length<=k/\wr.ownsRow w.heap.size 5 1 v out.length (Lib.byteCells out)/\Hid (decR k out (l.drop k)=decR 0 [] l)/\Below w.heap.size w wr) (fun _ i _=>l.length-(intOf i).toNat);case atStart=>exact ⟨0,[],rfl,Nat.zero_le _,hid rfl,Nat.zero_le _,World.ownsRow_nil _ _ _ _,hid rfl,Below.refl _ _⟩
  case round=>
   obtain ⟨k,out,rfl,hk,HC,TT,A4,A0,hb⟩:=hrel;by_cases HX:k<l.length
   ·have I6:k+4<=l.length:=(by have h1:=HC.out;have h2:=Hm.out;omega);obtain ⟨c0,c1,c2,c3,hd,TX,U1,U2,V5⟩:=drop_four I6;have Hd:=hid hd;clear hd;by_cases DA:k+4=l.length
    ·have LL:((k:Int)+4==(l.length:Int))=true:=(by simp;omega);have HL:Hid (l.drop (k+4)=[]):=hid (by rw[DA];simp);clear DA;go_wp2
     refine wp_loop_rounds 5 ?_;rcases dgt_cases c0 with AB|⟨AB,HD,DD⟩
     ·have H0:=hid AB;rw[rounds_succ];go_wp2_with fail;refine (index_alpha c0 _).mono ?_;rintro e w' ⟨rfl,rfl⟩;go_wp2
      all_goals
       go_ret2;exact dec_err l w _ k _ rfl Hm.out hb (by rw[<-A0.out,Hd.out];unfold decR;rw[if_pos (show dgt c0<0 by have:=H0.out;omega)])
     ·obtain ⟨k0,DT⟩:=Int.eq_ofNat_of_zero_le AB;have e0:((c0.toNat:Int)==61)=false:=ne61 DD;have N0:=hid DD;have H0:=hid DT;clear DD AB;rw[DT] at HD;clear DT;have E0:bits .or .i64 0 (k0:Int)=(k0:Int):=or64z _ (by omega) HD;rw[rounds_succ];go_wp2_with fail;refine (index_alpha c0 _).mono ?_;rintro e w' ⟨rfl,rfl⟩;rw[H0.out];go_wp2
      rcases dgt_cases c1 with A2|⟨A2,HE,E9⟩
      ·have H1:=hid A2;rw[rounds_succ];go_wp2_with fail;refine (index_alpha c1 _).mono ?_;rintro e w' ⟨rfl,rfl⟩;go_wp2
       all_goals
        go_ret2;exact dec_err l w _ (k+1) _ (by simp) Hm.out hb (by rw[<-A0.out,Hd.out];unfold decR;rw[if_neg (show¬dgt c0<0 by have:=H0.out;omega)];rw[if_pos (show dgt c1<0 by have:=H1.out;omega)])
      ·obtain ⟨k1,A9⟩:=Int.eq_ofNat_of_zero_le A2;have e1:((c1.toNat:Int)==61)=false:=ne61 E9;have N1:=hid E9;have H1:=hid A9;clear E9 A2;rw[A9] at HE;clear A9;have E1:bits .or .i64 (((k0:Int))*64) (k1:Int)=((k0:Int))*64+(k1:Int):=or64 _ _ (by omega) (by omega) (by omega) HE;rw[rounds_succ];go_wp2_with fail;refine (index_alpha c1 _).mono ?_;rintro e w' ⟨rfl,rfl⟩;rw[H1.out];go_wp2
       rcases dgt_cases c2 with AL|⟨AL,HF,F1⟩
       ·have H2:=hid AL;by_cases h2:c2=61
        ·have e2:((c2.toNat:Int)==61)=true:=(by rw[h2];rfl);by_cases h3:c3=61
         ·have e3:((c3.toNat:Int)==61)=true:=(by rw[h3];rfl);have A7:dgt c3= -1:=(by rw[h3];exact dgt_eq61);have B1:=hid h2;have A6:=hid h3;clear h2 h3;have M2:min (4:Int) 2=2:=(by decide);have MM:min (2:Int) 3=2:=(by decide);have OV:min (4:Int) 3=3:=(by decide);obtain ⟨N,hN⟩: ∃N:Nat,N=num k0 k1 0 0:=⟨_,rfl⟩;have F2:N<16777216:=(by rw[hN];unfold num;omega);have E2:bits .or .i64 (((k0:Int)*64+k1)*64) 0=((k0:Int)*64+k1)*64:=(by rw[or64 _ 0 (by omega) (by omega) (by omega) (by omega)];omega);have E3:bits .or .i64 (((k0:Int)*64+k1)*64*64) 0=(N:Int):=(by rw[or64 _ 0 (by omega) (by omega) (by omega) (by omega),hN];unfold num;omega);have HN:=hid hN;clear hN;by_cases hz:N%65536=0
          ·have hq:(bits .and .i64 (N:Int) 65535 != 0)=false:=neF (x:=((N%65536:Nat):Int)) (by omega) (by rw[and65535 _ (by omega) (by omega)];omega);have HZ:=hid hz;clear hz;rw[rounds_succ];go_wp2_with fail;refine (index_alpha c2 _).mono ?_;rintro e w' ⟨rfl,rfl⟩;rw[H2.out];go_wp2
           rw[rounds_succ];go_wp2_with fail;refine (index_alpha c3 _).mono ?_;rintro e w' ⟨rfl,rfl⟩;rw[A7];go_wp2
           rw[rounds_succ];go_wp2_with
            (at_builtin
             go_must (refine wpList_append_own _ rfl (.tmp 99) (.tmp 111) _ rfl w.heap.size 5 i0 (.int .u8 0) 1 1 underlying113 hi HJ HK HO rfl (by decide) u4 out.length _ rfl (A4.alloc _) (Ad wr.heap.size 0) 1 3 ([.int .u8 ((N:Int)/65536),.int .u8 ((N:Int)/256%256),.int .u8 ((N:Int)%256)].take 1) ?c1 ?c0 ?c2 ?c3 ?c4 ?c5 ?c6 ?_)
             case c1=>rfl
             case c0=>rfl
             case c2=>exact news_cells wr _ _ _ 1
             case c3=>intro u hu;have:=List.mem_of_mem_take hu;simp at this;rcases this with rfl|rfl|rfl<;>rfl
             case c4=>simp only[maxLen];omega
             case c5=>omega
             case c6=>simp;exact Nat.le_succ_of_le hb.size
             intro v1 w1 A1 A2 _;have A3:=below_app hb hb.size A4 A2;have A5:=own_app (bs:=[by0 N]) A1 rfl (by simp[Lib.byteCells,by0_val F2,by1_val,by2_val]);clear A1 A2)
           refine ⟨⟨k+4,out++[by0 N],by go_num,by omega,hid (by have:=HC.out;omega),by simp;omega,A5,hid ?_,A3⟩,by simp[intOf];omega⟩;rw[<-A0.out,Hd.out,HL.out,B1.out,A6.out,dR_eqeq k out c0 c1 k0 k1 N H0.out H1.out HN.out];rw[if_pos HZ.out,decR_nil]
          ·have hq:(bits .and .i64 (N:Int) 65535 != 0)=true:=neT (x:=((N%65536:Nat):Int)) (by omega) (by rw[and65535 _ (by omega) (by omega)];omega);have HZ:=hid hz;clear hz;rw[rounds_succ];go_wp2_with fail;refine (index_alpha c2 _).mono ?_;rintro e w' ⟨rfl,rfl⟩;rw[H2.out];go_wp2
           rw[rounds_succ];go_wp2_with fail;refine (index_alpha c3 _).mono ?_;rintro e w' ⟨rfl,rfl⟩;rw[A7];go_wp2
           rw[rounds_succ];go_wp2
           go_ret2;exact dec_err l w _ (k+1) _ (by omega) Hm.out hb (by rw[<-A0.out,Hd.out,HL.out,B1.out,A6.out,dR_eqeq k out c0 c1 k0 k1 N H0.out H1.out HN.out];exact if_neg HZ.out)
         ·have e3:((c3.toNat:Int)==61)=false:=ne61 h3;have B1:=hid h2;have A6:=hid h3;clear h2 h3;rw[rounds_succ];go_wp2_with fail;refine (index_alpha c2 _).mono ?_;rintro e w' ⟨rfl,rfl⟩;go_wp2
          all_goals
           go_ret2;exact dec_err l w _ (k+2) _ (by simp) Hm.out hb (by rw[<-A0.out,Hd.out];unfold decR;rw[if_neg (show¬dgt c0<0 by have:=H0.out;omega)];rw[if_neg (show¬dgt c1<0 by have:=H1.out;omega)];rw[if_neg (fun h=>A6.out h.2.1),if_pos (show dgt c2<0 by have:=H2.out;omega)])
        ·have e2:((c2.toNat:Int)==61)=false:=ne61 h2;have B1:=hid h2;clear h2;rw[rounds_succ];go_wp2_with fail;refine (index_alpha c2 _).mono ?_;rintro e w' ⟨rfl,rfl⟩;go_wp2
         all_goals
          go_ret2;exact dec_err l w _ (k+2) _ (by simp) Hm.out hb (by rw[<-A0.out,Hd.out];unfold decR;rw[if_neg (show¬dgt c0<0 by have:=H0.out;omega)];rw[if_neg (show¬dgt c1<0 by have:=H1.out;omega)];rw[if_neg (fun h=>B1.out h.2.2),if_pos (show dgt c2<0 by have:=H2.out;omega)])
       ·obtain ⟨k2,AN⟩:=Int.eq_ofNat_of_zero_le AL;have e2:((c2.toNat:Int)==61)=false:=ne61 F1;have N2:=hid F1;have H2:=hid AN;clear F1 AL;rw[AN] at HF;clear AN;have E2:bits .or .i64 (((k0:Int)*64+k1)*64) (k2:Int)=((k0:Int)*64+k1)*64+(k2:Int):=or64 _ _ (by omega) (by omega) (by omega) HF;rw[rounds_succ];go_wp2_with fail;refine (index_alpha c2 _).mono ?_;rintro e w' ⟨rfl,rfl⟩;rw[H2.out];go_wp2
        rcases dgt_cases c3 with A7|⟨A7,HG,F3⟩
        ·have H3:=hid A7;by_cases h3:c3=61
         ·have e3:((c3.toNat:Int)==61)=true:=(by rw[h3];rfl);have A6:=hid h3;clear h3;have M2:min (4:Int) 2=2:=(by decide);have MM:min (2:Int) 3=2:=(by decide);have OV:min (4:Int) 3=3:=(by decide);obtain ⟨N,hN⟩: ∃N:Nat,N=num k0 k1 k2 0:=⟨_,rfl⟩;have F2:N<16777216:=(by rw[hN];unfold num;omega);have E3:bits .or .i64 ((((k0:Int)*64+k1)*64+k2)*64) 0=(N:Int):=(by rw[or64 _ 0 (by omega) (by omega) (by omega) (by omega),hN];unfold num;omega);have HN:=hid hN;clear hN;by_cases hz:N%256=0
          ·have hq:(bits .and .i64 (N:Int) 255 != 0)=false:=neF (x:=((N%256:Nat):Int)) (by omega) (by rw[and255 _ (by omega) (by omega)];omega);have HZ:=hid hz;clear hz;rw[rounds_succ];go_wp2_with fail;refine (index_alpha c3 _).mono ?_;rintro e w' ⟨rfl,rfl⟩;rw[H3.out];go_wp2
           rw[rounds_succ];go_wp2_with
            (at_builtin
             go_must (refine wpList_append_own _ rfl (.tmp 99) (.tmp 111) _ rfl w.heap.size 5 i0 (.int .u8 0) 1 1 underlying113 hi HJ HK HO rfl (by decide) u4 out.length _ rfl (A4.alloc _) (Ad wr.heap.size 0) 2 3 ([.int .u8 ((N:Int)/65536),.int .u8 ((N:Int)/256%256),.int .u8 ((N:Int)%256)].take 2) ?c1 ?c0 ?c2 ?c3 ?c4 ?c5 ?c6 ?_)
             case c1=>rfl
             case c0=>rfl
             case c2=>exact news_cells wr _ _ _ 2
             case c3=>intro u hu;have:=List.mem_of_mem_take hu;simp at this;rcases this with rfl|rfl|rfl<;>rfl
             case c4=>simp only[maxLen];omega
             case c5=>omega
             case c6=>simp;exact Nat.le_succ_of_le hb.size
             intro v1 w1 A1 A2 _;have A3:=below_app hb hb.size A4 A2;have A5:=own_app (bs:=[by0 N,by1 N]) A1 rfl (by simp[Lib.byteCells,by0_val F2,by1_val,by2_val]);clear A1 A2)
           refine ⟨⟨k+4,out++[by0 N,by1 N],by go_num,by omega,hid (by have:=HC.out;omega),by simp;omega,A5,hid ?_,A3⟩,by simp[intOf];omega⟩;rw[<-A0.out,Hd.out,HL.out,A6.out,dR_eq k out c0 c1 c2 k0 k1 k2 N H0.out H1.out H2.out N2.out HN.out];rw[if_pos HZ.out,decR_nil]
          ·have hq:(bits .and .i64 (N:Int) 255 != 0)=true:=neT (x:=((N%256:Nat):Int)) (by omega) (by rw[and255 _ (by omega) (by omega)];omega);have HZ:=hid hz;clear hz;rw[rounds_succ];go_wp2_with fail;refine (index_alpha c3 _).mono ?_;rintro e w' ⟨rfl,rfl⟩;rw[H3.out];go_wp2
           rw[rounds_succ];go_wp2
           go_ret2;exact dec_err l w _ (k+2) _ (by omega) Hm.out hb (by rw[<-A0.out,Hd.out,HL.out,A6.out,dR_eq k out c0 c1 c2 k0 k1 k2 N H0.out H1.out H2.out N2.out HN.out];exact if_neg HZ.out)
         ·have e3:((c3.toNat:Int)==61)=false:=ne61 h3;have A6:=hid h3;clear h3;rw[rounds_succ];go_wp2_with fail;refine (index_alpha c3 _).mono ?_;rintro e w' ⟨rfl,rfl⟩;go_wp2
          all_goals
           go_ret2;exact dec_err l w _ (k+3) _ (by simp) Hm.out hb (by rw[<-A0.out,Hd.out];unfold decR;rw[if_neg (show¬dgt c0<0 by have:=H0.out;omega)];rw[if_neg (show¬dgt c1<0 by have:=H1.out;omega)];rw[if_neg (fun h=>A6.out h.2.1),if_neg (show¬dgt c2<0 by have:=H2.out;omega),if_neg (fun h=>A6.out h.2),if_pos (show dgt c3<0 by have:=H3.out;omega)])
        ·obtain ⟨k3,F4⟩:=Int.eq_ofNat_of_zero_le A7;have e3:((c3.toNat:Int)==61)=false:=ne61 F3;have N3:=hid F3;have H3:=hid F4;clear F3 A7;rw[F4] at HG;clear F4;obtain ⟨N,hN⟩: ∃N:Nat,N=num k0 k1 k2 k3:=⟨_,rfl⟩;have F2:N<16777216:=(by rw[hN];unfold num;omega);have E3:bits .or .i64 ((((k0:Int)*64+k1)*64+k2)*64) (k3:Int)=(N:Int):=(by rw[or64 _ _ (by omega) (by omega) (by omega) HG,hN];simp[num]);have HN:=hid hN;clear hN;rw[rounds_succ];go_wp2_with fail;refine (index_alpha c3 _).mono ?_;rintro e w' ⟨rfl,rfl⟩;rw[H3.out];go_wp2
         rw[rounds_succ];go_wp2_with
          (at_builtin
           go_must (refine wpList_append_own _ rfl (.tmp 99) (.tmp 111) _ rfl w.heap.size 5 i0 (.int .u8 0) 1 1 underlying113 hi HJ HK HO rfl (by decide) u4 out.length _ rfl (A4.alloc _) (Ad wr.heap.size 0) 3 3 ([.int .u8 ((N:Int)/65536),.int .u8 ((N:Int)/256%256),.int .u8 ((N:Int)%256)].take 3) ?c1 ?c0 ?c2 ?c3 ?c4 ?c5 ?c6 ?_)
           case c1=>rfl
           case c0=>rfl
           case c2=>exact news_cells wr _ _ _ 3
           case c3=>intro u hu;have:=List.mem_of_mem_take hu;simp at this;rcases this with rfl|rfl|rfl<;>rfl
           case c4=>simp only[maxLen];omega
           case c5=>omega
           case c6=>simp;exact Nat.le_succ_of_le hb.size
           intro v1 w1 A1 A2 _;have A3:=below_app hb hb.size A4 A2;have A5:=own_app (bs:=[by0 N,by1 N,by2 N]) A1 rfl (by simp[Lib.byteCells,by0_val F2,by1_val,by2_val]);clear A1 A2)
         refine ⟨⟨k+4,out++[by0 N,by1 N,by2 N],by go_num,by omega,hid (by have:=HC.out;omega),by simp;omega,A5,hid ?_,A3⟩,by simp[intOf];omega⟩;rw[<-A0.out,Hd.out];exact (dR_full k out _ c0 c1 c2 c3 k0 k1 k2 k3 N H0.out H1.out H2.out H3.out N3.out HN.out).symm
    ·have LL:((k:Int)+4==(l.length:Int))=false:=(by simp;omega);have HL:Hid (l.drop (k+4)≠[]):=hid (by intro h;have:=congrArg List.length h;simp at this;omega);clear DA;go_wp2
     refine wp_loop_rounds 5 ?_;rcases dgt_cases c0 with AB|⟨AB,HD,DD⟩
     ·have H0:=hid AB;rw[rounds_succ];go_wp2_with fail;refine (index_alpha c0 _).mono ?_;rintro e w' ⟨rfl,rfl⟩;go_wp2
      all_goals
       go_ret2;exact dec_err l w _ k _ rfl Hm.out hb (by rw[<-A0.out,Hd.out];unfold decR;rw[if_pos (show dgt c0<0 by have:=H0.out;omega)])
     ·obtain ⟨k0,DT⟩:=Int.eq_ofNat_of_zero_le AB;have e0:((c0.toNat:Int)==61)=false:=ne61 DD;have N0:=hid DD;have H0:=hid DT;clear DD AB;rw[DT] at HD;clear DT;have E0:bits .or .i64 0 (k0:Int)=(k0:Int):=or64z _ (by omega) HD;rw[rounds_succ];go_wp2_with fail;refine (index_alpha c0 _).mono ?_;rintro e w' ⟨rfl,rfl⟩;rw[H0.out];go_wp2
      rcases dgt_cases c1 with A2|⟨A2,HE,E9⟩
      ·have H1:=hid A2;rw[rounds_succ];go_wp2_with fail;refine (index_alpha c1 _).mono ?_;rintro e w' ⟨rfl,rfl⟩;go_wp2
       all_goals
        go_ret2;exact dec_err l w _ (k+1) _ (by simp) Hm.out hb (by rw[<-A0.out,Hd.out];unfold decR;rw[if_neg (show¬dgt c0<0 by have:=H0.out;omega)];rw[if_pos (show dgt c1<0 by have:=H1.out;omega)])
      ·obtain ⟨k1,A9⟩:=Int.eq_ofNat_of_zero_le A2;have e1:((c1.toNat:Int)==61)=false:=ne61 E9;have N1:=hid E9;have H1:=hid A9;clear E9 A2;rw[A9] at HE;clear A9;have E1:bits .or .i64 (((k0:Int))*64) (k1:Int)=((k0:Int))*64+(k1:Int):=or64 _ _ (by omega) (by omega) (by omega) HE;rw[rounds_succ];go_wp2_with fail;refine (index_alpha c1 _).mono ?_;rintro e w' ⟨rfl,rfl⟩;rw[H1.out];go_wp2
       rcases dgt_cases c2 with AL|⟨AL,HF,F1⟩
       ·have H2:=hid AL;by_cases h2:c2=61
        ·have e2:((c2.toNat:Int)==61)=true:=(by rw[h2];rfl);have B1:=hid h2;clear h2;rw[rounds_succ];go_wp2_with fail;refine (index_alpha c2 _).mono ?_;rintro e w' ⟨rfl,rfl⟩;go_wp2
         all_goals
          go_ret2;exact dec_err l w _ (k+2) _ (by simp) Hm.out hb (by rw[<-A0.out,Hd.out];unfold decR;rw[if_neg (show¬dgt c0<0 by have:=H0.out;omega)];rw[if_neg (show¬dgt c1<0 by have:=H1.out;omega)];rw[if_neg (fun h=>HL.out h.1),if_pos (show dgt c2<0 by have:=H2.out;omega)])
        ·have e2:((c2.toNat:Int)==61)=false:=ne61 h2;have B1:=hid h2;clear h2;rw[rounds_succ];go_wp2_with fail;refine (index_alpha c2 _).mono ?_;rintro e w' ⟨rfl,rfl⟩;go_wp2
         all_goals
          go_ret2;exact dec_err l w _ (k+2) _ (by simp) Hm.out hb (by rw[<-A0.out,Hd.out];unfold decR;rw[if_neg (show¬dgt c0<0 by have:=H0.out;omega)];rw[if_neg (show¬dgt c1<0 by have:=H1.out;omega)];rw[if_neg (fun h=>B1.out h.2.2),if_pos (show dgt c2<0 by have:=H2.out;omega)])
       ·obtain ⟨k2,AN⟩:=Int.eq_ofNat_of_zero_le AL;have e2:((c2.toNat:Int)==61)=false:=ne61 F1;have N2:=hid F1;have H2:=hid AN;clear F1 AL;rw[AN] at HF;clear AN;have E2:bits .or .i64 (((k0:Int)*64+k1)*64) (k2:Int)=((k0:Int)*64+k1)*64+(k2:Int):=or64 _ _ (by omega) (by omega) (by omega) HF;rw[rounds_succ];go_wp2_with fail;refine (index_alpha c2 _).mono ?_;rintro e w' ⟨rfl,rfl⟩;rw[H2.out];go_wp2
        rcases dgt_cases c3 with A7|⟨A7,HG,F3⟩
        ·have H3:=hid A7;by_cases h3:c3=61
         ·have e3:((c3.toNat:Int)==61)=true:=(by rw[h3];rfl);have A6:=hid h3;clear h3;rw[rounds_succ];go_wp2_with fail;refine (index_alpha c3 _).mono ?_;rintro e w' ⟨rfl,rfl⟩;go_wp2
          all_goals
           go_ret2;exact dec_err l w _ (k+3) _ (by simp) Hm.out hb (by rw[<-A0.out,Hd.out];unfold decR;rw[if_neg (show¬dgt c0<0 by have:=H0.out;omega)];rw[if_neg (show¬dgt c1<0 by have:=H1.out;omega)];rw[if_neg (fun h=>HL.out h.1),if_neg (show¬dgt c2<0 by have:=H2.out;omega),if_neg (fun h=>HL.out h.1),if_pos (show dgt c3<0 by have:=H3.out;omega)])
         ·have e3:((c3.toNat:Int)==61)=false:=ne61 h3;have A6:=hid h3;clear h3;rw[rounds_succ];go_wp2_with fail;refine (index_alpha c3 _).mono ?_;rintro e w' ⟨rfl,rfl⟩;go_wp2
          all_goals
           go_ret2;exact dec_err l w _ (k+3) _ (by simp) Hm.out hb (by rw[<-A0.out,Hd.out];unfold decR;rw[if_neg (show¬dgt c0<0 by have:=H0.out;omega)];rw[if_neg (show¬dgt c1<0 by have:=H1.out;omega)];rw[if_neg (fun h=>A6.out h.2.1),if_neg (show¬dgt c2<0 by have:=H2.out;omega),if_neg (fun h=>A6.out h.2),if_pos (show dgt c3<0 by have:=H3.out;omega)])
        ·obtain ⟨k3,F4⟩:=Int.eq_ofNat_of_zero_le A7;have e3:((c3.toNat:Int)==61)=false:=ne61 F3;have N3:=hid F3;have H3:=hid F4;clear F3 A7;rw[F4] at HG;clear F4;obtain ⟨N,hN⟩: ∃N:Nat,N=num k0 k1 k2 k3:=⟨_,rfl⟩;have F2:N<16777216:=(by rw[hN];unfold num;omega);have E3:bits .or .i64 ((((k0:Int)*64+k1)*64+k2)*64) (k3:Int)=(N:Int):=(by rw[or64 _ _ (by omega) (by omega) (by omega) HG,hN];simp[num]);have HN:=hid hN;clear hN;rw[rounds_succ];go_wp2_with fail;refine (index_alpha c3 _).mono ?_;rintro e w' ⟨rfl,rfl⟩;rw[H3.out];go_wp2
         rw[rounds_succ];go_wp2_with
          (at_builtin
           go_must (refine wpList_append_own _ rfl (.tmp 99) (.tmp 111) _ rfl w.heap.size 5 i0 (.int .u8 0) 1 1 underlying113 hi HJ HK HO rfl (by decide) u4 out.length _ rfl (A4.alloc _) (Ad wr.heap.size 0) 3 3 ([.int .u8 ((N:Int)/65536),.int .u8 ((N:Int)/256%256),.int .u8 ((N:Int)%256)].take 3) ?c1 ?c0 ?c2 ?c3 ?c4 ?c5 ?c6 ?_)
           case c1=>rfl
           case c0=>rfl
           case c2=>exact news_cells wr _ _ _ 3
           case c3=>intro u hu;have:=List.mem_of_mem_take hu;simp at this;rcases this with rfl|rfl|rfl<;>rfl
           case c4=>simp only[maxLen];omega
           case c5=>omega
           case c6=>simp;exact Nat.le_succ_of_le hb.size
           intro v1 w1 A1 A2 _;have A3:=below_app hb hb.size A4 A2;have A5:=own_app (bs:=[by0 N,by1 N,by2 N]) A1 rfl (by simp[Lib.byteCells,by0_val F2,by1_val,by2_val]);clear A1 A2)
         refine ⟨⟨k+4,out++[by0 N,by1 N,by2 N],by go_num,by omega,hid (by have:=HC.out;omega),by simp;omega,A5,hid ?_,A3⟩,by simp[intOf];omega⟩;rw[<-A0.out,Hd.out];exact (dR_full k out _ c0 c1 c2 c3 k0 k1 k2 k3 N H0.out H1.out H2.out H3.out N3.out HN.out).symm
   ·have IB:k=l.length:=(by omega);have HS:decR 0 [] l= .ok out:=(by rw[<-A0.out,IB,List.drop_length];exact decR_nil _ _);have HW:=hid HS;clear IB HS;rcases A4.2 with ⟨rfl,hn⟩|⟨g,cap,cur,rfl,V6,P1,VC,_,B2,I1⟩
    ·have hc:=run_convert_bytes_nil (P:=prog) wr 113 5 underlying113 underlying5 0 0 9 underlying9;have ho:out=[]:=List.eq_nil_of_length_eq_zero hn;subst ho;clear hn;go_wp2
     go_ret2;exact dec_ok l [] w wr Hm.out hb HW.out
    ·have hc:=run_convert_bytes_arg (P:=prog) wr 113 5 underlying113 underlying5 g 0 out.length cap (out.map fun b=>(b.toNat:Int)) (by simp) (fun i hi=>by
      have:=A4.cellAt i (by omega);rw[Nat.zero_add,this];simp[Lib.byteCells,List.getD,List.getElem?_map,List.getElem?_eq_getElem hi]) 9 underlying9
     rw[strOf] at hc;clear I1 B2;go_wp2
     go_ret2;exact dec_ok l out w wr Hm.out hb HW.out
 ·have LB:((l.length:Int)%4 != 0)=true:=(by simp;omega);have Hm:=hid hm;clear hm;go_enter func90,ntmps90;go_wp2
  go_ret2;refine ⟨fun x hx=> ?_,fun o ho=> ?_,(Below.refl _ _).alloc (Nat.le_refl _) _⟩
  ·unfold decB at hx;rw[if_neg Hm.out] at hx;cases hx;exact ⟨_,rfl,_,rfl,Nat.le_refl _,heap_alloc_new w _⟩
  ·unfold decB at ho;rw[if_neg Hm.out] at ho;cases ho
end B
end Go.Proofs.YtjhpdljphchfaaaGreatDoor
