/- A part of the proof of ConvertUps: strings.ContainsAny at any text walked. -/
import Derived.Test.YtjhpdljphchfaaaGreatDoorA06
import Derived.Test.YtjhpdljphchfaaaGreatDoorA10
import Derived.Shelf.Strings.IndexAnyAll
import Derived.Lib.OthersKept
import Derived.Lib.DecodeN
import Derived.Deep.LoopGhost
set_option maxHeartbeats 40000000
set_option maxRecDepth 1000000
set_option linter.all false
namespace Go.Proofs.YtjhpdljphchfaaaGreatDoor
open Go.RowKit
open Go.Proofs.Tryz
def Eg (c:UInt8):Bool:=c==44||c==59||c==58
theorem S3 (r:Nat) (h0:128<=r) (h1:r<2048): ∃x y:UInt8,Utf8.encode (r:Int)=⟨#[x,y]⟩/\128<=y.toNat:=by
 refine ⟨UInt8.ofNat (0xC0+r/64),UInt8.ofNat (0x80+r%64), ?_, ?_⟩
 ·have hv:Utf8.valid (r:Int)=true:=(by simp[Utf8.valid];omega);unfold Utf8.encode;simp only[hv,if_true,Int.toNat_natCast];rw[if_neg (by omega),if_pos (by omega)]
 ·simp;omega
theorem O9 (r:Nat) (h0:2048<=r) (h1:r<65536) (hr:r<55296∨57344<=r): ∃x y z:UInt8,Utf8.encode (r:Int)=⟨#[x,y,z]⟩/\128<=z.toNat:=by
 refine ⟨UInt8.ofNat (0xE0+r/4096),UInt8.ofNat (0x80+r/64%64),UInt8.ofNat (0x80+r%64), ?_, ?_⟩
 ·have hv:Utf8.valid (r:Int)=true:=(by simp[Utf8.valid];omega);unfold Utf8.encode;simp only[hv,if_true,Int.toNat_natCast];rw[if_neg (by omega),if_neg (by omega),if_pos (by omega)]
 ·simp;omega
theorem RO (r:Nat) (h0:65536<=r) (h1:r<=1114111): ∃x y z u:UInt8,Utf8.encode (r:Int)=⟨#[x,y,z,u]⟩:=by refine ⟨UInt8.ofNat (0xF0+r/262144),UInt8.ofNat (0x80+r/4096%64),UInt8.ofNat (0x80+r/64%64),UInt8.ofNat (0x80+r%64), ?_⟩;have hv:Utf8.valid (r:Int)=true:=(by simp[Utf8.valid];omega);unfold Utf8.encode;simp only[hv,if_true,Int.toNat_natCast];rw[if_neg (by omega),if_neg (by omega),if_neg (by omega)]
theorem RP (n b0 b1 b2 b3:Nat) (h:128<=b0) (hn:1<=n):128<=(Lib.decodeN n b0 b1 b2 b3).1/\((Lib.decodeN n b0 b1 b2 b3).1<55296∨(57344<=(Lib.decodeN n b0 b1 b2 b3).1/\(Lib.decodeN n b0 b1 b2 b3).1<=1114111))/\1<=(Lib.decodeN n b0 b1 b2 b3).2/\(Lib.decodeN n b0 b1 b2 b3).2<=n/\(Lib.decodeN n b0 b1 b2 b3).2<=4
 /\(1<(Lib.decodeN n b0 b1 b2 b3).2->128<=b1)/\(2<(Lib.decodeN n b0 b1 b2 b3).2->128<=b2)/\(3<(Lib.decodeN n b0 b1 b2 b3).2->128<=b3):=by
 unfold Lib.decodeN;rw[if_neg (by omega)]
 repeat' split
 all_goals (simp only[];omega)
theorem PA (l:Str) (y:UInt8) (hl: ∀b∈l,b.toNat<128) (hy:128<=y.toNat):Lib.indexByte l y= -1:=B.indexByte_none fun b hb e=>by have:=hl b hb;rw[e] at this;omega
theorem PC (x y:UInt8) (hy:128<=y.toNat) (w:World):Calls prog 58 #[.string ((⟨#[44,59,58]⟩:ByteArray).extract 2 3),.int .u8 (((⟨#[x,y]⟩:ByteArray)[1]'(by decide:1<2)).toNat:Int)] w fun e w'=>e= .returned (Iv (-1))/\w'=w:=
 (strings_IndexByte _ _ w).mono fun e w' h=>by obtain ⟨rfl,rfl⟩:=h;refine ⟨?_,rfl⟩;have hc:(((⟨#[x,y]⟩:ByteArray)[1]'(by decide:1<2)).toNat:Int).toNat.toUInt8=y:=(by show ((y.toNat:Int)).toNat.toUInt8=y;simp);rw[hc,PA _ _ (by decide) hy]
theorem PD (x y z:UInt8) (hz:128<=z.toNat) (w:World):Calls prog 58 #[.string ((⟨#[44,59,58]⟩:ByteArray).extract 3 3),.int .u8 (((⟨#[x,y,z]⟩:ByteArray)[2]'(by decide:2<3)).toNat:Int)] w fun e w'=>e= .returned (Iv (-1))/\w'=w:=
 (strings_IndexByte _ _ w).mono fun e w' h=>by obtain ⟨rfl,rfl⟩:=h;refine ⟨?_,rfl⟩;have hc:(((⟨#[x,y,z]⟩:ByteArray)[2]'(by decide:2<3)).toNat:Int).toNat.toUInt8=z:=(by show ((z.toNat:Int)).toNat.toUInt8=z;simp);rw[hc,PA _ _ (by decide) hz]
theorem NT (w:World):Calls prog 117 #[.string ⟨#[44,59,58]⟩,.int .i32 65533] w fun e w'=>e= .returned (Iv (-1))/\Below w.heap.size w w':=by have n0: ∀ty,(Instr.next (.pointer (some (Ad w.heap.size 0))) true ty).run prog (w.iter ⟨#[44,59,58]⟩ 0)= .ok (.tuple #[.bool true,Iv 0,.int .i32 44]) (w.iter ⟨#[44,59,58]⟩ 1):=fun ty=>run_next_ascii w ⟨#[44,59,58]⟩ 0 ty (by decide) (by decide);have n1: ∀ty,(Instr.next (.pointer (some (Ad w.heap.size 0))) true ty).run prog (w.iter ⟨#[44,59,58]⟩ 1)= .ok (.tuple #[.bool true,Iv 1,.int .i32 59]) (w.iter ⟨#[44,59,58]⟩ 2):=fun ty=>run_next_ascii w ⟨#[44,59,58]⟩ 1 ty (by decide) (by decide);have n2: ∀ty,(Instr.next (.pointer (some (Ad w.heap.size 0))) true ty).run prog (w.iter ⟨#[44,59,58]⟩ 2)= .ok (.tuple #[.bool true,Iv 2,.int .i32 58]) (w.iter ⟨#[44,59,58]⟩ 3):=fun ty=>run_next_ascii w ⟨#[44,59,58]⟩ 2 ty (by decide) (by decide);have n3: ∀ty,(Instr.next (.pointer (some (Ad w.heap.size 0))) true ty).run prog (w.iter ⟨#[44,59,58]⟩ 3)= .ok (.tuple #[.bool false]) (w.iter ⟨#[44,59,58]⟩ 3):=fun ty=>run_next_end w ⟨#[44,59,58]⟩ 3 ty (by decide);go_enter func117,ntmps117;go_wp2_with fail;refine wp_loop_rounds 4 ?_;rw[rounds_succ];go_wp2_with fail;rw[rounds_succ];go_wp2_with fail;rw[rounds_succ];go_wp2_with fail;rw[rounds_succ];go_wp2;go_ret;exact ⟨rfl,zA⟩
theorem S4 (n:Nat) (h0:128<=n) (h2:n<2048) (w:World):
 Calls prog 117 #[.string ⟨#[44,59,58]⟩,.int .i32 (n:Int)] w fun e w'=>e= .returned (Iv (-1))/\Below w.heap.size w w':=by
 have hg:(128:Int)<=(n:Int):=(by omega);have e1:((n:Int)==65533)=false:=(by simp;omega);have A3:Lib.validRune (n:Int)=true:=(by unfold Lib.validRune;simp;omega);have AB:=hid A3;clear A3;obtain ⟨x,y,A1,hy⟩:=S3 n h0 h2;have AL:=hid A1;clear A1;have A6:((((⟨#[44,59,58]⟩:ByteArray)[1]'(by decide)).toNat:Int) !=(((⟨#[x,y]⟩:ByteArray)[1]'(by decide:1<2)).toNat:Int))=true:=(by show ((59:Int) !=(y.toNat:Int))=true;simp;omega);have Hy:=hid hy;have AW:=hid A6;clear hy A6;go_enter func117,ntmps117;go_wp2_with fail;refine (utf8_ValidRune _ w).mono ?_;rintro e w1 ⟨rfl,rfl⟩;rw[AB.out];have A1:=AL.out;go_wp2_with fail
 go_step3
 go_wp2_with fail;refine wp_loop_rounds 1 ?_;rw[rounds_succ];go_wp2_with fail
 go_step3
 go_wp2_with fail;have hy:=Hy.out;have A6:=AW.out
 go_quiet (fail)
 go_wp2_with fail
 go_quiet ((go_at_call 58;exact B.quiet_add_same (PC x y hy _)))
 go_wp2_with fail;rw[Exit.noGoto_ret];go_wp2_with fail;rw[Exit.noGoto_ret];go_wp2
 go_ret;exact ⟨rfl,below_drewN' zB _⟩
theorem S5 (n:Nat) (h0:2048<=n) (h3:n<65536) (h1:n<55296∨57344<=n) (h4:n≠65533) (w:World):
 Calls prog 117 #[.string ⟨#[44,59,58]⟩,.int .i32 (n:Int)] w fun e w'=>e= .returned (Iv (-1))/\Below w.heap.size w w':=by
 have hg:(128:Int)<=(n:Int):=(by omega);have e1:((n:Int)==65533)=false:=(by simp;omega);have A3:Lib.validRune (n:Int)=true:=(by unfold Lib.validRune;simp;omega);have AB:=hid A3;clear A3;obtain ⟨x,y,z,A1,hz⟩:=O9 n h0 h3 h1;have AL:=hid A1;clear A1;have A6:((((⟨#[44,59,58]⟩:ByteArray)[2]'(by decide)).toNat:Int) !=(((⟨#[x,y,z]⟩:ByteArray)[2]'(by decide:2<3)).toNat:Int))=true:=(by show ((58:Int) !=(z.toNat:Int))=true;simp;omega);have Hy:=hid hz;have AW:=hid A6;clear hz A6;go_enter func117,ntmps117;go_wp2_with fail;refine (utf8_ValidRune _ w).mono ?_;rintro e w1 ⟨rfl,rfl⟩;rw[AB.out];have A1:=AL.out;go_wp2_with fail
 go_step3
 go_wp2_with fail;refine wp_loop_rounds 1 ?_;rw[rounds_succ];go_wp2_with fail
 go_step3
 go_wp2_with fail;have hz:=Hy.out;have A6:=AW.out
 go_quiet (fail)
 go_wp2_with fail
 go_quiet ((go_at_call 58;exact B.quiet_add_same (PD x y z hz _)))
 go_wp2_with fail;rw[Exit.noGoto_ret];go_wp2_with fail;rw[Exit.noGoto_ret];go_wp2
 go_ret;exact ⟨rfl,below_drewN' zB _⟩
theorem S6 (n:Nat) (h0:65536<=n) (h3:n<=1114111) (w:World):
 Calls prog 117 #[.string ⟨#[44,59,58]⟩,.int .i32 (n:Int)] w fun e w'=>e= .returned (Iv (-1))/\Below w.heap.size w w':=by
 have hg:(128:Int)<=(n:Int):=(by omega);have e1:((n:Int)==65533)=false:=(by simp;omega);have A3:Lib.validRune (n:Int)=true:=(by unfold Lib.validRune;simp;omega);have AB:=hid A3;clear A3;obtain ⟨x,y,z,u,A1⟩:=RO n (by omega) (by omega);have AL:=hid A1;clear A1;go_enter func117,ntmps117;go_wp2_with fail;refine (utf8_ValidRune _ w).mono ?_;rintro e w1 ⟨rfl,rfl⟩;rw[AB.out];have A1:=AL.out;go_wp2_with fail
 go_step3
 go_wp2_with fail;refine wp_loop_rounds 1 ?_;rw[rounds_succ];go_wp2_with fail;rw[Exit.noGoto_ret];go_wp2
 go_ret;exact ⟨rfl,zB⟩
theorem PE (n:Nat) (h0:128<=n) (h1:n<55296∨(57344<=n/\n<=1114111)) (w:World):
 Calls prog 117 #[.string ⟨#[44,59,58]⟩,.int .i32 (n:Int)] w fun e w'=>e= .returned (Iv (-1))/\Below w.heap.size w w':=by
 by_cases he:n=65533
 ·subst he;exact NT w
 by_cases h2:n<2048
 ·exact S4 n h0 h2 w
 by_cases h3:n<65536
 ·exact S5 n (by omega) h3 (by omega) he w
 ·exact S6 n (by omega) (by omega) w
theorem Dd {l:Str} {i:Nat} (h:i<l.length):(⟨l.toArray⟩:ByteArray).get! i=l[i]:=by simp[ByteArray.get!,getElem!_pos,h];first|rfl|skip
theorem RQ (l:Str) (i:Nat) (hi:i<l.length) (hh:128<=(l[i]).toNat):128<=(Utf8.decode ⟨l.toArray⟩ i).1/\((Utf8.decode ⟨l.toArray⟩ i).1<55296∨(57344<=(Utf8.decode ⟨l.toArray⟩ i).1/\(Utf8.decode ⟨l.toArray⟩ i).1<=1114111))/\1<=(Utf8.decode ⟨l.toArray⟩ i).2/\i+(Utf8.decode ⟨l.toArray⟩ i).2<=l.length
 /\(l.drop (i+(Utf8.decode ⟨l.toArray⟩ i).2)).any Eg=(l.drop i).any Eg:=by
 have B0:(⟨l.toArray⟩:ByteArray).size=l.length:=rfl;have hd:=Lib.decode_at ⟨l.toArray⟩ i;rw[B0,Dd hi] at hd;have h:=RP (l.length- i) (l[i]).toNat ((⟨l.toArray⟩:ByteArray).get! (i+1)).toNat ((⟨l.toArray⟩:ByteArray).get! (i+2)).toNat ((⟨l.toArray⟩:ByteArray).get! (i+3)).toNat hh (by omega);rw[<-hd] at h;obtain ⟨h1,h2,h3,h4,h5,h6,h7,h8⟩:=h;generalize (Utf8.decode ⟨l.toArray⟩ i).2=m at h3 h4 h5 h6 h7 h8⊢;refine ⟨h1,h2,h3,by omega, ?_⟩;have hs: ∀c:UInt8,128<=c.toNat->Eg c=false:=fun c hc=>(by unfold Eg;have a1:c≠44:=fun e=>(by rw[e] at hc;exact absurd hc (by decide));have a2:c≠59:=fun e=>(by rw[e] at hc;exact absurd hc (by decide));have a3:c≠58:=fun e=>(by rw[e] at hc;exact absurd hc (by decide));simp[a1,a2,a3]);have A0: ∀j,j<l.length->(∀h:j<l.length,128<=(l[j]).toNat)->(l.drop j).any Eg=(l.drop (j+1)).any Eg:=fun j hj DD=>(by rw[List.drop_eq_getElem_cons hj,List.any_cons,hs _ (DD hj),Bool.false_or]);rw[A0 i hi (fun _=>hh)];rcases (show m=1∨m=2∨m=3∨m=4 by omega) with rfl|rfl|rfl|rfl
 ·rfl
 ·rw[A0 (i+1) (by omega) (fun h=>by rw[<-Dd h];exact h6 (by omega))]
 ·rw[A0 (i+1) (by omega) (fun h=>by rw[<-Dd h];exact h6 (by omega)),A0 (i+1+1) (by omega) (fun h=>by rw[<-Dd h];exact h7 (by omega))]
 ·rw[A0 (i+1) (by omega) (fun h=>by rw[<-Dd h];exact h6 (by omega)),A0 (i+1+1) (by omega) (fun h=>by rw[<-Dd h];exact h7 (by omega)),A0 (i+1+1+1) (by omega) (fun h=>by rw[<-Dd h];exact h8 (by omega))]
theorem S7 (c:UInt8) (hc:c.toNat<128):decide (0<=Lib.indexByte [44,59,58] c)=Eg c:=by have: ∀c:Fin 256,decide (0<=Lib.indexByte [44,59,58] (UInt8.ofNat c.val))=Eg (UInt8.ofNat c.val):=(by decide+kernel);have h:=this ⟨c.toNat,c.toNat_lt⟩;simpa using h
def XJ (l:Str) (w:World) (e:Ending) (w':World):Prop:=(∃n:Int,e= .returned (Iv n)/\Hid (decide (0<=n)=l.any Eg))/\Below w.heap.size w w'
theorem NU (l:Str) (w:World) (hs:l.length<=8):Calls prog 195 #[Sv l,.string ⟨#[44,59,58]⟩] w (XJ l w):=by
 have DT:decide ((8:Int)<(l.length:Int))=false:=decide_eq_false (by omega);go_enter func195,ntmps195;go_wp2_with fail;refine (strings_shouldUseASCIISet _ _).mono ?_;rintro e w1 ⟨rfl,rfl⟩;rw[DT];go_wp2_with fail
 go_loopg [9,10] l.length (fun g _ _ wx=> ∃i:Nat,i<=l.length/\l.length- i<=g/\wx.heap[w1.heap.size]? =some (.stringIter ⟨l.toArray⟩ i)/\Below w1.heap.size w1 wx/\Hid (l.any Eg=(l.drop i).any Eg))
 case atStart=>exact ⟨0,by omega,by omega,World.iter_heap _ _ _,zA,hid rfl⟩
 case round=>
  obtain ⟨i,E3,E0,hit,hb,HX⟩:=hrel;have B0:(⟨l.toArray⟩:ByteArray).size=l.length:=rfl;by_cases hi:i<l.length
  ·cases gk with
   |zero=>exact absurd E0 (by omega)
   |succ g=>
    obtain ⟨c,hc,AN⟩: ∃c:UInt8,(∀h,(⟨l.toArray⟩:ByteArray)[i]'h=c)/\l[i]=c:=⟨l[i],fun _=>rfl,rfl⟩;have E9:w1.heap.size<wr.heap.size:=(Array.getElem?_eq_some_iff.1 hit).1;by_cases B1:c.toNat<128
    ·have A4:=fun ty=>Lib.run_next_ascii_at (P:=prog) wr w1.heap.size ⟨l.toArray⟩ i ty hit hi (by rw[hc];exact B1);rw[hc] at A4;have A7:=S7 c B1;have A8:=hid (show l.any Eg=(Eg c||(l.drop (i+1)).any Eg) by rw[HX.out,List.drop_eq_getElem_cons hi,List.any_cons,AN]);obtain ⟨W2,A2⟩: ∃W2,wr.iterAt w1.heap.size ⟨l.toArray⟩ (i+1)=W2:=⟨_,rfl⟩;have A5:W2.heap[w1.heap.size]? =some (.stringIter ⟨l.toArray⟩ (i+1)):=(by rw[<-A2];exact Lib.iterAt_heap _ _ _ _ _ hit);have A9:Below w1.heap.size w1 W2:=(by rw[<-A2];exact Lib.below_iterAt hb zL _ _);rw[A2] at A4;have HC:=hid AN;clear hc AN A2 HX hit hb;go_wp2_with fail;refine (strings_IndexRune_ascii _ _ _ (by omega) (by omega)).mono ?_;rintro e w2 ⟨rfl,rfl⟩;rw[show ((c.toNat:Int)).toNat.toUInt8=c from by simp];rw[show (⟨#[44,59,58]⟩:ByteArray).data.toList=[44,59,58] from rfl];obtain ⟨m,hm⟩: ∃m,Lib.indexByte [44,59,58] c=m:=⟨_,rfl⟩;rw[hm] at A7⊢;cases AV:Eg c with
     |true=>
      rw[AV] at A7 A8;have E1:0<=m:=of_decide_eq_true A7;clear A7 hm AV;go_wp2
      go_ret;exact ⟨⟨i,rfl,hid (by rw[A8.out,Bool.true_or];exact decide_eq_true (by omega))⟩,A9⟩
     |false=>
      rw[AV] at A7 A8;have E1: ¬0<=m:=of_decide_eq_false A7;clear A7 hm AV;go_wp2_with fail
      go_roundg g
      case measure=>omega
      case rel=>exact ⟨i+1,by omega,by omega,A5,A9,hid (by rw[A8.out,Bool.false_or])⟩
    ·have hd:=RQ l i hi (by rw[AN];omega);obtain ⟨rr,mm,B2⟩: ∃rr mm,Utf8.decode ⟨l.toArray⟩ i=(rr,mm):=⟨_,_,rfl⟩;rw[B2] at hd;obtain ⟨d1,d2,d3,d4,d5⟩:=hd;simp only at d1 d2 d3 d4 d5;have A4:=fun ty=>Lib.run_next_any_at (P:=prog) wr w1.heap.size ⟨l.toArray⟩ i ty hit hi;rw[B2] at A4;simp only at A4;have A8:=hid (HX.out.trans d5.symm);obtain ⟨W2,A2⟩: ∃W2,wr.iterAt w1.heap.size ⟨l.toArray⟩ (i+mm)=W2:=⟨_,rfl⟩;have A5:W2.heap[w1.heap.size]? =some (.stringIter ⟨l.toArray⟩ (i+mm)):=(by rw[<-A2];exact Lib.iterAt_heap _ _ _ _ _ hit);have A9:Below w1.heap.size w1 W2:=(by rw[<-A2];exact Lib.below_iterAt hb zL _ _);rw[A2] at A4;clear hc AN A2 HX hit hb d5 B2 B1;go_wp2_with fail;refine (PE rr d1 d2 _).mono ?_;rintro e w2 ⟨rfl,B3⟩;have DA:=(B3.block w1.heap.size (Array.getElem?_eq_some_iff.1 A5).1).trans A5;have E2:=A9.trans (B3.mono A9.size);clear B3 A5 A9 A4;go_wp2_with fail
     go_roundg g
     case measure=>omega
     case rel=>exact ⟨i+mm,by omega,by omega,DA,E2,A8⟩
  ·obtain rfl:i=l.length:=(by omega);have A4:=fun ty=>Lib.run_next_end_at (P:=prog) wr w1.heap.size ⟨l.toArray⟩ l.length ty hit (by rw[B0];omega);go_wp2;go_ret;exact ⟨⟨-1,rfl,hid (by rw[HX.out,List.drop_length];rfl)⟩,hb⟩
theorem Fa: ∀l:Str,decide (0<=Lib.indexAny l [44,59,58])=l.any Eg
 |[]=>rfl
 |b::l=>by
  have ih:=Fa l;have F1:=Lib.indexAny_ge [44,59,58] l;have hc:([44,59,58]:List UInt8).contains b=Eg b:=(by unfold Eg;simp only[List.contains_cons,List.contains_nil,Bool.or_false,Bool.or_assoc]);rw[Lib.indexAny,hc,List.any_cons];cases Eg b with
  |true=>rfl
  |false=>
   simp only[Bool.false_eq_true,if_false,Bool.false_or,<-ih];split
   ·rename_i h;have:=beq_iff_eq.1 h;rw[this]
   ·rename_i h;have h: ¬Lib.indexAny l [44,59,58]= -1:=(by simpa using h);exact decide_eq_decide.2 (by omega)
theorem XK:(prog.info? 296).map (fun i=>(i.zero,i.size))=some (some (.agg (Array.replicate 256 (.bool false))),256):=by kernel_rfl
theorem RR (l:Str) (w:World) (hs:l.length<=1073741824):Calls prog 195 #[Sv l,.string ⟨#[44,59,58]⟩] w (XJ l w):=by
 by_cases h8:l.length<=8
 ·exact NU l w h8
 ·refine (Any.strings_IndexAny_long lays153 (zero_of_info XK).1 (zero_of_info XK).2 ⟨l.toArray⟩ ⟨#[44,59,58]⟩ w (by decide) (show 8<l.length by omega) (show l.length<4294967281 by omega) (by decide) (fun j b hb=> ?_)).mono fun e w' hh=> ?_
  ·have:b∈([44,59,58]:List UInt8):=List.mem_of_getElem? hb;revert b;intro b _ hb;have h2: ∀c∈([44,59,58]:List UInt8),c.toNat<128:=(by decide);exact h2 b hb
  ·obtain ⟨rfl,rfl⟩:=hh;exact ⟨⟨_,rfl,hid (Fa l)⟩,zA.alloc (by simp) _⟩
theorem RS (l:Str) (w:World) (hs:l.length<=1073741824):Calls prog 140 #[Sv l,.string ⟨#[44,59,58]⟩] w fun e w'=>e= .returned (.bool (l.any Eg))/\Below w.heap.size w w':=by
 go_enter func140,ntmps140;go_wp2_with fail;refine (RR l _ hs).mono ?_;rintro e w1 ⟨⟨n,rfl,HN⟩,hb⟩;go_wp2
 go_ret;exact ⟨AD HN.out,hb⟩
end Go.Proofs.YtjhpdljphchfaaaGreatDoor
