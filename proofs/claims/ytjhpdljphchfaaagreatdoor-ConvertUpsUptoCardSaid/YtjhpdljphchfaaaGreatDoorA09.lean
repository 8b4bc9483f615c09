/- A part of the proof of ConvertUps: Package utf walked: May, Next (how many bytes), Bad (whether there is none). -/
import Derived.Test.YtjhpdljphchfaaaGreatDoorA07
import Derived.Laws.Bits64
set_option maxHeartbeats 40000000
set_option maxRecDepth 1000000
set_option linter.all false
namespace Go.Proofs.YtjhpdljphchfaaaGreatDoor
open Go.RowKit
open Go.Proofs.Tryz
theorem Bm (a:UInt8):wrap64 (a.toNat:Int)=a.toNat:=IntWalk.wrap64_in _ (by have:=a.toNat_lt;omega)
theorem wraps_i64 (n:Int) (h₀:0<=n) (h₁:n<2 ^ 63):IntKind.i64.wrap n=n:=by rw[IntKind.wrap_i64];omega
theorem Vf (x:Int) (h0:0<=x) (h1:x<2 ^ 63):bits .and .i64 x 31=x%32:=bits_mask .i64 63 (by decide) wraps_i64 5 (by decide) x h0 h1
theorem Vg (x:Int) (h0:0<=x) (h1:x<2 ^ 63):bits .and .i64 x 15=x%16:=bits_mask .i64 63 (by decide) wraps_i64 4 (by decide) x h0 h1
theorem XZ (x:Int) (h0:0<=x) (h1:x<2 ^ 63):bits .and .i64 x 7=x%8:=bits_mask .i64 63 (by decide) wraps_i64 3 (by decide) x h0 h1
theorem NF: ∀n:Fin 256,bits .and .u8 (n.val:Int) 63=((n.val%64:Nat):Int):=by decide+kernel
theorem ER (c:UInt8):bits .and .u8 (c.toNat:Int) 63=((c.toNat%64:Nat):Int):=NF ⟨c.toNat,c.toNat_lt⟩
theorem or64 (x y:Nat) (h1:x<2 ^ 40) (h3:y<64):bits .or .i64 ((x:Int)*64) (y:Int)=((x*64+y:Nat):Int):=by rw[bits_join .i64 63 (by decide) wraps_i64 6 ((x:Int)*64) y (by omega) (by simp) (by omega) (by omega) (by omega) (by omega)];omega
def MI (n:Nat):Bool:=decide (n<=1114111/\(n<55296∨57343<n))
theorem LF (n:Nat) (w:World):Calls prog 243 #[Iv n] w fun e w'=>e= .returned (.bool (MI n))/\w=w':=by
 rcases (show n<55296∨(55296<=n/\n<=57343)∨(57343<n/\n<=1114111)∨1114111<n by omega) with h|h|h|h;have H:=hid (show MI n=true from decide_eq_true (by omega));have h2:n<=1114111:=(by omega);rotate_left;have H:=hid (show MI n=false from decide_eq_false (by omega));have h2:n<=1114111:=(by omega);obtain ⟨h3,h4⟩:=h;rotate_left;have H:=hid (show MI n=true from decide_eq_true (by omega));obtain ⟨h3,h4⟩:=h;have h5:55296<=n:=(by omega);rotate_left;have H:=hid (show MI n=false from decide_eq_false (by omega));rotate_left;all_goals
  go_enter func243,ntmps243;go_wp2
  go_ret;exact ⟨AD (by first|(rw[H.out];done)|(rw[H.out];simp;omega)),rfl⟩
theorem Dk (a:UInt8) (l:Str):nx (a::l)=if Lib.decodeN (l.length+1) a.toNat (l.getD 0 0).toNat (l.getD 1 0).toNat (l.getD 2 0).toNat=(65533,1) then 0 else (Lib.decodeN (l.length+1) a.toNat (l.getD 0 0).toNat (l.getD 1 0).toNat (l.getD 2 0).toNat).2:=by simp[nx]
theorem Sc {a:UInt8} (h1:240<=a.toNat) (h2:a.toNat<248):wrap64 (a.toNat:Int)=a.toNat/\a.toNat<256/\128<=a.toNat/\((a.toNat:Int)/32==6)=false/\((a.toNat:Int)/16==14)=false/\((a.toNat:Int)/8==30)=true:=
 ⟨Bm a,a.toNat_lt,by omega,by simp;omega,by simp;omega,by simp;omega⟩
theorem VJ {a:UInt8} (_h:240<=a.toNat): ∃r,bits .and .i64 (a.toNat:Int) 7=((r:Nat):Int)/\r<8/\Hid (r=a.toNat%8):=
 ⟨_,by rw[XZ _ (by omega) (by have:=a.toNat_lt;omega)];omega,by omega,hid rfl⟩
theorem T9 {a:UInt8} (h1:224<=a.toNat) (h2:a.toNat<240):wrap64 (a.toNat:Int)=a.toNat/\a.toNat<256/\128<=a.toNat/\((a.toNat:Int)/32==6)=false/\((a.toNat:Int)/16==14)=true:=
 ⟨Bm a,a.toNat_lt,by omega,by simp;omega,by simp;omega⟩
theorem Vh {a:UInt8} (_h:224<=a.toNat): ∃r,bits .and .i64 (a.toNat:Int) 15=((r:Nat):Int)/\r<16/\Hid (r=a.toNat%16):=
 ⟨_,by rw[Vg _ (by omega) (by have:=a.toNat_lt;omega)];omega,by omega,hid rfl⟩
theorem Vi {a:UInt8} (h1:192<=a.toNat) (h2:a.toNat<224):wrap64 (a.toNat:Int)=a.toNat/\a.toNat<256/\128<=a.toNat/\((a.toNat:Int)/32==6)=true:=
 ⟨Bm a,a.toNat_lt,by omega,by simp;omega⟩
theorem XD {a:UInt8} (_h:192<=a.toNat): ∃r,bits .and .i64 (a.toNat:Int) 31=((r:Nat):Int)/\r<32/\Hid (r=a.toNat%32):=
 ⟨_,by rw[Vf _ (by omega) (by have:=a.toNat_lt;omega)];omega,by omega,hid rfl⟩
def DJ (l:Str) (w:World) (e:Ending) (w':World):Prop:=(∃r:Int,e= .returned (.tuple #[Iv r,Iv (nx l)]))/\w=w'
theorem C9 {l:Str} {w:World} {n:Nat} (r:Int) (h:nx l=n):DJ l w (.returned (.tuple #[Iv r,Iv n])) w:=⟨⟨r,by rw[h]⟩,rfl⟩
theorem Qk (w:World):Calls prog 223 #[.string ⟨([]:Str).toArray⟩] w (DJ [] w):=by
 go_enter func223,ntmps223;go_wp2
 go_ret2;exact C9 _ rfl
theorem Ql (a:UInt8) (l:Str) (w:World) (hs:l.length<=1073741824) (h:a.toNat<128):Calls prog 223 #[.string ⟨(a::l).toArray⟩] w (DJ (a::l) w):=by
 have A1: ∀h,(⟨(a::l).toArray⟩:ByteArray)[0]'h=a:=fun _=>rfl;have A2:=Bm a;have A0:=a.toNat_lt;have H:=hid (show nx (a::l)=1 by
  rw[Dk,Lib.decodeN]
  repeat' split
  all_goals first|rfl|(exfalso;omega)|(simp_all;done))
 go_enter func223,ntmps223;go_wp2
 go_ret2;exact C9 _ H.out
theorem Qm (a:UInt8) (l:Str) (w:World) (hs:l.length<=1073741824) (h:128<=a.toNat/\a.toNat<192∨248<=a.toNat):Calls prog 223 #[.string ⟨(a::l).toArray⟩] w (DJ (a::l) w):=by
 have A1: ∀h,(⟨(a::l).toArray⟩:ByteArray)[0]'h=a:=fun _=>rfl;have A2:=Bm a;have A0:=a.toNat_lt;have H:=hid (show nx (a::l)=0 by
  rw[Dk,Lib.decodeN]
  repeat' split
  all_goals first|rfl|(exfalso;omega)|(simp_all;done))
 have hh:=hid h;have g1:128<=a.toNat:=(by omega);have q1:((a.toNat:Int)/32==6)=false:=(by simp;omega);have q2:((a.toNat:Int)/16==14)=false:=(by simp;omega);have q3:((a.toNat:Int)/8==30)=false:=(by simp;omega);clear h;go_enter func223,ntmps223;go_wp2
 go_ret2;exact C9 _ H.out
theorem Jr (a:UInt8) (w:World) (h1:192<=a.toNat) (h2:a.toNat<224):Calls prog 223 #[.string ⟨(a::[]).toArray⟩] w (DJ (a::[]) w):=by
 have A1: ∀h,(⟨(a::[]).toArray⟩:ByteArray)[0]'h=a:=fun _=>rfl;have H:=hid (show nx (a::[])=0 by
  rw[Dk,Lib.decodeN];try simp only[List.getD_cons_zero,List.getD_cons_succ,List.length_cons]
  repeat' split
  all_goals first|rfl|(exfalso;omega)|(simp_all;done))
 obtain ⟨A2,A0,g1,q1⟩:=Vi h1 h2;go_enter func223,ntmps223;go_wp2
 go_ret2;exact C9 _ H.out
theorem LG (a b:UInt8) (l:Str) (w:World) (hs:l.length<=1073741824) (h1:192<=a.toNat) (h2:a.toNat<224) (hj:b.toNat/64≠2):Calls prog 223 #[.string ⟨(a::b::l).toArray⟩] w (DJ (a::b::l) w):=by
 have A1: ∀h,(⟨(a::b::l).toArray⟩:ByteArray)[0]'h=a:=fun _=>rfl;have A6: ∀h,(⟨(a::b::l).toArray⟩:ByteArray)[1]'h=b:=fun _=>rfl;have A4:=a.toNat_lt;have A5:=b.toNat_lt;have H:=hid (show nx (a::b::l)=0 by
  rw[Dk,Lib.decodeN];try simp only[List.getD_cons_zero,List.getD_cons_succ,List.length_cons]
  repeat' split
  all_goals first|rfl|(exfalso;omega)|(simp_all;done))
 obtain ⟨A2,A0,g1,q1⟩:=Vi h1 h2;obtain ⟨r0,E0,A7,R0⟩:=XD h1;have s1:((b.toNat:Int)/64 != 2)=true:=(by simp;omega);go_enter func223,ntmps223;go_wp2_with fail;refine wp_loop_rounds 1 ?_;rw[rounds_succ];go_wp2
 go_ret2;exact C9 _ H.out
theorem Js (a:UInt8) (w:World) (h1:224<=a.toNat) (h2:a.toNat<240):Calls prog 223 #[.string ⟨(a::[]).toArray⟩] w (DJ (a::[]) w):=by
 have A1: ∀h,(⟨(a::[]).toArray⟩:ByteArray)[0]'h=a:=fun _=>rfl;have H:=hid (show nx (a::[])=0 by
  rw[Dk,Lib.decodeN];try simp only[List.getD_cons_zero,List.getD_cons_succ,List.length_cons]
  repeat' split
  all_goals first|rfl|(exfalso;omega)|(simp_all;done))
 obtain ⟨A2,A0,g1,q1,q2⟩:=T9 h1 h2;go_enter func223,ntmps223;go_wp2
 go_ret2;exact C9 _ H.out
theorem Jt (a b:UInt8) (w:World) (h1:224<=a.toNat) (h2:a.toNat<240):Calls prog 223 #[.string ⟨(a::b::[]).toArray⟩] w (DJ (a::b::[]) w):=by
 have A1: ∀h,(⟨(a::b::[]).toArray⟩:ByteArray)[0]'h=a:=fun _=>rfl;have H:=hid (show nx (a::b::[])=0 by
  rw[Dk,Lib.decodeN];try simp only[List.getD_cons_zero,List.getD_cons_succ,List.length_cons]
  repeat' split
  all_goals first|rfl|(exfalso;omega)|(simp_all;done))
 obtain ⟨A2,A0,g1,q1,q2⟩:=T9 h1 h2;go_enter func223,ntmps223;go_wp2
 go_ret2;exact C9 _ H.out
theorem LH (a b c:UInt8) (l:Str) (w:World) (hs:l.length<=1073741824) (h1:224<=a.toNat) (h2:a.toNat<240) (hj:b.toNat/64≠2):Calls prog 223 #[.string ⟨(a::b::c::l).toArray⟩] w (DJ (a::b::c::l) w):=by
 have A1: ∀h,(⟨(a::b::c::l).toArray⟩:ByteArray)[0]'h=a:=fun _=>rfl;have A6: ∀h,(⟨(a::b::c::l).toArray⟩:ByteArray)[1]'h=b:=fun _=>rfl;have A4:=a.toNat_lt;have A5:=b.toNat_lt;have H:=hid (show nx (a::b::c::l)=0 by
  rw[Dk,Lib.decodeN];try simp only[List.getD_cons_zero,List.getD_cons_succ,List.length_cons]
  repeat' split
  all_goals first|rfl|(exfalso;omega)|(simp_all;done))
 obtain ⟨A2,A0,g1,q1,q2⟩:=T9 h1 h2;obtain ⟨r0,E0,A7,R0⟩:=Vh h1;have s1:((b.toNat:Int)/64 != 2)=true:=(by simp;omega);go_enter func223,ntmps223;go_wp2_with fail;refine wp_loop_rounds 1 ?_;rw[rounds_succ];go_wp2
 go_ret2;exact C9 _ H.out
theorem LI (a b c:UInt8) (l:Str) (w:World) (hs:l.length<=1073741824) (h1:224<=a.toNat) (h2:a.toNat<240) (hb:b.toNat/64=2) (hj:c.toNat/64≠2):Calls prog 223 #[.string ⟨(a::b::c::l).toArray⟩] w (DJ (a::b::c::l) w):=by
 have A1: ∀h,(⟨(a::b::c::l).toArray⟩:ByteArray)[0]'h=a:=fun _=>rfl;have A6: ∀h,(⟨(a::b::c::l).toArray⟩:ByteArray)[1]'h=b:=fun _=>rfl;have AL: ∀h,(⟨(a::b::c::l).toArray⟩:ByteArray)[2]'h=c:=fun _=>rfl;have A4:=a.toNat_lt;have A5:=b.toNat_lt;have A9:=c.toNat_lt;have H:=hid (show nx (a::b::c::l)=0 by
  rw[Dk,Lib.decodeN];try simp only[List.getD_cons_zero,List.getD_cons_succ,List.length_cons]
  repeat' split
  all_goals first|rfl|(exfalso;omega)|(simp_all;done))
 obtain ⟨A2,A0,g1,q1,q2⟩:=T9 h1 h2;obtain ⟨r0,E0,A7,R0⟩:=Vh h1;have s1:((b.toNat:Int)/64 != 2)=false:=(by simp;omega);have E1:=ER b;have F1:=or64 r0 (b.toNat%64) (by omega) (by omega);have s2:((c.toNat:Int)/64 != 2)=true:=(by simp;omega);go_enter func223,ntmps223;go_wp2_with fail;refine wp_loop_rounds 2 ?_;rw[rounds_succ];go_wp2_with fail;rw[rounds_succ];go_wp2
 go_ret2;exact C9 _ H.out
theorem Ju (a:UInt8) (w:World) (h1:240<=a.toNat) (h2:a.toNat<248):Calls prog 223 #[.string ⟨(a::[]).toArray⟩] w (DJ (a::[]) w):=by
 have A1: ∀h,(⟨(a::[]).toArray⟩:ByteArray)[0]'h=a:=fun _=>rfl;have H:=hid (show nx (a::[])=0 by
  rw[Dk,Lib.decodeN];try simp only[List.getD_cons_zero,List.getD_cons_succ,List.length_cons]
  repeat' split
  all_goals first|rfl|(exfalso;omega)|(simp_all;done))
 obtain ⟨A2,A0,g1,q1,q2,q3⟩:=Sc h1 h2;go_enter func223,ntmps223;go_wp2
 go_ret2;exact C9 _ H.out
theorem Jv (a b:UInt8) (w:World) (h1:240<=a.toNat) (h2:a.toNat<248):Calls prog 223 #[.string ⟨(a::b::[]).toArray⟩] w (DJ (a::b::[]) w):=by
 have A1: ∀h,(⟨(a::b::[]).toArray⟩:ByteArray)[0]'h=a:=fun _=>rfl;have H:=hid (show nx (a::b::[])=0 by
  rw[Dk,Lib.decodeN];try simp only[List.getD_cons_zero,List.getD_cons_succ,List.length_cons]
  repeat' split
  all_goals first|rfl|(exfalso;omega)|(simp_all;done))
 obtain ⟨A2,A0,g1,q1,q2,q3⟩:=Sc h1 h2;go_enter func223,ntmps223;go_wp2
 go_ret2;exact C9 _ H.out
theorem Jw (a b c:UInt8) (w:World) (h1:240<=a.toNat) (h2:a.toNat<248):Calls prog 223 #[.string ⟨(a::b::c::[]).toArray⟩] w (DJ (a::b::c::[]) w):=by
 have A1: ∀h,(⟨(a::b::c::[]).toArray⟩:ByteArray)[0]'h=a:=fun _=>rfl;have H:=hid (show nx (a::b::c::[])=0 by
  rw[Dk,Lib.decodeN];try simp only[List.getD_cons_zero,List.getD_cons_succ,List.length_cons]
  repeat' split
  all_goals first|rfl|(exfalso;omega)|(simp_all;done))
 obtain ⟨A2,A0,g1,q1,q2,q3⟩:=Sc h1 h2;go_enter func223,ntmps223;go_wp2
 go_ret2;exact C9 _ H.out
theorem LJ (a b c d:UInt8) (l:Str) (w:World) (hs:l.length<=1073741824) (h1:240<=a.toNat) (h2:a.toNat<248) (hj:b.toNat/64≠2):Calls prog 223 #[.string ⟨(a::b::c::d::l).toArray⟩] w (DJ (a::b::c::d::l) w):=by
 have A1: ∀h,(⟨(a::b::c::d::l).toArray⟩:ByteArray)[0]'h=a:=fun _=>rfl;have A6: ∀h,(⟨(a::b::c::d::l).toArray⟩:ByteArray)[1]'h=b:=fun _=>rfl;have A4:=a.toNat_lt;have A5:=b.toNat_lt;have H:=hid (show nx (a::b::c::d::l)=0 by
  rw[Dk,Lib.decodeN];try simp only[List.getD_cons_zero,List.getD_cons_succ,List.length_cons]
  repeat' split
  all_goals first|rfl|(exfalso;omega)|(simp_all;done))
 obtain ⟨A2,A0,g1,q1,q2,q3⟩:=Sc h1 h2;obtain ⟨r0,E0,A7,R0⟩:=VJ h1;have s1:((b.toNat:Int)/64 != 2)=true:=(by simp;omega);go_enter func223,ntmps223;go_wp2_with fail;refine wp_loop_rounds 1 ?_;rw[rounds_succ];go_wp2
 go_ret2;exact C9 _ H.out
theorem LK (a b c d:UInt8) (l:Str) (w:World) (hs:l.length<=1073741824) (h1:240<=a.toNat) (h2:a.toNat<248) (hb:b.toNat/64=2) (hj:c.toNat/64≠2):Calls prog 223 #[.string ⟨(a::b::c::d::l).toArray⟩] w (DJ (a::b::c::d::l) w):=by
 have A1: ∀h,(⟨(a::b::c::d::l).toArray⟩:ByteArray)[0]'h=a:=fun _=>rfl;have A6: ∀h,(⟨(a::b::c::d::l).toArray⟩:ByteArray)[1]'h=b:=fun _=>rfl;have AL: ∀h,(⟨(a::b::c::d::l).toArray⟩:ByteArray)[2]'h=c:=fun _=>rfl;have A4:=a.toNat_lt;have A5:=b.toNat_lt;have A9:=c.toNat_lt;have H:=hid (show nx (a::b::c::d::l)=0 by
  rw[Dk,Lib.decodeN];try simp only[List.getD_cons_zero,List.getD_cons_succ,List.length_cons]
  repeat' split
  all_goals first|rfl|(exfalso;omega)|(simp_all;done))
 obtain ⟨A2,A0,g1,q1,q2,q3⟩:=Sc h1 h2;obtain ⟨r0,E0,A7,R0⟩:=VJ h1;have s1:((b.toNat:Int)/64 != 2)=false:=(by simp;omega);have E1:=ER b;have F1:=or64 r0 (b.toNat%64) (by omega) (by omega);have s2:((c.toNat:Int)/64 != 2)=true:=(by simp;omega);go_enter func223,ntmps223;go_wp2_with fail;refine wp_loop_rounds 2 ?_;rw[rounds_succ];go_wp2_with fail;rw[rounds_succ];go_wp2
 go_ret2;exact C9 _ H.out
theorem LM (a b c d:UInt8) (l:Str) (w:World) (hs:l.length<=1073741824) (h1:240<=a.toNat) (h2:a.toNat<248) (hb:b.toNat/64=2) (hc:c.toNat/64=2) (hj:d.toNat/64≠2):Calls prog 223 #[.string ⟨(a::b::c::d::l).toArray⟩] w (DJ (a::b::c::d::l) w):=by
 have A1: ∀h,(⟨(a::b::c::d::l).toArray⟩:ByteArray)[0]'h=a:=fun _=>rfl;have A6: ∀h,(⟨(a::b::c::d::l).toArray⟩:ByteArray)[1]'h=b:=fun _=>rfl;have AL: ∀h,(⟨(a::b::c::d::l).toArray⟩:ByteArray)[2]'h=c:=fun _=>rfl;have B1: ∀h,(⟨(a::b::c::d::l).toArray⟩:ByteArray)[3]'h=d:=fun _=>rfl;have A4:=a.toNat_lt;have A5:=b.toNat_lt;have A9:=c.toNat_lt;have AN:=d.toNat_lt;have H:=hid (show nx (a::b::c::d::l)=0 by
  rw[Dk,Lib.decodeN];try simp only[List.getD_cons_zero,List.getD_cons_succ,List.length_cons]
  repeat' split
  all_goals first|rfl|(exfalso;omega)|(simp_all;done))
 obtain ⟨A2,A0,g1,q1,q2,q3⟩:=Sc h1 h2;obtain ⟨r0,E0,A7,R0⟩:=VJ h1;have s1:((b.toNat:Int)/64 != 2)=false:=(by simp;omega);have E1:=ER b;have F1:=or64 r0 (b.toNat%64) (by omega) (by omega);have s2:((c.toNat:Int)/64 != 2)=false:=(by simp;omega);have E2:=ER c;have F2:=or64 (r0*64+b.toNat%64) (c.toNat%64) (by omega) (by omega);have s3:((d.toNat:Int)/64 != 2)=true:=(by simp;omega);go_enter func223,ntmps223;go_wp2_with fail;refine wp_loop_rounds 3 ?_;rw[rounds_succ];go_wp2_with fail;rw[rounds_succ];go_wp2_with fail;rw[rounds_succ];go_wp2
 go_ret2;exact C9 _ H.out
theorem OM (a b:UInt8) (l:Str) (w:World) (hs:l.length<=1073741824) (h1:192<=a.toNat) (h2:a.toNat<224) (hb:b.toNat/64=2):Calls prog 223 #[.string ⟨(a::b::l).toArray⟩] w (DJ (a::b::l) w):=by
 have A1: ∀h,(⟨(a::b::l).toArray⟩:ByteArray)[0]'h=a:=fun _=>rfl;have A6: ∀h,(⟨(a::b::l).toArray⟩:ByteArray)[1]'h=b:=fun _=>rfl;have A4:=a.toNat_lt;have A5:=b.toNat_lt;have H1:=hid (show nx (a::b::l)=if (a.toNat%32)*64+b.toNat%64<128∨MI ((a.toNat%32)*64+b.toNat%64)=false then 0 else 2 by
  simp only[MI,decide_eq_false_iff_not];rw[Dk,Lib.decodeN];try simp only[List.getD_cons_zero,List.getD_cons_succ,List.length_cons]
  repeat' split
  all_goals first|rfl|(exfalso;omega)|(simp_all;done))
 obtain ⟨A2,A0,g1,q1⟩:=Vi h1 h2;obtain ⟨r0,E0,A7,R0⟩:=XD h1;have s1:((b.toNat:Int)/64 != 2)=false:=(by simp;omega);have E1:=ER b;obtain ⟨x1,X1⟩: ∃x,x=b.toNat%64:=⟨_,rfl⟩;rw[<-X1] at E1;have X1b:x1<64:=(by omega);obtain ⟨R,Y1⟩: ∃r,r=r0*64+x1:=⟨_,rfl⟩;have F1:=or64 r0 x1 (by omega) (by omega);rw[<-Y1] at F1;have AB:R<2097152:=(by omega);have A8:(a.toNat%32)*64+b.toNat%64=R:=(by have:=R0.out;omega);have H2:=H1.out;rw[A8] at H2;have H:=hid H2;clear H1 H2 A8 Y1 X1;by_cases k1:R<128
 ·have HN:=hid (show nx (a::b::l)=0 by rw[H.out,if_pos (.inl k1)]);clear H;go_enter func223,ntmps223;go_wp2_with fail;refine wp_loop_rounds 2 ?_;rw[rounds_succ];go_wp2_with fail;rw[rounds_succ];go_wp2
  go_ret2;exact C9 _ HN.out
 ·have k2:128<=R:=(by omega);cases hm:MI R
  case' false=>
   have HN:=hid (show nx (a::b::l)=0 by rw[H.out,if_pos (.inr hm)])
  case' true=>
   have HN:=hid (show nx (a::b::l)=2 by rw[H.out,if_neg (by rw[hm];simp;exact k2)])
  all_goals
   have HM:=hid hm;clear H hm k1;go_enter func223,ntmps223;go_wp2_with fail;refine wp_loop_rounds 2 ?_;rw[rounds_succ];go_wp2_with fail;rw[rounds_succ];go_wp2_with fail;refine (LF R _).mono ?_;rintro e w1 ⟨rfl,rfl⟩;rw[HM.out];clear AB k2 F1 E1 s1 X1b;go_wp2
   go_ret2;exact C9 _ HN.out
theorem ON (a b c:UInt8) (l:Str) (w:World) (hs:l.length<=1073741824) (h1:224<=a.toNat) (h2:a.toNat<240) (hb:b.toNat/64=2) (hc:c.toNat/64=2):Calls prog 223 #[.string ⟨(a::b::c::l).toArray⟩] w (DJ (a::b::c::l) w):=by
 have A1: ∀h,(⟨(a::b::c::l).toArray⟩:ByteArray)[0]'h=a:=fun _=>rfl;have A6: ∀h,(⟨(a::b::c::l).toArray⟩:ByteArray)[1]'h=b:=fun _=>rfl;have AL: ∀h,(⟨(a::b::c::l).toArray⟩:ByteArray)[2]'h=c:=fun _=>rfl;have A4:=a.toNat_lt;have A5:=b.toNat_lt;have A9:=c.toNat_lt;have H1:=hid (show nx (a::b::c::l)=if ((a.toNat%16)*64+b.toNat%64)*64+c.toNat%64<2048∨MI (((a.toNat%16)*64+b.toNat%64)*64+c.toNat%64)=false then 0 else 3 by
  simp only[MI,decide_eq_false_iff_not];rw[Dk,Lib.decodeN];try simp only[List.getD_cons_zero,List.getD_cons_succ,List.length_cons]
  repeat' split
  all_goals first|rfl|(exfalso;omega)|(simp_all;done))
 obtain ⟨A2,A0,g1,q1,q2⟩:=T9 h1 h2;obtain ⟨r0,E0,A7,R0⟩:=Vh h1;have s1:((b.toNat:Int)/64 != 2)=false:=(by simp;omega);have E1:=ER b;obtain ⟨x1,X1⟩: ∃x,x=b.toNat%64:=⟨_,rfl⟩;rw[<-X1] at E1;have X1b:x1<64:=(by omega);obtain ⟨r1,Y1⟩: ∃r,r=r0*64+x1:=⟨_,rfl⟩;have F1:=or64 r0 x1 (by omega) (by omega);rw[<-Y1] at F1;have Y1b:r1<2097152:=(by omega);have s2:((c.toNat:Int)/64 != 2)=false:=(by simp;omega);have E2:=ER c;obtain ⟨x2,X2⟩: ∃x,x=c.toNat%64:=⟨_,rfl⟩;rw[<-X2] at E2;have X2b:x2<64:=(by omega);obtain ⟨R,Y2⟩: ∃r,r=r1*64+x2:=⟨_,rfl⟩;have F2:=or64 r1 x2 (by omega) (by omega);rw[<-Y2] at F2;have AB:R<2097152:=(by omega);have A8:((a.toNat%16)*64+b.toNat%64)*64+c.toNat%64=R:=(by have:=R0.out;omega);have H2:=H1.out;rw[A8] at H2;have H:=hid H2;clear H1 H2 A8 Y1 X1 Y2 X2;by_cases k1:R<2048
 ·have HN:=hid (show nx (a::b::c::l)=0 by rw[H.out,if_pos (.inl k1)]);clear H;go_enter func223,ntmps223;go_wp2_with fail;refine wp_loop_rounds 3 ?_;rw[rounds_succ];go_wp2_with fail;rw[rounds_succ];go_wp2_with fail;rw[rounds_succ];go_wp2
  go_ret2;exact C9 _ HN.out
 ·have k2:2048<=R:=(by omega);cases hm:MI R
  case' false=>
   have HN:=hid (show nx (a::b::c::l)=0 by rw[H.out,if_pos (.inr hm)])
  case' true=>
   have HN:=hid (show nx (a::b::c::l)=3 by rw[H.out,if_neg (by rw[hm];simp;exact k2)])
  all_goals
   have HM:=hid hm;clear H hm k1;go_enter func223,ntmps223;go_wp2_with fail;refine wp_loop_rounds 3 ?_;rw[rounds_succ];go_wp2_with fail;rw[rounds_succ];go_wp2_with fail;rw[rounds_succ];go_wp2_with fail;refine (LF R _).mono ?_;rintro e w1 ⟨rfl,rfl⟩;rw[HM.out];clear AB k2 F1 E1 s1 X1b F2 E2 s2 X2b Y1b;go_wp2
   go_ret2;exact C9 _ HN.out
theorem OO (a b c d:UInt8) (l:Str) (w:World) (hs:l.length<=1073741824) (h1:240<=a.toNat) (h2:a.toNat<248) (hb:b.toNat/64=2) (hc:c.toNat/64=2) (hd:d.toNat/64=2):Calls prog 223 #[.string ⟨(a::b::c::d::l).toArray⟩] w (DJ (a::b::c::d::l) w):=by
 have A1: ∀h,(⟨(a::b::c::d::l).toArray⟩:ByteArray)[0]'h=a:=fun _=>rfl;have A6: ∀h,(⟨(a::b::c::d::l).toArray⟩:ByteArray)[1]'h=b:=fun _=>rfl;have AL: ∀h,(⟨(a::b::c::d::l).toArray⟩:ByteArray)[2]'h=c:=fun _=>rfl;have B1: ∀h,(⟨(a::b::c::d::l).toArray⟩:ByteArray)[3]'h=d:=fun _=>rfl;have A4:=a.toNat_lt;have A5:=b.toNat_lt;have A9:=c.toNat_lt;have AN:=d.toNat_lt;have H1:=hid (show nx (a::b::c::d::l)=if (((a.toNat%8)*64+b.toNat%64)*64+c.toNat%64)*64+d.toNat%64<65536∨MI ((((a.toNat%8)*64+b.toNat%64)*64+c.toNat%64)*64+d.toNat%64)=false then 0 else 4 by
  simp only[MI,decide_eq_false_iff_not];rw[Dk,Lib.decodeN];try simp only[List.getD_cons_zero,List.getD_cons_succ,List.length_cons]
  repeat' split
  all_goals first|rfl|(exfalso;omega)|(simp_all;done))
 obtain ⟨A2,A0,g1,q1,q2,q3⟩:=Sc h1 h2;obtain ⟨r0,E0,A7,R0⟩:=VJ h1;have s1:((b.toNat:Int)/64 != 2)=false:=(by simp;omega);have E1:=ER b;obtain ⟨x1,X1⟩: ∃x,x=b.toNat%64:=⟨_,rfl⟩;rw[<-X1] at E1;have X1b:x1<64:=(by omega);obtain ⟨r1,Y1⟩: ∃r,r=r0*64+x1:=⟨_,rfl⟩;have F1:=or64 r0 x1 (by omega) (by omega);rw[<-Y1] at F1;have Y1b:r1<2097152:=(by omega);have s2:((c.toNat:Int)/64 != 2)=false:=(by simp;omega);have E2:=ER c;obtain ⟨x2,X2⟩: ∃x,x=c.toNat%64:=⟨_,rfl⟩;rw[<-X2] at E2;have X2b:x2<64:=(by omega);obtain ⟨r2,Y2⟩: ∃r,r=r1*64+x2:=⟨_,rfl⟩;have F2:=or64 r1 x2 (by omega) (by omega);rw[<-Y2] at F2;have Y2b:r2<2097152:=(by omega);have s3:((d.toNat:Int)/64 != 2)=false:=(by simp;omega);have E3:=ER d;obtain ⟨x3,X3⟩: ∃x,x=d.toNat%64:=⟨_,rfl⟩;rw[<-X3] at E3;have X3b:x3<64:=(by omega);obtain ⟨R,Y3⟩: ∃r,r=r2*64+x3:=⟨_,rfl⟩;have F3:=or64 r2 x3 (by omega) (by omega);rw[<-Y3] at F3;have AB:R<2097152:=(by omega);have A8:(((a.toNat%8)*64+b.toNat%64)*64+c.toNat%64)*64+d.toNat%64=R:=(by have:=R0.out;omega);have H2:=H1.out;rw[A8] at H2;have H:=hid H2;clear H1 H2 A8 Y1 X1 Y2 X2 Y3 X3;by_cases k1:R<65536
 ·have HN:=hid (show nx (a::b::c::d::l)=0 by rw[H.out,if_pos (.inl k1)]);clear H;go_enter func223,ntmps223;go_wp2_with fail;refine wp_loop_rounds 4 ?_;iterate 4
   rw[rounds_succ];go_wp2
  go_ret2;exact C9 _ HN.out
 ·have k2:65536<=R:=(by omega);cases hm:MI R
  case' false=>
   have HN:=hid (show nx (a::b::c::d::l)=0 by rw[H.out,if_pos (.inr hm)])
  case' true=>
   have HN:=hid (show nx (a::b::c::d::l)=4 by rw[H.out,if_neg (by rw[hm];simp;exact k2)])
  all_goals
   have HM:=hid hm;clear H hm k1;go_enter func223,ntmps223;go_wp2_with fail;refine wp_loop_rounds 4 ?_;iterate 4
    rw[rounds_succ];go_wp2_with fail
   refine (LF R _).mono ?_;rintro e w1 ⟨rfl,rfl⟩;rw[HM.out];clear AB k2 F1 E1 s1 X1b F2 E2 s2 X2b F3 E3 s3 X3b Y1b Y2b;go_wp2
   go_ret2;exact C9 _ HN.out
theorem Qn (l:Str) (w:World) (hs:l.length<=1073741824):Calls prog 223 #[Sv l] w (DJ l w):=by
 match l with
 |[]=>exact Qk w
 |a::l=>
  have A3:l.length<=1073741824:=(by simp at hs;omega);rcases (show a.toNat<128∨(128<=a.toNat/\a.toNat<192∨248<=a.toNat)∨(192<=a.toNat/\a.toNat<224)∨(224<=a.toNat/\a.toNat<240)∨(240<=a.toNat/\a.toNat<248) by omega) with h|h|⟨h1,h2⟩|⟨h1,h2⟩|⟨h1,h2⟩
  ·exact Ql a l w A3 h
  ·exact Qm a l w A3 h
  ·match l with
   |[]=>exact Jr a w h1 h2
   |b::l=>
    have A3:l.length<=1073741824:=(by simp at hs;omega);by_cases hb:b.toNat/64=2
    ·exact OM a b l w A3 h1 h2 hb
    ·exact LG a b l w A3 h1 h2 hb
  ·match l with
   |[]=>exact Js a w h1 h2
   |[b]=>exact Jt a b w h1 h2
   |b::c::l=>
    have A3:l.length<=1073741824:=(by simp at hs;omega);by_cases hb:b.toNat/64=2
    ·by_cases hc:c.toNat/64=2
     ·exact ON a b c l w A3 h1 h2 hb hc
     ·exact LI a b c l w A3 h1 h2 hb hc
    ·exact LH a b c l w A3 h1 h2 hb
  ·match l with
   |[]=>exact Ju a w h1 h2
   |[b]=>exact Jv a b w h1 h2
   |[b,c]=>exact Jw a b c w h1 h2
   |b::c::d::l=>
    have A3:l.length<=1073741824:=(by simp at hs;omega);by_cases hb:b.toNat/64=2
    ·by_cases hc:c.toNat/64=2
     ·by_cases hd:d.toNat/64=2
      ·exact OO a b c d l w A3 h1 h2 hb hc hd
      ·exact LM a b c d l w A3 h1 h2 hb hc hd
     ·exact LK a b c d l w A3 h1 h2 hb hc
    ·exact LJ a b c d l w A3 h1 h2 hb
theorem UA (l:Str):nx l<=l.length:=by
 match l with
 |[]=>simp[nx]
 |a::l=>
  rw[Dk];generalize l.getD 0 0=x;generalize l.getD 1 0=y;generalize l.getD 2 0=z;unfold Lib.decodeN;simp only[List.length_cons]
  repeat' split
  all_goals first|omega|(simp_all;done)|(simp_all;omega)
theorem NG {n:Nat} {l:Str} (h:l.length<=n) (hl:l≠[]):GF n l=(nx l != 0&&GF (l.drop (nx l)).length (l.drop (nx l))):=by
 have key: ∀(n m:Nat) (l:Str),l.length<=n->l.length<=m->GF n l=GF m l:=by
  intro n
  induction n with
  |zero=>
   intro m l h1 h2;have:l=[]:=List.eq_nil_of_length_eq_zero (by omega);subst this;cases m<;>simp[GF]
  |succ n ih=>
   intro m l h1 h2;cases m with
   |zero=>
    have:l=[]:=List.eq_nil_of_length_eq_zero (by omega);subst this;simp[GF]
   |succ m=>
    unfold GF;cases hn:nx l with
    |zero=>simp
    |succ k=>
     rw[ih m (l.drop (k+1)) (by rw[List.length_drop];omega) (by rw[List.length_drop];omega)]
 match n with
 |0=>exact absurd (List.eq_nil_of_length_eq_zero (by omega)) hl
 |n+1=>
  have he:l.isEmpty=false:=(by simpa using hl);rw[show GF (n+1) l=(l.isEmpty||(nx l != 0&&GF n (l.drop (nx l)))) from rfl,he,Bool.false_or];cases hn:nx l with
  |zero=>simp
  |succ k=>rw[key n (l.drop (k+1)).length (l.drop (k+1)) (by rw[List.length_drop];omega) zL]
theorem Hw {l:Str} (hl:l≠[]):B4 l=(nx l != 0&&B4 (l.drop (nx l))):=NG zL hl
theorem bad_any (l:Str) (w:World) (hs:l.length<=1073741824):Calls prog 188 #[Sv l] w fun e w'=>(∃n:Int,e= .returned (Iv n)/\Hid (decide (n<0)=B4 l)/\(n= -1∨0<=n))/\w=w':=by
 go_enter func188,ntmps188;go_wp2
 go_loop [3,4,5] (fun i _ _=> ∃k:Nat,i=Iv k/\k<=l.length/\Hid (B4 (l.drop k)=B4 l)) (fun i _ _=>l.length-(intOf i).toNat)
 case atStart=>exact ⟨0,rfl,by omega,hid rfl⟩
 case round=>
  obtain ⟨k,rfl,hk,HF⟩:=hrel;by_cases A0:k<l.length
  ·have e1:(⟨l.toArray⟩:ByteArray).extract k l.length=⟨(l.drop k).toArray⟩:=(by rw[ba_cut,List.take_of_length_le (by rw[List.length_drop];omega)]);have AV:l.drop k≠[]:=by
    intro e;have:=congrArg List.length e;rw[List.length_drop,List.length_nil] at this;omega
   have AW:=Hw AV;have B0:=UA (l.drop k);rw[List.length_drop] at B0;have HS:=hid AW;have E1:=hid e1;clear AW AV e1;go_wp2_with fail;rw[E1.out];refine (Qn (l.drop k) _ (by rw[List.length_drop];omega)).mono ?_;rintro e w1 ⟨⟨r,rfl⟩,rfl⟩;obtain ⟨n,hn⟩: ∃n,n=nx (l.drop k):=⟨_,rfl⟩;rw[<-hn] at B0⊢;have HN:=hid hn;clear hn;by_cases hz:n=0
   ·subst hz;have HG:=hid (show B4 l=false by rw[<-HF.out,HS.out,<-HN.out];rfl);clear HF HS HN E1;go_wp2
    go_ret;exact ⟨⟨k,rfl,hid (by rw[HG.out];simp),.inr (by omega)⟩,rfl⟩
   ·have B3:((n:Int)==0)=false:=(by simpa using hz);have HG:=hid (show B4 (l.drop (k+n))=B4 l by
     rw[<-HF.out,HS.out,<-HN.out,List.drop_drop];have:(n != 0)=true:=(by simpa using hz);rw[this,Bool.true_and])
    have DA:0<n:=(by omega);clear HF HS HN E1 hz;go_wp2
    go_round
    case rel=>exact ⟨k+n,by go_num,by omega,HG⟩
    case measure=>simp[intOf];omega
  ·have B2:k=l.length:=(by omega);subst B2;have HG:=hid (show B4 l=true by rw[<-HF.out,List.drop_length];rfl);clear HF;go_wp2
   go_ret;exact ⟨⟨-1,rfl,hid (by rw[HG.out];rfl),.inl rfl⟩,rfl⟩
end Go.Proofs.YtjhpdljphchfaaaGreatDoor
