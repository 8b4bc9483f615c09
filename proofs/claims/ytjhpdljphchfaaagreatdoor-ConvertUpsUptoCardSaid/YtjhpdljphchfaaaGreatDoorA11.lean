/- A part of the proof of ConvertUps: when.form, Days, within, digits of the program; which, Days of the reference walked. -/
import Derived.Test.YtjhpdljphchfaaaGreatDoorA10
set_option maxHeartbeats 40000000
set_option maxRecDepth 1000000
set_option linter.all false
namespace Go.Proofs.YtjhpdljphchfaaaGreatDoor
open Go.RowKit
open Go.Proofs.Tryz
def fb (x:Bool):UInt8:=if x then 57 else 45
theorem Bu (a b c:Int):BO a b c=[fb (a != -1),fb (b != -1),fb (c != -1)]:=by
 have h: ∀n:Int,(if n= -1 then (45:UInt8) else 57)=fb (n != -1):=by
  intro n;by_cases e:n= -1
  ·subst e;rfl
  ·rw[if_neg e,show (n != -1)=true by simpa using e];rfl
 simp only[BO,List.map_cons,List.map_nil,h]
theorem X7 (w:World):(Instr.makeSlice 113 (Iv 3) (Iv 3)).run prog w= .ok (.slice (some (Ad w.heap.size 0)) 3 3) (w.alloc (.cells #[.int .u8 0,.int .u8 0,.int .u8 0] 5)):=by kernel_rfl
theorem Vk (x y z:UInt8) (w:World):(convert 113 9 (.slice (some (Ad w.heap.size 0)) 3 3)).run prog (w.alloc (.cells #[.int .u8 x.toNat,.int .u8 y.toNat,.int .u8 z.toNat] 5))= .ok (.string ⟨[x,y,z].toArray⟩) (w.alloc (.cells #[.int .u8 x.toNat,.int .u8 y.toNat,.int .u8 z.toNat] 5)):=by have h:Buf (w.alloc (.cells #[.int .u8 x.toNat,.int .u8 y.toNat,.int .u8 z.toNat] 5)) w.heap.size [x,y,z]:=⟨by simp,fun j hj=>by have:j=0∨j=1∨j=2:=(by simp at hj;omega);rcases this with rfl|rfl|rfl<;>simp,fun j hj=>by simp[World.frozen?,World.alloc, -World.alloc_eq]⟩;exact h.text 3 113 underlying113
theorem OX (x:Bool):((fb x).toNat:Int)=bif x then 57 else 45:=by cases x<;>rfl
theorem UH (x y z:Bool) (w:World):(convert 113 9 (.slice (some (Ad w.heap.size 0)) 3 3)).run prog (w.alloc (.cells #[.int .u8 (bif x then 57 else 45),.int .u8 (bif y then 57 else 45),.int .u8 (bif z then 57 else 45)] 5))= .ok (.string ⟨[fb x,fb y,fb z].toArray⟩) (w.alloc (.cells #[.int .u8 (bif x then 57 else 45),.int .u8 (bif y then 57 else 45),.int .u8 (bif z then 57 else 45)] 5)):=by have h:=Vk (fb x) (fb y) (fb z) w;rw[OX,OX,OX] at h;exact h
theorem ED (a b c:Int) (B:Nat) (w:World) (h0:w.cell? (Ad B 0)=some (Iv a)) (h1:w.cell? (Ad B 1)=some (Iv b)) (h2:w.cell? (Ad B 2)=some (Iv c)) (hB:B<w.heap.size):
 Calls prog 189 #[.slice (some (Ad B 0)) 3 3] w fun e w'=>e= .returned (.string ⟨(BO a b c).toArray⟩)/\Below w.heap.size w w':=by
 have HF:=hid (Bu a b c);have A3:=X7 w;obtain ⟨x,hx⟩: ∃x,(a != -1)=x:=⟨_,rfl⟩;obtain ⟨y,hy⟩: ∃y,(b != -1)=y:=⟨_,rfl⟩;obtain ⟨z,hz⟩: ∃z,(c != -1)=z:=⟨_,rfl⟩;rw[hx,hy,hz] at HF;have ht:=UH x y z w;cases x<;>cases y<;>cases z<;>
 (simp only[cond_true,cond_false] at ht
  go_enter func189,ntmps189;go_wp2_with fail;refine wp_loop_rounds 4 ?_;rw[rounds_succ];go_wp2_with fail;rw[rounds_succ];go_wp2_with fail;rw[rounds_succ];go_wp2_with fail;rw[rounds_succ];go_wp2
  go_ret;exact ⟨CZ (by rw[HF.out]),zA⟩)
theorem X8 (y:Int) (k:Int):(y.tmod k=0)↔y%k=0:=by rw[<-Int.dvd_iff_tmod_eq_zero,<-Int.dvd_iff_emod_eq_zero]
theorem X9 (y k:Int):(y.tmod k==0)=decide (y%k=0):=by rw[Bool.eq_iff_iff,beq_iff_eq,decide_eq_true_eq];exact X8 y k
theorem YA (y k:Int):(y.tmod k != 0)=decide (¬y%k=0):=by rw[bne,X9,<-decide_not]
theorem FK (n lo hi:Int) (w:World):Calls prog 191 #[Iv n,Iv lo,Iv hi] w fun e w'=>e= .returned (.bool (Xt n lo hi))/\w=w':=by
 have HI:=hid (show Xt n lo hi=(n== -1||(decide (lo<=n)&&decide (n<=hi))) from rfl);obtain ⟨x,hx⟩: ∃x,(n== -1)=x:=⟨_,rfl⟩;rw[hx] at HI;cases x with
 |true=>
  go_enter func191,ntmps191;go_wp2
  go_ret;exact ⟨AD (by rw[HI.out];rfl),rfl⟩
 |false=>
  by_cases h1:lo<=n
  ·have H1:=hid (decide_eq_true h1);go_enter func191,ntmps191;go_wp2
   go_ret;exact ⟨AD (by rw[HI.out,H1.out];rfl),rfl⟩
  ·have H1:=hid (decide_eq_false h1);go_enter func191,ntmps191;go_wp2
   go_ret;exact ⟨AD (by rw[HI.out,H1.out];rfl),rfl⟩
theorem GP (y:Int) (h:y≠ -1):BC y 2=if (y.tmod 4 != 0)||((y.tmod 100==0)&&(y.tmod 400 != 0)) then 28 else 29:=by rw[YA,X9,YA,BC,if_neg (by omega),if_pos rfl];by_cases a:y%4=0<;>by_cases b:y%100=0<;>by_cases c:y%400=0<;>simp[a,b,c,h]
theorem CH {k:IntKind} {a b:Int} (h:a=b):Ending.returned (.int k a)= .returned (.int k b):=by rw[h]
theorem Qx (y m:Int) (w:World):Calls prog 190 #[Iv y,Iv m] w fun e w'=>e= .returned (Iv (BC y m))/\w=w':=by
 by_cases a:m<1
 ·have HD:=hid (show BC y m=0 by rw[BC,if_pos (.inl a)]);go_enter func190,ntmps190;go_wp2
  go_ret;exact ⟨CH HD.out.symm,rfl⟩
 by_cases b:12<m
 ·have HD:=hid (show BC y m=0 by rw[BC,if_pos (.inr b)]);have a':1<=m:=(by omega);clear a;go_enter func190,ntmps190;go_wp2
  go_ret;exact ⟨CH HD.out.symm,rfl⟩
 have a':1<=m:=(by omega);have b':m<=12:=(by omega);by_cases c:m=2
 ·subst c;by_cases d:y= -1
  ·subst d;go_enter func190,ntmps190;go_wp2
   go_ret;exact ⟨rfl,rfl⟩
  ·have q:(y != -1)=true:=(by simpa using d);have HD:=hid (GP y d);obtain ⟨p4,h4⟩: ∃x,(y.tmod 4 != 0)=x:=⟨_,rfl⟩;obtain ⟨p1,h1⟩: ∃x,(y.tmod 100==0)=x:=⟨_,rfl⟩;obtain ⟨p0,h0⟩: ∃x,(y.tmod 400 != 0)=x:=⟨_,rfl⟩;rw[h4,h1,h0] at HD;clear d a b a' b';cases p4<;>cases p1<;>cases p0<;>
   (go_enter func190,ntmps190
    go_wp2
    go_ret;exact ⟨CH (by rw[HD.out];rfl),rfl⟩)
 ·have q2:(m==2)=false:=(by simpa using c);by_cases d:m=4∨m=6∨m=9∨m=11
  ·have HD:=hid (show BC y m=30 by rw[BC,if_neg (by omega),if_neg c,if_pos d]);clear c a b;rcases d with d|d|d|d<;>
   (subst d
    go_enter func190,ntmps190;go_wp2
    go_ret;exact ⟨CH HD.out.symm,rfl⟩)
  ·have HD:=hid (show BC y m=31 by rw[BC,if_neg (by omega),if_neg c,if_neg d]);have q4:(m==4)=false:=(by simp;omega);have q6:(m==6)=false:=(by simp;omega);have q9:(m==9)=false:=(by simp;omega);have A4:(m==11)=false:=(by simp;omega);clear c a b d;go_enter func190,ntmps190;go_wp2
   go_ret;exact ⟨CH HD.out.symm,rfl⟩
theorem OY (y m:Int) (w:World):Calls prog 159 #[Iv y,Iv m] w fun e w'=>e= .returned (Iv (BC y m))/\Below w.heap.size w w':=by
 by_cases a:1<=m/\m<=12
 ·have hw:=hid (show (decide ((1:Int)<=m)&&decide (m<=12))=true by simp;omega);by_cases c:m=2
  ·subst c;by_cases d:y= -1
   ·subst d;go_enter func159,ntmps159;go_wp2_with fail;refine (AX _ _ _ _).mono ?_;rintro e w1 ⟨rfl,rfl⟩;go_wp2
    go_ret;exact ⟨rfl,zA⟩
   ·have q:(y != -1)=true:=(by simpa using d);have HD:=hid (GP y d);have A0:(y.tmod 400==0)= !(y.tmod 400 != 0):=(by rw[bne,Bool.not_not]);have A1:(y.tmod 4==0)= !(y.tmod 4 != 0):=(by rw[bne,Bool.not_not]);have A2:(y.tmod 100 != 0)= !(y.tmod 100==0):=(by rw[bne]);obtain ⟨p4,h4⟩: ∃x,(y.tmod 4 != 0)=x:=⟨_,rfl⟩;obtain ⟨p1,h1⟩: ∃x,(y.tmod 100==0)=x:=⟨_,rfl⟩;obtain ⟨p0,h0⟩: ∃x,(y.tmod 400 != 0)=x:=⟨_,rfl⟩;rw[h4,h1,h0] at HD;rw[h4] at A1;rw[h1] at A2;rw[h0] at A0;have imp:=hid (show p0=false->p1=true/\p4=false by
     intro e;rw[e] at h0;rw[YA] at h0 h4;rw[X9] at h1;have A5:=of_decide_eq_false h0;rw[<-h1,<-h4];simp;omega)
    clear d a h4 h1 h0;cases p4<;>cases p1<;>cases p0<;>
    first
    |(exfalso;have:=imp.out rfl;simp at this;done)
    |(go_enter func159,ntmps159
      go_wp2_with fail;refine (AX _ _ _ _).mono ?_;rintro e w1 ⟨rfl,rfl⟩;go_wp2
      go_ret;exact ⟨CH (by rw[HD.out];rfl),zA⟩)
  ·have q2:(m==2)=false:=(by simpa using c);obtain ⟨k,rfl⟩: ∃k:Nat,m=k:=⟨m.toNat,by omega⟩;clear c;have hk:k=1∨k=3∨k=4∨k=5∨k=6∨k=7∨k=8∨k=9∨k=10∨k=11∨k=12:=by
    have: ¬((k:Int)=2):=(by simpa using q2);omega
   clear a q2;rcases hk with rfl|rfl|rfl|rfl|rfl|rfl|rfl|rfl|rfl|rfl|rfl<;>
   (go_enter func159,ntmps159
    go_wp2_with fail;refine (AX _ _ _ _).mono ?_;rintro e w1 ⟨rfl,rfl⟩;go_wp2
    go_ret;exact ⟨rfl,zA⟩)
 ·have hw:(decide ((1:Int)<=m)&&decide (m<=12))=false:=by
   rw[Bool.eq_false_iff];intro h;simp at h;exact a h
  have HD:=hid (show BC y m=0 by rw[BC,if_pos (by omega)]);have HW:=hid hw;clear hw a;go_enter func159,ntmps159;go_wp2_with fail;refine (AX _ _ _ _).mono ?_;rintro e w1 ⟨rfl,rfl⟩;rw[HW.out];go_wp2
  go_ret;exact ⟨CH HD.out.symm,zB⟩
end Go.Proofs.YtjhpdljphchfaaaGreatDoor
