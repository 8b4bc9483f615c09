/- A part of the proof of ConvertUps: What every walk imports, and small words. -/
import Derived.Test.YtjhpdljphchfaaaGreatDoorA01
import Derived.Test.YtjhpdljphchfaaaGreatDoorProg
import Derived.BigCall
import Derived.WalkSpells
import Derived.WalkLawsBesides
import Derived.BigQuiet
import Derived.Deep.QuietTactic
import Derived.Outline
import Derived.LoopTactic
import Derived.OwnWalk
import Derived.IntWalk
import Derived.Laws.IdiomStrings
import Derived.Lib.ConvBytes
import Derived.Test.YtjhpdljphchfaaaGreatDoorA00
import Derived.Deep.RegionHeld3
set_option maxHeartbeats 40000000
set_option maxRecDepth 1000000
set_option linter.all false
namespace Go.Proofs.YtjhpdljphchfaaaGreatDoor
open Go.RowKit
open Go.Proofs.Tryz
theorem hid {p:Prop} (h:p):Hid p:=h
theorem below_drewN' {B:Nat} {a w:World} (h:Below B a w) (n:Nat):Below B a (w.drewN n):=⟨h.os,h.tape,h.output,h.size,h.block⟩
theorem ba_cut (l:List UInt8) (i j:Nat):(⟨l.toArray⟩:ByteArray).extract i j=⟨((l.drop i).take (j- i)).toArray⟩:=by apply ByteArray.ext;simp
theorem Tm {P:World->Prop} (w:World) (h:P w): ∃w1,w1=w/\P w1:=⟨w,rfl,h⟩
structure Buf (w:World) (B:Nat) (l:Str):Prop where
 lt:B<w.heap.size
 cell: ∀j (h:j<l.length),w.cell? (Ad B j)=some (.int .u8 (l[j].toNat:Int))
 free: ∀j,j<l.length->w.frozen? (Ad B j)=false
theorem Buf.drewN {w:World} {B:Nat} {l:Str} (h:Buf w B l) (n:Nat):Buf (w.drewN n) B l:=⟨h.lt,h.cell,h.free⟩
theorem Buf.drew {w:World} {B:Nat} {l:Str} (h:Buf w B l):Buf w.drew B l:=⟨h.lt,h.cell,h.free⟩
theorem Buf.keep {w w':World} {B B':Nat} {l:Str} (h:Buf w B l) (hb:Below B' w w') (hB:B<B'):Buf w' B l:=
 ⟨Nat.lt_of_lt_of_le h.lt hb.size,fun j hj=>(hb.cell (p:=(Ad B j)) hB).trans (h.cell j hj),fun j hj=>(hb.frozen (p:=(Ad B j)) hB).trans (h.free j hj)⟩
theorem Buf.set_ {w:World} {B k:Nat} {l:Str} (h:Buf w B l) (c:UInt8):Buf (w.setCell (Ad B k) (.int .u8 (c.toNat:Int))) B (l.set k c):=by
 refine ⟨by simpa[World.setCell] using h.lt,fun j hj=> ?_,fun j hj=> ?_⟩
 ·have F2:j<l.length:=(by simpa using hj);by_cases e:k=j
  ·subst e;rw[World.cell?_setCell_same _ _ _ (h.cell k F2)];simp
  ·rw[World.cell?_setCell_other _ _ _ _ (by simp[e]),h.cell j F2,List.getElem_set_ne e]
 ·rw[World.frozen?_setCell];exact h.free j (by simpa using hj)
theorem Buf.text {w:World} {B:Nat} {l:Str} (h:Buf w B l) (cap:Nat) (src:TypeId) (hs:prog.underlying src=some (.slice 5)):
 (convert src 9 (.slice (some (Ad B 0)) l.length cap)).run prog w= .ok (Sv l) w:=
 run_convert_bytes_back w src 9 5 (Ad B 0) cap l hs underlying5 underlying9 (fun j hj=>by rw[show ((Ad B 0):Addr).add j=(Ad B j) by unfold Addr.add;split<;>simp_all];exact h.cell j hj)
theorem BU (l:Str) (w:World): ∃W1 cap,(convert 9 113 (Sv l)).run prog w= .ok (.slice (some (Ad w.heap.size 0)) l.length cap) W1/\l.length<=cap/\Buf W1 w.heap.size l/\Below w.heap.size w W1/\W1.heap.size=w.heap.size+1:=by
 refine ⟨Lib.bytesWorld w 5 ⟨l.toArray⟩,grownCap w l.length 0 5, ?_, ?_,⟨?_,fun j hj=> ?_,fun j hj=> ?_⟩,⟨rfl,rfl,rfl,by rw[Lib.bytesWorld_size];omega,fun k hk=>Lib.bytesWorld_at_old w 5 ⟨l.toArray⟩ k hk⟩,Lib.bytesWorld_size _ _ _⟩
 ·exact Lib.run_convert_string_bytes (P:=prog) w 9 113 5 ⟨l.toArray⟩ (u:= .string) underlying9 underlying113 underlying5
 ·exact grownCap_ge _ _ _ _
 ·rw[Lib.bytesWorld_size];omega
 ·rw[Lib.bytesWorld_cell _ _ _ _ (show j<(⟨l.toArray⟩:ByteArray).size from hj)];simp[List.getD,List.getElem?_eq_getElem hj]
 ·have:=Lib.bytesWorld_at_new w 5 ⟨l.toArray⟩;simp[World.frozen?,this,Lib.bytesCells];omega
theorem AD {a b:Bool} (h:a=b):Ending.returned (.bool a)= .returned (.bool b):=by rw[h]
theorem GJ {c:UInt8} (h:(97<=c.toNat/\c.toNat<=122)∨(65<=c.toNat/\c.toNat<=90)∨(48<=c.toNat/\c.toNat<=57)∨c.toNat=45):Ab c=true:=decide_eq_true h
theorem Do {c:UInt8} (h: ¬((97<=c.toNat/\c.toNat<=122)∨(65<=c.toNat/\c.toNat<=90)∨(48<=c.toNat/\c.toNat<=57)∨c.toNat=45)):Ab c=false:=decide_eq_false h
theorem NE (c:UInt8) (w:World):Calls prog 186 #[.int .u8 c.toNat] w fun e w'=>e= .returned (.bool (Ab c))/\w=w':=by
 rcases (show c.toNat<45∨c.toNat=45∨(46<=c.toNat/\c.toNat<48)∨(48<=c.toNat/\c.toNat<=57)∨(58<=c.toNat/\c.toNat<65)∨(65<=c.toNat/\c.toNat<=90)∨(91<=c.toNat/\c.toNat<97)∨(97<=c.toNat/\c.toNat<=122)∨123<=c.toNat by omega) with h|h|h|h|h|h|h|h|h;have H:=hid (Do (c:=c) (by omega));have q:((c.toNat:Int)==45)=false:=(by simp;omega);rotate_left;have H:=hid (GJ (c:=c) (by omega));have q:((c.toNat:Int)==45)=true:=(by simp;omega);have h1:c.toNat<48:=(by omega);clear h;iterate 3
  rotate_left;have H:=hid (Do (c:=c) (by omega));obtain ⟨h1,h2⟩:=h;have q:((c.toNat:Int)==45)=false:=(by simp;omega);rotate_left;have H:=hid (GJ (c:=c) (by omega));obtain ⟨h1,h2⟩:=h;have q:((c.toNat:Int)==45)=false:=by simp;omega
 rotate_left;have H:=hid (Do (c:=c) (by omega));obtain ⟨h1,h2⟩:=(⟨h,trivial⟩:_/\True);have q:((c.toNat:Int)==45)=false:=(by simp;omega);rotate_left;all_goals
  go_enter func186,ntmps186;go_wp2
  go_ret;exact ⟨AD (by first|(rw[H.out];done)|(rw[H.out];simp;omega)),rfl⟩
theorem Dp (l:Str) (w:World) (hs:l.length<=1073741824):
 Calls prog 127 #[Sv l] w fun e w'=>e= .returned (.bool (AP l))/\w=w':=by
 go_enter func127,ntmps127;go_wp2
 go_loop [3,6] (fun _ i=> ∃k:Nat,i=Iv k/\k<=l.length/\Hid ((l.drop k).all Ab=l.all Ab)) (fun _ i=>l.length-(intOf i).toNat)
 case atStart=>exact ⟨0,rfl,by omega,hid rfl⟩
 case round=>
  obtain ⟨k,rfl,hk,HF⟩:=hrel;by_cases A1:k<l.length
  ·obtain ⟨c,hx,hc⟩: ∃c,(∀h,(⟨l.toArray⟩:ByteArray)[k]'h=c)/\l.drop k=c::l.drop (k+1):=⟨l[k],fun _=>rfl,List.drop_eq_getElem_cons A1⟩;have HM:=hid (show (l.drop k).all Ab=(Ab c&&(l.drop (k+1)).all Ab) by rw[hc];rfl);clear hc;go_wp2_with fail;refine (NE c _).mono ?_;rintro e w1 ⟨rfl,rfl⟩;by_cases hg:Ab c=true
   ·rw[hg];have HG:=hid hg;clear hg;go_wp2
    go_round
    case rel=>exact ⟨k+1,by go_num,by omega,hid (by rw[<-HF.out,HM.out,HG.out,Bool.true_and])⟩
    case measure=>simp[intOf];omega
   ·have AW:Ab c=false:=(by simpa using hg);rw[AW];have HN:=hid (show AP l=false by rw[AP,<-HF.out,HM.out,AW];rfl);clear hg AW;go_wp2
    go_ret;exact ⟨AD (by rw[HN.out];done),rfl⟩
  ·have A7:k=l.length:=(by omega);subst A7;have AN:l.all Ab=true:=(by rw[<-HF.out,List.drop_length];rfl);cases l with
   |nil=>
    go_wp2
    go_ret;exact ⟨rfl,rfl⟩
   |cons a r=>
    have HN:=hid (show AP (a::r)=decide ((((a::r).length:Nat):Int)<=40) by rw[AP,AN];simp;omega);clear AN HF;go_wp2
    go_ret;refine ⟨?_,rfl⟩;rw[HN.out];simp
theorem D7 {l:Str} {g:UInt8->UInt8} {k:Nat} {c:UInt8} (hc:l.drop k=c::l.drop (k+1)) (hk:k<=l.length):((l.take k).map g++l.drop k).set k c=(l.take k).map g++l.drop k:=by rw[hc,List.set_append_right _ _ (by simp;omega)];simp[Nat.min_eq_left hk]
theorem wrap_byte (c:UInt8):IntKind.u8.wrap (c.toNat:Int)=c.toNat:=by have:=c.toNat_lt;simp[IntKind.wrap,IntKind.bits,IntKind.signed];omega
theorem T3 {c:UInt8} (h: ¬(97<=c.toNat/\c.toNat<=122)):Xq c=c:=if_neg h
theorem Vd {c:UInt8} (h1:97<=c.toNat) (h2:c.toNat<=122):((Xq c).toNat:Int)=c.toNat+(-32):=by rw[Xq,if_pos ⟨h1,h2⟩];have G1:(32:UInt8)<=c:=(by rw[UInt8.le_iff_toNat_le];show 32<=c.toNat;omega);rw[UInt8.toNat_sub_of_le _ _ G1];show ((c.toNat- 32:Nat):Int)=_;omega
theorem SW (l:Str) (w:World) (hs:l.length<=1073741824):
 Calls prog 84 #[Sv l,.int .u8 97,.int .u8 122,Iv (-32)] w fun e w'=>e= .returned (.string ⟨(Xs l).toArray⟩)/\Below w.heap.size w w':=by
 obtain ⟨W1,cap,AB,B0,hB,hb,hz⟩:=BU l w;go_enter func84,ntmps84;go_wp2
 go_loopw [10,11,16] (fun _ _ i wr=> ∃k:Nat,i=Iv k/\k<=l.length/\Buf wr w.heap.size ((l.take k).map Xq++l.drop k)/\Below w.heap.size w wr) (fun _ _ i _=>l.length-(intOf i).toNat);case atStart=>exact ⟨0,rfl,by omega,by simpa using hB,hb⟩
 case round=>
  clear AB hB hb;obtain ⟨k,rfl,hk,hB,hb⟩:=hrel;by_cases A1:k<l.length
  ·have A0:k<((l.take k).map Xq++l.drop k).length:=(by simp;omega);obtain ⟨c,A2,hc⟩: ∃c,l[k]=c/\l.drop k=c::l.drop (k+1):=⟨l[k],rfl,List.drop_eq_getElem_cons A1⟩;have A6:=hB.cell k A0;have B1:=hB.free k A0;have A3:((l.take k).map Xq++l.drop k).set k (Xq c)=(l.take (k+1)).map Xq++l.drop (k+1):=by
    rw[hc,List.set_append_right _ _ (by simp;omega),List.take_succ_eq_append_getElem A1,A2];simp[Nat.min_eq_left hk]
   have hg:((l.take k).map Xq++l.drop k)[k]'A0=c:=(by rw[List.getElem_append_right (by simp;omega)];simp[Nat.min_eq_left hk,A2]);rw[hg] at A6;have HS:=hid A3;have HB:=hid hB;have HE:=hid hc;have A4:= @T3 c;have A8:= @Vd c;have wb:IntKind.u8.wrap (c.toNat:Int)=c.toNat:=wrap_byte c;have F3:=c.toNat_lt;clear A3 hB hc hg A2;by_cases h1:97<=c.toNat
   ·by_cases h2:c.toNat<=122
    ·have E2:=hid (A8 h1 h2);have G2:IntKind.u8.wrap ((c.toNat:Int)+(-32))=(c.toNat:Int)+(-32):=(by rw[<-A8 h1 h2];exact wrap_byte _);clear A8 A4;go_wp2
     go_roundw;case rel=>
      refine ⟨k+1,by go_num,by omega, ?_,hb.setCell (p:=(Ad w.heap.size k)) zL _⟩;have:=HB.out.set_ (k:=k) (Xq c);rw[HS.out,E2.out] at this;exact this
     case measure=>simp[intOf];omega
    ·have HO:=hid (A4 (by omega));clear A8 A4;go_wp2
     go_roundw;case rel=>
      refine ⟨k+1,by go_num,by omega, ?_,hb⟩;have A5:=HS.out;rw[HO.out] at A5;rw[<-A5,D7 HE.out hk];exact HB.out
     case measure=>simp[intOf];omega
   ·have HO:=hid (A4 (by omega));clear A8 A4;go_wp2
    go_roundw;case rel=>
     refine ⟨k+1,by go_num,by omega, ?_,hb⟩;have A5:=HS.out;rw[HO.out] at A5;rw[<-A5,D7 HE.out hk];exact HB.out
    case measure=>simp[intOf];omega
  ·have A7:k=l.length:=(by omega);subst A7;rw[List.take_length,List.drop_length,List.append_nil] at hB;have ht:=hB.text cap 113 underlying113;rw[List.length_map] at ht;clear hB;go_wp2
   go_ret;exact ⟨rfl,hb⟩
theorem T4 {c:UInt8} (h: ¬(65<=c.toNat/\c.toNat<=90)):Xr c=c:=if_neg h
theorem Ve {c:UInt8} (h1:65<=c.toNat) (h2:c.toNat<=90):((Xr c).toNat:Int)=c.toNat+(32):=by rw[Xr,if_pos ⟨h1,h2⟩];rw[UInt8.toNat_add];show (((c.toNat+32)%256:Nat):Int)=_;omega
theorem SX (l:Str) (w:World) (hs:l.length<=1073741824):
 Calls prog 84 #[Sv l,.int .u8 65,.int .u8 90,Iv (32)] w fun e w'=>e= .returned (.string ⟨(loS l).toArray⟩)/\Below w.heap.size w w':=by
 obtain ⟨W1,cap,AB,B0,hB,hb,hz⟩:=BU l w;go_enter func84,ntmps84;go_wp2
 go_loopw [10,11,16] (fun _ _ i wr=> ∃k:Nat,i=Iv k/\k<=l.length/\Buf wr w.heap.size ((l.take k).map Xr++l.drop k)/\Below w.heap.size w wr) (fun _ _ i _=>l.length-(intOf i).toNat);case atStart=>exact ⟨0,rfl,by omega,by simpa using hB,hb⟩
 case round=>
  clear AB hB hb;obtain ⟨k,rfl,hk,hB,hb⟩:=hrel;by_cases A1:k<l.length
  ·have A0:k<((l.take k).map Xr++l.drop k).length:=(by simp;omega);obtain ⟨c,A2,hc⟩: ∃c,l[k]=c/\l.drop k=c::l.drop (k+1):=⟨l[k],rfl,List.drop_eq_getElem_cons A1⟩;have A6:=hB.cell k A0;have B1:=hB.free k A0;have A3:((l.take k).map Xr++l.drop k).set k (Xr c)=(l.take (k+1)).map Xr++l.drop (k+1):=by
    rw[hc,List.set_append_right _ _ (by simp;omega),List.take_succ_eq_append_getElem A1,A2];simp[Nat.min_eq_left hk]
   have hg:((l.take k).map Xr++l.drop k)[k]'A0=c:=(by rw[List.getElem_append_right (by simp;omega)];simp[Nat.min_eq_left hk,A2]);rw[hg] at A6;have HS:=hid A3;have HB:=hid hB;have HE:=hid hc;have A4:= @T4 c;have A8:= @Ve c;have wb:IntKind.u8.wrap (c.toNat:Int)=c.toNat:=wrap_byte c;have F3:=c.toNat_lt;clear A3 hB hc hg A2;by_cases h1:65<=c.toNat
   ·by_cases h2:c.toNat<=90
    ·have E2:=hid (A8 h1 h2);have G2:IntKind.u8.wrap ((c.toNat:Int)+(32))=(c.toNat:Int)+(32):=(by rw[<-A8 h1 h2];exact wrap_byte _);clear A8 A4;go_wp2
     go_roundw;case rel=>
      refine ⟨k+1,by go_num,by omega, ?_,hb.setCell (p:=(Ad w.heap.size k)) zL _⟩;have:=HB.out.set_ (k:=k) (Xr c);rw[HS.out,E2.out] at this;exact this
     case measure=>simp[intOf];omega
    ·have HO:=hid (A4 (by omega));clear A8 A4;go_wp2
     go_roundw;case rel=>
      refine ⟨k+1,by go_num,by omega, ?_,hb⟩;have A5:=HS.out;rw[HO.out] at A5;rw[<-A5,D7 HE.out hk];exact HB.out
     case measure=>simp[intOf];omega
   ·have HO:=hid (A4 (by omega));clear A8 A4;go_wp2
    go_roundw;case rel=>
     refine ⟨k+1,by go_num,by omega, ?_,hb⟩;have A5:=HS.out;rw[HO.out] at A5;rw[<-A5,D7 HE.out hk];exact HB.out
    case measure=>simp[intOf];omega
  ·have A7:k=l.length:=(by omega);subst A7;rw[List.take_length,List.drop_length,List.append_nil] at hB;have ht:=hB.text cap 113 underlying113;rw[List.length_map] at ht;clear hB;go_wp2
   go_ret;exact ⟨rfl,hb⟩
theorem Cl (l:Str) (w:World) (hs:l.length<=1073741824):
 Calls prog 39 #[Sv l] w fun e w'=>e= .returned (.string ⟨(Xs l).toArray⟩)/\Below w.heap.size w w':=by
 go_enter func39,ntmps39;go_wp2_with fail;refine (SW l _ hs).mono ?_;rintro e w1 ⟨rfl,hb⟩;go_wp2
 go_ret;exact ⟨rfl,hb⟩
theorem Em (l:Str) (w:World) (hs:l.length<=1073741824):
 Calls prog 132 #[Sv l] w fun e w'=>e= .returned (.string ⟨(loS l).toArray⟩)/\Below w.heap.size w w':=by
 go_enter func132,ntmps132;go_wp2_with fail;refine (SX l _ hs).mono ?_;rintro e w1 ⟨rfl,hb⟩;go_wp2
 go_ret;exact ⟨rfl,hb⟩
theorem Bh (a b:Str) (w:World) (hs:a.length<=1073741824) (E3:b.length<=1073741824):
 Calls prog 41 #[Sv a,Sv b] w fun e w'=>e= .returned (.bool (AF a b))/\Below w.heap.size w w':=by
 go_enter func41,ntmps41;go_wp2_with fail;refine (Cl a _ hs).mono ?_;rintro e w1 ⟨rfl,hb⟩;go_wp2_with fail;refine (Cl b _ E3).mono ?_;rintro e w2 ⟨rfl,B2⟩;go_wp2
 go_ret;exact ⟨rfl,hb.trans (B2.mono hb.size)⟩
theorem JZ {B:Nat} {a w:World} (h:Below B a w) (n:Nat):Below B a (w.drewN n):=⟨h.os,h.tape,h.output,h.size,h.block⟩
theorem Fg (l:List Str) (A:Option Addr) (c:Nat) (A':Option Addr) (c':Nat) (w:World) (h:CD w w.heap.size (.slice A l.length c) l) (h':CD w w.heap.size (.slice A' l.length c') l) (hl:l.length<=1073741824):
 Calls prog 23 #[.slice A l.length c,.slice A' l.length c'] w fun e w'=>e= .returned (.bool true)/\ ∃m,w'=w.drewN m:=by
 have H:=hid h;have H':=hid h';clear h h';go_enter func23,ntmps23;go_wp2
 go_loopw [5,13] (fun _ E9 wr=> ∃k m:Nat,k<=l.length/\E9=Iv k/\Hid (wr=w.drewN m)) (fun _ E9 _=>l.length-(intOf E9).toNat);case atStart=>exact ⟨0,0,by omega,rfl,hid rfl⟩
 case round=>
  obtain ⟨k,m,hk,rfl,hb⟩:=hrel;by_cases A1:k<l.length
  ·obtain ⟨b,o,s,rfl,H4,hd,hc⟩:=CD.at_ H.out A1;obtain ⟨b',o',s',rfl,H1,F1,F4⟩:=CD.at_ H'.out A1;rw[hd] at F1;obtain rfl:s=s':=(by simpa using F1);have d:wr.cell? (Ad b (o+k))=some (Sv s):=(by rw[hb.out];exact hc);have d':wr.cell? ⟨b',o'+k,none⟩=some (Sv s):=(by rw[hb.out];exact F4);have hi:(k:Int)<(l.length:Int):=(by omega);clear hd F1 hc F4;go_wp2_with fail
   go_quiet (fail)
   go_wp2
   go_roundw;case rel=>exact ⟨k+1,_,by omega,by go_num,hid (by rw[hb.out,World.drewN_drewN])⟩
   case measure=>simp[intOf];omega
  ·go_wp2
   go_ret;exact ⟨rfl,m,hb.out⟩
theorem Tu (l:List Str) (A:Option Addr) (c:Nat) (A':Option Addr) (c':Nat) (w:World) (h:CD w w.heap.size (.slice A l.length c) l) (h':CD w w.heap.size (.slice A' l.length c') l) (hl:l.length<=1073741824):
 Calls prog 23 #[.slice A l.length c,.slice A' l.length c'] w fun e w'=>e= .returned (.bool true)/\Below w.heap.size w w':=
 (Fg l A c A' c' w h h' hl).mono fun e w' h=>⟨h.1,by obtain ⟨m,rfl⟩:=h.2;exact JZ zB _⟩
theorem Fh {w:World} {n:Nat} (l:List Str) (A:Option Addr) (c:Nat) (A':Option Addr) (c':Nat) (h:CD w w.heap.size (.slice A l.length c) l) (h':CD w w.heap.size (.slice A' l.length c') l) (hl:l.length<=1073741824):
 Calls prog 23 #[.slice A l.length c,.slice A' l.length c'] (w.drewN n) fun e w'=>e= .returned (.bool true)/\ ∃m,w'=w.drewN m:=
 (Fg l A c A' c' (w.drewN n) h h' hl).mono fun e w' h=>⟨h.1,by obtain ⟨m,rfl⟩:=h.2;exact ⟨_,World.drewN_drewN _ _ _⟩⟩
def Xy:List UInt8:=[65,66,67,68,69,70,71,72,73,74,75,76,77,78,79,80,81,82,83,84,85,86,87,88,89,90]
def Xz:List UInt8:=[97,98,99,100,101,102,103,104,105,106,107,108,109,110,111,112,113,114,115,116,117,118,119,120,121,122]
def X0:List UInt8:=[65,66,67,68,69,70,71,72,73,74,75,76,77,78,79,80,81,82,83,84,85,86,87,88,89,90,97,98,99,100,101,102,103,104,105,106,107,108,109,110,111,112,113,114,115,116,117,118,119,120,121,122,48,49,50,51,52,53,54,55,56,57,45]
theorem SY: ∀n:Fin 256,decide (Lib.indexByte X0 (UInt8.ofNat n.val)<0)= !Ab (UInt8.ofNat n.val):=by decide+kernel
theorem Qh (c:UInt8):decide (Lib.indexByte X0 c<0)= !Ab c:=by have h:=SY ⟨c.toNat,c.toNat_lt⟩;simpa only[UInt8.ofNat_toNat] using h
theorem SZ: ∀n:Fin 256,(Lib.indexByte Xz (UInt8.ofNat n.val)= -1/\Xq (UInt8.ofNat n.val)=UInt8.ofNat n.val)∨(∃k:Fin 26,Lib.indexByte Xz (UInt8.ofNat n.val)=(k.val:Int)/\Xy[k.val]? =some (Xq (UInt8.ofNat n.val))):=by decide+kernel
theorem Qi (c:UInt8):(Lib.indexByte Xz c= -1/\Xq c=c)∨(∃k:Fin 26,Lib.indexByte Xz c=(k.val:Int)/\Xy[k.val]? =some (Xq c)):=by have h:=SZ ⟨c.toNat,c.toNat_lt⟩;simpa only[UInt8.ofNat_toNat] using h
theorem Sa: ∀n:Fin 256,(Lib.indexByte Xy (UInt8.ofNat n.val)= -1/\Xr (UInt8.ofNat n.val)=UInt8.ofNat n.val)∨(∃k:Fin 26,Lib.indexByte Xy (UInt8.ofNat n.val)=(k.val:Int)/\Xz[k.val]? =some (Xr (UInt8.ofNat n.val))):=by decide+kernel
theorem Qj (c:UInt8):(Lib.indexByte Xy c= -1/\Xr c=c)∨(∃k:Fin 26,Lib.indexByte Xy c=(k.val:Int)/\Xz[k.val]? =some (Xr c)):=by have h:=Sa ⟨c.toNat,c.toNat_lt⟩;simpa only[UInt8.ofNat_toNat] using h
theorem OI (w:World):Calls prog 59 #[.string ⟨#[65,66,67,68,69,70,71,72,73,74,75,76,77,78,79,80,81,82,83,84,85,86,87,88,89,90]⟩] w fun e w'=>e= .returned (Sv Xz)/\Below w.heap.size w w':=
 (strings_ToLower_ascii _ w (by decide) (by intro j b h;have:b∈Xy:=List.mem_of_getElem? h;exact (by decide: ∀b∈Xy,b.toNat<128) b this)).mono fun e w' h=>⟨by rw[h.1];rfl,h.2⟩
theorem T6:((⟨#[65,66,67,68,69,70,71,72,73,74,75,76,77,78,79,80,81,82,83,84,85,86,87,88,89,90]⟩:ByteArray)++⟨Xz.toArray⟩++⟨#[48,49,50,51,52,53,54,55,56,57,45]⟩).data.toList=X0:=by decide
theorem T7:(⟨#[65,66,67,68,69,70,71,72,73,74,75,76,77,78,79,80,81,82,83,84,85,86,87,88,89,90]⟩:ByteArray).data.toList=Xy:=rfl
theorem GK (c:UInt8):((c.toNat:Int)).toNat.toUInt8=c:=by simp
theorem AX (n lo hi:Int) (w:World):Calls prog 71 #[Iv n,Iv lo,Iv hi] w fun e w'=>e= .returned (.bool (decide (lo<=n)&&decide (n<=hi)))/\w=w':=by
 by_cases h1:lo<=n
 ·go_enter func71,ntmps71;go_wp2
  go_ret;exact ⟨by rw[show decide (lo<=n)=true by simpa using h1];rfl,rfl⟩
 ·go_enter func71,ntmps71;go_wp2
  go_ret;exact ⟨by rw[show decide (lo<=n)=false by simpa using h1];rfl,rfl⟩
theorem DQ (l:Str) (w:World) (hs:l.length<=1073741824):
 Calls prog 98 #[Sv l] w fun e w'=>e= .returned (.bool (AP l))/\Below w.heap.size w w':=by
 obtain ⟨W1,cap,AB,B0,hB,hb,hz⟩:=BU l w;go_enter func98,ntmps98;go_wp2
 go_loopw [4,8] (fun _ i wr=> ∃k:Nat,i=Iv k/\k<=l.length/\Hid ((l.drop k).all Ab=l.all Ab)/\Buf wr w.heap.size l/\Below w.heap.size w wr) (fun _ i _=>l.length-(intOf i).toNat);case atStart=>exact ⟨0,rfl,by omega,hid rfl,hB,hb⟩
 case round=>
  clear AB hB hb;obtain ⟨k,rfl,hk,HF,hB,hb⟩:=hrel;by_cases A1:k<l.length
  ·have A6:=hB.cell k A1;obtain ⟨c,A2,hc⟩: ∃c,l[k]=c/\l.drop k=c::l.drop (k+1):=⟨l[k],rfl,List.drop_eq_getElem_cons A1⟩;rw[A2] at A6;have HM:=hid (show (l.drop k).all Ab=(Ab c&&(l.drop (k+1)).all Ab) by rw[hc];rfl);have A9:=Qh c;clear hc A2;have HB:=hid hB;clear hB;go_wp2_with fail;refine (OI _).mono ?_;rintro e w1 ⟨rfl,E0⟩;go_wp2_with fail;refine (strings_IndexByte _ _ _).mono ?_;rintro e w2 ⟨rfl,rfl⟩;have FB:Buf w2 w.heap.size l:=HB.out.keep E0 HB.out.lt;have B2:=hb.trans (E0.mono hb.size);rw[T6,GK];by_cases hg:Ab c=true
   ·have hx:0<=Lib.indexByte X0 c:=by
     rw[hg] at A9;have:=of_decide_eq_false A9;omega
    obtain ⟨x,B3⟩: ∃x,x=Lib.indexByte X0 c:=⟨_,rfl⟩;rw[<-B3] at hx⊢;have HG:=hid hg;clear B3 hg A9 hb E0;go_wp2
    go_roundw;case rel=>exact ⟨k+1,by go_num,by omega,hid (by rw[<-HF.out,HM.out,HG.out,Bool.true_and]),FB,B2⟩
    case measure=>simp[intOf];omega
   ·have AW:Ab c=false:=(by simpa using hg);have hx:Lib.indexByte X0 c<0:=by
     rw[AW] at A9;exact of_decide_eq_true A9
    obtain ⟨x,B3⟩: ∃x,x=Lib.indexByte X0 c:=⟨_,rfl⟩;rw[<-B3] at hx⊢;have HN:=hid (show AP l=false by rw[AP,<-HF.out,HM.out,AW];rfl);clear B3 hg AW A9 hb E0 FB;go_wp2
    go_ret;exact ⟨AD (by rw[HN.out]),B2⟩
  ·have A7:k=l.length:=(by omega);subst A7;have AN:l.all Ab=true:=(by rw[<-HF.out,List.drop_length];rfl);have HN:=hid (show AP l=(decide ((1:Int)<=l.length)&&decide ((l.length:Int)<=40)) by
    rw[AP,AN,Bool.true_and];cases l with
    |nil=>rfl
    |cons a r=>rw[Bool.eq_iff_iff];simp;omega)
   clear AN HF hB;go_wp2_with fail;refine (AX _ _ _ _).mono ?_;rintro e w1 ⟨rfl,rfl⟩;go_wp2
   go_ret;exact ⟨AD (by rw[HN.out]),hb⟩
theorem D8 (l:Str) (w:World) (hs:l.length<=1073741824):
 Calls prog 28 #[Sv l] w fun e w'=>e= .returned (.string ⟨(loS l).toArray⟩)/\Below w.heap.size w w':=by
 obtain ⟨W1,cap,AB,B0,hB,hb,hz⟩:=BU l w;go_enter func28,ntmps28;go_wp2
 go_loopw [4,5,10] (fun _ _ i wr=> ∃k:Nat,i=Iv k/\k<=l.length/\Buf wr w.heap.size ((l.take k).map Xr++l.drop k)/\Below w.heap.size w wr) (fun _ _ i _=>l.length-(intOf i).toNat);case atStart=>exact ⟨0,rfl,by omega,by simpa using hB,hb⟩
 case round=>
  clear AB hB hb;obtain ⟨k,rfl,hk,hB,hb⟩:=hrel;by_cases A1:k<l.length
  ·have A0:k<((l.take k).map Xr++l.drop k).length:=(by simp;omega);obtain ⟨c,A2,hc⟩: ∃c,l[k]=c/\l.drop k=c::l.drop (k+1):=⟨l[k],rfl,List.drop_eq_getElem_cons A1⟩;have A6:=hB.cell k A0;have B1:=hB.free k A0;have A3:((l.take k).map Xr++l.drop k).set k (Xr c)=(l.take (k+1)).map Xr++l.drop (k+1):=by
    rw[hc,List.set_append_right _ _ (by simp;omega),List.take_succ_eq_append_getElem A1,A2];simp[Nat.min_eq_left hk]
   have hg:((l.take k).map Xr++l.drop k)[k]'A0=c:=(by rw[List.getElem_append_right (by simp;omega)];simp[Nat.min_eq_left hk,A2]);rw[hg] at A6;have A9:=Qj c;have HS:=hid A3;have HB:=hid hB;have HE:=hid hc;clear A3 hB hc hg A2;go_wp2_with fail;refine (strings_IndexByte _ _ _).mono ?_;rintro e w2 ⟨rfl,rfl⟩;rw[T7,GK];rcases A9 with ⟨hx,he⟩|⟨⟨q,hq⟩,hx,he⟩
   ·rw[hx];have HX:=hid he;clear hx he;go_wp2
    go_roundw;case rel=>
     refine ⟨k+1,by go_num,by omega, ?_,hb⟩;have A5:=HS.out;rw[HX.out] at A5;rw[<-A5,D7 HE.out hk];exact HB.out
    case measure=>simp[intOf];omega
   ·rw[hx];have HX:=hid he;clear hx he;have DA:q<Xz.length:=hq;go_wp2_with fail;refine (OI _).mono ?_;rintro e w3 ⟨rfl,AL⟩;have H2:w3.cell? (Ad w.heap.size k)=some (.int .u8 c.toNat):=(AL.cell (p:=(Ad w.heap.size k)) HB.out.lt).trans A6;have H3:w3.frozen? (Ad w.heap.size k)=false:=(AL.frozen (p:=(Ad w.heap.size k)) HB.out.lt).trans B1;have AV:=HB.out.keep AL HB.out.lt;have E1:=hb.trans (AL.mono hb.size);obtain ⟨g,G4,DD⟩: ∃g:UInt8,(∀h,(⟨Xz.toArray⟩:ByteArray)[q]'h=g)/\Xr c=g:=by
     refine ⟨Xz[q],fun _=>rfl, ?_⟩;have:=HX.out;rw[List.getElem?_eq_getElem DA] at this;exact (Option.some.inj this).symm
    have HG:=hid DD;have DT:=hid AV;have H0:q<26:=hq;clear DD AV A6 B1 hb DA;have H8:(⟨Xz.toArray⟩:ByteArray).size=26:=rfl;go_wp2
    go_roundw;case rel=>
     refine ⟨k+1,by go_num,by omega, ?_,E1.setCell (p:=(Ad w.heap.size k)) zL _⟩;have:=DT.out.set_ (k:=k) (Xr c);rw[HS.out,HG.out] at this;exact this
    case measure=>simp[intOf];omega
  ·have A7:k=l.length:=(by omega);subst A7;rw[List.take_length,List.drop_length,List.append_nil] at hB;have ht:=hB.text cap 113 underlying113;rw[List.length_map] at ht;clear hB;go_wp2
   go_ret;exact ⟨rfl,hb⟩
theorem Hv (l:Str) (w:World) (hs:l.length<=1073741824):
 Calls prog 29 #[Sv l] w fun e w'=>e= .returned (.string ⟨(Xs l).toArray⟩)/\Below w.heap.size w w':=by
 obtain ⟨W1,cap,AB,B0,hB,hb,hz⟩:=BU l w;go_enter func29,ntmps29;go_wp2
 go_loopw [4,5,10] (fun _ _ i wr=> ∃k:Nat,i=Iv k/\k<=l.length/\Buf wr w.heap.size ((l.take k).map Xq++l.drop k)/\Below w.heap.size w wr) (fun _ _ i _=>l.length-(intOf i).toNat);case atStart=>exact ⟨0,rfl,by omega,by simpa using hB,hb⟩
 case round=>
  clear AB hB hb;obtain ⟨k,rfl,hk,hB,hb⟩:=hrel;by_cases A1:k<l.length
  ·have A0:k<((l.take k).map Xq++l.drop k).length:=(by simp;omega);obtain ⟨c,A2,hc⟩: ∃c,l[k]=c/\l.drop k=c::l.drop (k+1):=⟨l[k],rfl,List.drop_eq_getElem_cons A1⟩;have A6:=hB.cell k A0;have B1:=hB.free k A0;have A3:((l.take k).map Xq++l.drop k).set k (Xq c)=(l.take (k+1)).map Xq++l.drop (k+1):=by
    rw[hc,List.set_append_right _ _ (by simp;omega),List.take_succ_eq_append_getElem A1,A2];simp[Nat.min_eq_left hk]
   have hg:((l.take k).map Xq++l.drop k)[k]'A0=c:=(by rw[List.getElem_append_right (by simp;omega)];simp[Nat.min_eq_left hk,A2]);rw[hg] at A6;have A9:=Qi c;have HS:=hid A3;have HB:=hid hB;have HE:=hid hc;clear A3 hB hc hg A2;go_wp2_with fail;go_region_held3 (fun w'=>w'.cell? (Ad w.heap.size k)=some (.int .u8 c.toNat)/\Buf w' w.heap.size ((l.take k).map Xq++l.drop k)/\Below w.heap.size w w')
    (first
      |exact ⟨by simpa using A6,HB.out.drew,hb.drew⟩
      |(go_split_ands;exact ⟨(AL.cell (p:=(Ad w.heap.size k)) (Buf.lt ‹_›)).trans ‹_›,Buf.keep ‹_› AL (Buf.lt ‹_›),Below.trans ‹_› (AL.mono (Below.size ‹_›))⟩)
      |assumption)
    (first|(go_at_call 59;refine (OI _).mono ?_;rintro e w3 ⟨rfl,AL⟩)|(go_at_call 58;refine (strings_IndexByte _ _ _).mono ?_;rintro e w3 ⟨rfl,rfl⟩))
   rename_i hH;obtain ⟨H9,AV,E1⟩:=hH;have HA:=AV.free k A0;clear A6 B1 hb AL;rcases A9 with ⟨hx,he⟩|⟨⟨q,hq⟩,hx,he⟩
   ·rw[hx];have HX:=hid he;have DT:=hid AV;clear hx he AV;go_wp2
    go_roundw;case rel=>
     refine ⟨k+1,by go_num,by omega, ?_,E1⟩;have A5:=HS.out;rw[HX.out] at A5;rw[<-A5,D7 HE.out hk];exact DT.out
    case measure=>simp[intOf];omega
   ·rw[hx];have HX:=hid he;clear hx he;have DA:q<Xy.length:=hq;obtain ⟨g,G4,DD⟩: ∃g:UInt8,(∀h,(⟨#[65,66,67,68,69,70,71,72,73,74,75,76,77,78,79,80,81,82,83,84,85,86,87,88,89,90]⟩:ByteArray)[q]'h=g)/\Xq c=g:=by
     refine ⟨Xy[q],fun _=>rfl, ?_⟩;have:=HX.out;rw[List.getElem?_eq_getElem DA] at this;exact (Option.some.inj this).symm
    have HG:=hid DD;have DT:=hid AV;have H0:q<26:=hq;clear DD AV DA;go_wp2
    go_roundw;case rel=>
     refine ⟨k+1,by go_num,by omega, ?_,E1.setCell (p:=(Ad w.heap.size k)) zL _⟩;have:=DT.out.set_ (k:=k) (Xq c);rw[HS.out,HG.out] at this;exact this
    case measure=>simp[intOf];omega
  ·have A7:k=l.length:=(by omega);subst A7;rw[List.take_length,List.drop_length,List.append_nil] at hB;have ht:=hB.text cap 113 underlying113;rw[List.length_map] at ht;clear hB;go_wp2
   go_ret;exact ⟨rfl,hb⟩
theorem OJ: ∀n:Fin 256,Xq (Xr (UInt8.ofNat n.val))=Xq (UInt8.ofNat n.val)/\Xr (Xq (UInt8.ofNat n.val))=Xr (UInt8.ofNat n.val):=by decide+kernel
theorem T8 (c:UInt8):Xq (Xr c)=Xq c/\Xr (Xq c)=Xr c:=by have h:=OJ ⟨c.toNat,c.toNat_lt⟩;simpa only[UInt8.ofNat_toNat] using h
theorem OK (l:Str):Xs (loS l)=Xs l:=by simp only[Xs,loS,List.map_map];exact List.map_congr_left fun c _=>(T8 c).1
theorem OL (l:Str):loS (Xs l)=loS l:=by simp only[Xs,loS,List.map_map];exact List.map_congr_left fun c _=>(T8 c).2
theorem Sb (a b:Str):(loS a==loS b)=AF a b:=by rw[Bool.eq_iff_iff,AF,beq_iff_eq,beq_iff_eq];exact ⟨fun h=>by rw[<-OK a,h,OK],fun h=>by rw[<-OL a,h,OL]⟩
theorem Ay (a b:Str) (w:World) (hs:a.length<=1073741824) (E3:b.length<=1073741824):
 Calls prog 14 #[Sv a,Sv b] w fun e w'=>e= .returned (.bool (AF a b))/\Below w.heap.size w w':=by
 have HS:=hid (Sb a b);go_enter func14,ntmps14;go_wp2_with fail;refine (D8 a _ hs).mono ?_;rintro e w1 ⟨rfl,hb⟩;go_wp2_with fail;refine (D8 b _ E3).mono ?_;rintro e w2 ⟨rfl,B2⟩;go_wp2
 go_ret;exact ⟨AD (by rw[<-HS.out]),hb.trans (B2.mono hb.size)⟩
end Go.Proofs.YtjhpdljphchfaaaGreatDoor
