/- A part of the proof of ConvertUps: Join and JoinParts of the program and of the reference walked, where no list is empty. -/
import Derived.Test.YtjhpdljphchfaaaGreatDoorA12
import Derived.Test.YtjhpdljphchfaaaGreatDoorA01
import Derived.Test.YtjhpdljphchfaaaGreatDoorA00
import Derived.Test.YtjhpdljphchfaaaGreatDoorA10
import Derived.Deep.CutRange
import Derived.Laws.CopyOwn
import Derived.Lib.SliceRun
import Derived.Test.YtjhpdljphchfaaaGreatDoorA04
import Derived.OrdersHeld
import Derived.Test.YtjhpdljphchfaaaGreatDoorA07
set_option maxHeartbeats 40000000
set_option maxRecDepth 1000000
set_option linter.all false
namespace Go.Proofs.YtjhpdljphchfaaaGreatDoor
open Go.RowKit
open Go.Proofs.Tryz
theorem info5:(prog.info? 5).map (fun i=>(i.zero,i.size,i.bytes))=some (some (.int .u8 0),1,1):=by kernel_rfl
theorem On (v:Value) (w:World) (B:Nat) (o:Option Str) (h:Q9 w B v o) (W:World):(binOp .neq 113 v (.slice none 0 0)).run prog W= .ok (.bool o.isSome) W:=by
 cases o with
 |none=>
  obtain rfl:v= .slice none 0 0:=h;kernel_rfl
 |some n=>
  obtain ⟨g,cap,rfl,_⟩:=h;exact _root_.Go.run_neq_slice_nil W 113 5 _ _ _ underlying113
def Cv (w:World) (g:Nat) (cs:List Value):Prop:=w.heap[g]? =some (.cells cs.toArray 5 (0,0))
def H6 (M:Nat) (X:Str):List Value:=Lib.byteCells X++List.replicate (M- X.length) (.int .u8 0)
theorem MU {M:Nat} {X:Str} (h:X.length<=M):(H6 M X).length=M:=by simp[H6,Lib.byteCells];omega
theorem RA (M:Nat):(H6 M []).toArray=madeCells #[.int .u8 0] M:=by
 apply Array.ext
 ·simp[H6,Lib.byteCells,size_madeCells]
 ·intro i h1 h2;simp[H6,Lib.byteCells,madeCells,Nat.mod_one]
theorem Cv.lt {w:World} {g:Nat} {cs:List Value} (h:Cv w g cs):g<w.heap.size:=(Array.getElem?_eq_some_iff.1 h).1
theorem Cv.cellOf {w:World} {g:Nat} {cs:List Value} (h:Cv w g cs) (i:Nat):w.cell? (Ad g i)=cs[i]? :=by unfold Cv at h;rw[cell_of_row w g i cs.toArray 5 (0,0) h];simp
theorem Cv.free {w:World} {g:Nat} {cs:List Value} (h:Cv w g cs) (i:Nat):w.frozen? (Ad g i)=false:=by unfold Cv at h;simp[World.frozen?,h]
theorem Cv.set_ {w:World} {g:Nat} {cs:List Value} (h:Cv w g cs) (i:Nat) (u:Value):Cv (w.setCell (Ad g i) u) g (cs.set i u):=by unfold Cv at h⊢;simp[World.setCell,Array.getElem?_modify,h]
theorem Cv.cell {w:World} {g M:Nat} {X:Str} (h:Cv w g (H6 M X)) (hX:X.length<M): ∃z,w.cell? (Ad g X.length)=some z:=by rw[h.cellOf,List.getElem?_eq_getElem (by rw[MU (by omega)];exact hX)];exact ⟨_,rfl⟩
theorem Cv.set1 {w:World} {g M:Nat} {X:Str} (h:Cv w g (H6 M X)) (hX:X.length<M) (c:UInt8):Cv (w.setCell (Ad g X.length) (.int .u8 c.toNat)) g (H6 M (X++[c])):=by have h2:=h.set_ X.length (.int .u8 c.toNat);have e:(H6 M X).set X.length (.int .u8 c.toNat)=H6 M (X++[c]):=(by unfold H6;have hl:(Lib.byteCells X).length=X.length:=(by simp[Lib.byteCells]);obtain ⟨r,hr⟩: ∃r,M- X.length=r+1:=⟨M- X.length- 1,by omega⟩;rw[List.set_append_right _ _ (by omega),hl,Nat.sub_self,hr,List.replicate_succ,List.set_cons_zero,List.length_append,show M-(X.length+[c].length)=r by simp;omega];simp[Lib.byteCells]);rw[e] at h2;exact h2
theorem LX {M:Nat} {X n:Str} (h:X.length+n.length<=M):splice (H6 M X) X.length (Lib.byteCells n)=H6 M (X++n):=by unfold splice H6;have hl:(Lib.byteCells X).length=X.length:=(by simp[Lib.byteCells]);have hn:(Lib.byteCells n).length=n.length:=(by simp[Lib.byteCells]);have e1:(Lib.byteCells X++List.replicate (M- X.length) (Value.int .u8 0)).take X.length=Lib.byteCells X:=(by rw[<-hl];exact List.take_left);have e2:(Lib.byteCells X++List.replicate (M- X.length) (Value.int .u8 0)).drop (X.length+n.length)=List.replicate (M-(X.length+n.length)) (Value.int .u8 0):=(by rw[List.drop_append,hl,List.drop_eq_nil_of_le (by omega),List.nil_append,Nat.add_sub_cancel_left,List.drop_replicate,show M- X.length- n.length=M-(X.length+n.length) by omega]);rw[e1,hn,e2,List.length_append];simp[Lib.byteCells]
theorem Cv.buf {w:World} {g:Nat} {X:Str} (h:Cv w g (H6 X.length X)):Buf w g X:=
 ⟨h.lt,fun j hj=>by rw[h.cellOf];simp[H6,Lib.byteCells,hj],fun j _=>h.free j⟩
theorem H7 (l:Str) (c:UInt8) (w:World):Calls prog 204 #[Sv l,.string ⟨#[c]⟩] w fun e w'=>e= .returned (Iv (Lib.countByte l c))/\w=w':=
 (strings_Count_one _ c w).mono fun e w' h=>⟨by rw[h.1],h.2.symm⟩
theorem UV (l:Str) (c:UInt8):Lib.countByte l c<=l.length:=List.count_le_length
theorem VO (t:Str) (a:UInt8->Nat) (k:Nat) (h:k<t.length):((t.take (k+1)).map a).sum=((t.take k).map a).sum+a t[k]:=by rw[List.take_succ_eq_append_getElem h,List.map_append,List.sum_append];simp
theorem Sr (t:Str) (a:UInt8->Nat): ∀(k:Nat),((t.take k).map a).sum<=(t.map a).sum:=by
 induction t with
 |nil=>intro k;simp
 |cons x r ih=>
  intro k;cases k with
  |zero=>simp
  |succ k=>have:=ih k;simp only[List.take_succ_cons,List.map_cons,List.sum_cons];omega
theorem Oo (f:UInt8->Option Str) (t:Str) (B R:Nat) (l:Str) (w:World) (hs:l.length<=536870912) (hB:YT w B R f t) (OV: ∀c n,f c=some n->n.length=2) (hn:t.Nodup) (ht: ∀c,c∈t↔(f c).isSome=true) (aH:t.length<=100):
 Calls prog 324 #[.pointer (some (Ad R 0)),Sv l] w fun e w'=>e= .returned (.string ⟨(rS f l).toArray⟩)/\Below w.heap.size w w':=by
 have HC:=hid (Om f t hn ht l);have I3:=hid OV;have HT:=hid ht;have X2:=Vz f l;obtain ⟨N,hN⟩: ∃N,N=nH f l:=⟨_,rfl⟩;rw[<-hN] at HC X2;have HN:=hid hN;obtain ⟨v0,aI,⟨g0,cap0,rfl,DA,aJ,P1⟩⟩:=hB.lst;have HB:=hid hB;have HG:=hid P1;clear hn ht OV hN hB P1;go_enter func324,ntmps324;go_upto_if 26 with fail;go_cut [5,6] from 8 to 80 (fun s5 s6 wz=>s5=Iv ((l.length:Int)+N)/\s6= .bool (decide (0<N))/\ ∃m:Nat,wz=w.drewN m);case first=>
  by_cases h8:t.length*8<=l.length
  ·have I4:decide ((t.length:Int)*8<=(l.length:Int))=true:=(by simp;omega);rw[I4];go_wp2
   go_loopw [5,6,8,9,32] (fun s5 s6 _ _ i wr=> ∃k S m:Nat,k<=t.length/\i=Iv k/\s5=Iv ((l.length:Int)+S)/\s6= .bool (decide (0<S))/\S<=N/\Hid (S+((t.drop k).map fun x=>Lib.countByte l x).sum=N)/\wr=w.drewN m) (fun _ _ _ _ i _=>t.length-(intOf i).toNat);case atStart=>exact ⟨0,0,0,by omega,rfl,by simp,by simp,by omega,hid (by rw[Nat.zero_add,List.drop_zero];exact HC.out),rfl⟩
   case round=>
    obtain ⟨k,S,m,hk,rfl,rfl,rfl,I5,HS,rfl⟩:=hrel;by_cases DD:k<t.length
    ·have X3:=HG.out k DD;obtain ⟨c,hc,hd⟩: ∃c,c=t[k]/\t.drop k=c::t.drop (k+1):=⟨_,rfl,List.drop_eq_getElem_cons DD⟩;rw[<-hc] at X3;have P2:(f c).isSome=true:=(HT.out c).1 (by rw[hc];exact List.getElem_mem DD);obtain ⟨n,A1⟩: ∃n,f c=some n:=Option.isSome_iff_exists.1 P2;obtain ⟨v,hv,hr⟩:=HB.out.tab c;rw[A1] at hr;obtain ⟨gn,capn,rfl,_,_,_,_⟩:=hr;rw[I3.out c n A1] at hv;have XB:=UV l c;obtain ⟨q,hq⟩: ∃q,q=Lib.countByte l c:=⟨_,rfl⟩;have AN:S+q+((t.drop (k+1)).map fun x=>Lib.countByte l x).sum=N:=by
      have:=HS.out;rw[hd,List.map_cons,List.sum_cons,<-hq] at this;omega
     rw[<-hq] at XB;have Y1:S+q<=N:=(by omega);have HQ:=hid hq;have DT:=hid AN;clear hc P2 A1 hq hd AN;have PB:c.toNat<256:=c.toNat_lt;have aK: ∀h,(⟨#[c]⟩:ByteArray)[0]'h=c:=fun _=>rfl;by_cases PF:q=0
     ·have Y2:((q:Int) != 0)=false:=(by simp[PF]);subst PF;go_wp2_with fail;refine (H7 l c _).mono ?_;rintro e w' ⟨rfl,rfl⟩;rw[<-HQ.out];go_wp2
      go_roundw;case rel=>exact ⟨k+1,S,m,by omega,by go_num,rfl,rfl,I5,by simpa using DT,rfl⟩
      case measure=>simp[intOf];omega
     ·have Y2:((q:Int) != 0)=true:=(by simp;omega);go_wp2_with fail;refine (H7 l c _).mono ?_;rintro e w' ⟨rfl,rfl⟩;rw[<-HQ.out];go_wp2_with fail;have Y3:IntKind.i64.wrap ((q:Int)*1)=q:=(by rw[IntKind.wrap_i64];omega);have aL:IntKind.i64.wrap ((l.length:Int)+S+q)=(l.length:Int)+S+q:=by rw[IntKind.wrap_i64];omega
      go_quiet (fail)
      go_wp2
      go_roundw;case rel=>exact ⟨k+1,S+q,_,by omega,by go_num,by go_num,by simp;omega,Y1,DT,rfl⟩
      case measure=>simp[intOf];omega
    ·obtain rfl:k=t.length:=(by omega);have FB:S=N:=(by have:=HS.out;rw[List.drop_length] at this;simpa using this);subst FB;go_wp2
     go_meet;case rel=>exact ⟨rfl,rfl,m,rfl⟩
  ·have I4:decide ((t.length:Int)*8<=(l.length:Int))=false:=(by simp;omega);rw[I4];go_wp2
   go_loopw [5,6,10,11] (fun s5 s6 i _ wr=> ∃k S m:Nat,k<=l.length/\i=Iv k/\s5=Iv ((l.length:Int)+S)/\s6= .bool (decide (0<S))/\S<=N/\Hid (S+nH f (l.drop k)=N)/\wr=w.drewN m) (fun _ _ i _ _=>l.length-(intOf i).toNat);case atStart=>exact ⟨0,0,0,by omega,rfl,by simp,by simp,by omega,hid (by rw[Nat.zero_add,List.drop_zero];exact HN.out.symm),rfl⟩
   case round=>
    obtain ⟨k,S,m,hk,rfl,rfl,rfl,I5,HS,rfl⟩:=hrel;by_cases A6:k<l.length
    ·obtain ⟨c,hx,hd⟩: ∃c,(∀h,(⟨l.toArray⟩:ByteArray)[k]'h=c)/\l.drop k=c::l.drop (k+1):=⟨l[k],fun _=>rfl,List.drop_eq_getElem_cons A6⟩;obtain ⟨v,hv,hr⟩:=HB.out.tab c;have AV:=On v w B (f c) hr;have PB:c.toNat<256:=c.toNat_lt;have AN:S+((if (f c).isSome then 1 else 0)+nH f (l.drop (k+1)))=N:=by
      have:=HS.out;rw[hd] at this;have e2:nH f (c::l.drop (k+1))=nH f (l.drop (k+1))+(if (f c).isSome then 1 else 0):=(by simp[nH,List.countP_cons]);omega
     clear hd HS;cases A1:f c with
     |none=>
      rw[A1] at AV AN hr;obtain rfl:v= .slice none 0 0:=hr;have DT:=hid (show S+nH f (l.drop (k+1))=N by simpa using AN);clear AN A1;go_wp2
      go_roundw;case rel=>exact ⟨k+1,S,m,by omega,by go_num,rfl,rfl,I5,DT,rfl⟩
      case measure=>simp[intOf];omega
     |some n=>
      rw[A1] at AV AN hr;obtain ⟨gn,capn,rfl,_,_,_,_⟩:=hr;rw[I3.out c n A1] at hv AV;have DT:=hid (show S+1+nH f (l.drop (k+1))=N by simp at AN;omega);have YB:S+1<=N:=(by have:=DT.out;omega);clear AN A1;go_wp2
      go_roundw;case rel=>exact ⟨k+1,S+1,m,by omega,by go_num,by go_num,by simp,YB,DT,rfl⟩
      case measure=>simp[intOf];omega
    ·obtain rfl:k=l.length:=(by omega);have FB:S=N:=(by have:=HS.out;rw[List.drop_length] at this;simpa[nH] using this);subst FB;go_wp2
     go_meet;case rel=>exact ⟨rfl,rfl,m,rfl⟩
 case rest=>
  obtain ⟨rfl,rfl,m,rfl⟩:=hcut;by_cases Z0:0<N
  ·obtain ⟨i0,hi,E0,E1,E2⟩:=info_parts info5;obtain ⟨M,hM⟩: ∃M:Nat,M=l.length+N:=⟨_,rfl⟩;have Q1:(l.length:Int)+N=(M:Int):=(by omega);rw[Q1,show decide (0<N)=true by simpa using Z0];have aM:M<=1073741824:=(by omega);have HM:=hid hM;have aN: ∀W:World,(Instr.makeSlice 113 (Iv (M:Int)) (Iv (M:Int))).run prog W= .ok (.slice (some (Ad W.heap.size 0)) M M) (W.alloc (.cells (madeCells #[.int .u8 0] M) 5)):=fun W=>by
    have:=run_make (P:=prog) W 113 5 i0 (.int .u8 0) underlying113 hi E0 .i64 .i64 M M (by omega) (by omega) (by rw[E2];omega) (by omega);rw[E1] at this;simpa[Value.cells] using this
   clear hi E0 E1 E2 hM Q1;go_wp2_with fail;have Q2:Cv ((w.alloc (.cells (madeCells #[.int .u8 0] M) 5)).drewN m) w.heap.size (H6 M []):=(by show ((w.alloc _).drewN m).heap[w.heap.size]? =_;have e:(w.alloc (.cells (madeCells #[.int .u8 0] M) 5)).heap[w.heap.size]? =some (.cells (madeCells #[.int .u8 0] M) 5):=heap_alloc_last w _;rw[RA];exact e);have R0:Below w.heap.size w ((w.alloc (.cells (madeCells #[.int .u8 0] M) 5)).drewN m):=below_drewN' zA _;go_loopw [13,14,15] (fun j i _ wr=> ∃(k:Nat) (X:Str),k<=l.length/\i=Iv k/\j=Iv X.length/\Hid (X=rS f (l.take k))/\Hid (X.length+((l.drop k).length+nH f (l.drop k))=M)/\Cv wr w.heap.size (H6 M X)/\Below w.heap.size w wr/\w.heap.size<wr.heap.size) (fun _ i _ _=>l.length-(intOf i).toNat);case atStart=>exact ⟨0,[],by omega,rfl,rfl,hid rfl,hid (by rw[List.drop_zero,<-HN.out,HM.out];simp),Q2,R0,by simp⟩
   case round=>
    clear Q2 R0;obtain ⟨k,X,hk,rfl,rfl,HX,HL,A8,hb,F1⟩:=hrel;by_cases A6:k<l.length
    ·obtain ⟨c,hx,hd,S1⟩: ∃c,(∀h,(⟨l.toArray⟩:ByteArray)[k]'h=c)/\l.drop k=c::l.drop (k+1)/\l.take (k+1)=l.take k++[c]:=⟨l[k],fun _=>rfl,List.drop_eq_getElem_cons A6,List.take_succ_eq_append_getElem A6⟩;obtain ⟨v,hv,hr⟩:=HB.out.tab c;have Z1:wr.cell? (Ad R c.toNat)=some v:=(hb.cell (p:=(Ad R c.toNat)) HB.out.lt).trans hv;have AV:=On v w B (f c) hr;have PB:c.toNat<256:=c.toNat_lt;have SS:(l.drop k).length+nH f (l.drop k)=1+(if (f c).isSome then 1 else 0)+((l.drop (k+1)).length+nH f (l.drop (k+1))):=by
      have e2:nH f (c::l.drop (k+1))=nH f (l.drop (k+1))+(if (f c).isSome then 1 else 0):=(by simp[nH,List.countP_cons]);rw[hd,e2,List.length_cons];omega
     have T5:=hid HL.out;have E3:=HL.out;rw[SS] at E3;have F2:rS f (l.take (k+1))=X++rB f c:=(by rw[S1,Sn,HX.out]);clear hd S1 SS hv HL T5;cases A1:f c with
     |none=>
      rw[A1] at AV hr E3;obtain rfl:v= .slice none 0 0:=hr;have G1:rB f c=[c]:=(by unfold rB;rw[A1];rfl);rw[G1] at F2;have G2:X.length+(1+((l.drop (k+1)).length+nH f (l.drop (k+1))))=M:=(by simpa using E3);have HP:X.length<M:=(by omega);have I6:=hid F2;have IB:=hid G2;obtain ⟨z,hz⟩:=A8.cell HP;have aO:=A8.free X.length;have KI:=hid (A8.set1 HP c);clear F2 E3 G1 G2 A1;go_wp2
      go_roundw;case rel=>exact ⟨k+1,X++[c],by omega,by go_num,by simp,hid I6.out.symm,hid (by have:=IB.out;simp only[List.length_append,List.length_cons,List.length_nil] at this⊢;omega),KI.out,hb.setCell (p:=(Ad w.heap.size X.length)) zL _,by simpa[World.setCell] using F1⟩
      case measure=>simp[intOf];omega
     |some n=>
      rw[A1] at AV hr E3;obtain ⟨gn,capn,rfl,Z2,aD,TT,HY⟩:=hr;have F3:=I3.out c n A1;have G1:rB f c=n:=(by unfold rB;rw[A1];rfl);rw[G1] at F2;have G2:X.length+(2+((l.drop (k+1)).length+nH f (l.drop (k+1))))=M:=(by simpa using E3);have HP:X.length+2<=M:=(by omega);have aP:(c.toNat:Int)<256:=(by omega);have aQ:(0:Int)<=(X.length:Int):=(by omega);have aE:(X.length:Int)<=(M:Int):=(by omega);have aR: ¬M=X.length:=(by omega);have Y3:IntKind.i64.wrap ((X.length:Int)+2)=(X.length:Int)+2:=(by rw[IntKind.wrap_i64];omega);have I6:=hid F2;have IB:=hid G2;have TX:=hid F3;have L1:=hid (LX (X:=X) (n:=n) (M:=M) (by rw[F3];exact HP));have U1: ∀i u,(Lib.byteCells n)[i]? =some u->wr.cell? (((Ad gn 0):Addr).add i)=some u:=fun i u hu=>(by have hi:i<n.length:=(by have:=(List.getElem?_eq_some_iff.1 hu).1;simpa[Lib.byteCells] using this);have B0:((Ad gn 0):Addr).add i=(Ad gn i):=(by unfold Addr.add;split<;>simp_all);rw[B0,hb.cell (p:=(Ad gn i)) TT,HY i hi];simp only[Lib.byteCells,List.getElem?_map,List.getElem?_eq_getElem hi,Option.map_some] at hu;exact hu);have U2:(Lib.byteCells n).length=2:=(by simp[Lib.byteCells,F3]);have L2:=hid U2;have L4:=hid A8;rw[F3] at Z1 AV;clear F2 E3 G1 G2 A1 F3 U2 HY A8 Z2;go_wp2_with fail
      go_region_law ((refine step_copy_splice rfl (.tmp 105) (.tmp 111) 113 113 (by rfl) 5 underlying113 (by kernel_rfl) (some (Ad w.heap.size X.length)) (some (Ad gn 0)) (M- X.length) (M- X.length) 2 capn (by simp[Act.eval]) (by simp[Act.eval]) w.heap.size X.length (H6 M X) 5 (by exact L4.out) (Lib.byteCells n) (by rw[L2.out];exact (Nat.min_eq_left (by omega)).symm) (fun _=>⟨rfl,_,rfl,U1⟩) (by rw[L2.out,MU (by omega)];omega) (by simp[Lib.byteCells,Value.oneCell']) w.heap.size w (by exact hb.drew) zL ?_;rw[L2.out];intro w5 Z3 L5))
      have G4:Cv w5 w.heap.size (H6 M (X++n)):=by rw[<-L1.out];exact Z3.out
      go_frame
      go_wp2
      go_roundw;case rel=>exact ⟨k+1,X++n,by omega,by go_num,by have:=TX.out;simp[this],hid I6.out.symm,hid (by have:=IB.out;have:=TX.out;rw[List.length_append];omega),G4,L5,G4.lt⟩
      case measure=>simp[intOf];omega
    ·obtain rfl:k=l.length:=(by omega);have e1:X=rS f l:=(by rw[HX.out,List.take_length]);have e2:X.length=M:=(by have:=HL.out;rw[List.drop_length] at this;simpa[nH] using this);have Z4:=hid e1;subst e2;have aS:=A8.buf.text X.length 113 underlying113;clear A8 e1;go_wp2
     go_ret;exact ⟨CZ Z4.out,hb⟩
  ·obtain rfl:N=0:=(by omega);have HR:=hid (So f l HN.out.symm);go_wp2
   go_ret;exact ⟨CZ HR.out.symm,below_drewN' zB _⟩
structure RB (P:List Pr):Prop where
 lo:2<=P.length
 hi:P.length<=100
 dist: ∀k p,P[k]? =some p->YS (P.drop (k+1)) p.1=none
theorem Ss (P:List Pr) (c:UInt8) (n:Str) (h:YS P c=some n):n.length=2:=by
 unfold YS at h;cases hf:P.find? (fun p=>p.1==c) with
 |none=>rw[hf] at h;cases h
 |some p=>
  rw[hf] at h;have:[p.2.1,p.2.2]=n:=(by simpa using h);rw[<-this];rfl
theorem LY: ∀(P:List Pr) (c:UInt8),c∈P.map (·.1)↔(YS P c).isSome=true
 |[],c=>by simp[YS]
 |p::r,c=>by
  have ih:=LY r c;rw[F0,List.map_cons,List.mem_cons];by_cases h:p.1=c
  ·rw[if_pos h];simp[h]
  ·rw[if_neg h,<-ih];simp[Ne.symm h]
theorem RB.tail_none {p:Pr} {r:List Pr} (h: ∀k q,(p::r)[k]? =some q->YS ((p::r).drop (k+1)) q.1=none):YS r p.1=none/\ ∀k q,r[k]? =some q->YS (r.drop (k+1)) q.1=none:=
 ⟨h 0 p rfl,fun k q hq=>h (k+1) q (by simpa using hq)⟩
theorem MV: ∀(P:List Pr),(∀k p,P[k]? =some p->YS (P.drop (k+1)) p.1=none)->(P.map (·.1)).Nodup
 |[],_=>by simp
 |p::r,h=>by obtain ⟨h1,h2⟩:=RB.tail_none h;rw[List.map_cons,List.nodup_cons];refine ⟨fun hm=> ?_,MV r h2⟩;rw[LY,h1] at hm;cases hm
theorem Hn (P:List Pr) (b:Nat) (d m:Int) (r:Value) (A:Option Addr) (c:Nat) (w:World) (hP:RB P) (hR:YU w b d m r (.slice A (YR P).length c)) (hS:CD w w.heap.size (.slice A (YR P).length c) (YR P)):
 Calls prog 197 #[.pointer (some (Ad b 0))] w fun e w'=>e= .returned (.tuple #[])/\(∃R,YU w' b d m (.iface 330 (.pointer (some (Ad R 0)))) (.slice none 0 0)/\YT w' w.heap.size R (YS P) (P.reverse.map (·.1)))/\Below b w w':=by
 go_enter func197,ntmps197;go_wp2_with fail;refine (NO P b d m r A c w hP.lo hP.hi hP.dist hR hS).mono ?_;rintro e w1 ⟨⟨R,rfl,hB⟩,hb⟩;have B1:=hR.keep hb hR.lt;have c3:=B1.c3;have f3:=B1.f 3;have A9:=B1.set3 (.iface 330 (.pointer (some (Ad R 0))));have c4:=A9.c4;have f4:=A9.f 4;have Z5:=hid (A9.set4 (.slice none 0 0));have Z6:=hid ((hB.low (a:=(Ad b 3)) hR.lt (.iface 330 (.pointer (some (Ad R 0))))).low (a:=(Ad b 4)) hR.lt (.slice none 0 0));have F1:=hR.lt;clear hR B1 A9 hB hS;go_wp2_with fail
 go_end0
 have A0:Below b w w1:=hb.mono (by omega);exact ⟨rfl,⟨R,Z5.out,Z6.out⟩,(A0.setCell (p:=(Ad b 3)) zL _).setCell (p:=(Ad b 4)) zL _⟩
theorem J7 (a:Addr) (x:Int) (w:World) (h:w.cell? a=some (.int .u32 x)):Calls prog 230 #[.pointer (some a)] w fun e w'=>e= .returned (.bool (x != 0))/\w=w':=by
 have hl:=run_call_load (P:=prog) func244 (by kernel_rfl) (by kernel_rfl) (by kernel_rfl) .u32 (by kernel_rfl) h;go_enter func230,ntmps230;go_wp2
 go_ret;exact ⟨rfl,rfl⟩
theorem Oq (P:List Pr) (b:Nat) (r:Value) (A:Option Addr) (c:Nat) (w:World) (hP:RB P) (hR:YU w b 0 0 r (.slice A (YR P).length c)) (hS:CD w b (.slice A (YR P).length c) (YR P)):
 Calls prog 231 #[.pointer (some (Ad b 0)),.func (.func 197) #[.pointer (some (Ad b 0))] #[]] w fun e w'=>e= .returned (.tuple #[])/\(∃R,YU w' b 1 0 (.iface 330 (.pointer (some (Ad R 0)))) (.slice none 0 0)/\YT w' w.heap.size R (YS P) (P.reverse.map (·.1)))/\Below b w w':=by
 have V5: ∀(x:Bool) (w:World),(Op.unary .not (.bool x)).run prog w= .ok (.bool (!x)) w:=fun _ _=>rfl;have c1:=hR.c1;have f1:=hR.f 1;have B1:=hR.set1 1;have A0:Below b w (w.setCell (Ad b 1) (.int .i32 1)):=(Below.refl b w).setCell (p:=(Ad b 1)) zL _;have V6:CD (w.setCell (Ad b 1) (.int .i32 1)) b (.slice A (YR P).length c) (YR P):=hS.keep A0 zL;have AB:(w.setCell (Ad b 1) (.int .i32 1)).heap.size=w.heap.size:=(by simp[World.setCell]);have F1:=hR.lt;have hl:=run_call_load (P:=prog) func244 (by kernel_rfl) (by kernel_rfl) (by kernel_rfl) .u32 (by kernel_rfl) B1.c0;have Z7:=hid (show CD (w.setCell (Ad b 1) (.int .i32 1)) (w.setCell (Ad b 1) (.int .i32 1)).heap.size (.slice A (YR P).length c) (YR P) from V6.keep zB (by omega));have VC:=hid B1;have Z8:=hid A0;have Z9:=hid AB;clear hS V6 hR B1 A0 AB
 go_enter_defers func231,ntmps231
 go_wp2_with (go_at_call 245;refine (Ok (Ad b 1) _ (by go_simp) (by go_simp)).mono ?_;rintro e w' ⟨rfl,rfl⟩);refine (J7 (Ad b 0) 0 _ VC.out.c0).mono ?_;rintro e w' ⟨rfl,rfl⟩;clear hl;go_wp2_with fail;refine (Hn P b 0 1 r A c _ hP VC.out Z7.out).mono ?_;rintro e w2 ⟨rfl,⟨R,A9,H0⟩,A7⟩;have H1:=hid A9;have L6:=hid H0;have ZI:=hid A7;clear A9 H0 A7;go_wp2_with fail;refine leaves_cons (f:=247) (args:= #[.pointer (some (Ad b 0)),.bool true]) (by simp) (by simp[go_sem]) ?_;refine (Hl (Ad b 0) (.int .u32 0) .returning _ H1.out.c0 (H1.out.f 0)).mono ?_;rintro e u' w'' ⟨rfl,rfl,rfl⟩;refine leaves_cons (f:=246) (args:= #[.pointer (some (Ad b 1))]) (by simp[settle]) (by simp[go_sem]) ?_;refine (GU (Ad b 1) _ _ (H1.out.drew.set0 1).c1 ((H1.out.drew.set0 1).f 1)).mono ?_;rintro e u' w'' ⟨rfl,rfl,rfl⟩;have I0:(Ending.returned (.tuple #[])= .returned (.tuple #[]))/\(∃R,YU ((w2.drew.setCell (Ad b 0) (.int .u32 1)).setCell (Ad b 1) (.int .i32 0)) b 1 0 (.iface 330 (.pointer (some (Ad R 0)))) (.slice none 0 0)/\YT ((w2.drew.setCell (Ad b 0) (.int .u32 1)).setCell (Ad b 1) (.int .i32 0)) w.heap.size R (YS P) (P.reverse.map (·.1)))/\Below b w ((w2.drew.setCell (Ad b 0) (.int .u32 1)).setCell (Ad b 1) (.int .i32 0)):=by
  refine ⟨rfl,⟨R,(H1.out.drew.set0 1).set1 0, ?_⟩, ?_⟩
  ·have hB:=L6.out;rw[Z9.out] at hB;have ZJ:YT w2.drew w.heap.size R (YS P) (P.reverse.map (·.1)):=hB.keep (fun _ _ _=>rfl) zL;exact (ZJ.low (a:=(Ad b 0)) F1 _).low (a:=(Ad b 1)) F1 _
  ·exact ((Z8.out.trans ZI.out).drew.setCell (p:=(Ad b 0)) zL _).setCell (p:=(Ad b 1)) zL _
 have HF:=hid I0;clear I0;exact ⟨_,results_none rfl _ _ _,HF.out.1,HF.out.2⟩
theorem Ot (P:List Pr) (b:Nat) (r:Value) (A:Option Addr) (c:Nat) (w:World) (hP:RB P) (hR:YU w b 0 0 r (.slice A (YR P).length c)) (hS:CD w b (.slice A (YR P).length c) (YR P)):
 Calls prog 196 #[.pointer (some (Ad b 0)),.func (.func 197) #[.pointer (some (Ad b 0))] #[]] w fun e w'=>e= .returned (.tuple #[])/\(∃R,YU w' b 1 0 (.iface 330 (.pointer (some (Ad R 0)))) (.slice none 0 0)/\YT w' w.heap.size R (YS P) (P.reverse.map (·.1)))/\Below b w w':=by
 have V5: ∀(x:Bool) (w:World),(Op.unary .not (.bool x)).run prog w= .ok (.bool (!x)) w:=fun _ _=>rfl;have HR:=hid hR;have HS:=hid hS;clear hR hS;go_enter func196,ntmps196;go_wp2_with fail;refine (J7 (Ad b 0) 0 _ HR.out.c0).mono ?_;rintro e w' ⟨rfl,rfl⟩;go_wp2_with fail;refine (Oq P b r A c _ hP HR.out HS.out).mono ?_;rintro e w2 ⟨rfl,h2,h3⟩;have H2:=hid h2;clear h2;go_wp2_with fail
 go_end0
 exact ⟨rfl,H2.out,h3⟩
theorem V0 (a:Addr) (w:World):(method 503 330 (.pointer (some a)) "Replace").run prog w= .ok (324,.pointer (some a)) w:=by kernel_rfl
theorem FY (P:List Pr) (b:Nat) (r:Value) (A:Option Addr) (c:Nat) (l:Str) (w:World) (hl:l.length<=536870912) (hP:RB P) (hR:YU w b 0 0 r (.slice A (YR P).length c)) (hS:CD w b (.slice A (YR P).length c) (YR P)):
 Calls prog 146 #[.pointer (some (Ad b 0)),Sv l] w fun e w'=>e= .returned (.string ⟨(rS (YS P) l).toArray⟩)/\Below b w w':=by
 have aT: ∀(fn:Fn) (first cap:Array Value) (w:World),(Instr.makeFunc fn first cap).run prog w= .ok (.func fn first cap) w:=fun _ _ _ _=>rfl;have hm:=V0;have HR:=hid hR;have HS:=hid hS;have F1:=hR.lt;clear hR hS;go_enter func146,ntmps146;go_wp2_with fail;refine (Ot P b r A c _ hP HR.out HS.out).mono ?_;rintro e w2 ⟨rfl,⟨R,A9,H0⟩,A7⟩;have c3:=A9.c3;have L6:=hid H0;have aF:=A9.lt;clear A9 H0;go_wp2_with fail;refine (Oo (YS P) (P.reverse.map (·.1)) _ R l _ hl L6.out (Ss P) ?_ ?_ ?_).mono ?_
 ·rw[List.map_reverse];exact (List.reverse_perm _).nodup_iff.2 (MV P hP.dist)
 ·intro c;rw[List.map_reverse,List.mem_reverse];exact LY P c
 ·simpa using hP.hi
 rintro e w3 ⟨rfl,H3⟩;go_wp2
 go_ret;exact ⟨rfl,A7.trans (H3.mono (by omega))⟩
theorem MW (P:List Pr) (g n:Nat) (w:World) (hP:RB P) (hn:(YR P).length=n) (hg:g<w.heap.size) (hc: ∀i (h:i<(YR P).length),w.cell? (Ad g i)=some (.string ⟨(YR P)[i].toArray⟩)):
 Calls prog 145 #[.slice (some (Ad g 0)) n n] w fun e w'=>(∃b A c,e= .returned (.pointer (some (Ad b 0)))/\w.heap.size<=b/\YU w' b 0 0 .nilIface (.slice A (YR P).length c)/\CD w' b (.slice A (YR P).length c) (YR P))/\Below w.heap.size w w':=by
 obtain ⟨i0,hi,E0,E1,E2⟩:=info_parts Fm;have aU:=hP.lo;have aV:=hP.hi;have I1:=LW P;have aW:((n:Int)%2==1)=false:=(by simp;omega);have F3:n<=200:=(by omega);have aX:0<n:=(by omega);have AL: ∀(j:Nat) u,((YR P).map fun s=>Sv s)[j]? =some u->w.cell? (((Ad g 0):Addr).add j)=some u:=fun j u hu=>(by have hj:j<(YR P).length:=(by have:=(List.getElem?_eq_some_iff.1 hu).1;simpa using this);have B0:((Ad g 0):Addr).add j=(Ad g j):=(by unfold Addr.add;split<;>simp_all);rw[B0,hc j hj];simpa[List.getElem?_eq_getElem hj] using hu);obtain ⟨L,hL⟩: ∃L,L=YR P:=⟨_,rfl⟩;rw[<-hL] at hn hc AL⊢;clear I1 hL hc;have HN:=hid hn;have HI:=hid hi;have HZ:=hid E0;have ZK:=hid E1;have ZL:=hid E2;have VX:(0+n)*16<=140737488355328:=(by omega);clear hn hi E0 E1 E2;go_enter func145,ntmps145;go_wp2_with (at_builtin;refine wpList_append_own _ rfl _ _ 55 rfl w.heap.size 9 i0 (.string ⟨#[]⟩) 1 16 underlying55 HI.out HZ.out ZK.out ZL.out rfl (by decide) (.slice none 0 0) 0 [] rfl (World.ownsRow_nil _ _ _ _) (Ad g 0) n n (L.map fun s=>Sv s) rfl (by rw[List.length_map,HN.out];simp) AL (by simp[Value.oneCell']) (by unfold maxLen;omega) VX zL ?_;intro v1 w1 A5 DA _;refine Hid.out ?_);refine Lib.hid ?_;rw[Nat.zero_add,List.nil_append] at A5;obtain ⟨g1,cap,rfl,W0,W1⟩: ∃g1 cap,v1= .slice (some (Ad g1 0)) n cap/\n<=cap/\g1<w1.heap.size:=by
  rcases A5.2 with ⟨_,h0⟩|⟨g1,cap,cur,e1,_,e3,e4,_⟩
  ·omega
  ·exact ⟨g1,cap,e1,e4,(Array.getElem?_eq_some_iff.1 e3).1⟩
 have hS:CD w1 w1.heap.size (.slice (some (Ad g1 0)) L.length cap) L:=(by refine ⟨some (Ad g1 0),cap,rfl,by rw[HN.out];exact W0,fun _=>⟨g1,0,rfl,W1,fun i hi j hj=> ?_⟩⟩;obtain rfl:j=0:=(by omega);have:=A5.cells (g:=g1) rfl i (.string ⟨(L.getD i []).toArray⟩) (by simp[List.getD,List.getElem?_eq_getElem hi]);have B0:((Ad g1 0):Addr).add i=(Ad g1 i):=(by unfold Addr.add;split<;>simp_all);rw[B0] at this;simpa using this);have A0:Below w.heap.size w w1:=⟨DA.os,DA.tape,DA.output,DA.size,fun k hk=>DA.block k hk (by simp[Value.ownBlock])⟩;have HS:=hid hS;have AB:=A0.size;clear A5 DA hS AL;go_wp2
 go_ret;refine ⟨⟨w1.heap.size,some (Ad g1 0),cap,rfl,AB,⟨by simp,by simp,by simp,by simp,by rw[HN.out];simp,fun j=>by simp[World.frozen?,World.alloc, -World.alloc_eq]⟩,HS.out.keep zA zL⟩,A0.alloc AB _⟩
def FL:List Pr:=[(94,94,94),(10,94,110),(34,94,39)]
def Ec:List Pr:=[(92,92,92),(44,92,44),(59,92,59),(10,92,110)]
theorem UW:RB FL:=⟨by decide,by decide,fun k p h=>by
 match k,h with
 |0,h=>have:FL[0]? =some p:=h;obtain rfl:(94,94,94)=p:=by simpa[FL] using this
       rfl
 |1,h=>have:FL[1]? =some p:=h;obtain rfl:(10,94,110)=p:=by simpa[FL] using this
       rfl
 |2,h=>have:FL[2]? =some p:=h;obtain rfl:(34,94,39)=p:=by simpa[FL] using this
       rfl
 |k+3,h=>simp[FL] at h⟩
theorem UX:RB Ec:=⟨by decide,by decide,fun k p h=>by
 match k,h with
 |0,h=>have:Ec[0]? =some p:=h;obtain rfl:(92,92,92)=p:=by simpa[Ec] using this
       rfl
 |1,h=>have:Ec[1]? =some p:=h;obtain rfl:(44,92,44)=p:=by simpa[Ec] using this
       rfl
 |2,h=>have:Ec[2]? =some p:=h;obtain rfl:(59,92,59)=p:=by simpa[Ec] using this
       rfl
 |3,h=>have:Ec[3]? =some p:=h;obtain rfl:(10,92,110)=p:=by simpa[Ec] using this
       rfl
 |k+4,h=>simp[Ec] at h⟩
theorem UY (c:UInt8):rB (YS FL) c=Jn c:=by
 unfold rB Jn;simp only[FL,F0];by_cases h1:c=94
 ·subst h1;rfl
 ·by_cases h2:c=10
  ·subst h2;rfl
  ·by_cases h3:c=34
   ·subst h3;rfl
   ·rw[if_neg (Ne.symm h1),if_neg (Ne.symm h2),if_neg (Ne.symm h3),if_neg h1,if_neg h2,if_neg h3];rfl
theorem UZ (c:UInt8):rB (YS Ec) c=LC c:=by
 unfold rB LC;simp only[Ec,F0];by_cases h1:c=92
 ·subst h1;rfl
 ·by_cases h2:c=44
  ·subst h2;rfl
  ·by_cases h3:c=59
   ·subst h3;rfl
   ·by_cases h4:c=10
    ·subst h4;rfl
    ·rw[if_neg (Ne.symm h1),if_neg (Ne.symm h2),if_neg (Ne.symm h3),if_neg (Ne.symm h4),if_neg (by simp[h1,h2,h3]),if_neg h4];rfl
theorem Ua (l:Str):rS (YS FL) l=Fk l:=by unfold rS Fk;exact congrArg (fun g=>l.flatMap g) (funext UY)
theorem Ub (l:Str):rS (YS Ec) l=Cz l:=by unfold rS Cz;exact congrArg (fun g=>l.flatMap g) (funext UZ)
theorem encode_any (l:Str) (w:World) (hl:l.length<=536870912):Calls prog 139 #[Sv l] w fun e w'=>e= .returned (.string ⟨(Fk l).toArray⟩)/\Below w.heap.size w w':=by
 have HR:=hid (Ua l);have B2: ∀o,Below w.heap.size w (w.alloc o):=fun o=>zB.alloc zL o;go_enter func139,ntmps139;go_wp2_with fail;refine (MW FL _ 6 _ UW rfl (by simp) (fun i hi=> ?_)).mono ?_
 ·have L7:i<6:=hi;rw[cell_of_row _ _ i _ _ _ (heap_alloc_last w _)]
  match i,L7 with
  |0,_=>rfl
  |1,_=>rfl
  |2,_=>rfl
  |3,_=>rfl
  |4,_=>rfl
  |5,_=>rfl
 rintro e w1 ⟨⟨b,A,c,rfl,L8,hR,hS⟩,A0⟩;have L9:=(B2 _).trans (A0.mono (by simp));have LB:=hid hR;have HS:=hid hS;clear hR hS A0 B2;go_wp2_with fail;refine (FY FL b _ A c l _ hl UW LB.out HS.out).mono ?_;rintro e w2 ⟨rfl,A7⟩;go_wp2
 go_ret;refine ⟨CZ HR.out,L9.trans (A7.mono (by simp at L8;omega))⟩
theorem FM (l:Str) (w:World) (hl:l.length<=536870912):Calls prog 93 #[Sv l] w fun e w'=>e= .returned (.string ⟨(Cz l).toArray⟩)/\Below w.heap.size w w':=by
 have HR:=hid (Ub l);have B2: ∀o,Below w.heap.size w (w.alloc o):=fun o=>zB.alloc zL o;go_enter func93,ntmps93;go_wp2_with fail;refine (MW Ec _ 8 _ UX rfl (by simp) (fun i hi=> ?_)).mono ?_
 ·have L7:i<8:=hi;rw[cell_of_row _ _ i _ _ _ (heap_alloc_last w _)]
  match i,L7 with
  |0,_=>rfl
  |1,_=>rfl
  |2,_=>rfl
  |3,_=>rfl
  |4,_=>rfl
  |5,_=>rfl
  |6,_=>rfl
  |7,_=>rfl
 rintro e w1 ⟨⟨b,A,c,rfl,L8,hR,hS⟩,A0⟩;have L9:=(B2 _).trans (A0.mono (by simp));have LB:=hid hR;have HS:=hid hS;clear hR hS A0 B2;go_wp2_with fail;refine (FY Ec b _ A c l _ hl UX LB.out HS.out).mono ?_;rintro e w2 ⟨rfl,A7⟩;go_wp2
 go_ret;refine ⟨CZ HR.out,L9.trans (A7.mono (by simp at L8;omega))⟩
theorem Uc (g i:Nat):((Ad g 0):Addr).add i=(Ad g i):=by unfold Addr.add;split<;>simp_all
theorem AU {w:World} {ops:Array Oper} {rest:List Oper} {o:Oper} {a:Act} {Q:Exit->Act->World->Prop} (ZM:o.guard=none) (s x:Operand) (T:TypeId)
 (ho:o.op= .call {callee:= .builtin .append,args:= #[s,x],argTypes:= #[T,T]})
 (base:Nat) (E:TypeId) (z:Value) (size bytes:Nat) (hT:prog.underlying T=some (.slice E)) (LL:(prog.info? E).map (fun i=>(i.zero,i.size,i.bytes))=some (some z,size,bytes))
 (ZN:z.cells.size=size) (AB:0<size) (ZO:bytes<=1000)
 (v:Value) (n:Nat) (xs:List Value) (hs:a.eval s=v) (A4:w.ownsRow base E size v n xs)
 (b c:Nat) (news:List Value) (hx:a.eval x= .slice (some (Ad b 0)) 1 c) (hl:news.length=size) (M2: ∀j u,news[j]? =some u->w.cell? (Ad b j)=some u) (h1: ∀u∈news,u.oneCell'=true)
 (hn:n<=1073741824) (H4:base<=w.heap.size)
 (h: ∀g cap w',w'.ownsRow base E size (.slice (some (Ad g 0)) (n+1) cap) (n+1) (xs++news)->w.grownBy w' v.ownBlock->Hid (v.ownBlock=some g∨g=w.heap.size)->g<w'.heap.size->Hid (∀w0,Below base w0 w->Below base w0 w')->wpList prog ops Q rest (a.put o.dst (.slice (some (Ad g 0)) (n+1) cap)) w'):wpList prog ops Q (o::rest) a w:=by
 obtain ⟨i0,hi,E0,E1,E2⟩:=info_parts LL;have A7:(n+1)*bytes<=140737488355328:=Nat.le_trans (Nat.mul_le_mul (show n+1<=1073741825 by omega) ZO) (by omega);refine wpList_append_lies w ZM s x T ho base E i0 z size bytes hT hi E0 E1 E2 ZN AB v n xs hs A4 (Ad b 0) 1 c news hx (by rw[hl,Nat.one_mul]) (fun j u hu=>by rw[Uc];exact M2 j u hu) h1 (by omega) (by unfold maxLen;omega) A7 H4 w.heap.size rfl ?_;intro g cap w' h2 h3 h4 h5;exact h g cap w' h2 h3 h4 h5 (fun w0 hb=>hb.grown h3 H4 (fun k hk=>by obtain ⟨h6,_⟩:=A4.lt k hk;exact h6))
theorem Cq {W W':World} {B e size n:Nat} {v:Value} {xs:List Value} (h:W.ownsRow B e size v n xs) (hb:Below W.heap.size W W'):W'.ownsRow B e size v n xs:=by
 refine ⟨h.1, ?_⟩;rcases h.2 with h0|⟨g,cap,cur,e1,e2,e3,e4⟩
 ·exact .inl h0
 ·exact .inr ⟨g,cap,cur,e1,e2,(hb.block g (Array.getElem?_eq_some_iff.1 e3).1).trans e3,e4⟩
theorem Ed (w:World) (x:Value) (t:TypeId): ∀(j:Nat) u,[x][j]? =some u->(w.alloc (.cells #[x] t)).cell? (Ad w.heap.size j)=some u:=fun j u hu=>by obtain rfl:j=0:=(by have:=(List.getElem?_eq_some_iff.1 hu).1;simp at this;omega);have:x=u:=(by simpa using hu);subst this;simp
def sV (s:Str):Value:=Sv s
abbrev Ce (w:World) (base:Nat) (v:Value) (n:Nat) (l:List Str):Prop:=w.ownsRow base 9 1 v n (l.map sV)
theorem Ce.nil (w:World) (base:Nat):Ce w base (.slice none 0 0) 0 []:=World.ownsRow_nil _ _ _ _
theorem Ce.len {w:World} {base n:Nat} {v:Value} {l:List Str} (h:Ce w base v n l):l.length=n:=by simpa using h.1
theorem Ce.snoc {w:World} {base n:Nat} {v:Value} {l:List Str} {s:Str} (h:w.ownsRow base 9 1 v (n+1) (l.map sV++[sV s])):Ce w base v (n+1) (l++[s]):=by unfold Ce;rw[List.map_append];exact h
theorem Ce.form {w:World} {base n:Nat} {v:Value} {l:List Str} (h:Ce w base v n l): ∃A c,v= .slice A n c:=by
 rcases h.2 with ⟨e,h0⟩|⟨g,cap,_,e,_⟩
 ·exact ⟨none,0,by rw[e,h0]⟩
 ·exact ⟨_,cap,e⟩
theorem Ce.strs {w:World} {base n:Nat} {v:Value} {l:List Str} (h:Ce w base v n l):CD w w.heap.size v l:=by
 have hl:=h.len;subst hl;rcases h.2 with ⟨e,h0⟩|⟨g,cap,cur,e,W0,hg,ZP,_,aY,ZQ⟩
 ·subst e;have:l=[]:=List.eq_nil_of_length_eq_zero h0;subst this;exact CD.nil
 ·refine ⟨some (Ad g 0),cap,e,ZP,fun _=>⟨g,0,rfl,(Array.getElem?_eq_some_iff.1 hg).1,fun i hi j hj=> ?_⟩⟩;obtain rfl:j=0:=(by omega);have:=h.cells (g:=g) (by rw[e];rfl) i (sV (l.getD i [])) (by simp[sV,List.getD,List.getElem?_eq_getElem hi]);rw[Uc] at this;simpa[sV] using this
theorem GV (sp:UInt8): ∀l:List Str,Lib.join l [sp]=Bt sp l
 |[]=>rfl
 |[x]=>Lib.join_one x [sp]
 |x::y::r=>by have ih:=GV sp (y::r);rw[Lib.join_cons] at ih⊢;rw[show Bt sp (x::y::r)=x++sp::Bt sp (y::r) from rfl,<-ih];simp[Lib.joinTail]
theorem Er (l:List Str) (sp:UInt8) (v:Value) (w:World) (hv:CD w w.heap.size v l) (hl:l.length<=1073741824) (I1:(Bt sp l).length<=1073741824):
 Calls prog 164 #[v,.string ⟨#[sp]⟩] w fun e w'=>e= .returned (.string ⟨(Bt sp l).toArray⟩)/\Below w.heap.size w w':=by
 obtain ⟨A,c,rfl,hc,h⟩:=hv;cases l with
 |nil=>exact (strings_Join_none A c _ w).mono fun e w' h=>⟨h.1,by rw[h.2];exact zB⟩
 |cons x r=>
  obtain ⟨b,o,rfl,hb,AL⟩:=h (by simp);have hm:((x::r).map fun s:Str=>(⟨s.toArray⟩:ByteArray)).map (·.data.toList)=x::r:=(by rw[List.map_map];simp[Function.comp_def]);have:=strings_Join b o c ((x::r).map fun s=>(⟨s.toArray⟩:ByteArray)) ⟨#[sp]⟩ w (fun j y hy=>by have hj:j<(x::r).length:=(by have:=(List.getElem?_eq_some_iff.1 hy).1;simpa using this);have e:=AL j hj 0 (by omega);rw[Nat.mul_one,Nat.add_zero] at e;rw[e];have:(⟨((x::r)[j]).toArray⟩:ByteArray)=y:=(by rw[List.getElem?_map,List.getElem?_eq_getElem hj] at hy;exact Option.some.inj hy);rw[<-this];simp[List.getD,List.getElem?_eq_getElem hj]) hb (by rw[List.length_map];exact Nat.le_trans hl (by omega)) (by simpa using hc) (by rw[hm,GV];omega);rw[hm,GV,List.length_map] at this;exact this
def wS (l:List Str):Nat:=(l.map fun s=>s.length+1).sum
def YV (ps:List (List Str)):Nat:=(ps.map fun l=>wS l+1).sum
theorem C2 {l:List Str} {s:Str} (h:s∈l):s.length<wS l:=by
 unfold wS
 induction l with
 |nil=>simp at h
 |cons x r ih=>
  rw[List.map_cons,List.sum_cons];rcases List.mem_cons.1 h with rfl|h
  ·omega
  ·have:=ih h;omega
theorem C3 (l:List Str):l.length<=wS l:=by
 unfold wS
 induction l with
 |nil=>simp
 |cons x r ih=>rw[List.map_cons,List.sum_cons,List.length_cons];omega
theorem GW {ps:List (List Str)} {l:List Str} (h:l∈ps):wS l<YV ps:=by
 unfold YV
 induction ps with
 |nil=>simp at h
 |cons x r ih=>
  rw[List.map_cons,List.sum_cons];rcases List.mem_cons.1 h with rfl|h
  ·omega
  ·have:=ih h;omega
theorem GX (ps:List (List Str)):ps.length<=YV ps:=by
 unfold YV
 induction ps with
 |nil=>simp
 |cons x r ih=>rw[List.map_cons,List.sum_cons,List.length_cons];omega
theorem Dt (sp:UInt8): ∀l:List Str,(Bt sp l).length<=wS l
 |[]=>by simp[Bt,wS]
 |[x]=>by simp[Bt,wS]
 |x::y::r=>by have ih:=Dt sp (y::r);rw[show Bt sp (x::y::r)=x++sp::Bt sp (y::r) from rfl,List.length_append,List.length_cons];have:wS (x::y::r)=x.length+1+wS (y::r):=(by simp[wS]);omega
theorem F5 (l:Str):(Cz l).length<=2*l.length:=D9 LC ML l
theorem Ud (l:List Str):wS (l.map Cz)<=2*wS l:=by
 unfold wS
 induction l with
 |nil=>simp
 |cons x r ih=>
  simp only[List.map_cons,List.sum_cons] at ih⊢;have:=F5 x;omega
def jnS (l:List Str):Str:=Bt 44 (l.map Cz)
theorem LZ (l:List Str):(jnS l).length<=2*wS l:=Nat.le_trans (Dt _ _) (Ud l)
theorem J8 (ps:List (List Str)):EQ ps=Bt 59 (ps.map jnS):=rfl
theorem V1 (ps:List (List Str)):wS (ps.map jnS)<=2*YV ps:=by
 unfold YV
 induction ps with
 |nil=>simp[wS]
 |cons x r ih=>
  have e:wS (jnS x::r.map jnS)=(jnS x).length+1+wS (r.map jnS):=(by simp[wS]);have:=LZ x;rw[List.map_cons,List.map_cons,List.sum_cons,e];omega
theorem FN (ps:List (List Str)):(EQ ps).length<=2*YV ps:=Nat.le_trans (Dt _ _) (V1 ps)
theorem Ou (l:List Str) (A:Option Addr) (c:Nat) (w:World) (hv:CD w w.heap.size (.slice A l.length c) l) (h0:l≠[]) (hW:wS l<=268435456):
 Calls prog 224 #[.slice A l.length c] w fun e w'=>e= .returned (.tuple #[.string ⟨(jnS l).toArray⟩,.nilIface])/\Below w.heap.size w w':=by
 have ZR:=C3 l;have W2:(Bt 44 (l.map Cz)).length<=1073741824:=(by have:=LZ l;unfold jnS at this;omega);have ZS:((l.length:Int)==0)=false:=by cases l with
  |nil=>exact absurd rfl h0
  |cons x r=>simp;omega
 have W3:=fun s (h:s∈l)=>C2 h;have HM:=hid W3;have HJ:=hid W2;have HV:=hid hv;clear W3 W2 hv;go_enter func224,ntmps224;go_wp2;go_loopw [4,6,13] (fun v _ i wr=> ∃(k:Nat) (X:List Str),k<=l.length/\i=Iv k/\Hid (X=(l.take k).map Cz)/\Ce wr w.heap.size v k X/\Below w.heap.size w wr) (fun _ _ i _=>l.length-(intOf i).toNat);case atStart=>exact ⟨0,[],by omega,rfl,hid rfl,Ce.nil _ _,zB⟩
 case round=>
  obtain ⟨k,X,hk,rfl,HX,A4,hb⟩:=hrel;by_cases A6:k<l.length
  ·obtain ⟨b,o,s,rfl,B2,hd,hc⟩:=HV.out.at_ A6;have ZT:=(hb.cell (p:=(Ad b (o+k))) B2).trans hc;have W4:s∈l:=List.mem_of_mem_drop (by rw[hd];simp);have ZU:=HM.out s W4;have HT:=hid (show X++[Cz s]=(l.take (k+1)).map Cz by
    rw[List.take_succ_eq_append_getElem A6,List.map_append,HX.out];rw[List.drop_eq_getElem_cons A6] at hd;injection hd with h1 _;rw[h1];rfl)
   have HO:=hid A4;clear hc hd W4 A4 HX;go_wp2_with fail;refine (FM s _ (by omega)).mono ?_;rintro e w1 ⟨rfl,A0⟩;have A5:=hid (Cq HO.out A0);have MM:=hb.trans (A0.mono hb.size);have aZ:=MM.size;clear HO A0;go_wp2_with (at_builtin;refine AU rfl _ _ 55 rfl w.heap.size 9 (.string ⟨#[]⟩) 1 16 underlying55 Fm rfl (by decide) (by decide) _ k _ rfl (A5.out.alloc _) w1.heap.size 1 [sV (Cz s)] rfl rfl (Ed _ _ _) (by simp[sV,Value.oneCell']) (by omega) (by simp;omega) ?_;intro g cap w2 H8 _ _ _ I2;refine Hid.out ?_);refine Lib.hid ?_;have N0:=hid (Ce.snoc H8);have H3:=I2.out w (MM.alloc MM.size _);clear H8 I2;go_wp2
   go_roundw;case rel=>exact ⟨k+1,X++[Cz s],by omega,by go_num,HT,N0.out,H3⟩
   case measure=>simp[intOf];omega
  ·obtain rfl:k=l.length:=(by omega);have E9:=HX.out;rw[List.take_length] at E9;have hS:=hid A4.strs;obtain ⟨A2,c2,hf⟩:=A4.form;subst hf;have ZV:=hid (show Bt 44 X=jnS l by rw[E9];rfl);have W5:(Bt 44 X).length<=1073741824:=(by rw[E9];exact HJ.out);have W6:X.length<=1073741824:=(by have:=A4.len;omega);clear A4 E9 HX;go_wp2_with fail;refine (Er X 44 _ _ hS.out W6 W5).mono ?_;rintro e w1 ⟨rfl,A0⟩;go_wp2
   go_ret2;exact ⟨by rw[ZV.out];rfl,hb.trans (A0.mono hb.size)⟩
theorem IC (sp:UInt8): ∀(l:List Str) (s:Str),l≠[]->Bt sp (l++[s])=Bt sp l++sp::s
 |[],s,h=>absurd rfl h
 |[x],s,_=>rfl
 |x::y::r,s,_=>by have ih:=IC sp (y::r) s (by simp);rw[show Bt sp ((x::y::r)++[s])=x++sp::Bt sp ((y::r)++[s]) from rfl,ih];simp[Bt]
theorem Su (l:List Str) (k:Nat):wS (l.take k)<=wS l:=by
 unfold wS
 induction l generalizing k with
 |nil=>simp
 |cons x r ih=>
  cases k with
  |zero=>simp
  |succ k=>have:=ih k;simp only[List.take_succ_cons,List.map_cons,List.sum_cons];omega
theorem Ov (l:List Str) (A:Option Addr) (c:Nat) (w:World) (hv:CD w w.heap.size (.slice A l.length c) l) (h0:l≠[]) (hW:wS l<=268435456):
 Calls prog 205 #[.slice A l.length c] w fun e w'=>e= .returned (.tuple #[.string ⟨(jnS l).toArray⟩,Iv 0])/\Below w.heap.size w w':=by
 have ZR:=C3 l;have ZW:0<l.length:=by cases l with
  |nil=>exact absurd rfl h0
  |cons x r=>simp
 have b0:l.length<=c:=(by obtain ⟨A',c',e,h,_⟩:=hv;simp only[Value.slice.injEq] at e;omega);have ZS:((l.length:Int)==0)=false:=(by simp;omega);have b6:(1:Int)<=(l.length:Int):=(by omega);have b7:(l.length:Int)<=(c:Int):=(by omega);have HM:=hid fun s (h:s∈l)=>C2 h;have HJ:=hid fun k=>(show (jnS (l.take k)).length<=536870912 by have:=LZ (l.take k);have:=Su l k;omega);have HV:=hid hv;obtain ⟨b,o,s0,rfl,B2,N1,ZX⟩:=hv.at_ (k:=0) ZW;have b8:=HM.out s0 (List.mem_of_mem_drop (i:=0) (by rw[N1];simp));have N2:=hid (show jnS (l.take 1)=Cz s0 by rw[show l=s0::l.drop 1 from N1];rfl);clear hv N1;rw[Nat.add_zero] at ZX;go_enter func205,ntmps205;go_wp2_with fail;refine (DR s0 _ (by omega)).mono ?_;rintro e w1 ⟨rfl,rfl⟩;by_cases ZY:c=1
 ·subst ZY;have W7:l.length=1:=(by omega);have HE:=hid (show jnS l=Cz s0 by rw[<-N2.out,List.take_of_length_le (by omega)]);rw[W7];clear HV HM HJ;go_wp2_with fail;refine wp_loop_rounds 1 ?_;rw[rounds_succ];go_wp2
  go_ret2;exact ⟨by rw[HE.out];rfl,zB⟩
 ·have b9: ¬(c:Int)=1:=(by omega);go_wp2
  go_loop [4,6,17] (fun v _ i=> ∃(k:Nat) (X:Str),k+1<=l.length/\i=Iv k/\v=Sv X/\X.length<=536870912/\Hid (X=jnS (l.take (k+1)))) (fun _ _ i=>l.length-(intOf i).toNat)
  case atStart=>exact ⟨0,Cz s0,by omega,rfl,rfl,by rw[<-N2.out];exact HJ.out _,hid N2.out.symm⟩
  case round=>
   obtain ⟨k,X,hk,rfl,rfl,hX,HX⟩:=hrel;by_cases A6:k+1<l.length
   ·obtain ⟨b2,o2,s,hA,_,hd,hc⟩:=HV.out.at_ A6;obtain ⟨rfl,rfl⟩:b=b2/\o=o2:=(by simpa using hA);have ZT:w.cell? (Ad b (o+1+k))=some (Sv s):=(by rw[show o+1+k=o+(k+1) by omega];exact hc);have ZU:=HM.out s (List.mem_of_mem_drop (by rw[hd];simp));have bA:=F5 s;have HT:=hid (show X++(44::Cz s)=jnS (l.take (k+1+1)) by
     rw[List.take_succ_eq_append_getElem A6,HX.out];rw[List.drop_eq_getElem_cons A6] at hd;injection hd with h1 _;unfold jnS;rw[List.map_append,h1,List.map_cons,List.map_nil,IC _ _ _ (by intro e;have:=congrArg List.length e;rw[List.length_map,List.length_take,List.length_nil] at this;omega)])
    have E9:=HJ.out (k+1+1);rw[<-HT.out] at E9;have ZZ:(k:Int)<((l.length- 1:Nat):Int):=(by omega);clear hc hd HX hA;go_wp2_with fail;refine (DR s _ (by omega)).mono ?_;rintro e w1 ⟨rfl,rfl⟩;have aG:(⟨#[44]⟩:ByteArray)++⟨(Cz s).toArray⟩=⟨(44::Cz s).toArray⟩:=(by rw[show (⟨#[44]⟩:ByteArray)=⟨[44].toArray⟩ from rfl,AM];rfl);have a0:(⟨X.toArray⟩:ByteArray)++⟨(44::Cz s).toArray⟩=⟨(X++(44::Cz s)).toArray⟩:=AM _ _;go_wp2
    go_round
    case rel=>exact ⟨k+1,X++(44::Cz s),by omega,by go_num,Af (by simp),E9,HT⟩
    case measure=>simp[intOf];omega
   ·have W8:k+1=l.length:=(by omega);have HE:=hid (show X=jnS l by rw[HX.out,W8,List.take_length]);have ZZ: ¬(k:Int)<((l.length- 1:Nat):Int):=(by omega);clear HX;go_wp2
    go_ret2;exact ⟨by rw[<-HE.out];rfl,zB⟩
section
open Go.MapKept
theorem Gj {w A:World} {r B:Nat} {o:Obj} (hr:B<=r) (h:Below B A w):Below B A {w with heap:=w.heap.setIfInBounds r o}:=
 ⟨h.os,h.tape,h.output,by simpa using h.size,fun k hk=>by have:({w with heap:=w.heap.setIfInBounds r o}:World).heap[k]? =w.heap[k]? :=(by show (w.heap.setIfInBounds r o)[k]? =_;rw[Array.getElem?_setIfInBounds_ne (by omega)]);rw[this];exact h.block k hk⟩
theorem KP {w:World} {r k:Nat} {o:Obj} (hr:k≠r):({w with heap:=w.heap.setIfInBounds r o}:World).heap[k]? =w.heap[k]? :=by show (w.heap.setIfInBounds r o)[k]? =_;rw[Array.getElem?_setIfInBounds_ne (by omega)]
section
variable {P:Program} {ops:Array Oper} {rest:List Oper} {o:Oper} {a:Act} {w:World} {Q:Exit->Act->World->Prop}
theorem Bg (hg:o.guard=none) (T:TypeId) (AW:o.op= .makeMap T none) (kd:TypeDesc)
 (hK: ∀w' r,r=w.heap.size->w'=w.alloc (.map #[] 0)->FQ w' r kd (fun _=>none)->wpList P ops Q rest (a.put o.dst (.map (some r))) w'):wpList P ops Q (o::rest) a w:=by
 refine wpList_plain hg fun K' F4=> ?_;unfold Oper.wp;simp[execOp,AW,run_makeMap_plain,Result.andThen];exact F4 _ _ (hK _ _ rfl rfl (FQ.new w kd))
theorem BA (hg:o.guard=none) (T kt et:TypeId) (m x v:Operand) (AW:o.op= .insert T m x v∨o.op= .mapUpdate T m x v) (hT:P.underlying T=some (.map kt et)) (kd:TypeDesc) (DD:P.underlying kt=some kd)
 (r:Nat) (f:Value->Option Value) (hF:FQ w r kd f) (hm:a.eval m= .map (some r)) (k val:Value) (hx:a.eval x=k) (hv:a.eval v=val) (hk:IsKey kd k)
 (hK: ∀w',FQ w' r kd (Dm f k val)->Hid (∀B A,B<=r->Below B A w->Below B A w')->Hid (∀k,k≠r->w'.heap[k]? =w.heap[k]?)->wpList P ops Q rest (a.put o.dst undef) w'):wpList P ops Q (o::rest) a w:=by
 refine wpList_plain hg fun K' F4=> ?_;obtain ⟨o',B3,W9⟩:=hF.upd hT DD hk val;unfold Oper.wp;rcases AW with AW|AW
 ·simp[execOp,AW,hm,hx,hv,B3,Result.andThen];exact F4 _ _ (hK _ W9 (hid fun B A hB h=>Gj hB h) (hid fun k hk=>KP hk))
 ·simp[execOp,AW,hm,hx,hv,B3,Result.andThen];exact F4 _ _ (hK _ W9 (hid fun B A hB h=>Gj hB h) (hid fun k hk=>KP hk))
theorem Al (hg:o.guard=none) (T kt et:TypeId) (m x:Operand) (ok:Bool) (AW:o.op= .lookup T m x ok) (hT:P.underlying T=some (.map kt et)) (kd:TypeDesc) (DD:P.underlying kt=some kd) (z:Value) (hz: ∀w,(zeroValue et).run P w= .ok z w)
 (r:Nat) (f:Value->Option Value) (hF:FQ w r kd f) (hm:a.eval m= .map (some r)) (k:Value) (hx:a.eval x=k) (hk:IsKey kd k) (u:Value) (hu:(if ok then .tuple #[(f k).getD z,.bool (f k).isSome] else (f k).getD z)=u)
 (hK:wpList P ops Q rest (a.put o.dst u) w):wpList P ops Q (o::rest) a w:=by
 refine wpList_plain hg fun K' F4=> ?_;have B3:=hF.look hT DD (k:=k) hk (hz w) ok;rw[hu] at B3;unfold Oper.wp;simp[execOp,AW,hm,hx,B3,Result.andThen];exact F4 _ _ hK
end
end
section
open Go.MapKept
section
variable {P:Program} {md:Region.Mode} {ops:Array Oper} {Q:Exit->Act->World->Prop} {S:World->Prop}
theorem K5 {l:Array Bool} {i:Nat} (h:l.getD i true=false):(l.setIfInBounds i true).toList.countP (fun b=> !b)+1=l.toList.countP (fun b=> !b):=by
 have hi:i<l.size:=by
  rcases Nat.lt_or_ge i l.size with h'|h'
  ·exact h'
  ·simp[Array.getD,Nat.not_lt.2 h'] at h
 have he:l[i]=false:=(by simpa[Array.getD,hi] using h);have hp:0<l.toList.countP (fun b=> !b):=List.countP_pos_iff.2 ⟨l[i],by simp,by simp[he]⟩;rw[Array.toList_setIfInBounds,List.countP_set (by simpa using hi)];rw[show l.toList[i]'(by simpa using hi)=false by simpa using he];simp only[Bool.not_false,if_true,Bool.not_true,Bool.false_eq_true,if_false];omega
theorem Iw (I:Array Bool->Act->World->Prop)
 (H9: ∀listed a w i,I listed a w->i∈Region.ready md ops listed->wpOp P ops Q i (fun a' w'=>S w'/\I (listed.setIfInBounds i true) a' w') a w)
 (HA: ∀listed a w,I listed a w->Region.ready md ops listed=[]->Q .normal a w):
 ∀(fuel:Nat) (listed:Array Bool) (a:Act) (w:World),listed.toList.countP (fun b=> !b)<=fuel->I listed a w->wpAnyH P md ops Q S fuel listed a w
 |0,listed,a,w,hc,hI=>by have hr:Region.ready md ops listed=[]:=(by apply List.eq_nil_iff_forall_not_mem.2;intro j hj;have h1:=K5 (mem_ready.1 hj).1;omega);exact ⟨hr,HA _ _ _ hI hr⟩
 |fuel+1,listed,a,w,hc,hI=>
  ⟨fun hr=>HA _ _ _ hI hr,fun i hi=>wpOp_mono (fun a' w' h=>⟨h.1,Iw I H9 HA fuel _ a' w' (by have:=K5 (mem_ready.1 hi).1;omega) h.2⟩) (H9 _ _ _ _ hI hi)⟩
theorem QW (a2:(List.range ops.size).all (fun j=>match ops[j]? with
 |some o=>o.after.all (fun e=> !Region.binds md e||decide (e.on<j))
 |none=>true)=true) {listed:Array Bool} (hs:listed.size=ops.size) (hr:Region.ready md ops listed=[]): ∀j,j<ops.size->listed.getD j false=true:=by
 intro j
 induction j using Nat.strongRecOn with
 |ind j ih=>
  intro hj;cases hb:listed.getD j false with
  |true=>rfl
  |false=>
   exfalso;have a3:j<listed.size:=(by omega);have hm:j∈Region.ready md ops listed:=(by refine mem_ready.2 ⟨by simpa[Array.getD,a3] using hb,ops[j],by simp[hj],fun e he a4=> ?_⟩;have h1:=List.all_eq_true.1 a2 j (List.mem_range.2 hj);simp only[Array.getElem?_eq_getElem hj] at h1;have h2:=Array.all_eq_true_iff_forall_mem.1 h1 e he;simp only[a4,Bool.not_true,Bool.false_or,decide_eq_true_eq] at h2;exact ih e.on h2 (by omega));rw[hr] at hm;cases hm
end
theorem GE (a:Act) (s:Nat) (v:Value) (t:Nat) (hs:s<a.tmps.size):(a.put (some s) v).tmps.getD t undef=if s=t then v else a.tmps.getD t undef:=by
 simp only[Act.put,Array.getD_eq_getD_getElem?,Array.getElem?_setIfInBounds];by_cases h:s=t
 ·subst h;simp[hs]
 ·simp[h]
def R9 (ops:Array Oper) (i:Nat) (dst:Option Nat) (op:Op) (pre:List Nat):Prop:=
 ∃o,ops[i]? =some o/\o.dst=dst/\o.op=op/\o.guard=none/\pre.all (fun j=>o.after.any fun e=>Region.binds .any e&&e.on==j)=true
def mK:Nat->ByteArray
 |0=>⟨#[80,72,79,84,79]⟩
 |1=>⟨#[76,79,71,79]⟩
 |2=>⟨#[83,79,85,78,68]⟩
 |_=>⟨#[75,69,89]⟩
def mV:Nat->ByteArray
 |0=>⟨#[105,109,97,103,101]⟩
 |1=>⟨#[105,109,97,103,101]⟩
 |2=>⟨#[97,117,100,105,111]⟩
 |_=>⟨#[97,112,112,108,105,99,97,116,105,111,110]⟩
structure MJ (a1:Act) (w1:World) (kb lb:ByteArray) (d:Nat->Bool) (a:Act) (w:World):Prop where
 pre: ∀j∈[6,9,10,11,12,13,14,15,16],d j=true
 defers:a.defers=a1.defers
 size:a.tmps.size=a1.tmps.size
 other: ∀s,s∉[81,82,84,85,94,95,9]->a.tmps.getD s undef=a1.tmps.getD s undef
 low:Below w1.heap.size w1 w
 map: ∃r,w1.heap.size<=r/\(d 0=true->a.tmps.getD 81 undef= .map (some r)/\ ∃f,FQ w r .string f/\ ∀k,k<4->d (k+1)=true->f (.string (mK k))=some (.string (mV k)))/\(d 5=true->a.tmps.getD 82 undef= .map (some r))
 c0: ∀k,k<4->d (k+1)=true->d 0=true
 c5:d 5=true->d 0=true/\ ∀k,k<4->d (k+1)=true
 s84:d 7=true->a.tmps.getD 84 undef= .string kb
 s85:d 8=true->a.tmps.getD 85 undef= .string (kb++⟨#[47]⟩)
 s94:d 17=true->a.tmps.getD 94 undef= .string lb
 s95:d 18=true->a.tmps.getD 95 undef= .string (kb++⟨#[47]⟩++lb)
 s9:d 19=true->a.tmps.getD 9 undef= .string (kb++⟨#[47]⟩++lb)
def upd (d:Nat->Bool) (i:Nat):Nat->Bool:=fun j=>if i=j then true else d j
theorem NC (d:Nat->Bool) (i:Nat):upd d i i=true:=by simp[upd]
theorem ND (d:Nat->Bool) {i j:Nat} (h:i≠j):upd d i j=d j:=by simp[upd,h]
theorem MJ.put {a1:Act} {w1:World} {kb lb:ByteArray} {d:Nat->Bool} {a:Act} {w w':World} (h:MJ a1 w1 kb lb d a w) (AB:95<a1.tmps.size) (i s:Nat) (v:Value) (hb:Below w.heap.size w w')
 (hi:(i,s)∈[(7,84),(8,85),(17,94),(18,95),(19,9)]) (h7:i=7->v= .string kb) (h8:i=8->v= .string (kb++⟨#[47]⟩)) (a5:i=17->v= .string lb) (a6:i=18->v= .string (kb++⟨#[47]⟩++lb)) (a7:i=19->v= .string (kb++⟨#[47]⟩++lb)):
 MJ a1 w1 kb lb (upd d i) (a.put (some s) v) w':=by
 have hs:s<a.tmps.size:=(by rw[h.size];simp only[List.mem_cons,Prod.mk.injEq,List.not_mem_nil,or_false] at hi;omega);have hp:=fun t=>GE a s v t hs;have WA:=h.low.trans (hb.mono h.low.size);obtain ⟨r,HU,HD,HW⟩:=h.map;simp only[List.mem_cons,Prod.mk.injEq,List.not_mem_nil,or_false] at hi;have hd: ∀j,i≠j->upd d i j=d j:=fun j hj=>ND d hj;refine ⟨fun j hj=> ?_,h.defers,by simp[Act.put,h.size],fun t ht=> ?_,WA,⟨r,HU,fun h0=> ?_,fun h0=> ?_⟩,fun k hk h0=> ?_,fun h0=> ?_,fun h0=> ?_,fun h0=> ?_,fun h0=> ?_,fun h0=> ?_,fun h0=> ?_⟩
 ·by_cases WF:i=j
  ·rw[WF];exact NC d j
  ·rw[hd j WF];exact h.pre j hj
 ·rw[hp t,if_neg (fun e=>ht (by subst e;simp;omega))];exact h.other t ht
 ·rw[hd 0 (by omega)] at h0;obtain ⟨g1,f,g2,g3⟩:=HD h0;exact ⟨by rw[hp 81,if_neg (by omega)];exact g1,f,g2.keep hb,fun k hk HH=>g3 k hk (by rwa [hd (k+1) (by omega)] at HH)⟩
 ·rw[hd 5 (by omega)] at h0;rw[hp 82,if_neg (by omega)];exact HW h0
 ·rw[hd (k+1) (by omega)] at h0;rw[hd 0 (by omega)];exact h.c0 k hk h0
 ·rw[hd 5 (by omega)] at h0;obtain ⟨g1,g2⟩:=h.c5 h0;exact ⟨by rw[hd 0 (by omega)];exact g1,fun k hk=>by rw[hd (k+1) (by omega)];exact g2 k hk⟩
 ·by_cases e:i=7
  ·rw[hp 84,if_pos (by omega)];exact h7 e
  ·rw[hd 7 e] at h0;rw[hp 84,if_neg (by omega)];exact h.s84 h0
 ·by_cases e:i=8
  ·rw[hp 85,if_pos (by omega)];exact h8 e
  ·rw[hd 8 e] at h0;rw[hp 85,if_neg (by omega)];exact h.s85 h0
 ·by_cases e:i=17
  ·rw[hp 94,if_pos (by omega)];exact a5 e
  ·rw[hd 17 e] at h0;rw[hp 94,if_neg (by omega)];exact h.s94 h0
 ·by_cases e:i=18
  ·rw[hp 95,if_pos (by omega)];exact a6 e
  ·rw[hd 18 e] at h0;rw[hp 95,if_neg (by omega)];exact h.s95 h0
 ·by_cases e:i=19
  ·rw[hp 9,if_pos (by omega)];exact a7 e
  ·rw[hd 19 e] at h0;rw[hp 9,if_neg (by omega)];exact h.s9 h0
theorem MJ.put0 {a1:Act} {w1:World} {kb lb:ByteArray} {d:Nat->Bool} {a:Act} {w:World} (h:MJ a1 w1 kb lb d a w) (AB:95<a1.tmps.size) (h0:d 0=false):
 MJ a1 w1 kb lb (upd d 0) (a.put (some 81) (.map (some w.heap.size))) (w.alloc (.map #[] 0)):=by
 have hp:=fun t=>GE a 81 (.map (some w.heap.size)) t (by rw[h.size];omega);have hd: ∀j,j≠0->upd d 0 j=d j:=fun j hj=>ND d (Ne.symm hj);have a8: ∀k,k<4->d (k+1)=true->False:=fun k hk e=>(by have:=h.c0 k hk e;rw[h0] at this;cases this);have X1:d 5=true->False:=fun e=>(by have:=(h.c5 e).1;rw[h0] at this;cases this);refine ⟨fun j hj=> ?_,h.defers,by simp[Act.put,h.size],fun t ht=> ?_,h.low.alloc h.low.size _,⟨w.heap.size,h.low.size,fun _=>⟨by rw[hp 81,if_pos rfl],_,FQ.new w .string,fun k hk HH=> ?_⟩,fun h5=> ?_⟩,fun k hk HH=>NC d 0,fun h5=> ?_,fun h7=> ?_,fun h7=> ?_,fun h7=> ?_,fun h7=> ?_,fun h7=> ?_⟩
 ·rw[hd j (by simp at hj;omega)];exact h.pre j hj
 ·rw[hp t,if_neg (fun e=>ht (by subst e;simp))];exact h.other t ht
 ·rw[hd (k+1) (by omega)] at HH;exact (a8 k hk HH).elim
 ·rw[hd 5 (by omega)] at h5;exact (X1 h5).elim
 ·rw[hd 5 (by omega)] at h5;exact (X1 h5).elim
 ·rw[hd 7 (by omega)] at h7;rw[hp 84,if_neg (by omega)];exact h.s84 h7
 ·rw[hd 8 (by omega)] at h7;rw[hp 85,if_neg (by omega)];exact h.s85 h7
 ·rw[hd 17 (by omega)] at h7;rw[hp 94,if_neg (by omega)];exact h.s94 h7
 ·rw[hd 18 (by omega)] at h7;rw[hp 95,if_neg (by omega)];exact h.s95 h7
 ·rw[hd 19 (by omega)] at h7;rw[hp 9,if_neg (by omega)];exact h.s9 h7
theorem Tf {a b:ByteArray} (h:a≠b):Value.string a≠Value.string b:=fun e=>h (by injection e)
theorem Wt: ∀i j,i<4->j<4->i≠j->mK i≠mK j:=by intro i j hi hj AV e;have h2:(mK i).data=(mK j).data:=(by rw[e]);rcases (show i=0∨i=1∨i=2∨i=3 by omega) with rfl|rfl|rfl|rfl<;>rcases (show j=0∨j=1∨j=2∨j=3 by omega) with rfl|rfl|rfl|rfl<;>simp[mK] at h2 AV
theorem MJ.ins {a1:Act} {w1:World} {kb lb:ByteArray} {d:Nat->Bool} {a:Act} {w w':World} (h:MJ a1 w1 kb lb d a w) {k:Nat} (hk:k<4) (h0:d 0=true) {r:Nat} {f:Value->Option Value} (hr:w1.heap.size<=r) (a9:a.tmps.getD 81 undef= .map (some r)) (hf: ∀k,k<4->d (k+1)=true->f (.string (mK k))=some (.string (mV k)))
 (h5:d 5=false) (hF:FQ w' r .string (Dm f (.string (mK k)) (.string (mV k)))) (hB: ∀B A,B<=r->Below B A w->Below B A w'):
 MJ a1 w1 kb lb (upd d (k+1)) a w':=by
 have hd: ∀j,j≠k+1->upd d (k+1) j=d j:=fun j hj=>ND d (Ne.symm hj);refine ⟨fun j hj=> ?_,h.defers,h.size,h.other,hB _ _ hr h.low,⟨r,hr,fun _=>⟨a9,_,hF,fun m hm N3=> ?_⟩,fun HK=> ?_⟩,fun m hm N3=> ?_,fun HK=> ?_,fun h7=> ?_,fun h7=> ?_,fun h7=> ?_,fun h7=> ?_,fun h7=> ?_⟩
 ·rw[hd j (by simp at hj;omega)];exact h.pre j hj
 ·unfold Dm;by_cases e:m=k
  ·rw[e,if_pos rfl]
  ·rw[if_neg (Tf (Wt m k hm hk e))];rw[hd (m+1) (by omega)] at N3;exact hf m hm N3
 ·rw[hd 5 (by omega),h5] at HK;cases HK
 ·rw[hd 0 (by omega)];exact h0
 ·rw[hd 5 (by omega),h5] at HK;cases HK
 ·rw[hd 7 (by omega)] at h7;exact h.s84 h7
 ·rw[hd 8 (by omega)] at h7;exact h.s85 h7
 ·rw[hd 17 (by omega)] at h7;exact h.s94 h7
 ·rw[hd 18 (by omega)] at h7;exact h.s95 h7
 ·rw[hd 19 (by omega)] at h7;exact h.s9 h7
theorem MJ.put5 {a1:Act} {w1:World} {kb lb:ByteArray} {d:Nat->Bool} {a:Act} {w:World} (h:MJ a1 w1 kb lb d a w) (AB:95<a1.tmps.size) (h0:d 0=true) (A3: ∀k,k<4->d (k+1)=true):
 MJ a1 w1 kb lb (upd d 5) (a.put (some 82) (a.tmps.getD 81 undef)) w:=by
 have hp:=fun t=>GE a 82 (a.tmps.getD 81 undef) t (by rw[h.size];omega);have hd: ∀j,j≠5->upd d 5 j=d j:=fun j hj=>ND d (Ne.symm hj);obtain ⟨r,HU,HD,HW⟩:=h.map;obtain ⟨g1,f,g2,g3⟩:=HD h0;refine ⟨fun j hj=> ?_,h.defers,by simp[Act.put,h.size],fun t ht=> ?_,h.low,⟨r,HU,fun _=>⟨by rw[hp 81,if_neg (by omega)];exact g1,f,g2,fun k hk _=>g3 k hk (A3 k hk)⟩,fun _=>by rw[hp 82,if_pos rfl];exact g1⟩,fun k hk _=>by rw[hd 0 (by omega)];exact h0,fun _=>⟨by rw[hd 0 (by omega)];exact h0,fun k hk=>by rw[hd (k+1) (by omega)];exact A3 k hk⟩,fun h7=> ?_,fun h7=> ?_,fun h7=> ?_,fun h7=> ?_,fun h7=> ?_⟩
 ·rw[hd j (by simp at hj;omega)];exact h.pre j hj
 ·rw[hp t,if_neg (fun e=>ht (by subst e;simp))];exact h.other t ht
 ·rw[hd 7 (by omega)] at h7;rw[hp 84,if_neg (by omega)];exact h.s84 h7
 ·rw[hd 8 (by omega)] at h7;rw[hp 85,if_neg (by omega)];exact h.s85 h7
 ·rw[hd 17 (by omega)] at h7;rw[hp 94,if_neg (by omega)];exact h.s94 h7
 ·rw[hd 18 (by omega)] at h7;rw[hp 95,if_neg (by omega)];exact h.s95 h7
 ·rw[hd 19 (by omega)] at h7;rw[hp 9,if_neg (by omega)];exact h.s9 h7
theorem SA (l:Array Bool) (i j:Nat) (hi:i<l.size):(l.setIfInBounds i true).getD j false=upd (fun j=>l.getD j false) i j:=by
 unfold upd;simp only[Array.getD_eq_getD_getElem?,Array.getElem?_setIfInBounds];by_cases h:i=j
 ·subst h;simp[hi]
 ·simp[h]
theorem VG {l:Array Bool} {i:Nat} (h:l.getD i true=false):i<l.size/\l.getD i false=false:=by
 have hi:i<l.size:=by
  rcases Nat.lt_or_ge i l.size with h'|h'
  ·exact h'
  ·simp[Array.getD,Nat.not_lt.2 h'] at h
 exact ⟨hi,by simpa[Array.getD,hi] using h⟩
def Ty (a1:Act) (r:Nat) (kb lb:ByteArray):Act:=((((((a1.put (some 81) (.map (some r))).put (some 82) (.map (some r))).put (some 84) (.string kb)).put (some 85) (.string (kb++⟨#[47]⟩))).put (some 94) (.string lb)).put (some 95) (.string (kb++⟨#[47]⟩++lb))).put (some 9) (.string (kb++⟨#[47]⟩++lb))
theorem VH {a b:Act} (h1:a.defers=b.defers) (h2:a.tmps.size=b.tmps.size) (h3: ∀s,a.tmps.getD s undef=b.tmps.getD s undef):a=b:=by
 obtain ⟨ta,da⟩:=a;obtain ⟨tb,db⟩:=b;simp only at h1 h2 h3;subst h1
 congr 1
 apply Array.ext h2;intro i aA aB;have:=h3 i;simpa[Array.getD,aA,aB] using this
theorem Bv (a:Act) (s:Nat) (v:Value):(a.put (some s) v).tmps.size=a.tmps.size:=by simp[Act.put]
theorem Di {a b:Act} {s:Nat} {v:Value} {l:List Nat} (hs:s<b.tmps.size) (hc: ∀t,t∉s::l->a.tmps.getD t undef=b.tmps.getD t undef) (hv:a.tmps.getD s undef=v): ∀t,t∉l->a.tmps.getD t undef=(b.put (some s) v).tmps.getD t undef:=fun t ht=>by
 rw[GE b s v t hs];by_cases h:s=t
 ·rw[if_pos h,<-h];exact hv
 ·rw[if_neg h];refine hc t fun hm=> ?_;rcases List.mem_cons.1 hm with e|e
  ·exact h e.symm
  ·exact ht e
theorem CT (a:Act) (s:Nat) (v:Value):(a.put (some s) v).defers=a.defers:=by simp[Act.put]
theorem MJ.fin {a1:Act} {w1:World} {kb lb:ByteArray} {d:Nat->Bool} {a:Act} {w:World} (h:MJ a1 w1 kb lb d a w) (AB:95<a1.tmps.size) (A3: ∀j,j<20->d j=true): ∃r,a=Ty a1 r kb lb:=by
 obtain ⟨r,HU,HD,HW⟩:=h.map;have q0:=Di (v:= .map (some r)) (show 81<a1.tmps.size by omega) h.other (HD (A3 0 (by omega))).1;have z0:=Bv a1 81 (.map (some r));have q1:=Di (v:= .map (some r)) (show 82<(a1.put (some 81) (.map (some r))).tmps.size by omega) q0 (HW (A3 5 (by omega)));have z1:=Bv (a1.put (some 81) (.map (some r))) 82 (.map (some r));refine ⟨r,VH ?_ ?_ fun s=> ?_⟩
 ·unfold Ty;rw[CT,CT,CT,CT,CT,CT,CT];exact h.defers
 ·unfold Ty;rw[Bv,Bv,Bv,Bv,Bv,Bv,Bv];exact h.size
 ·unfold Ty;obtain ⟨b1,A0⟩: ∃b1,(a1.put (some 81) (.map (some r))).put (some 82) (.map (some r))=b1:=⟨_,rfl⟩;rw[A0] at q1 z1⊢;have q2:=Di (show 84<b1.tmps.size by omega) q1 (h.s84 (A3 7 (by omega)));have z2:=Bv b1 84 (.string kb);obtain ⟨b2,A7⟩: ∃b2,b1.put (some 84) (.string kb)=b2:=⟨_,rfl⟩;rw[A7] at q2 z2⊢;have q3:=Di (show 85<b2.tmps.size by omega) q2 (h.s85 (A3 8 (by omega)));have z3:=Bv b2 85 (.string (kb++⟨#[47]⟩));obtain ⟨b3,H3⟩: ∃b3,b2.put (some 85) (.string (kb++⟨#[47]⟩))=b3:=⟨_,rfl⟩;rw[H3] at q3 z3⊢;have q4:=Di (show 94<b3.tmps.size by omega) q3 (h.s94 (A3 17 (by omega)));have z4:=Bv b3 94 (.string lb);obtain ⟨b4,aC⟩: ∃b4,b3.put (some 94) (.string lb)=b4:=⟨_,rfl⟩;rw[aC] at q4 z4⊢;have q5:=Di (show 95<b4.tmps.size by omega) q4 (h.s95 (A3 18 (by omega)));have z5:=Bv b4 95 (.string (kb++⟨#[47]⟩++lb));obtain ⟨b5,L5⟩: ∃b5,b4.put (some 95) (.string (kb++⟨#[47]⟩++lb))=b5:=⟨_,rfl⟩;rw[L5] at q5 z5⊢;exact Di (show 9<b5.tmps.size by omega) q5 (h.s9 (A3 19 (by omega))) s (by simp)
end
end Go.Proofs.YtjhpdljphchfaaaGreatDoor
