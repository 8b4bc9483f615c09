/- A part of the proof of ConvertUps: strings.SplitSeq at one byte: its iterator walked. -/
import Derived.RangeFuncNested
import Derived.RangeFuncBound
import Derived.RangeFuncCalls
import Derived.RangeFuncLeaves
import Derived.RangeFuncFrom
import Derived.Shelf.Abstract
import Derived.Shelf.RegionOpen
import Derived.WalkKit
import Derived.OwnWalkIn
import Derived.TacticsInMore
import Derived.LoopNIn
import Derived.LoopIn
import Derived.Test.YtjhpdljphchfaaaGreatDoorA18
import Derived.Test.YtjhpdljphchfaaaGreatDoorA10
set_option maxHeartbeats 40000000
set_option maxRecDepth 1000000
set_option linter.all false
namespace Go.Proofs.YtjhpdljphchfaaaGreatDoor
open Go.RowKit
open Go.Proofs.Tryz
section
open Go.Shelf
attribute [local go_sem] Oper.semAt_some
def F9 {β:Type} (b:Nat) (J:β->World->Prop):Prop:= ∀s W v,J s W->J s (W.setCell (Ad b 0) v)
def Mid (lo hi:Nat) (W W':World):Prop:= ∀k,lo<=k->k<hi->W'.heap[k]? =W.heap[k]?
theorem Mid.trans {lo hi:Nat} {A B C:World} (h:Mid lo hi A B) (g:Mid lo hi B C):Mid lo hi A C:=fun k h1 h2=>(g k h1 h2).trans (h k h1 h2)
theorem PT {lo hi:Nat} {A B:World} (h:Below hi A B):Mid lo hi A B:=fun k _ h2=>h.block k h2
theorem Mid.cell {lo hi:Nat} {A B:World} (h:Mid lo hi A B) {p:Addr} (h1:lo<=p.block) (h2:p.block<hi):B.cell? p=A.cell? p:=by unfold World.cell?;rw[h _ h1 h2]
theorem Mid.frozen {lo hi:Nat} {A B:World} (h:Mid lo hi A B) {p:Addr} (h1:lo<=p.block) (h2:p.block<hi):B.frozen? p=A.frozen? p:=by unfold World.frozen?;rw[h _ h1 h2]
def PU (lo:Nat) (F:Fence) (m:Nat) (g:Nat) (lb:Array Value) (b:Nat) (encs:Nat->Array Value) (n:Nat) (w:World):Prop:=
 ∀(l:Nat) (J:Nat->World->Prop) (Jx:Unit->World->Prop) (W:World),Below w.heap.size w W->F9 b J->F9 b Jx->
  (∀k W1,J k W1->k<n->YieldAt F (m- 1) prog l (encs k) W1 fun e W'=>(e= .returned (.bool true)/\J (k+1) W'/\Mid lo w.heap.size W1 W')∨(e= .returned (.bool false)/\Jx () W'))->
  J 0 W->CallsIn F m prog g (#[.func (.yield l) #[] #[]]++lb) W fun e W'=>(∃v,e= .returned v)/\(J n W'∨Jx () W')
def TD (lo B:Nat) (I:Nat->World->Prop) (Ix:Code->World->Prop) (k:Nat) (W:World):Exit->Act->World->Prop
 | .normal,_,W'=>KeepsOthers W W'/\Mid lo B W W'/\I k W'
 | .ret,_,W'=>KeepsOthers W W'/\Ix .ret W'
 | .exit id,_,W'=>KeepsOthers W W'/\Ix (.exit id) W'
 | .goto t,_,W'=>KeepsOthers W W'/\Ix (.goto t) W'
 | .panic _,_,_=>False
 | .outgrown,_,_=>False
section
variable {F:Fence} {n:Nat}
theorem C7 {W:World} {l b:Nat} (h:l≠b) {o o':Obj} (hl:W.heap[l]? =some o) (v:Value) (h':o=o'):(W.setCell (Ad b 0) v).heap[l]? =some o':=by rw[Below.heap_setCell _ _ _ _ (show l≠b from h),hl,h']
theorem EV {g:Operand} {ps:Array Tmp} {assign body:Code} {Q:Exit->Act->World->Prop} {a:Act} {w:World}
 (E9:F.round=none) (h1:1<=n) {gf:Nat} {lb:Array Value} (hg:a.eval g= .func (.func gf) #[] lb) (F1:F.fn gf) (eg: ∀args w,(callFunc gf args).run prog w= .ok (.enter gf args) w)
 {lo b N:Nat} {encs:Nat->Array Value} (H9:b<w.heap.size) (AL:PU lo F (n- 1) gf lb b encs N w) (F2: ∀k,(encs k).size=ps.size)
 (I:Nat->World->Prop) (Ix:Code->World->Prop) (hI:OwnFrom w.heap.size I) (AN:OwnFrom w.heap.size Ix) (F3:F9 b I) (AV:F9 b Ix) (h0:I 0 w) (a₁:Nat->Act)
 (A1: ∀(l k:Nat) (W:World) (K:Act->World->Prop),K (a₁ k) W->
   assign.wpIn (F.inRound l) (n- 1- 1) prog (Exit.then K (fun _ _ _=>False)) {tmps:=(ps.zip (encs k)).foldl (fun t (p,v)=>t.setIfInBounds p v) a.tmps,defers:=[]} W)
 (A7: ∀(l k:Nat) (W:World),I k W->k<N->body.wpIn (F.inRound l) (n- 1- 1) prog (TD lo w.heap.size I Ix (k+1) W) (a₁ k) W)
 (A8: ∀(D:Nat) (W:World),w.heap.size<=D->I N W->W.heap[D]? =some (.deferred (some []))->Q .normal {a with defers:={target:= .collected D,args:= #[]}::a.defers} W)
 (A9: ∀(D:Nat) (c:Code) (W:World),w.heap.size<=D->Ix c W->W.heap[D]? =some (.deferred (some []))->c.wpIn F n prog Q {a with defers:={target:= .collected D,args:= #[]}::a.defers} W):
 (Code.rangeFunc g ps assign body).wpIn F n prog Q a w:=by
 refine wpIn_rangeFunc fun fn F4=> ?_;rw[E9]
 let rec_ (st:LoopState) (jump:Option Code):Loop:={state:=st,pending:=jump,fn,tmps:=a.tmps,params:=ps,assign,body,defers:=w.heap.size}
 have hK: ∃W1,(w.alloc (.deferred (some []))).alloc (.loop (rec_ .ready none))=W1:=⟨_,rfl⟩;obtain ⟨W1,A0⟩:=hK;have HA:W1.heap.size=w.heap.size+2:=(by rw[<-A0];simp);have atL:W1.heap[w.heap.size+1]? =some (.loop (rec_ .ready none)):=(by have h:=World.alloc_heap_new (w.alloc (.deferred (some []))) (.loop (rec_ .ready none));rw[World.size_alloc,A0] at h;exact h);have atD:W1.heap[w.heap.size]? =some (.deferred (some [])):=(by rw[<-A0];exact (Below.heap_alloc _ _ _ (by simp)).trans (World.alloc_heap_new w _));have inv1:I 0 W1:=(by rw[<-A0];exact hI _ _ _ none (hI _ _ _ none h0 (World.grownBy_alloc _ _ none) (fun r e=>by cases e)) (World.grownBy_alloc _ _ none) (fun r e=>by cases e));have low1:Below w.heap.size w W1:=(by rw[<-A0];exact zA.alloc (by simp) _);have turn: ∀(W:World) (o o':Obj),W.heap[w.heap.size+1]? =some o->o.isCells=false->W.heap[w.heap.size]? =some (.deferred (some []))->
  (∀k,I k W->I k (W.putObj (w.heap.size+1) o'))/\(∀c,Ix c W->Ix c (W.putObj (w.heap.size+1) o'))/\(W.putObj (w.heap.size+1) o').heap[w.heap.size+1]? =some o'/\(W.putObj (w.heap.size+1) o').heap[w.heap.size]? =some (.deferred (some []))/\Below w.heap.size W (W.putObj (w.heap.size+1) o'):=
  fun W o o' ho hc hd=>⟨fun k h=>OwnFrom.putObj hI o' h (by omega) ho hc,fun c h=>OwnFrom.putObj AN o' h (by omega) ho hc,World.putObj_heap_same (Array.getElem?_eq_some_iff.1 ho).1,(World.putObj_heap_other (by omega)).trans hd,
   (Below.refl _ W).grown (grownBy_putObj' W _ o') (by have:=(Array.getElem?_eq_some_iff.1 ho).1;omega) (fun k e=>by cases e;omega)⟩
 refine ⟨w.heap.size+1,[{target:= .collected w.heap.size,args:= #[]}],W1,{target:= .fn (.func gf) lb,args:= #[.func (.yield (w.heap.size+1)) #[] #[]]},W1,gf,
  #[.func (.yield (w.heap.size+1)) #[] #[]]++lb,W1, ?_, ?_, ?_, ?_,fun _=>h1, ?_⟩
 ·rw[<-A0];exact run_enterLoop_outer _ _ _ _ _
 ·simp only[resolve,hg];simp[go_sem]
 ·intro f' AW;simp[Target.leads] at AW;subst AW;exact F1
 ·simp[invoke,go_sem,eg]
 refine (AL (w.heap.size+1)
  (fun k W=>I k W/\W.heap[w.heap.size+1]? =some (.loop (rec_ .ready none))/\W.heap[w.heap.size]? =some (.deferred (some [])))
  (fun _ W=> ∃c,Ix c W/\W.heap[w.heap.size+1]? =some (.loop (rec_ .done (some c)))/\W.heap[w.heap.size]? =some (.deferred (some [])))
  W1 low1 ?_ ?_ ?_ ⟨inv1,atL,atD⟩).mono ?_
 ·rintro k W v ⟨x1,x2,x3⟩;exact ⟨F3 k W v x1,C7 (by omega) x2 v rfl,C7 (by omega) x3 v rfl⟩
 ·rintro _ W v ⟨c,x1,x2,x3⟩;exact ⟨c,AV c W v x1,C7 (by omega) x2 v rfl,C7 (by omega) x3 v rfl⟩
 ·rintro k W ⟨x1,x2,x3⟩ hk;have hy:=run_yield (P:=prog) (args:=encs k) x2 (F2 k);obtain ⟨t1,_,t3,t4,t5⟩:=turn W _ (.loop {rec_ .ready none with state:= .busy}) x2 rfl x3;refine ⟨fn,_,assign,body,hy,roundIn_of_wpIn F4 (A1 _ k W _ ⟨_,run_beginRound x2 rfl,wpIn_mono (A7 _ k _ (t1 k x1) hk) ?_⟩)⟩;have close: ∀(jump:Option Code) (W3:World),KeepsOthers (W.putObj (w.heap.size+1) (.loop {rec_ .ready none with state:= .busy})) W3->
   (Instr.endRound (w.heap.size+1) jump).run prog W3= .ok (.bool jump.isNone) (W3.putObj (w.heap.size+1) (.loop (rec_ (if jump.isNone then .ready else .done) jump)))/\
   W3.heap[w.heap.size+1]? =some (.loop {rec_ .ready none with state:= .busy})/\W3.heap[w.heap.size]? =some (.deferred (some [])):=fun jump W3 A4=>
   have B0:=A4.same _ _ t3 rfl
   ⟨run_endRound (P:=prog) jump B0,B0,A4.same _ _ t4 rfl⟩
  have leave: ∀(c:Code) (W3:World),KeepsOthers (W.putObj (w.heap.size+1) (.loop {rec_ .ready none with state:= .busy})) W3->Ix c W3->
   Ix c (W3.putObj (w.heap.size+1) (.loop (rec_ .done (some c))))/\(W3.putObj (w.heap.size+1) (.loop (rec_ .done (some c)))).heap[w.heap.size+1]? =some (.loop (rec_ .done (some c)))/\(W3.putObj (w.heap.size+1) (.loop (rec_ .done (some c)))).heap[w.heap.size]? =some (.deferred (some [])):=fun c W3 A4 FB=>
   have ⟨_,l3,d3⟩:=close (some c) W3 A4;have ⟨_,u2,u3,u4,_⟩:=turn W3 _ (.loop (rec_ .done (some c))) l3 rfl d3
   ⟨u2 c FB,u3,u4⟩
  rintro e a3 W3 hp;cases e with
  |normal=>
   obtain ⟨k3,b3,i3⟩:=hp;obtain ⟨r3,l3,d3⟩:=close none W3 k3;obtain ⟨u1,_,u3,u4,u5⟩:=turn W3 _ (.loop (rec_ .ready none)) l3 rfl d3;exact ⟨_,_,r3,.inl ⟨rfl,⟨u1 _ i3,u3,u4⟩,((PT t5).trans b3).trans (PT u5)⟩⟩
  |ret=>exact ⟨_,_,(close (some .ret) W3 hp.1).1,.inr ⟨rfl,.ret,leave .ret W3 hp.1 hp.2⟩⟩
  |exit id=>exact ⟨_,_,(close (some (.exit id)) W3 hp.1).1,.inr ⟨rfl,.exit id,leave (.exit id) W3 hp.1 hp.2⟩⟩
  |goto t=>exact ⟨_,_,(close (some (.goto t)) W3 hp.1).1,.inr ⟨rfl,.goto t,leave (.goto t) W3 hp.1 hp.2⟩⟩
  |panic _=>exact hp.elim
  |outgrown=>exact hp.elim
 ·rintro e W2 ⟨⟨v,rfl⟩,(⟨x1,x2,x3⟩|⟨c,x1,x2,x3⟩)⟩
  ·have:=run_endLoop (P:=prog) x2 (by simp[rec_]);exact ⟨none,_,this,A8 _ _ zL (OwnFrom.putObj hI _ x1 (by omega) x2 rfl) ((World.putObj_heap_other (by omega)).trans x3)⟩
  ·have:=run_endLoop (P:=prog) x2 (by simp[rec_]);exact ⟨some c,_,this,A9 _ c _ zL (OwnFrom.putObj AN _ x1 (by omega) x2 rfl) ((World.putObj_heap_other (by omega)).trans x3)⟩
end
end
section
open Go.Shelf
attribute [local go_sem] Oper.semAt_some
def Ms (w:World) (b:Nat):Nat:=match w.cell? (Ad b 0) with
 |some (.string s)=>s.size
 |_=>0
theorem Kb {w:World} {b:Nat} {s:ByteArray} (h:w.cell? (Ad b 0)=some (.string s)):Ms w b=s.size:=by unfold Ms;rw[h]
def OD (sp:UInt8) (T:Str) (k:Nat):Array Value:= #[.string ⟨((pcs sp T).getD k []).toArray⟩]
theorem Us (sp:UInt8) (l:Str):pcs sp l≠[]:=by intro h;have:=FO sp l;rw[h] at this;simp at this
theorem Rg (sp:UInt8) (l:Str):(Lib.indexByte l sp= -1/\pcs sp l=[l])∨ ∃i:Nat,Lib.indexByte l sp=i/\i<l.length/\pcs sp l=l.take i::pcs sp (l.drop (i+1)):=by
 rcases DS sp l with ⟨h1,h2⟩|⟨i,h1,h2,h3,h4⟩
 ·exact .inl ⟨h1,Es sp l h2⟩
 ·exact .inr ⟨i,h1,h2,GY sp l i h3 h4⟩
theorem Fe {α:Type} {l:List α} {k:Nat} {x:α} {r:List α} (d:α) (h:l.drop k=x::r):l.getD k d=x:=by
 have hk:k<l.length:=by
  rcases Nat.lt_or_ge k l.length with h1|h1
  ·exact h1
  ·rw[List.drop_eq_nil_of_le h1] at h;cases h
 rw[List.drop_eq_getElem_cons hk] at h;injection h with h1 _;simp[List.getD,List.getElem?_eq_getElem hk,h1]
theorem XQ (l:Str) (c:UInt8) (n:Int) (w:World) (hn:Lib.indexByte l c=n):Calls prog 66 #[Sv l,.string ⟨#[c]⟩] w fun e w'=>e= .returned (Iv n)/\w=w':=
 (strings_Index_one _ c w).mono fun e w' h=>⟨by rw[h.1,<-hn],h.2.symm⟩
theorem IX (sp:UInt8) (T:Str) (lo m bp b bv:Nat) (w:World) (hm:1<=m) (hT:T.length<=1073741824) (lb:lo<=b) (lp:lo<=bp) (lv:lo<=bv) (A5:b<w.heap.size) (B1:bp<w.heap.size) (B2:bv<w.heap.size) (G1:b≠bp) (G2:b≠bv)
 (cp:w.cell? (Ad bp 0)=some (.string ⟨#[sp]⟩)) (cs:w.cell? (Ad b 0)=some (Sv T)) (cv:w.cell? (Ad bv 0)=some (Iv 0)) (fs:w.frozen? (Ad b 0)=false):
 PU lo Fence.wide m 185 #[.pointer (some (Ad bp 0)),.pointer (some (Ad b 0)),.pointer (some (Ad bv 0))] b (OD sp T) (pcs sp T).length w:=by
 intro l J Jx W hW hJ HB hY h0;have HJ:=hid hJ;have HY:=hid hY;have B3:=(hW.cell (p:=(Ad bp 0)) B1).trans cp;have DA:=(hW.cell (p:=(Ad b 0)) A5).trans cs;have DD:=(hW.cell (p:=(Ad bv 0)) B2).trans cv;have DT:=(hW.frozen (p:=(Ad b 0)) A5).trans fs;clear hJ hY cp cs cv fs;refine callsIn_of_wp func185 rfl trivial ?_ rfl;simp only[ntmps185,List.size_toArray,List.length_cons,List.length_nil,Nat.reduceAdd,Nat.reduceSub,Array.replicate_succ,Array.replicate_zero,List.push_toArray,List.append_toArray,List.nil_append,List.cons_append]
 gi_wp2
 gi_loopw [7,8] (fun _ _ wr=> ∃(k:Nat) (R:Str),R.length<=T.length/\wr.cell? (Ad b 0)=some (Sv R)/\wr.cell? (Ad bp 0)=some (.string ⟨#[sp]⟩)/\wr.cell? (Ad bv 0)=some (Iv 0)/\wr.frozen? (Ad b 0)=false/\Hid ((pcs sp T).drop k=pcs sp R)/\J k wr) (fun _ _ wr=>Ms wr b)
 case atStart=>exact ⟨0,T,Nat.le_refl _,DA,B3,DD,DT,hid rfl,h0⟩
 case round=>
  clear B3 DA DD DT h0;obtain ⟨k,R,hR,c1,c2,c3,f1,HP,hj⟩:=hrel;have HC:b<wr.heap.size:=(by unfold World.cell? at c1;split at c1;all_goals first|(cases c1;done)|(rename_i hh;exact (Array.getElem?_eq_some_iff.1 hh).1));have HD:=hid hj;have E0:k<(pcs sp T).length:=by
   rcases Nat.lt_or_ge k (pcs sp T).length with h|h
   ·exact h
   ·have:=HP.out;rw[List.drop_eq_nil_of_le h] at this;exact absurd this.symm (Us sp R)
  rcases Rg sp R with ⟨hi,hp⟩|⟨i,hi,HE,hp⟩
  ·have HX:=hid (show OD sp T k= #[Sv R] by rw[OD,Fe [] (by rw[HP.out,hp])]);have HK:=hid (show k+1=(pcs sp T).length by
    have:=congrArg List.length HP.out;rw[hp,List.length_drop] at this;simp at this;omega)
   obtain ⟨fn,tmps,assign,body,hy,AB⟩:=HY.out k wr hj E0;rw[HX.out] at hy;have HI:=hid hi;clear hp hi hj
   gi_wp2_with (refine ⟨trivial, ?_⟩;gi_at_call 66;refine (callsIn_wide.2 (XQ R sp _ wr HI.out)).mono ?_;rintro e w' ⟨rfl,rfl⟩)
   refine AB.mono ?_;rintro e W' (⟨rfl,A6,_⟩|⟨rfl,A2⟩)
   ·gi_wp2
    go_end0
    exact ⟨⟨_,rfl⟩,.inl (by rw[<-HK.out];exact A6)⟩
   ·gi_wp2
    go_end0
    exact ⟨⟨_,rfl⟩,.inr A2⟩
  ·have HX:=hid (show OD sp T k= #[.string ⟨(R.take i).toArray⟩] by rw[OD,Fe [] (by rw[HP.out,hp])]);have G4:=hid (show (pcs sp T).drop (k+1)=pcs sp (R.drop (i+1)) by
    rw[<-List.drop_drop,HP.out,hp];rfl)
   obtain ⟨fn,tmps,assign,body,hy,AB⟩:=HY.out k wr hj E0;have hex:(⟨R.toArray⟩:ByteArray).extract 0 i=⟨(R.take i).toArray⟩:=(by rw[ba_cut];simp);rw[HX.out] at hy;have HI:=hid hi;have H4:(i:Int)<=(R.length:Int):=(by omega);clear hp hi hj
   gi_wp2_with (refine ⟨trivial, ?_⟩;gi_at_call 66;refine (callsIn_wide.2 (XQ R sp _ wr HI.out)).mono ?_;rintro e w' ⟨rfl,rfl⟩)
   refine AB.mono ?_;rintro e W' (⟨rfl,A6,A3⟩|⟨rfl,A2⟩)
   ·have c1':=(A3.cell (p:=(Ad b 0)) lb A5).trans c1;have c2':=(A3.cell (p:=(Ad bp 0)) lp B1).trans c2;have c3':=(A3.cell (p:=(Ad bv 0)) lv B2).trans c3;have f1':=(A3.frozen (p:=(Ad b 0)) lb A5).trans f1;have H8:(⟨R.toArray⟩:ByteArray).extract (i+1) R.length=⟨(R.drop (i+1)).toArray⟩:=by
     rw[ba_cut,List.take_of_length_le (by rw[List.length_drop];omega)]
    have E1:=Kb c1;have E2:Ms (W'.setCell (Ad b 0) (.string ⟨(R.drop (i+1)).toArray⟩)) b=R.length-(i+1):=(by rw[Kb (World.cell?_setCell_same _ _ _ c1')];show (R.drop (i+1)).length=_;rw[List.length_drop]);have E3:(⟨R.toArray⟩:ByteArray).size=R.length:=rfl;have H0:=hid E1;have H1:=hid E2;have H2:=hid E3;have H3:=hid (HJ.out (k+1) W' (.string ⟨(R.drop (i+1)).toArray⟩) A6);clear E1 E2 E3 c1 c2 c3 f1 A6 A3 hex
    gi_wp2
    go_roundw;case rel=>exact ⟨k+1,R.drop (i+1),by rw[List.length_drop];omega,World.cell?_setCell_same _ _ _ c1',(World.cell?_setCell_other _ _ _ _ (by simp[G1])).trans c2',(World.cell?_setCell_other _ _ _ _ (by simp[G2])).trans c3',by rw[World.frozen?_setCell];exact f1',G4,H3.out⟩
    case measure=>rw[H0.out,H1.out,H2.out];omega
   ·gi_wp2
    refine bodyPost_ret (results_none rfl _ _ _) rfl ?_;exact ⟨⟨_,rfl⟩,.inr A2⟩
end
end Go.Proofs.YtjhpdljphchfaaaGreatDoor
