/- A part of the proof of ConvertUps: An item stored whole into a block of its own: one law in place of fifteen stores. -/
import Derived.Test.YtjhpdljphchfaaaGreatDoorA33
import Derived.Test.YtjhpdljphchfaaaGreatDoorA34
import Derived.Laws.CopyRow
import Derived.Test.YtjhpdljphchfaaaGreatDoorA01
import Derived.Test.YtjhpdljphchfaaaGreatDoorA29
set_option maxHeartbeats 40000000
set_option maxRecDepth 1000000
set_option linter.all false
namespace Go.Proofs.YtjhpdljphchfaaaGreatDoor
open Go.RowKit
open Go.Proofs.Tryz
def Yt (W:World) (G n:Nat):Prop:= ∃cs t,W.heap[G]? =some (.cells cs t (0,0))/\cs.size=n
theorem Yt.lt {W:World} {G n:Nat} (h:Yt W G n):G<W.heap.size:=let ⟨_,_,h,_⟩:=h;(Array.getElem?_eq_some_iff.1 h).1
theorem Yt.same {W W':World} {G n:Nat} (h:Yt W G n) (e:W'.heap[G]? =W.heap[G]?):Yt W' G n:=let ⟨cs,t,h1,h2⟩:=h;⟨cs,t,e.trans h1,h2⟩
theorem Yt.low {W W':World} {G n B:Nat} (h:Yt W G n) (hb:Below B W W') (hB:G<B):Yt W' G n:=h.same (hb.block G hB)
theorem TL (W:World) (G:Nat) (cs:Array Value) (h:Yt W G 15) (hs:cs.size=15) (h1: ∀v∈cs.toList,v.oneCell'=true):
 (storeCells (Ad G 0) cs.toList).run prog W= .ok () (W.setRow G cs):=by
 obtain ⟨cur,t,hg,hc⟩:=h;have:=run_storeCells_at (P:=prog) G 0 t cs.toList 0 cur W hg (by simp;omega) h1;rw[this]
 congr 2
 simp;rw[List.drop_of_length_le (by simp;omega),List.append_nil]
theorem Rr (W:World) (G:Nat) (cs:Array Value) (h:Yt W G 15) (hs:cs.size=15) (h1: ∀v∈cs.toList,v.oneCell'=true):
 (storeVar 44 (Ad G 0) (.agg cs)).run prog W= .ok () (W.setRow G cs):=by
 have h2:=TL W G cs h hs h1;simp[storeVar,Value.cells,sizeOf44,hs,h2]
theorem BE {W:World} {G:Nat} (h:Yt W G 15) (cs:Array Value) (j:Nat):(W.setRow G cs).cell? (Ad G j)=cs[j]? :=by obtain ⟨cur,t,hg,_⟩:=h;exact cell_of_row _ G j cs t (0,0) (setRow_heap W G cur cs t (0,0) hg)
theorem AH (W:World) (G:Nat) (cs:Array Value) {k:Nat} (h:k≠G):(W.setRow G cs).heap[k]? =W.heap[k]? :=setRow_other W G k cs h
def Yu (a:Addr) (cs:Array Value):Sem Unit:=Instr.storeAt 44 (.pointer (some a)) (.agg cs)
def zPd (a v:Value):Sem Unit:=Instr.storeAt 44 a v
theorem zPe (a v:Value):Instr.storeAt 44 a v=zPd a v:=rfl
theorem XR (a:Addr) (cs:Array Value):zPd (.pointer (some a)) (.agg cs)=Yu a cs:=rfl
theorem WH (W:World) (G:Nat) (a0 a1 a4:ByteArray) (p2 p5:Option Addr) (l2 c2 l5 c5:Nat) (k3 k6 k7 k8 k9 A4 A6 A7 A8:IntKind) (a3 a6 a7 a8 a9 A9 AB AL AN:Int) (AV:Bool) (h:Yt W G 15):
 (Yu (Ad G 0) (#[.string a0,.string a1,.slice p2 l2 c2,.int k3 a3,.string a4,.slice p5 l5 c5,.int k6 a6,.int k7 a7,.int k8 a8,.int k9 a9,.int A4 A9,.int A6 AB,.bool AV,.int A7 AL,.int A8 AN])).run prog W= .ok () (W.setRow G #[.string a0,.string a1,.slice p2 l2 c2,.int k3 a3,.string a4,.slice p5 l5 c5,.int k6 a6,.int k7 a7,.int k8 a8,.int k9 a9,.int A4 A9,.int A6 AB,.bool AV,.int A7 AL,.int A8 AN]):=by
 have h2:=Rr W G _ h rfl (by simp[Value.oneCell']: ∀v∈(#[.string a0,.string a1,.slice p2 l2 c2,.int k3 a3,.string a4,.slice p5 l5 c5,.int k6 a6,.int k7 a7,.int k8 a8,.int k9 a9,.int A4 A9,.int A6 AB,.bool AV,.int A7 AL,.int A8 AN]:Array Value).toList,v.oneCell'=true);have h3:(Instr.sureAddr (.pointer (some (Ad G 0)))).run prog W= .ok (Ad G 0) W:=rfl;rw[Yu,Instr.storeAt,Sem.run_bind,h3,Result.andThen_ok];exact h2
theorem AC {B G:Nat} {w w':World} (h:Below B w w') (hG:B<=G) (cs:Array Value):Below B w (w'.setRow G cs):=
 h.trans ⟨rfl,rfl,rfl,by simp[World.setRow],fun k hk=>AH w' G cs (by omega)⟩
theorem Yt.setRow {W:World} {G:Nat} (h:Yt W G 15) (cs:Array Value) (hs:cs.size=15):Yt (W.setRow G cs) G 15:=by obtain ⟨cur,t,hg,_⟩:=h;exact ⟨cs,t,setRow_heap W G cur cs t (0,0) hg,hs⟩
theorem AO {W:World} {G b o:Nat} {v:Value} (cs:Array Value) (h:W.cell? (Ad b o)=some v) (E1:b≠G):(W.setRow G cs).cell? (Ad b o)=some v:=
 (World.cell?_of_block (w:=W) (a:=(Ad b o)) (AH W G cs E1)).trans h
section
def Yv (x:It) (pv qv:Value):Array Value:=(IA x pv qv)
def Yw (v:Vl) (qv:Value):Array Value:=(VA v qv)
def Yx (w:World) (G:Nat) (x:It) (pv qv:Value):Prop:= ∃t,w.heap[G]? =some (.cells (Yv x pv qv) t (0,0))
def Yy (w:World) (G:Nat) (v:Vl) (qv:Value):Prop:= ∃t,w.heap[G]? =some (.cells (Yw v qv) t (0,0))
section
variable {w w':World} {G B:Nat} {x:It} {v:Vl} {pv qv:Value}
theorem Yx.lt (h:Yx w G x pv qv):G<w.heap.size:=let ⟨_,h⟩:=h;(Array.getElem?_eq_some_iff.1 h).1
theorem Yx.blk (h:Yx w G x pv qv):Yt w G 15:=let ⟨t,h⟩:=h;⟨_,t,h,rfl⟩
theorem Yx.frozen (h:Yx w G x pv qv) (j:Nat):w.frozen? (Ad G j)=false:=let ⟨t,h⟩:=h;frozen_of_row w G j _ t h
theorem Yx.c (h:Yx w G x pv qv):ItC w G x pv qv:=by obtain ⟨t,h⟩:=h;have hc:=fun j=>cell_of_row w G j _ t (0,0) h;exact ⟨hc 0,hc 1,hc 2,hc 3,hc 4,hc 5,hc 6,hc 7,hc 8,hc 9,hc 10,hc 11,hc 12,hc 13,hc 14,(Array.getElem?_eq_some_iff.1 h).1⟩
theorem Yx.same (h:Yx w G x pv qv) (e:w'.heap[G]? =w.heap[G]?):Yx w' G x pv qv:=let ⟨t,h⟩:=h;⟨t,e.trans h⟩
theorem Yx.keep (h:Yx w G x pv qv) (hb:Below B w w') (hB:G<B):Yx w' G x pv qv:=h.same (hb.block G hB)
theorem Yx.new (w:World) (x:It) (pv qv:Value):Yx (w.alloc (.cells (IA x pv qv) 44)) w.heap.size x pv qv:=⟨44,heap_alloc_new w _⟩
theorem Yx.setP (h:Yx w G x pv qv) (ps:List Pm) (pv':Value):Yx (w.setCell (Ad G 2) pv') G {x with ps:=ps} pv' qv:=by obtain ⟨t,h⟩:=h;exact ⟨t,heap_setCell_same w G 2 _ t pv' h⟩
theorem Yx.setT (h:Yx w G x pv qv) (ty:Int):Yx (w.setCell (Ad G 3) (Iv ty)) G {x with val:={x.val with type:=ty}} pv qv:=by obtain ⟨t,h⟩:=h;exact ⟨t,heap_setCell_same w G 3 _ t _ h⟩
theorem Yx.drew (h:Yx w G x pv qv):Yx w.drew G x pv qv:=h
theorem Yx.row (h:Yt w G 15) {cs:Array Value} (e:cs=Yv x pv qv):Yx (w.setRow G cs) G x pv qv:=by obtain ⟨cur,t,h,_⟩:=h;subst e;exact ⟨t,setRow_heap w G cur _ t (0,0) h⟩
def VR (cur:Array Value):Nat->List Value->Array Value
 |_,[]=>cur
 |o,v::r=>VR (cur.setIfInBounds o v) (o+1) r
theorem E7 (G:Nat) (t:TypeId): ∀(vs:List Value) (o:Nat) (w:World) (cur:Array Value),w.heap[G]? =some (.cells cur t (0,0))->(w.setCells G o vs).heap[G]? =some (.cells (VR cur o vs) t (0,0))
 |[],_,_,_,h=>h
 |v::r,o,w,cur,h=>E7 G t r (o+1) _ _ (heap_setCell_same w G o cur t v h)
theorem Yx.setV (h:Yx w G x pv qv) (v:Vl) (qv':Value):Yx (w.setCells G 3 (Yw v qv').toList) G {x with val:=v} pv qv':=by obtain ⟨t,h⟩:=h;have e:VR (Yv x pv qv) 3 (Yw v qv').toList=Yv {x with val:=v} pv qv':=(by simp[VR,Yv,Yw]);have h2:=E7 G t (Yw v qv').toList 3 w _ h;rw[e] at h2;exact ⟨t,h2⟩
theorem Yx.load (h:Yx w G x pv qv):(loadVar 44 (Ad G 0)).run prog w= .ok (Yp x pv qv) w:=by obtain ⟨c0,c1,c2,c3,c4,c5,c6,c7,c8,c9,c10,c11,c12,c13,c14,A3⟩:=h.c;simp[go_sem,Yp,c0,c1,c2,c3,c4,c5,c6,c7,c8,c9,c10,c11,c12,c13,c14,A3]
end
theorem AG {fn:Func} {a b:Nat} (hf:fn.results= #[.cell a 44,.tmp b]) {tmps:Array Value} {w:World} {G:Nat} {x:It} {pv qv:Value} (ha:tmps.getD a undef= .pointer (some (Ad G 0))) (h:Yx w G x pv qv):
 (results fn tmps).run prog w= .ok (.tuple #[Yp x pv qv,tmps.getD b undef]) w:=by
 have hl:=h.load;have E2:tmps[a]?.getD undef= .pointer (some (Ad G 0)):=(by simpa using ha);simp[results,hf,E2,hl,asAddr]
theorem TM {fn:Func} {a:Nat} (hf:fn.results= #[.cell a 44]) {tmps:Array Value} {w:World} {G:Nat} {x:It} {pv qv:Value} (ha:tmps.getD a undef= .pointer (some (Ad G 0))) (h:Yx w G x pv qv):
 (results fn tmps).run prog w= .ok (Yp x pv qv) w:=by
 have hl:=h.load;have E2:tmps[a]?.getD undef= .pointer (some (Ad G 0)):=(by simpa using ha);simp[results,hf,E2,hl,asAddr]
def Yz (a:Addr) (cs:Array Value):Sem Unit:=Instr.storeAt 42 (.pointer (some a)) (.agg cs)
def zQd (a v:Value):Sem Unit:=Instr.storeAt 42 a v
theorem zQe (a v:Value):Instr.storeAt 42 a v=zQd a v:=rfl
theorem XS (a:Addr) (cs:Array Value):zQd (.pointer (some a)) (.agg cs)=Yz a cs:=rfl
theorem Nl {w:World} {G n j:Nat} (h:Yt w G n) (hj:j<n):(w.cell? (Ad G j)).isSome=true:=by obtain ⟨cs,t,h,hs⟩:=h;rw[cell_of_row w G j cs t (0,0) h,Array.getElem?_eq_getElem (by omega)];rfl
theorem Nm {w:World} {G n:Nat} (h:Yt w G n) (j:Nat):w.frozen? (Ad G j)=false:=let ⟨cs,t,h,_⟩:=h;frozen_of_row w G j cs t h
theorem Uw (W:World) (G:Nat) (cs:Array Value) (h:Yt W G 15) (hs:cs.size=12) (h1: ∀v∈cs.toList,v.oneCell'=true):
 (storeVar 42 (Ad G 3) (.agg cs)).run prog W= .ok () (W.setCells G 3 cs.toList):=by
 have h2:=run_storeCells_cells (P:=prog) G 3 cs.toList 0 W (fun j hj=>by simp at hj;exact Nl h (by omega)) (fun j _=>Nm h _) h1;simp[storeVar,Value.cells,sizeOf42,hs,h2]
theorem WI (W:World) (G:Nat) (a4:ByteArray) (p5:Option Addr) (l5 c5:Nat) (k3 k6 k7 k8 k9 A4 A6 A7 A8:IntKind) (a3 a6 a7 a8 a9 A9 AB AL AN:Int) (AV:Bool) (h:Yt W G 15):
 (Yz (Ad G 3) (#[.int k3 a3,.string a4,.slice p5 l5 c5,.int k6 a6,.int k7 a7,.int k8 a8,.int k9 a9,.int A4 A9,.int A6 AB,.bool AV,.int A7 AL,.int A8 AN])).run prog W= .ok () (W.setCells G 3 [.int k3 a3,.string a4,.slice p5 l5 c5,.int k6 a6,.int k7 a7,.int k8 a8,.int k9 a9,.int A4 A9,.int A6 AB,.bool AV,.int A7 AL,.int A8 AN]):=by
 have h2:=Uw W G _ h rfl (by simp[Value.oneCell']: ∀v∈(#[.int k3 a3,.string a4,.slice p5 l5 c5,.int k6 a6,.int k7 a7,.int k8 a8,.int k9 a9,.int A4 A9,.int A6 AB,.bool AV,.int A7 AL,.int A8 AN]:Array Value).toList,v.oneCell'=true);have h3:(Instr.sureAddr (.pointer (some (Ad G 3)))).run prog W= .ok (Ad G 3) W:=rfl;rw[Yz,Instr.storeAt,Sem.run_bind,h3,Result.andThen_ok];exact h2
theorem Xm (a v:Value):Instr.storeAt 37 a v=(do storeVar 37 (<-Instr.sureAddr a) v):=rfl
theorem Xp (a v:Value):Instr.storeAt 3 a v=(do storeVar 3 (<-Instr.sureAddr a) v):=rfl
end
section
def BJ (S:Nat->Prop) (w:World) (r:Option It) (e:Ending) (w':World):Prop:=
 ∃(y:It) (A:Option Addr) (n c:Nat) (A':Option Addr) (n' c':Nat) (b:Bool),e= .returned (.tuple #[Yp y (.slice A n c) (.slice A' n' c'),.bool b])/\(∀z,r=some z->b=true/\y=z/\Ah w' (fun k=>S k∨Cy w w' k) (.slice A n c) z.ps/\BY w' (fun k=>S k∨Cy w w' k) (.slice A' n' c') z.val.parts)/\(r=none->b=false)/\Below w.heap.size w w'
section
variable {S:Nat->Prop} {w w' w2 wf:World} {r:Option It} {y:It} {A:Option Addr} {n c:Nat} {A':Option Addr} {n' c':Nat}
theorem Ai (h:r=none) (hb:Below w.heap.size w w'):BJ S w r (.returned (.tuple #[Yp y (.slice A n c) (.slice A' n' c'),.bool false])) w':=
 ⟨y,A,n,c,A',n',c',false,rfl,fun z hz=>(by rw[h] at hz;cases hz),fun _=>rfl,hb⟩
theorem Aq (h:r=some y) (hp:Ah w' (fun k=>S k∨Cy w w' k) (.slice A n c) y.ps) (hl:BY w' (fun k=>S k∨Cy w w' k) (.slice A' n' c') y.val.parts) (hb:Below w.heap.size w w'):BJ S w r (.returned (.tuple #[Yp y (.slice A n c) (.slice A' n' c'),.bool true])) w':=
 ⟨y,A,n,c,A',n',c',true,rfl,fun z hz=>(by rw[h] at hz;cases hz;exact ⟨rfl,rfl,hp,hl⟩),fun hn=>(by rw[h] at hn;cases hn),hb⟩
theorem D2 {v:Value} {ps:List Pm} (hS:sW S w) (h:Ah w2 (fun k=>S k∨(w.heap.size+2<=k/\k<w2.heap.size)) v ps) (hk: ∀k,k≠w.heap.size->k≠w.heap.size+1->wf.heap[k]? =w2.heap[k]?) (hz:wf.heap.size=w2.heap.size):Ah wf (fun k=>S k∨Cy w wf k) v ps:=
 h.move (fun k A1=>by
  rcases A1 with A1|A1
  ·have:=hS k A1;exact hk k (by omega) (by omega)
  ·exact hk k (by omega) (by omega)) fun k A1=>by
  rcases A1 with A1|A1
  ·exact .inl A1
  ·exact .inr ⟨by omega,by rw[hz];exact A1.2⟩
theorem VS {v:Value} {ps:List Pm} (hS:sW S w) (h:Ah w S v ps) (hb:Below w.heap.size w wf):Ah wf (fun k=>S k∨Cy w wf k) v ps:=
 h.move (fun k hk=>hb.block k (hS k hk)) fun _ hk=> .inl hk
theorem TQ {v:Value} {l:List (List Str)} (hS:sW S w) (h:BY w S v l) (hb:Below w.heap.size w wf):BY wf (fun k=>S k∨Cy w wf k) v l:=
 h.move (fun k hk=>hb.block k (hS k hk)) fun _ hk=> .inl hk
theorem Yr.out {w1:World} {v:Value} {ps:List Pm} {L:List (Pm×Value)} {S1:Nat->Prop} (h:Yr w2 w1.heap.size S1 v ps L) (h1:w.heap.size+2<=w1.heap.size) (hz:w1.heap.size<=w2.heap.size) (G4: ∀k,S1 k->S k∨(w.heap.size+2<=k/\k<w1.heap.size)):Ah w2 (fun k=>S k∨(w.heap.size+2<=k/\k<w2.heap.size)) v ps:=
 h.x (fun k hk=>by
  rcases G4 k hk with hk|hk
  ·exact .inl hk
  ·exact .inr ⟨hk.1,by omega⟩) fun k h2 h3=> .inr ⟨by omega,h3⟩
theorem Yt.setCell {G m:Nat} (h:Yt w G m) (a:Addr) (v:Value) (E1:G≠a.block):Yt (w.setCell a v) G m:=h.same (heap_setCell_other w a G v E1)
theorem AS (g:Nat): ∀(vs:List Value) (o:Nat) (w:World) (k:Nat),k≠g->(w.setCells g o vs).heap[k]? =w.heap[k]?
 |[],_,_,_,_=>rfl
 |v::r,o,w,k,h=>(AS g r (o+1) _ k h).trans (heap_setCell_other w (Ad g o) k v h)
theorem Be (g:Nat): ∀(vs:List Value) (o:Nat) (w:World),(w.setCells g o vs).heap.size=w.heap.size
 |[],_,_=>rfl
 |v::r,o,w=>(Be g r (o+1) _).trans (by simp[World.setCell])
theorem BF {B g:Nat} (hg:B<=g): ∀(vs:List Value) (o:Nat) {a w:World},Below B a w->Below B a (w.setCells g o vs)
 |[],_,_,_,h=>h
 |v::r,o,_,w,h=>BF hg r (o+1) (h.setCell (p:=(Ad g o)) hg v)
end
end
section
attribute [local go_sem ↓] zPe zQe
attribute [local go_sem] XR WH XS WI Xm Xp
theorem M9 (k b:Str):B.dataS k b=⟨(KJ k b).toArray⟩:=by unfold B.dataS KJ;rw[show (⟨#[100,97,116,97,58]⟩:ByteArray)=⟨([100,97,116,97,58]:Str).toArray⟩ from rfl,show (⟨#[59,98,97,115,101,54,52,44]⟩:ByteArray)=⟨([59,98,97,115,101,54,52,44]:Str).toArray⟩ from rfl,<-AM,<-AM,<-AM]
theorem Kx {x:It} (h:Y4 x):x.ps.length<=100000/\ ∀p∈x.ps,p.name.length<=100000:=by have h1:=Bq x.ps;have h2:=h.ps;exact ⟨by omega,fun p hp=>by have:=Bd p;have:=Bp hp;omega⟩
noncomputable def Lw {S:Nat->Prop} (N:Str) (x:It) (A:Option Addr) (c:Nat) (A':Option Addr) (c':Nat) (w:World):
 Put ((sW S w)->Ah w S (pP A x c) x.ps->BY w S (lP A' x c') x.val.parts->Y4 x->Calls prog 45 #[Sv N,Yp x (pP A x c) (lP A' x c')] w (BJ S w (BX N x))):=by
 apply Put.mk;intro hG;have HG:=PG.mk hG;clear hG;intro hS hp hl hT;have HP:=hid hp;have HL:=hid hl;have HT:=hid hT;have DA:=(Kx hT).1;have AW:=hid (Kx hT).2;clear hp hl hT;simp only[Yp];go_enter func45,ntmps45;go_upto_region 1 with fail;obtain ⟨W0,B1⟩: ∃W0,(w.alloc (.cells (IA x (pP A x c) (lP A' x c')) 44)).alloc (.cells Z15 44)=W0:=⟨_,rfl⟩;have B2:W0.heap.size=w.heap.size+2:=by rw[<-B1];simp
 have A2:Below w.heap.size w W0:=by rw[<-B1];exact zA.alloc (by simp) _
 have HM:=hid (show Yx W0 w.heap.size x (pP A x c) (lP A' x c') by rw[<-B1];exact (Yx.new w x _ _).same (Below.heap_alloc _ _ _ (by simp)));have hB:Yt W0 (w.heap.size+1) 15:=by rw[<-B1];exact ⟨_,44,heap_alloc2_new w _ _,rfl⟩
 (try rw[B1]);clear B1;have A0:=hid (HP.out.move (w':=W0) (S':=S) (fun k hk=>A2.block k (hS k hk)) fun _ h=>h);obtain ⟨c0,c1,c2,c3,c4,c5,c6,c7,c8,c9,c10,c11,c12,c13,c14,A3⟩:=HM.out.c;go_wp2_with fail;refine (Gu x.ps AE A c W0 (A0.out.pms fun k hk=>by have:=hS k hk;omega) (by omega) (fun p hp=>Nat.le_trans (AW.out p hp) (by omega)) (by decide)).mono ?_;rintro e w1 ⟨rfl,B3⟩;have H0:=B3.size;replace A2:=A2.trans (B3.mono (show w.heap.size<=W0.heap.size by omega));replace HM:=hid (HM.out.keep B3 (by omega));replace hB:=hB.low B3 (by omega);replace B2:w.heap.size+2<=w1.heap.size:=(by omega);replace A0:=hid (A0.out.move (w':=w1) (S':=S) (fun k hk=>B3.block k (by have:=hS k hk;omega)) fun _ h=>h);clear c0 c1 c2 c3 c4 c5 c6 c7 c8 c9 c10 c11 c12 c13 c14 A3 B3 H0;rename_i ia ib ic id;revert HP HL HT DA AW ia ib ic id w1 A2 HM hB B2 A0;exact HG.out
theorem EL {S:Nat->Prop} {A:Option Addr} {c:Nat} {w:World} {ps:List Pm} {q:Pm} {s:Str} (hS:sW S w) (hp:Ah w S (.slice A ps.length c) ps) (hq:ps.find? (fun p=>AF p.name s)=some q): ∃b o,A=some (Ad b o):=by
 rcases DO ps s with ⟨_,h⟩|⟨k,p,_,hk,_,_⟩
 ·rw[hq] at h;cases h
 ·obtain ⟨b,o,_,_,hA,_⟩:=(hp.pms (B:=w.heap.size) hS).at_ hk;exact ⟨b,o,hA⟩
noncomputable def EM {S:Nat->Prop} (N:Str) (x:It) (b o:Nat) (c:Nat) (A':Option Addr) (c':Nat) (w:World) (q:Pm) (s:Str) (r:List Str):
 Put (x.ps.find? (fun p=>AF p.name AE)=some q->q.vals=s::r->(sW S w)->Ah w S (.slice (some (Ad b o)) x.ps.length c) x.ps->BY w S (lP A' x c') x.val.parts->Y4 x->Calls prog 45 #[Sv N,Yp x (.slice (some (Ad b o)) x.ps.length c) (lP A' x c')] w (BJ S w (BX N x))):=by
 apply Put.mk;intro hG;have HG:=PG.mk hG;clear hG;intro hq F4 hS hp hl hT;have HQ:=hid hq;have DT:=hid F4;clear hq F4;refine (Lw (S:=S) N x (some (Ad b o)) c A' c' w).pf ?_ hS hp hl hT;intro HP HL HT DA AW ia ib ic id w1 A2 HM hB B2 A0;obtain ⟨c0,c1,c2,c3,c4,c5,c6,c7,c8,c9,c10,c11,c12,c13,c14,A3⟩:=HM.out.c;obtain ⟨k,p,hf,hk,hd,E3⟩: ∃(k:Nat) (p:Pm),CF x.ps AE=(k:Int)/\k<x.ps.length/\x.ps.drop k=p::x.ps.drop (k+1)/\x.ps.find? (fun p=>AF p.name AE)=some p:=by
  rcases DO x.ps AE with ⟨_,h⟩|h
  ·rw[HQ.out] at h;cases h
  ·exact h
 rw[hf];obtain rfl:q=p:=by rw[HQ.out] at E3;exact Option.some.inj E3
 have FB:q∈x.ps:=List.mem_of_mem_drop (show q∈x.ps.drop k by rw[hd];simp);obtain ⟨b',o',p',u,hA,H1,E9,d0,d1,F1⟩:=(A0.out.pms (B:=w.heap.size) hS).at_ hk;obtain ⟨rfl,rfl⟩:b=b'/\o=o':=(by simpa using hA);rw[hd] at E9;obtain rfl:q=p':=(by simpa using E9);have H2:s.length<=100000:=by have:=Ls FB (s:=s) (by rw[DT.out];simp);have:=HT.out.ps;omega
 obtain ⟨B,d,rfl⟩:=F1.form;obtain ⟨b2,o2,s',rfl,G1,F2,d2⟩:=F1.at_ (k:=0) (by rw[DT.out];simp);rw[DT.out] at F2;obtain rfl:s=s':=(by simpa using F2);rw[Nat.add_zero] at d2;have H3:0<q.vals.length:=by rw[DT.out];simp
 have H4: ¬(k:Int)<0:=(by omega);clear hA hf E3 hd E9 F1 F2;clear c0 c1 c2 c3 c4 c5 c6 c7 c8 c9 c10 c11 c12 c13 c14 A3;revert HP HL HT DA AW ia ib ic id w1 A2 HM hB B2 A0 k hk FB H1 d0 H2 d b2 o2 d1 G1 d2 H3 H4;exact HG.out
end
section
attribute [local go_sem ↓] zPe zQe
attribute [local go_sem] XR WH XS WI Xm Xp
theorem WK {S:Nat->Prop} (N:Str) (x:It) (A:Option Addr) (c:Nat) (A':Option Addr) (c':Nat) (w:World) (hS:sW S w) (hp:Ah w S (pP A x c) x.ps) (hl:BY w S (lP A' x c') x.val.parts) (hT:Y4 x) (hq:x.ps.find? (fun p=>AF p.name AE)=none) (ht:x.val.type=4):
 Calls prog 45 #[Sv N,Yp x (pP A x c) (lP A' x c')] w (BJ S w (BX N x)):=by
 have HU:=hid (show BX N x=some {x with ps:=noP AA x.ps} by unfold BX;rw[hq,if_pos ht]);have HQ:=hid hq;have t1:(x.val.type==4)=true:=(by simpa using ht);clear hq ht;refine (Lw (S:=S) N x A c A' c' w).pf ?_ hS hp hl hT;intro HP HL HT DA AW ia ib ic id w1 A2 HM hB B2 A0;obtain ⟨c0,c1,c2,c3,c4,c5,c6,c7,c8,c9,c10,c11,c12,c13,c14,A3⟩:=HM.out.c;have hf:CF x.ps AE= -1:=by
  rcases DO x.ps AE with ⟨hf,_⟩|⟨_,_,_,_,_,h⟩
  ·exact hf
  ·rw[HQ.out] at h;cases h
 rw[hf];clear hf;go_wp2_with fail;refine (As (S:=S) x.ps AA (pP A x c) w1 (fun k hk=>by have:=hS k hk;omega) A0.out (by omega) (by decide) (fun p hp=>Nat.le_trans (AW.out p hp) (by omega))).mono ?_;rintro e w2 ⟨v2,L2,rfl,F3,DD⟩;obtain ⟨A5,k5,rfl⟩:=F3.row.form;have H8:=DD.size;have HO:=hid (F3.out (S:=S) (w:=w) (by omega) H8 fun k hk=> .inl hk);have E0:=hid (HM.out.keep DD (by omega));have q2:=E0.out.frozen 2;have k2:=E0.out.c.c2;have H9:=A2.trans (DD.mono (show w.heap.size<=w1.heap.size by omega));obtain ⟨W3,B0⟩: ∃W3,w2.setCell (Ad w.heap.size 2) (.slice A5 L2.length k5)=W3:=⟨_,rfl⟩;have HA:=hid (show Yx W3 w.heap.size {x with ps:=noP AA x.ps} (.slice A5 L2.length k5) (lP A' x c') from B0▸E0.out.setP _ _);have HB:Yt W3 (w.heap.size+1) 15:=B0▸(hB.low DD (by omega)).setCell _ _ (by simp);have HC:Below w.heap.size w W3:=B0▸H9.setCell (p:=(Ad w.heap.size 2)) zL _;have HD:=hid (show∀k,k≠w.heap.size->W3.heap[k]? =w2.heap[k]? from fun k hk=>B0▸heap_setCell_other w2 _ k _ hk);have HE:W3.heap.size=w2.heap.size:=by rw[<-B0];simp[World.setCell]
 clear c0 c1 c2 c3 c4 c5 c6 c7 c8 c9 c10 c11 c12 c13 c14 A3 F3 DD hB HM E0 A0;obtain ⟨g0,g1,g2,g3,g4,g5,g6,g7,g8,g9,HF,HH,HI,HJ,HK,gl⟩:=HA.out.c;simp only at g0 g1 g2 g3 g4 g5 g6 g7 g8 g9 HF HH HI HJ HK;have HN:=hid B0;go_upto_region 4 with fail;(try rw[HN.out]);clear B0 q2 k2;go_wp2
 refine bodyPost_ret (AG (x:={x with ps:=noP AA x.ps}) (pv:= .slice A5 L2.length k5) (qv:=(lP A' x c')) (G:=w.heap.size+1) rfl (by simp) (Yx.row HB rfl)) rfl ?_;have G2:=AC HC (show w.heap.size<=w.heap.size+1 by omega) (Yv {x with ps:=noP AA x.ps} (.slice A5 L2.length k5) (lP A' x c'));exact Aq HU.out (D2 hS HO.out (fun k h1 h2=>(AH _ _ _ h2).trans (HD.out k h1)) (by simp[HE])) (TQ hS HL.out G2) G2
theorem WL {S:Nat->Prop} (N:Str) (x:It) (A:Option Addr) (c:Nat) (A':Option Addr) (c':Nat) (w:World) (hS:sW S w) (hp:Ah w S (pP A x c) x.ps) (hl:BY w S (lP A' x c') x.val.parts) (hT:Y4 x) (hq:x.ps.find? (fun p=>AF p.name AE)=none) (ht:x.val.type≠4):
 Calls prog 45 #[Sv N,Yp x (pP A x c) (lP A' x c')] w (BJ S w (BX N x)):=by
 have HU:=hid (show BX N x=none by unfold BX;rw[hq,if_neg ht]);have HQ:=hid hq;have t1:(x.val.type==4)=false:=(by simpa using ht);clear hq ht;refine (Lw (S:=S) N x A c A' c' w).pf ?_ hS hp hl hT;intro HP HL HT DA AW ia ib ic id w1 A2 HM hB B2 A0;obtain ⟨c0,c1,c2,c3,c4,c5,c6,c7,c8,c9,c10,c11,c12,c13,c14,A3⟩:=HM.out.c;have hf:CF x.ps AE= -1:=by
  rcases DO x.ps AE with ⟨hf,_⟩|⟨_,_,_,_,_,h⟩
  ·exact hf
  ·rw[HQ.out] at h;cases h
 rw[hf];clear hf;go_wp2
 refine bodyPost_ret (AG (x:=x) (pv:=(pP A x c)) (qv:=(lP A' x c')) (G:=w.heap.size+1) rfl (by simp) (Yx.row hB rfl)) rfl ?_;exact Ai HU.out (AC A2 (by omega) _)
end
end Go.Proofs.YtjhpdljphchfaaaGreatDoor
