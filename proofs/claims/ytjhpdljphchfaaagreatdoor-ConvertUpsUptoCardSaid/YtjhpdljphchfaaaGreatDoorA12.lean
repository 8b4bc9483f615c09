/- A part of the proof of ConvertUps: strings.Replacer: what NewReplacer and build make, where each old text is one byte and each new one two bytes. -/
import Derived.Test.YtjhpdljphchfaaaGreatDoorA07
import Derived.Tactics2
import Derived.Defers
import Derived.Laws.Pointers
import Derived.Laws.LoneSync
import Derived.Laws.NewBlocks
import Derived.RegionTactic
import Derived.RegionCalls
import Derived.Laws.MakeOwn
import Derived.Laws.AppendOwn
import Derived.Deep.AppendLies
import Derived.Deep.WholeRow
set_option maxHeartbeats 40000000
set_option maxRecDepth 1000000
set_option linter.all false
namespace Go.Proofs.YtjhpdljphchfaaaGreatDoor
open Go.RowKit
open Go.Proofs.Tryz
theorem MS (w:World):(callFunc 258 #[]).run prog w= .ok (.value (.tuple #[])) w:=run_call_mark0 func258 (by kernel_rfl) (by kernel_rfl) (by kernel_rfl) .disable (by kernel_rfl) w
theorem Oj (w:World):(callFunc 260 #[]).run prog w= .ok (.value (.tuple #[])) w:=run_call_mark0 func260 (by kernel_rfl) (by kernel_rfl) (by kernel_rfl) .enable (by kernel_rfl) w
theorem Q7 (a:Addr) (w:World):(callFunc 261 #[.pointer (some a)]).run prog w= .ok (.value (.tuple #[])) w:=run_call_marked func261 (by kernel_rfl) (by kernel_rfl) (by kernel_rfl) .acquire (by kernel_rfl) a w
theorem Q8 (a:Addr) (w:World):(callFunc 263 #[.pointer (some a)]).run prog w= .ok (.value (.tuple #[])) w:=run_call_marked func263 (by kernel_rfl) (by kernel_rfl) (by kernel_rfl) .releaseMerge (by kernel_rfl) a w
theorem Hl (a:Addr) (x:Value) (u:FrameMode) (w:World) (hc:w.cell? a=some x) (hz:w.frozen? a=false):
 CallsD prog 247 #[.pointer (some a),.bool true] u w fun e u' w'=>u'=u/\(e= .returned (.tuple #[])/\w'=w.drew.setCell a (.int .u32 1)):=by
 have B3:w.drew.cell? a=some x:=(by go_simp);have HC:w.drew.frozen? a=false:=(by go_simp);have HX:=run_call_store (P:=prog) func254 (by kernel_rfl) (by kernel_rfl) (by kernel_rfl) (by kernel_rfl) (k:= .u32) (y:=1) B3 HC
 go_enter_d func247,ntmps247
 go_wp2
 go_region_calls
 all_goals (go_end0;exact ⟨rfl,rfl⟩)
theorem GU (a:Addr) (u:FrameMode) (w:World) (hc:w.cell? a=some (.int .i32 1)) (hz:w.frozen? a=false):
 CallsD prog 246 #[.pointer (some a)] u w fun e u' w'=>u'=u/\(e= .returned (.tuple #[])/\w'=w.setCell a (.int .i32 0)):=by
 have hd:=MS;have he:=Oj;have hr:=Q8;have AW:=run_call_add (P:=prog) func264 (by kernel_rfl) (by kernel_rfl) (by kernel_rfl) .i32 (by kernel_rfl) (y:= -1) (s:=0) hc hz (by simp[go_sem];rfl);have HF:=run_convert_to_unsafe (P:=prog) (src:=352) (dst:=185) underlying352 underlying185 (by kernel_rfl) hc
 go_enter_d func246,ntmps246
 go_wp2
 go_end0
 go_wp2
 go_end0
 exact ⟨rfl,rfl⟩
theorem Ok (a:Addr) (w:World) (hc:w.cell? a=some (.int .i32 0)) (hz:w.frozen? a=false):
 Calls prog 245 #[.pointer (some a)] w fun e w'=>e= .returned (.tuple #[])/\w'=w.setCell a (.int .i32 1):=by
 have hd:=MS;have he:=Oj;have ha:=Q7;have HV:=run_call_cas_hit (P:=prog) func259 (by kernel_rfl) (by kernel_rfl) (by kernel_rfl) .i32 (by kernel_rfl) (y:=1) hc hz;have B3:(w.setCell a (.int .i32 1)).cell? a=some (.int .i32 1):=World.cell?_setCell_same w a _ hc;have HF:=run_convert_to_unsafe (P:=prog) (src:=352) (dst:=185) underlying352 underlying185 (by kernel_rfl) B3;go_enter func245,ntmps245;go_wp2
 first|go_end0|(simp only[Exit.inBlock,Exit.then];refine bodyPost_ret (results_none rfl _ _ _) rfl ?_)|refine bodyPost_ret (results_none rfl _ _ _) rfl ?_
 go_wp2
 go_end0
 exact ⟨rfl,rfl⟩
abbrev Pr:=UInt8×UInt8×UInt8
def YR (P:List Pr):List Str:=P.flatMap fun p=>[[p.1],[p.2.1,p.2.2]]
def YS (P:List Pr) (c:UInt8):Option Str:=(P.find? fun p=>p.1==c).map fun p=>[p.2.1,p.2.2]
theorem LW (P:List Pr):(YR P).length=2*P.length:=by
 induction P with
 |nil=>rfl
 |cons p r ih=>simp only[YR,List.flatMap_cons,List.length_append,List.length_cons,List.length_nil] at ih⊢;omega
theorem MT: ∀(P:List Pr) (k:Nat) (p:Pr),P[k]? =some p->(YR P)[2*k]? =some [p.1]
 |[],k,p,h=>by simp at h
 |q::r,0,p,h=>by have:q=p:=(by simpa using h);subst this;rfl
 |q::r,k+1,p,h=>by have ih:=MT r k p (by simpa using h);rw[show 2*(k+1)=2*k+1+1 by omega];simpa[YR] using ih
theorem Ol: ∀(P:List Pr) (k:Nat) (p:Pr),P[k]? =some p->(YR P)[2*k+1]? =some [p.2.1,p.2.2]
 |[],k,p,h=>by simp at h
 |q::r,0,p,h=>by have:q=p:=(by simpa using h);subst this;rfl
 |q::r,k+1,p,h=>by have ih:=Ol r k p (by simpa using h);rw[show 2*(k+1)+1=2*k+1+1+1 by omega];simpa[YR] using ih
def Q9 (w:World) (B:Nat) (v:Value):Option Str->Prop
 |none=>v= .slice none 0 0
 |some n=> ∃g cap,v= .slice (some (Ad g 0)) n.length cap/\n.length<=cap/\B<=g/\g<w.heap.size/\ ∀j (h:j<n.length),w.cell? (Ad g j)=some (.int .u8 (n[j].toNat:Int))
def VN (w:World) (B:Nat) (v:Value) (t:Str):Prop:=
 ∃g cap,v= .slice (some (Ad g 0)) t.length cap/\B<=g/\g<w.heap.size/\ ∀j (h:j<t.length),w.cell? (Ad g j)=some (.string ⟨#[t[j]]⟩)
structure YT (w:World) (B R:Nat) (f:UInt8->Option Str) (t:Str):Prop where
 le:B<=R
 lt:R<w.heap.size
 tab: ∀c:UInt8,∃v,w.cell? (Ad R c.toNat)=some v/\Q9 w B v (f c)
 lst: ∃v,w.cell? (Ad R 256)=some v/\VN w B v t
theorem Q9.keep {w w':World} {B:Nat} {v:Value} {o:Option Str} (h:Q9 w B v o) (hk: ∀p:Addr,B<=p.block->p.block<w.heap.size->w'.cell? p=w.cell? p) (hs:w.heap.size<=w'.heap.size):Q9 w' B v o:=by
 cases o with
 |none=>exact h
 |some n=>
  obtain ⟨g,cap,e,hc,h1,h2,h3⟩:=h;exact ⟨g,cap,e,hc,h1,Nat.lt_of_lt_of_le h2 hs,fun j hj=>(hk (Ad g j) h1 h2).trans (h3 j hj)⟩
theorem VN.keep {w w':World} {B:Nat} {v:Value} {t:Str} (h:VN w B v t) (hk: ∀p:Addr,B<=p.block->p.block<w.heap.size->w'.cell? p=w.cell? p) (hs:w.heap.size<=w'.heap.size):VN w' B v t:=by obtain ⟨g,cap,e,h1,h2,h3⟩:=h;exact ⟨g,cap,e,h1,Nat.lt_of_lt_of_le h2 hs,fun j hj=>(hk (Ad g j) h1 h2).trans (h3 j hj)⟩
theorem YT.keep {w w':World} {B R:Nat} {f:UInt8->Option Str} {t:Str} (h:YT w B R f t) (hk: ∀p:Addr,B<=p.block->p.block<w.heap.size->w'.cell? p=w.cell? p) (hs:w.heap.size<=w'.heap.size):YT w' B R f t:=by
 refine ⟨h.le,Nat.lt_of_lt_of_le h.lt hs,fun c=> ?_, ?_⟩
 ·obtain ⟨v,h1,h2⟩:=h.tab c;exact ⟨v,(hk _ h.le h.lt).trans h1,h2.keep hk hs⟩
 ·obtain ⟨v,h1,h2⟩:=h.lst;exact ⟨v,(hk _ h.le h.lt).trans h1,h2.keep hk hs⟩
theorem YT.below {w w':World} {B R:Nat} {f:UInt8->Option Str} {t:Str} (h:YT w B R f t) (hb:Below w.heap.size w w'):YT w' B R f t:=h.keep (fun _ _ hp=>hb.cell hp) hb.size
theorem YT.low {w:World} {B R:Nat} {f:UInt8->Option Str} {t:Str} (h:YT w B R f t) {a:Addr} (ha:a.block<B) (u:Value):YT (w.setCell a u) B R f t:=
 h.keep (fun p hp _=>World.cell?_setCell_other _ _ _ _ (fun e=>by subst e;omega)) (by simp[World.setCell])
structure YU (w:World) (b:Nat) (d m:Int) (r q:Value):Prop where
 lt:b<w.heap.size
 c0:w.cell? (Ad b 0)=some (.int .u32 d)
 c1:w.cell? (Ad b 1)=some (.int .i32 m)
 c3:w.cell? (Ad b 3)=some r
 c4:w.cell? (Ad b 4)=some q
 f: ∀j,w.frozen? (Ad b j)=false
theorem YU.keep {w w':World} {B b:Nat} {d m:Int} {r q:Value} (h:YU w b d m r q) (hb:Below B w w') (hB:b<B):YU w' b d m r q:=
 ⟨Nat.lt_of_lt_of_le h.lt hb.size,(hb.cell (p:=(Ad b 0)) hB).trans h.c0,(hb.cell (p:=(Ad b 1)) hB).trans h.c1,(hb.cell (p:=(Ad b 3)) hB).trans h.c3,(hb.cell (p:=(Ad b 4)) hB).trans h.c4,fun j=>(hb.frozen (p:=(Ad b j)) hB).trans (h.f j)⟩
theorem BK {w:World} {b i j:Nat} {u:Value} (h:i≠j):(w.setCell (Ad b i) u).cell? (Ad b j)=w.cell? (Ad b j):=World.cell?_setCell_other _ _ _ _ (by simp[h])
theorem YU.set0 {w:World} {b:Nat} {d m:Int} {r q:Value} (h:YU w b d m r q) (x:Int):YU (w.setCell (Ad b 0) (.int .u32 x)) b x m r q:=
 ⟨by simpa[World.setCell] using h.lt,World.cell?_setCell_same _ _ _ h.c0,(BK (by omega)).trans h.c1,(BK (by omega)).trans h.c3,(BK (by omega)).trans h.c4,fun j=>by rw[World.frozen?_setCell];exact h.f j⟩
theorem YU.set1 {w:World} {b:Nat} {d m:Int} {r q:Value} (h:YU w b d m r q) (x:Int):YU (w.setCell (Ad b 1) (.int .i32 x)) b d x r q:=
 ⟨by simpa[World.setCell] using h.lt,(BK (by omega)).trans h.c0,World.cell?_setCell_same _ _ _ h.c1,(BK (by omega)).trans h.c3,(BK (by omega)).trans h.c4,fun j=>by rw[World.frozen?_setCell];exact h.f j⟩
theorem YU.set3 {w:World} {b:Nat} {d m:Int} {r q:Value} (h:YU w b d m r q) (x:Value):YU (w.setCell (Ad b 3) x) b d m x q:=
 ⟨by simpa[World.setCell] using h.lt,(BK (by omega)).trans h.c0,(BK (by omega)).trans h.c1,World.cell?_setCell_same _ _ _ h.c3,(BK (by omega)).trans h.c4,fun j=>by rw[World.frozen?_setCell];exact h.f j⟩
theorem YU.set4 {w:World} {b:Nat} {d m:Int} {r q:Value} (h:YU w b d m r q) (x:Value):YU (w.setCell (Ad b 4) x) b d m r x:=
 ⟨by simpa[World.setCell] using h.lt,(BK (by omega)).trans h.c0,(BK (by omega)).trans h.c1,(BK (by omega)).trans h.c3,World.cell?_setCell_same _ _ _ h.c4,fun j=>by rw[World.frozen?_setCell];exact h.f j⟩
theorem YU.drew {w:World} {b:Nat} {d m:Int} {r q:Value} (h:YU w b d m r q):YU w.drew b d m r q:=⟨h.lt,h.c0,h.c1,h.c3,h.c4,h.f⟩
theorem Fm:(prog.info? 9).map (fun i=>(i.zero,i.size,i.bytes))=some (some (.string ⟨#[]⟩),1,16):=by kernel_rfl
theorem CD.idx {w:World} {B:Nat} {A:Option Addr} {c:Nat} {l:List Str} (h:CD w B (.slice A l.length c) l) {k:Nat} {s:Str} (hk:l[k]? =some s):
 ∃b o,A=some (Ad b o)/\b<B/\w.cell? (Ad b (o+k))=some (Sv s):=by
 obtain ⟨F3,e⟩:=List.getElem?_eq_some_iff.1 hk;obtain ⟨b,o,s1,hA,hb,hd,hc⟩:=h.at_ F3;have:s1=s:=(by rw[List.drop_eq_getElem_cons F3] at hd;injection hd with h1 _;rw[<-h1,e]);subst this;exact ⟨b,o,hA,hb,hc⟩
theorem Sm (c:UInt8) (w:World):(convert 113 9 (.slice (some (Ad w.heap.size 0)) 1 1)).run prog (w.alloc (.cells #[.int .u8 c.toNat] 5))= .ok (.string ⟨[c].toArray⟩) (w.alloc (.cells #[.int .u8 c.toNat] 5)):=by have h:Buf (w.alloc (.cells #[.int .u8 c.toNat] 5)) w.heap.size [c]:=⟨by simp,fun j hj=>by have:j=0:=(by simp at hj;omega);subst this;simp,fun j hj=>by simp[World.frozen?,World.alloc, -World.alloc_eq]⟩;exact h.text 1 113 underlying113
structure BL (W:World) (S R n:Nat) (P:List Pr) (j:Nat):Prop where
 own:W.ownsRow S 9 1 (.slice (some (Ad S 0)) (n- j) n) (n- j) ((P.drop j).reverse.map fun p=> .string ⟨#[p.1]⟩)
 lst:W.cell? (Ad R 256)=some (.slice (some (Ad S 0)) (n- j) n)
 tab: ∀c:UInt8,∃v,W.cell? (Ad R c.toNat)=some v/\Q9 W (R+1) v (YS (P.drop j) c)
 fr: ∀i,W.frozen? (Ad R i)=false
 lt:R<W.heap.size
theorem F0 (p:Pr) (P:List Pr) (c:UInt8):YS (p::P) c=if p.1=c then some [p.2.1,p.2.2] else YS P c:=by
 unfold YS;rw[List.find?_cons];by_cases h:p.1=c
 ·simp[h]
 ·have:(p.1==c)=false:=(by simpa using h);simp[h,this]
theorem Q9.more {w:World} {B B':Nat} {v:Value} {o:Option Str} (h:Q9 w B v o) (hB:B'<=B):Q9 w B' v o:=by
 cases o with
 |none=>exact h
 |some n=>
  obtain ⟨g,cap,e,hc,h1,h2,h3⟩:=h;exact ⟨g,cap,e,hc,by omega,h2,h3⟩
theorem BL.done {W:World} {S n:Nat} {P:List Pr} (h:BL W S (S+1) n P 0) (hn:n=P.length):YT W S (S+1) (YS P) (P.reverse.map (·.1)):=by
 have hl:=h.lst;have ho:=h.own;rw[Nat.sub_zero,List.drop_zero] at ho;rw[Nat.sub_zero] at hl;refine ⟨by omega,h.lt,fun c=> ?_,⟨_,hl, ?_⟩⟩
 ·obtain ⟨v,h1,h2⟩:=h.tab c;rw[List.drop_zero] at h2;exact ⟨v,h1,h2.more (by omega)⟩
 ·have HG:(P.reverse.map (·.1)).length=n:=(by simp[hn]);refine ⟨S,n,by rw[HG],Nat.le_refl _,by have:=h.lt;omega,fun j hj=> ?_⟩;have:=ho.cells (g:=S) rfl j (.string ⟨#[(P.reverse.map (·.1))[j]]⟩) (by
   rw[List.getElem?_map];have A8:j<P.reverse.length:=(by simpa using hj);rw[List.getElem?_eq_getElem A8];simp)
  have AW:((Ad S 0):Addr).add j=(Ad S j):=(by unfold Addr.add;split<;>simp_all);rw[AW] at this;exact this
theorem BL.step {W W1 W3:World} {S R n j cap g:Nat} {P:List Pr} {p:Pr} (HY:S<R) (hj:j<n) (hn:n=P.length) (hp:P[j]? =some p) (h:BL W S R n P (j+1))
 (h1:W1.ownsRow S 9 1 (.slice (some (Ad S 0)) (n-(j+1)+1) n) (n-(j+1)+1) (((P.drop (j+1)).reverse.map fun p=> .string ⟨#[p.1]⟩)++[.string ⟨#[p.1]⟩]))
 (hk: ∀a:Addr,a.block≠S->a.block<W.heap.size->W1.cell? a=W.cell? a) (hf: ∀a:Addr,a.block≠S->a.block<W.heap.size->W1.frozen? a=W.frozen? a) (hs:W.heap.size<=W1.heap.size)
 (hb:Below W1.heap.size (W1.setCell (Ad R 256) (.slice (some (Ad S 0)) (n-(j+1)+1) n)) W3) (hg:g=W1.heap.size) (hB:Buf W3 g [p.2.1,p.2.2]) (F4:2<=cap):
 BL (W3.setCell (Ad R p.1.toNat) (.slice (some (Ad g 0)) 2 cap)) S R n P j:=by
 have A0:=h.lt;have A8:n- j=n-(j+1)+1:=(by omega);have A5:P.drop j=p::P.drop (j+1):=(by obtain ⟨hl,e⟩:=List.getElem?_eq_some_iff.1 hp;rw[List.drop_eq_getElem_cons hl,e]);have HH:S<W1.heap.size:=(by omega);have B0:R<W1.heap.size:=(by omega);have k1: ∀a:Addr,a.block≠S->a.block<W.heap.size->a≠(Ad R 256)->W3.cell? a=W.cell? a:=fun a ha hl A9=>(by rw[hb.cell (p:=a) (by omega),World.cell?_setCell_other _ _ _ _ (Ne.symm A9),hk a ha hl]);have k0:W3.cell? (Ad R 256)=some (.slice (some (Ad S 0)) (n-(j+1)+1) n):=(by rw[hb.cell (p:=(Ad R 256)) B0];exact World.cell?_setCell_same _ _ _ ((hk (Ad R 256) (by show R≠S;omega) A0).trans h.lst));have FB:W1.heap.size<=W3.heap.size:=(by simpa[World.setCell] using hb.size);refine ⟨?_, ?_, ?_, ?_, ?_⟩
 ·have h2:(W1.setCell (Ad R 256) (.slice (some (Ad S 0)) (n-(j+1)+1) n)).heap[S]? =W1.heap[S]? :=Below.heap_setCell _ _ _ _ (show S≠R by omega);have h3:W3.heap[S]? =W1.heap[S]? :=(hb.block S HH).trans h2;have h4:(W3.setCell (Ad R p.1.toNat) (.slice (some (Ad g 0)) 2 cap)).heap[S]? =W1.heap[S]? :=(Below.heap_setCell _ _ _ _ (show S≠R by omega)).trans h3;rw[A8,A5,List.reverse_cons,List.map_append];refine ⟨h1.1, ?_⟩;rcases h1.2 with ⟨h5,_⟩|⟨g',cap',cur,e1,e2,e3,e4,e5,e6,e7⟩
  ·cases h5
  ·simp only[Value.slice.injEq,Option.some.injEq,Addr.mk.injEq] at e1;obtain ⟨⟨rfl,_,_⟩,_,rfl⟩:=e1;exact .inr ⟨S,n,cur,rfl,e2,h4.trans e3,e4,e5,e6,e7⟩
 ·rw[A8,World.cell?_setCell_other _ _ _ _ (by have:=p.1.toNat_lt;simp<;>omega)];exact k0
 ·intro c;rw[A5,F0];by_cases hc:p.1=c
  ·subst hc;obtain ⟨v,hv,_⟩:=h.tab p.1;have G1:W3.cell? (Ad R p.1.toNat)=some v:=(k1 (Ad R p.1.toNat) (by show R≠S;omega) A0 (by have:=p.1.toNat_lt;simp<;>omega)).trans hv;refine ⟨_,World.cell?_setCell_same _ _ _ G1, ?_⟩;rw[if_pos rfl];refine ⟨g,cap,rfl,F4,by omega,by have:=hB.lt;simpa[World.setCell] using this,fun i hi=> ?_⟩;rw[World.cell?_setCell_other _ _ _ _ (by simp<;>omega)];exact hB.cell i hi
  ·obtain ⟨v,hv,hr⟩:=h.tab c;have A9:p.1.toNat≠c.toNat:=fun e=>hc (UInt8.toNat.inj e);refine ⟨v, ?_, ?_⟩
   ·rw[BK A9];exact (k1 (Ad R c.toNat) (by show R≠S;omega) A0 (by have:=c.toNat_lt;simp<;>omega)).trans hv
   ·rw[if_neg hc];refine hr.keep (fun a ha hl=> ?_) (by simp[World.setCell] at FB⊢;omega);rw[World.cell?_setCell_other _ _ _ _ (fun e=>by rw[<-e] at ha;exact absurd ha (Nat.not_succ_le_self R))];exact k1 a (by omega) hl (fun e=>by rw[e] at ha;exact absurd ha (Nat.not_succ_le_self R))
 ·intro i;rw[World.frozen?_setCell,hb.frozen (p:=(Ad R i)) B0,World.frozen?_setCell,hf (Ad R i) (by show R≠S;omega) A0];exact h.fr i
 ·simp only[World.setCell];simp;omega
theorem NO (P:List Pr) (b:Nat) (d m:Int) (r:Value) (A:Option Addr) (c:Nat) (w:World) (hP:2<=P.length) (HJ:P.length<=100) (hD: ∀k p,P[k]? =some p->YS (P.drop (k+1)) p.1=none) (hR:YU w b d m r (.slice A (YR P).length c)) (hS:CD w w.heap.size (.slice A (YR P).length c) (YR P)):
 Calls prog 232 #[.pointer (some (Ad b 0))] w fun e w'=>(∃R,e= .returned (.iface 330 (.pointer (some (Ad R 0))))/\YT w' w.heap.size R (YS P) (P.reverse.map (·.1)))/\Below w.heap.size w w':=by
 have c4:=hR.c4;have HD:=hid hD;clear hD;have HL:=hid (LW P);have HE:=hid (MT P);have HO:=hid (Ol P);obtain ⟨l,hl⟩: ∃l,l=YR P:=⟨_,rfl⟩;rw[LW] at c4;rw[<-hl] at HL HE HO hS;clear hl;obtain ⟨n,hn⟩: ∃n,n=P.length:=⟨_,rfl⟩;rw[<-hn] at hP HJ c4 HL;have HN:=hid hn;have HS:=hid hS;clear hn hS hR;have A9:(2*(n:Int)==2)=false:=(by simp;omega);go_enter func232,ntmps232;go_wp2
 go_loop [4,5] (fun s4 s5=> ∃k:Nat,k<=n/\s4= .bool (k==0)/\s5=Iv (2*k:Int)) (fun _ i=>2*n-(intOf i).toNat)
 case atStart=>exact ⟨0,by omega,rfl,rfl⟩
 case round=>
  obtain ⟨k,hk,rfl,rfl⟩:=hrel;by_cases HK:k<n
  ·obtain ⟨p,hp⟩: ∃p,P[k]? =some p:=⟨_,List.getElem?_eq_getElem (by rw[<-HN.out];exact HK)⟩;obtain ⟨bb,o,rfl,DA,DD⟩:=HS.out.idx (HE.out k p hp);obtain ⟨b2,o2,A6,_,AB⟩:=HS.out.idx (HO.out k p hp);obtain ⟨rfl,rfl⟩:bb=b2/\o=o2:=(by simpa using A6);clear hp A6;have HM:w.cell? ⟨bb,o+(2*k+1),none⟩=some (.string ⟨#[p.2.1,p.2.2]⟩):=AB;go_wp2
   go_round
   case rel=>exact ⟨k+1,by omega,by simp,by go_num⟩
   case measure=>simp[intOf];omega
  ·obtain rfl:k=n:=(by omega);have I0:(k==0)=false:=(by simp;omega);have I1:2*(k:Int)/2=k:=(by omega);obtain ⟨i0,hi,DT,E0,E1⟩:=info_parts Fm;have HQ: ∀W:World,(Instr.makeSlice 55 (Iv 0) (Iv (k:Int))).run prog W= .ok (.slice (some (Ad W.heap.size 0)) 0 k) (W.alloc (.cells (madeCells #[.string ⟨#[]⟩] k) 9)):=fun W=>by
    have:=run_make (P:=prog) W 55 9 i0 (.string ⟨#[]⟩) underlying55 hi DT .i64 .i64 0 k (by omega) (by omega) (by rw[E1];omega) (by omega);rw[E0] at this;simpa[Value.cells] using this
   have HI:=hid hi;have HZ:=hid DT;have HR:=hid E0;have I2:=hid E1;clear hi DT E0 E1;have E2:zeroCells329=Array.replicate 257 (.slice none 0 0):=(by kernel_rfl);have G2:=run_storeCells_new (P:=prog) (w.alloc (.cells (madeCells #[.string ⟨#[]⟩] k) 9)) 329 zeroCells329 (zeroCells329.setIfInBounds 256 (.slice (some (Ad w.heap.size 0)) 0 k)) (by kernel_rfl) (by simp) (by rw[E2];kernel_rfl);have E3:=hid E2;clear E2;simp only[Array.toList_setIfInBounds,World.size_alloc] at G2;go_wp2_with fail;have G4:BL ((w.alloc (.cells (madeCells #[.string ⟨#[]⟩] k) 9)).alloc (.cells (zeroCells329.setIfInBounds 256 (.slice (some (Ad w.heap.size 0)) 0 k)) 329)) w.heap.size (w.heap.size+1) k P k:=by
    have hz: ∀i,i<256->(zeroCells329.setIfInBounds 256 (.slice (some (Ad w.heap.size 0)) 0 k))[i]? =some (.slice none 0 0):=fun i hi=>(by rw[E3.out,Array.getElem?_setIfInBounds];simp[show¬256=i by omega,show i<257 by omega]);have H0:P.drop k=[]:=List.drop_eq_nil_of_le (by rw[HN.out];exact Nat.le_refl _);refine ⟨?_, ?_,fun c=>⟨.slice none 0 0, ?_, ?_⟩,fun i=> ?_,by simp⟩
    ·rw[H0,Nat.sub_self];refine ⟨rfl,.inr ⟨w.heap.size,k,madeCells #[.string ⟨#[]⟩] k,rfl,Nat.le_refl _, ?_,by omega,by unfold maxLen;omega,by simp[size_madeCells],by simp⟩⟩;exact (Below.heap_alloc _ _ _ (by simp)).trans (heap_alloc_last w _)
    ·rw[Nat.sub_self,E3.out];simp
    ·have:=hz c.toNat c.toNat_lt;simpa using this
    ·rw[H0];rfl
    ·have h:=heap_alloc_last (w.alloc (.cells (madeCells #[.string ⟨#[]⟩] k) 9)) (.cells (zeroCells329.setIfInBounds 256 (.slice (some (Ad w.heap.size 0)) 0 k)) 329);rw[World.size_alloc] at h;unfold World.frozen?;rw[h];simp
   have H1:Below w.heap.size w ((w.alloc (.cells (madeCells #[.string ⟨#[]⟩] k) 9)).alloc (.cells (zeroCells329.setIfInBounds 256 (.slice (some (Ad w.heap.size 0)) 0 k)) 329)):=zA.alloc (by simp) _;go_loopw [12,13,14] (fun E9 _ _ wr=> ∃j:Nat,j<=k/\E9=Iv (2*(j:Int) - 2)/\BL wr w.heap.size (w.heap.size+1) k P j/\Below w.heap.size w wr) (fun E9 _ _ _=>(intOf E9+2).toNat);case atStart=>exact ⟨k,Nat.le_refl _,rfl,G4,H1⟩
   case round=>
    clear G4 H1 E3 G2 HQ;obtain ⟨j,hj,rfl,A1,hb⟩:=hrel;have A2:=hid A1;cases j with
    |zero=>
     clear A1;go_wp2
     go_ret;refine ⟨⟨_,rfl,A2.out.done HN.out⟩,hb⟩
    |succ j=>
     have H2:j<k:=(by omega);obtain ⟨p,hp⟩: ∃p,P[j]? =some p:=⟨_,List.getElem?_eq_getElem (by rw[<-HN.out];exact H2)⟩;have HP:=hid hp;have H3:=HD.out j p hp;obtain ⟨bb,o,rfl,DA,DD⟩:=HS.out.idx (HE.out j p hp);obtain ⟨b2,o2,A6,_,AB⟩:=HS.out.idx (HO.out j p hp);obtain ⟨rfl,rfl⟩:bb=b2/\o=o2:=(by simpa using A6);obtain ⟨v,hv,H4⟩:=A1.tab p.1;rw[H3] at H4;obtain rfl:v= .slice none 0 0:=H4;have I3:=A1.lst;have HM:wr.cell? (Ad bb (o+2*j))=some (.string ⟨#[p.1]⟩):=(hb.cell (p:=(Ad bb (o+2*j))) DA).trans DD;have I4:wr.cell? ⟨bb,o+(2*j+1),none⟩=some (.string ⟨#[p.2.1,p.2.2]⟩):=(hb.cell (p:=⟨bb,o+(2*j+1),none⟩) DA).trans AB;have I5: ∀h,(⟨#[p.1]⟩:ByteArray)[0]'h=p.1:=fun _=>rfl;have B1:=A1.own;have I6:=Sm p.1 wr;have IB:p.1.toNat<256:=p.1.toNat_lt;have KI: ∀W:World,(binOp .eql 113 (.slice none 0 0) (.slice none 0 0)).run prog W= .ok (.bool true) W:=fun W=>(by kernel_rfl);rw[show 2*((j+1:Nat):Int) - 2=2*(j:Int) by omega];clear hp A6 DD AB H3 c4 A1;have H8: ∀i u,[Value.string ⟨#[p.1]⟩][i]? =some u->((wr.alloc (.cells #[.int .u8 p.1.toNat] 5)).alloc (.cells #[.string ⟨#[p.1]⟩] 9)).cell? (((Ad (wr.heap.size+1) 0):Addr).add i)=some u:=fun i u hu=>(by obtain rfl:i=0:=(by have:=(List.getElem?_eq_some_iff.1 hu).1;simp at this;omega);have:Value.string ⟨#[p.1]⟩=u:=(by simpa using hu);subst this;simp[Addr.add]);go_wp2_with (at_builtin;refine wpList_append_fits _ rfl _ _ 55 rfl w.heap.size 9 i0 1 underlying55 HI.out HR.out w.heap.size (k-(j+1)) k _ rfl ((B1.alloc _).alloc _) (Ad (wr.heap.size+1) 0) 1 1 [.string ⟨#[p.1]⟩] rfl rfl H8 (by simp[Value.oneCell']) (by omega) ?_;intro W1 A7 A3;refine Hid.out ?_);refine Lib.hid ?_;have AL: ∀q:Nat,q≠w.heap.size->q<wr.heap.size->W1.heap[q]? =wr.heap[q]? :=fun q h1 h2=>
      (A3.block q (by simp;omega) (by simpa using h1)).trans ((Below.heap_alloc _ _ _ (by simp;omega)).trans (Below.heap_alloc _ _ _ h2))
     have AN: ∀a:Addr,a.block≠w.heap.size->a.block<wr.heap.size->W1.cell? a=wr.cell? a:=fun a h1 h2=>World.cell?_of_block (AL _ h1 h2);have AV: ∀a:Addr,a.block≠w.heap.size->a.block<wr.heap.size->W1.frozen? a=wr.frozen? a:=fun a h1 h2=>World.frozen?_of_block (AL _ h1 h2);have A0:=A2.out.lt;have HW:wr.heap.size+2<=W1.heap.size:=(by have:=A3.size;simpa using this);have L1:W1.cell? (Ad (w.heap.size+1) 256)=some (.slice (some (Ad w.heap.size 0)) (k-(j+1)) k):=(AN (Ad (w.heap.size+1) 256) (by show w.heap.size+1≠_;omega) A0).trans A2.out.lst;have L2:W1.frozen? (Ad (w.heap.size+1) 256)=false:=(AV (Ad (w.heap.size+1) 256) (by show w.heap.size+1≠_;omega) A0).trans (A2.out.fr _);obtain ⟨W3,cap3,H9,F1,F2,A4,HT⟩:=BU [p.2.1,p.2.2] (W1.setCell (Ad (w.heap.size+1) 256) (.slice (some (Ad w.heap.size 0)) (k-(j+1)+1) k));have B2:(W1.setCell (Ad (w.heap.size+1) 256) (.slice (some (Ad w.heap.size 0)) (k-(j+1)+1) k)).heap.size=W1.heap.size:=(by simp[World.setCell]);rw[B2] at H9 F2 A4;have G1:W3.cell? (Ad (w.heap.size+1) p.1.toNat)=some (.slice none 0 0):=(by rw[A4.cell (p:=(Ad (w.heap.size+1) p.1.toNat)) (show w.heap.size+1<W1.heap.size by omega),BK (by omega),AN (Ad (w.heap.size+1) p.1.toNat) (by show w.heap.size+1≠_;omega) A0];exact hv);have L4:W3.frozen? (Ad (w.heap.size+1) p.1.toNat)=false:=(by rw[A4.frozen (p:=(Ad (w.heap.size+1) p.1.toNat)) (show w.heap.size+1<W1.heap.size by omega),World.frozen?_setCell,AV (Ad (w.heap.size+1) p.1.toNat) (by show w.heap.size+1≠_;omega) A0];exact A2.out.fr _);have HU:=hid (A2.out.step (by omega) H2 HN.out HP.out A7 AN AV (by omega) A4 rfl F2 F1);have HA:Below w.heap.size w W1:=⟨A3.os.trans hb.os,A3.tape.trans hb.tape,A3.output.trans hb.output,by have:=hb.size;omega,fun q hq=>(AL q (by omega) (by have:=hb.size;omega)).trans (hb.block q hq)⟩;have HB:Below w.heap.size w W3:=(HA.setCell (p:=(Ad (w.heap.size+1) 256)) (by show w.heap.size<=w.heap.size+1;omega) _).trans (A4.mono (by omega));clear AL AN AV A7 A3 F2 A4 HA B1 H8 B2 HT;go_wp2;go_roundw;case rel=>exact ⟨j,by omega,by go_num,HU.out,HB.setCell (p:=(Ad (w.heap.size+1) p.1.toNat)) (by show w.heap.size<=w.heap.size+1;omega) _⟩
     case measure=>simp[intOf];omega
end Go.Proofs.YtjhpdljphchfaaaGreatDoor
