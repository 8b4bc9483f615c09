/- A part of the proof of ConvertUps: with and without of package convert walked. -/
import Derived.Test.YtjhpdljphchfaaaGreatDoorA27
import Derived.Test.YtjhpdljphchfaaaGreatDoorA29
import Derived.Test.YtjhpdljphchfaaaGreatDoorA06
import Derived.Test.YtjhpdljphchfaaaGreatDoorA32
import Derived.Test.YtjhpdljphchfaaaGreatDoorA31
set_option maxHeartbeats 40000000
set_option maxRecDepth 1000000
set_option linter.all false
namespace Go.Proofs.YtjhpdljphchfaaaGreatDoor
open Go.RowKit
open Go.Proofs.Tryz
theorem World.ownsRow.mono_base {w:World} {base base':Nat} {E:TypeId} {size n:Nat} {v:Value} {xs:List Value} (h:w.ownsRow base E size v n xs) (hb:base'<=base):w.ownsRow base' E size v n xs:=by
 refine ⟨h.1, ?_⟩;rcases h.2 with h0|⟨g,cap,cur,e1,e2,e3⟩
 ·exact .inl h0
 ·exact .inr ⟨g,cap,cur,e1,Nat.le_trans hb e2,e3⟩
theorem BN.base {w:World} {base base':Nat} {E:TypeId} {size n:Nat} {v:Value} {xs:List (List Value)} (h:BN w base E size v n xs) (hb:base'<=base):BN w base' E size v n xs:=
 ⟨World.ownsRow.mono_base h.row hb,h.each,h.len⟩
structure Yr (w:World) (base:Nat) (S:Nat->Prop) (v:Value) (ps:List Pm) (L:List (Pm×Value)):Prop where
 row:BN w base 57 2 v L.length (L.map Ya)
 eq:L.map (·.1)=ps
 strs: ∀q∈L,Bj w S q.2 q.1.vals
theorem Yr.low {w w':World} {base:Nat} {S:Nat->Prop} {v:Value} {ps:List Pm} {L:List (Pm×Value)} (h:Yr w base S v ps L) (hb:Below w.heap.size w w') (hS:sW S w):Yr w' base S v ps L:=
 ⟨h.row.low hb,h.eq,fun q hq=>(h.strs q hq).move (fun k hk=>hb.block k (hS k hk)) fun _ h=>h⟩
theorem Yr.x {w:World} {base:Nat} {S S':Nat->Prop} {v:Value} {ps:List Pm} {L:List (Pm×Value)} (h:Yr w base S v ps L) (h1: ∀k,S k->S' k) (h2: ∀k,base<=k->k<w.heap.size->S' k):Ah w S' v ps:=by
 have hl:=h.row.len;rw[<-h.eq];refine ⟨fun i=>(L.getD i (default,undef)).2, ?_,fun i hi=> ?_⟩
 ·rw[List.length_map];refine (h.row.slX.grow fun k hk=>h2 k hk.1 hk.2).congr fun i hi j hj=> ?_;rw[Aw Ya L i (default,undef) [] hi,Aw (·.1) L i (default,undef) default hi];rcases (show j=0∨j=1 by omega) with rfl|rfl<;>rfl
 ·rw[List.length_map] at hi;rw[Aw (·.1) L i (default,undef) default hi];exact (h.strs _ (C5 L i _ hi)).more h1
theorem Yr.len {w:World} {base:Nat} {S:Nat->Prop} {v:Value} {ps:List Pm} {L:List (Pm×Value)} (h:Yr w base S v ps L):L.length=ps.length:=by rw[<-h.eq,List.length_map]
theorem Yr.base_ {w:World} {base base':Nat} {S:Nat->Prop} {v:Value} {ps:List Pm} {L:List (Pm×Value)} (h:Yr w base S v ps L) (hb:base'<=base):Yr w base' S v ps L:=⟨h.row.base hb,h.eq,h.strs⟩
theorem Mz {S:Nat->Prop} (ps:List Pm) (v:Value) (w:World) (hS:sW S w) (h:Ah w S v ps) (hn:ps.length<=1073741824):
 Calls prog 86 #[v] w fun e w'=> ∃(v':Value) (L:List (Pm×Value)),e= .returned v'/\Yr w' w.heap.size S v' ps L/\Below w.heap.size w w':=by
 refine (Uj ps v w hS h hn).mono ?_;rintro e w' ⟨v',L,rfl,he,hO,hs,hb⟩;have hl:L.length=ps.length:=(by rw[<-he,List.length_map]);exact ⟨v',L,rfl,⟨by rw[hl];exact hO,he,hs⟩,hb⟩
theorem WD (p N:Str) (B:Option Addr) (m d nb:Nat) (w:World) (hp:p.length<=1073741824) (hN:N.length<=1073741824) (hc:w.cell? (Ad nb 0)=some (Sv N)) (B3:nb<w.heap.size):
 Calls prog 95 #[.agg #[Sv p,.slice B m d],.pointer (some (Ad nb 0))] w fun e w'=>e= .returned (.bool (AF p N))/\Below w.heap.size w w':=by
 have A5:=(Below.refl w.heap.size w).alloc zL (.cells #[Sv p,.slice B m d] 57);obtain ⟨Wa,A7⟩: ∃Wa,w.alloc (.cells #[Sv p,.slice B m d] 57)=Wa:=⟨_,rfl⟩;have a0:Wa.cell? (Ad w.heap.size 0)=some (Sv p):=by rw[<-A7];simp
 rw[A7] at A5;have ZW:=(A5.cell (p:=(Ad nb 0)) B3).trans hc;clear hc;go_enter func95,ntmps95;go_wp2_with fail;(try rw[A7]);go_wp2_with fail;refine (Bh p N _ hp hN).mono ?_;rintro e w1 ⟨rfl,A2⟩;go_wp2
 go_ret;exact ⟨rfl,A5.trans (A2.mono A5.size)⟩
theorem Rk (args:Array Value) (w:World):(callFunc 95 args).run prog w= .ok (.enter 95 args) w:=enters_of func95 (by kernel_rfl) rfl args w
theorem Ia (p:Pm->Bool): ∀L:List (Pm×Value),(L.filter fun q=>p q.1).map (·.1)=(L.map (·.1)).filter p
 |[]=>rfl
 |q::L=>by rw[List.filter_cons,List.map_cons,List.filter_cons,<-Ia p L];cases p q.1<;>simp
theorem Uu {L:List (Pm×Value)} {k:Nat} {x0 x1:Value} (h:(L.map Ya)[k]? =some [x0,x1]): ∃q,L[k]? =some q/\q∈L/\x0=Sv q.1.name/\x1=q.2:=by
 rw[List.getElem?_map] at h;cases hq:L[k]? with
 |none=>rw[hq] at h;simp at h
 |some q=>
  rw[hq] at h;simp only[Option.map_some,Option.some.injEq,Ya,List.cons.injEq,and_true] at h;exact ⟨q,rfl,List.mem_of_getElem? hq,h.1.symm,h.2.symm⟩
theorem Yr.form_ {w:World} {base:Nat} {S:Nat->Prop} {v:Value} {ps:List Pm} {L:List (Pm×Value)} (h:Yr w base S v ps L): ∀x∈L.map Ya,∃s0 B0 m0 d0,x=[.string s0,.slice B0 m0 d0]:=fun x hx=>by obtain ⟨q,hq,rfl⟩:=List.mem_map.1 hx;obtain ⟨A,c,e⟩:=(h.strs q hq).form;exact ⟨_,A,_,c,by rw[Ya,e]⟩
theorem As {S:Nat->Prop} (ps:List Pm) (N:Str) (v:Value) (w:World) (hS:sW S w) (h:Ah w S v ps) (hn:ps.length<=1073741824) (hN:N.length<=1073741824) (E2: ∀p∈ps,p.name.length<=1073741824):
 Calls prog 48 #[v,Sv N] w fun e w'=> ∃(v':Value) (L:List (Pm×Value)),e= .returned v'/\Yr w' w.heap.size S v' (noP N ps) L/\Below w.heap.size w w':=by
 have A5:=(Below.refl w.heap.size w).alloc zL (.cells #[Sv N] 9);obtain ⟨Wa,A7⟩: ∃Wa,w.alloc (.cells #[Sv N] 9)=Wa:=⟨_,rfl⟩;have Y1:Wa.heap.size=w.heap.size+1:=by rw[<-A7];simp
 have a0:Wa.cell? (Ad w.heap.size 0)=some (Sv N):=by rw[<-A7];simp
 rw[A7] at A5;have Y2:=hid (h.move (w':=Wa) (S':=S) (fun k hk=>A5.block k (hS k hk)) fun _ h=>h);clear h;go_enter func48,ntmps48;go_wp2_with fail;(try rw[A7]);go_wp2_with fail;refine (Mz ps v Wa (fun k hk=>Nat.lt_of_lt_of_le (hS k hk) A5.size) Y2.out hn).mono ?_;rintro e w2 ⟨v2,L,rfl,hO,DA⟩;have HO:=hid hO;have AW:=hid DA;obtain ⟨A,c,rfl⟩:=hO.row.form;clear hO DA;go_wp2_with fail;refine (RM Wa.heap.size (fun _=>Wa) (fun k=>AF (L.getD k (default,undef)).1.name N) (L.map Ya) A L.length c 95 #[.pointer (some (Ad w.heap.size 0))] w2 (by rw[HO.out.len];exact hn) HO.out.row HO.out.form_ Rk AW.out ?_ AW.out.size).mono ?_
 ·intro k x0 x1 wr hk hx hb HH;obtain ⟨q,hq,PB,rfl,rfl⟩:=Uu hx;obtain ⟨B,d,e⟩:=(HO.out.strs q PB).form;have hg:L.getD k (default,undef)=q:=(by simp[List.getD,hq]);have PF:q.1.name.length<=1073741824:=E2 q.1 (by rw[<-HO.out.eq];exact List.mem_map_of_mem PB);simp only[hg,e];refine (WD q.1.name N B _ d w.heap.size wr PF hN ((hb.cell (p:=(Ad w.heap.size 0)) (by simp;omega)).trans a0) (by omega)).mono ?_;rintro e w' ⟨rfl,H9⟩;exact ⟨rfl,hb.trans (H9.mono HH),Below.hi H9⟩
 ·rintro e w3 ⟨v3,rfl,E3,A8,ZX⟩;have HJ:BR (fun k=>AF (L.getD k (default,undef)).1.name N) L.length L=L.filter fun q=> !AF q.1.name N:=by
   rw[Dz _ (fun q=>AF q.1.name N) L (fun i x hx=>by simp[List.getD,hx]) L.length zL,List.take_length]
  rw[Ge,HJ,List.length_map] at E3;have HL:=hid (show Yr w3 Wa.heap.size S v3 (noP N ps) (L.filter fun q=> !AF q.1.name N) from ⟨E3,by rw[Ia (fun p=> !AF p.name N),HO.out.eq];rfl,fun q hq=>(HO.out.strs q (List.mem_filter.1 hq).1).move (fun k hk=>by have B3:k<Wa.heap.size:=Nat.lt_of_lt_of_le (hS k hk) A5.size;rw[A8.block k B3,AW.out.block k B3]) fun _ h=>h⟩);have IB:=hid A8;clear E3 A8 HJ;go_wp2
  go_ret;exact ⟨_,_,rfl,HL.out.base_ (by omega),A5.trans (IB.out.mono A5.size)⟩
theorem Ll (w:World) (x y:Value) (t:TypeId): ∀(j:Nat) u,[x,y][j]? =some u->(w.alloc (.cells #[x,y] t)).cell? (Ad w.heap.size j)=some u:=fun j u hu=>by
 have hj:j<2:=(List.getElem?_eq_some_iff.1 hu).1;rcases (show j=0∨j=1 by omega) with rfl|rfl
 ·have:x=u:=(by simpa using hu);subst this;simp
 ·have:y=u:=(by simpa using hu);subst this;simp
theorem Yr.snoc {w w':World} {base:Nat} {S:Nat->Prop} {v v':Value} {ps:List Pm} {L:List (Pm×Value)} {p:Pm} {u:Value} (h:Yr w base S v ps L) (hu:Bj w S u p.vals) (hg:w.grownBy w' v.ownBlock) (hS: ∀k,S k->k<w.heap.size/\v.ownBlock≠some k)
 (h':w'.ownsRow base 57 2 v' (L.length+1) ((L.map Ya).flatten++[Sv p.name,u])):Yr w' base S v' (ps++[p]) (L++[(p,u)]):=by
 have hm: ∀k,S k->w'.heap[k]? =w.heap[k]? :=fun k hk=>hg.block k (hS k hk).1 (hS k hk).2.symm;refine ⟨?_,by rw[List.map_append,h.eq];rfl,fun q hq=> ?_⟩
 ·rw[List.map_append,List.length_append];exact h.row.snoc rfl h'
 ·rcases List.mem_append.1 hq with hq|hq
  ·exact (h.strs q hq).move hm fun _ h=>h
  ·rw[List.mem_singleton.1 hq];exact hu.move hm fun _ h=>h
theorem Ct {w:World} {base:Nat} {E:TypeId} {size n:Nat} {v:Value} {xs:List Value} (h:w.ownsRow base E size v n xs) {k:Nat} (hk:k<base):v.ownBlock≠some k:=fun e=>by have:=(h.lt k e).1;omega
theorem JT {S:Nat->Prop} (ps:List Pm) (N:Str) (vals:List Str) (v u:Value) (w:World) (hS:sW S w) (h:Ah w S v ps) (hu:Bj w S u vals) (hn:ps.length<=1000000000):
 Calls prog 43 #[v,Sv N,u] w fun e w'=> ∃(v':Value) (L:List (Pm×Value)),e= .returned v'/\Yr w' w.heap.size S v' (ps++[⟨N,vals⟩]) L/\Below w.heap.size w w':=by
 obtain ⟨B,d,rfl⟩:=hu.form;have HU:=hid hu;clear hu;go_enter func43,ntmps43;go_wp2_with fail;refine (Mz ps v w hS h (by omega)).mono ?_;rintro e w2 ⟨v2,L,rfl,hO,DA⟩;have HO:=hid hO;have AW:=hid DA;obtain ⟨A,c,rfl⟩:=hO.row.form;clear hO DA h;go_wp2_with (at_builtin;refine AU rfl _ _ 37 rfl w.heap.size 57 (.agg #[.string ⟨#[]⟩,.slice none 0 0]) 2 40 underlying37 EU rfl (by decide) (by decide) _ L.length _ rfl (HO.out.row.row.alloc _) w2.heap.size 1 [Sv N,.slice B vals.length d] rfl rfl (Ll _ _ _ _) (by simp[Value.oneCell']) (by rw[HO.out.len];omega) (by have:=AW.out.size;simp;omega) ?_;intro g cap w3 A4 AL _ _ G2;refine Hid.out ?_);refine hid ?_;have A8:=hid (G2.out w (AW.out.alloc AW.out.size _));have HQ:=hid (Yr.snoc (p:=⟨N,vals⟩) (HO.out.low (zB.alloc zL (.cells #[Sv N,.slice B vals.length d] 57)) fun k hk=>Nat.lt_of_lt_of_le (hS k hk) AW.out.size) (HU.out.move (fun k hk=>(Below.heap_alloc _ _ _ (Nat.lt_of_lt_of_le (hS k hk) AW.out.size)).trans (AW.out.block k (hS k hk))) fun _ h=>h) AL (fun k hk=>⟨by have:=hS k hk;have:=AW.out.size;simp;omega,Ct HO.out.row.row (hS k hk)⟩) A4);clear A4 AL G2;go_wp2
 go_ret;exact ⟨_,_,rfl,HQ.out,A8.out⟩
theorem M0 {w:World} {pb:Nat} {b:Bool} (h:w.heap[pb]? =some (.cells #[.bool b] 4 (0,0))):w.cell? (Ad pb 0)=some (.bool b):=by simp[World.cell?,h]
theorem Rl {w:World} {pb:Nat} {b:Bool} (h:w.heap[pb]? =some (.cells #[.bool b] 4 (0,0))):w.frozen? (Ad pb 0)=false:=by simp[World.frozen?,h]
theorem Gv {w:World} {pb:Nat} {b b':Bool} (h:w.heap[pb]? =some (.cells #[.bool b] 4 (0,0))):(w.setCell (Ad pb 0) (.bool b')).heap[pb]? =some (.cells #[.bool b'] 4 (0,0)):=by simp[World.setCell,Array.getElem?_modify,h]
theorem TI (s:Str) (b:Bool) (pb:Nat) (w:World) (hs:s.length<=1073741824) (hk:w.heap[pb]? =some (.cells #[.bool b] 4 (0,0))):
 Calls prog 89 #[Sv s,.pointer (some (Ad pb 0))] w fun e w'=>e= .returned (.bool (AF s CA))/\ ∃w1,Below w.heap.size w w1/\w'=w1.setCell (Ad pb 0) (.bool (b||AF s CA)):=by
 have HK:=hid hk;have B3:pb<w.heap.size:=(Array.getElem?_eq_some_iff.1 hk).1;clear hk;go_enter func89,ntmps89;go_wp2_with fail;refine (Bh s CA w hs (by decide)).mono ?_;rintro e w1 ⟨rfl,hb⟩;have AN:=(hb.block pb B3).trans HK.out;have c1:=M0 AN;have f1:=Rl AN;have HB:=hid hb;clear hb AN;obtain ⟨r,hr⟩: ∃r,AF s CA=r:=⟨_,rfl⟩;rw[hr];cases b with
 |true=>
  go_wp2
  go_ret;subst hr;exact ⟨rfl,w1,HB.out,rfl⟩
 |false=>
  go_wp2
  go_ret;subst hr;exact ⟨rfl,w1,HB.out,by simp⟩
theorem Rm (args:Array Value) (w:World):(callFunc 89 args).run prog w= .ok (.enter 89 args) w:=enters_of func89 (by kernel_rfl) rfl args w
theorem GC {base pb:Nat} {w w':World} {x:Value} (h:Below base (w.setCell (Ad pb 0) x) w') {k:Nat} (hk:k<base) (A1:k≠pb):w'.heap[k]? =w.heap[k]? :=
 (h.block k hk).trans (Below.heap_setCell w (Ad pb 0) x k A1)
theorem Rn (p:Str->Bool) (l:List Str) {k:Nat} {s:Str} (h:l[k]? =some s):(l.take (k+1)).any p=((l.take k).any p||p s):=by rw[List.take_add_one,h,List.any_append];simp
theorem WE {l:List Str} {k:Nat} {x:Value} (h:(l.map fun s=>[sV s])[k]? =some [x]): ∃s,l[k]? =some s/\x=Sv s:=by
 rw[List.getElem?_map] at h;cases hq:l[k]? with
 |none=>rw[hq] at h;simp at h
 |some s=>
  rw[hq] at h;simp only[Option.map_some,Option.some.injEq,List.cons.injEq,and_true] at h;exact ⟨s,rfl,h.symm⟩
theorem Ce.r {w:World} {base n:Nat} {v:Value} {l:List Str} (h:Ce w base v n l):BN w base 9 1 v n (l.map fun s=>[sV s]):=
 ⟨by rw[Dc];exact h,fun x hx=>by obtain ⟨s,_,rfl⟩:=List.mem_map.1 hx;rfl,by simpa using h.len⟩
theorem BN.s {w:World} {base n:Nat} {v:Value} {l:List Str} (h:BN w base 9 1 v n (l.map fun s=>[sV s])):Ce w base v n l:=by have:=h.row;rw[Dc] at this;exact this
theorem Ro (l:List Str) (v:Value) (base pb:Nat) (b:Bool) (w:World) (DT:pb<base) (hO:Ce w base v l.length l) (HH:base<=w.heap.size) (hk:w.heap[pb]? =some (.cells #[.bool b] 4 (0,0))) (hn:l.length<=1073741824) (hl: ∀s∈l,s.length<=1073741824):
 Calls prog 88 #[v,.func (.func 89) #[] #[.pointer (some (Ad pb 0))]] w fun e w'=> ∃v',e= .returned v'/\Ce w' base v' (l.filter fun s=> !AF s CA).length (l.filter fun s=> !AF s CA)/\
  Below base (w.setCell (Ad pb 0) (.bool (b||l.any (AF · CA)))) w'/\w.heap.size<=w'.heap.size:=by
 obtain ⟨A,c,rfl⟩:=hO.form;have h0:Below base (w.setCell (Ad pb 0) (.bool (b||(l.take 0).any (AF · CA)))) w:=by
  refine ⟨rfl,rfl,rfl,by simp[World.setCell],fun k ZY=> ?_⟩;rcases Nat.decEq k pb with h|h
  ·exact (Below.heap_setCell w (Ad pb 0) _ k h).symm
  ·subst h;rw[hk,Gv hk,List.take_zero,List.any_nil,Bool.or_false]
 refine (RN base (fun k=>w.setCell (Ad pb 0) (.bool (b||(l.take k).any (AF · CA)))) (fun k=>AF (l.getD k []) CA) (l.map fun s=>[sV s]) A l.length c 89 #[.pointer (some (Ad pb 0))] w hn hO.r (fun x hx=> ?_) Rm h0 ?_ HH).mono ?_
 ·obtain ⟨s,_,rfl⟩:=List.mem_map.1 hx;exact ⟨_,rfl⟩
 ·intro k x0 wr HR hx hb ZZ;obtain ⟨s,hs,rfl⟩:=WE hx;have hg:l.getD k []=s:=(by simp[List.getD,hs]);have Q1:wr.heap[pb]? =some (.cells #[.bool (b||(l.take k).any (AF · CA))] 4 (0,0)):=(hb.block pb DT).trans (Gv hk);simp only[hg];refine (TI s _ pb wr (hl s (List.mem_of_getElem? hs)) Q1).mono ?_;rintro e w' ⟨rfl,w1,A2,rfl⟩;have Y3:w1.heap[pb]? =some (.cells #[.bool (b||(l.take k).any (AF · CA))] 4 (0,0)):=(A2.block pb (by omega)).trans Q1;refine ⟨rfl,⟨?_, ?_, ?_, ?_,fun i hi=> ?_⟩,⟨?_,fun i hi YB=> ?_⟩⟩
  ·exact A2.os.trans hb.os
  ·exact A2.tape.trans hb.tape
  ·exact A2.output.trans hb.output
  ·have a1:=hb.size;have a2:=A2.size;simp only[World.setCell,Array.size_modify] at a1⊢;omega
  ·rcases Nat.decEq i pb with h|h
   ·rw[Below.heap_setCell w1 (Ad pb 0) _ i h,A2.block i (by omega),hb.block i hi,Below.heap_setCell w (Ad pb 0) _ i h,Below.heap_setCell w (Ad pb 0) _ i h]
   ·subst h;rw[Gv Y3,Gv hk,Rn _ l hs,Bool.or_assoc]
  ·have a2:=A2.size;simp only[World.setCell,Array.size_modify];exact a2
  ·rw[Below.heap_setCell w1 (Ad pb 0) _ i (by simp;omega),A2.block i YB]
 ·rintro e w' ⟨v',rfl,Q2,H9,Z0⟩;have HJ:BR (fun k=>AF (l.getD k []) CA) l.length l=l.filter fun s=> !AF s CA:=by
   rw[Dz _ (fun s=>AF s CA) l (fun i x hx=>by simp[List.getD,hx]) l.length zL,List.take_length]
  rw[Ge,HJ,List.length_map] at Q2;rw[List.take_length] at H9;exact ⟨v',rfl,Q2.s,H9,Z0⟩
def Ys (w:World) (base:Nat) (v:Value) (ps:List Pm) (L:List (Pm×Value)):Prop:=Yr w base (fun k=>base<=k/\Off w v k) v ps L
theorem Ys.hi {w w':World} {base:Nat} {v:Value} {ps:List Pm} {L:List (Pm×Value)} (h:Ys w base v ps L) (hb:Hi base w w'):Ys w' base v ps L:=
 ⟨h.row.hi hb,h.eq,fun q hq=>(h.strs q hq).move (fun k hk=>hb.2 k hk.1 hk.2.1) fun k hk=>⟨hk.1,Nat.lt_of_lt_of_le hk.2.1 hb.1,hk.2.2⟩⟩
theorem Ys.nil (w:World) (base:Nat):Ys w base (.slice none 0 0) [] []:=⟨BN.nil _ _ _ _,rfl,fun _ h=>by simp at h⟩
theorem Ys.snoc {w w':World} {base g:Nat} {v v':Value} {ps:List Pm} {L:List (Pm×Value)} {p:Pm} {u:Value} (h:Ys w base v ps L) (hu:Bj w (fun k=>base<=k/\Off w v k) u p.vals) (hg:w.grownBy w' v.ownBlock) (h1:v.ownBlock=some g∨g=w.heap.size) (h2:v'.ownBlock=some g)
 (h':w'.ownsRow base 57 2 v' (L.length+1) ((L.map Ya).flatten++[Sv p.name,u])):Ys w' base v' (ps++[p]) (L++[(p,u)]):=by
 have ho:=Ev hg h1 h2 hg.size;refine ⟨?_,by rw[List.map_append,h.eq];rfl,fun q hq=> ?_⟩
 ·rw[List.map_append,List.length_append];exact h.row.snoc rfl h'
 ·rcases List.mem_append.1 hq with hq|hq
  ·exact (h.strs q hq).move (fun k hk=>ho.1 k hk.2) fun k hk=>⟨hk.1,ho.2 k hk.2⟩
  ·rw[List.mem_singleton.1 hq];exact hu.move (fun k hk=>ho.1 k hk.2) fun k hk=>⟨hk.1,ho.2 k hk.2⟩
theorem Ys.x {w:World} {base:Nat} {S:Nat->Prop} {v:Value} {ps:List Pm} {L:List (Pm×Value)} (h:Ys w base v ps L) (hS: ∀k,base<=k->k<w.heap.size->S k):Ah w S v ps:=
 Yr.x h (fun k hk=>hS k hk.1 hk.2.1) hS
theorem Ib: ∀(l:List Pm) (s:Str) (i:Nat),decide (CF.go s i l<0)= !F7 s l
 |[],_,_=>by simp[CF.go,F7]
 |p::r,s,i=>by
  unfold CF.go;rw[F7,List.any_cons];cases h:AF p.name s with
  |true=>rw[if_pos rfl];simp
  |false=>rw[if_neg (by simp),Ib r s (i+1),F7,Bool.false_or]
theorem M1 (l:List Pm) (s:Str):decide (CF l s<0)= !F7 s l:=Ib l s 0
theorem Ic {l:List Pm} {i:Nat} {p:Pm} (h:l[i]? =some p):Bo (l.take (i+1))=Bo (l.take i)++(if (Cw p).isEmpty then [] else [⟨p.name,Cw p⟩]):=by
 unfold Bo;rw[List.take_add_one,h,List.map_append,List.filter_append]
 congr 1
 show List.filter _ [(⟨p.name,Cw p⟩:Pm)]=_;rw[List.filter_cons,List.filter_nil];cases (Cw p).isEmpty<;>rfl
theorem Id {l:List Pm} {i:Nat} {p:Pm} (h:l[i]? =some p):Fr (l.take (i+1))=(Fr (l.take i)||(AF p.name Ae&&p.vals.any (AF · CA))):=by unfold Fr;rw[List.take_add_one,h,List.any_append];simp
theorem M3 {w w':World} {v:Value} {pb:Nat} {b:Bool} (hg:w.grownBy w' v.ownBlock) (h:w.heap[pb]? =some (.cells #[.bool b] 4 (0,0))) (A1:v.ownBlock≠some pb):w'.heap[pb]? =some (.cells #[.bool b] 4 (0,0)):=
 (hg.block pb (Array.getElem?_eq_some_iff.1 h).1 A1.symm).trans h
theorem Kh {l:List Pm} {p:Pm} (h:p∈Bo l): ∃q∈l,q.name=p.name:=by unfold Bo at h;obtain ⟨q,hq,rfl⟩:=List.mem_map.1 (List.mem_filter.1 h).1;exact ⟨q,hq,rfl⟩
theorem E6 (w:World) (x y:Value) (t:TypeId) (b:Nat) (hb:b=w.heap.size): ∀(j:Nat) u,[x,y][j]? =some u->(w.alloc (.cells #[x,y] t)).cell? (Ad b j)=some u:=by subst hb;exact Ll w x y t
theorem Ce.sx {w:World} {base n:Nat} {S:Nat->Prop} {v:Value} {l:List Str} (h:Ce w base v n l) (hS: ∀k,base<=k->k<w.heap.size->S k):Bj w S v l:=by have hl:=h.len;subst hl;refine (h.r.slX.grow fun k hk=>hS k hk.1 hk.2).congr fun i hi j hj=> ?_;obtain rfl:j=0:=(by omega);rw[Aw (fun s=>[sV s]) l i [] [] hi];rfl
theorem Lm {S:Nat->Prop} (ps:List Pm) (v:Value) (w:World) (hS:sW S w) (h:Ah w S v ps) (A1: ∀p∈ps,p.vals≠[]) (hw:Yb ps<=134217728):
 Calls prog 44 #[v] w fun e w'=> ∃v',e= .returned v'/\Ah w' (Cy w w') v' (Cb ps)/\Below w.heap.size w w':=by
 have HS:=hid A1;have KI:=hid fun p (h:p∈ps)=>Bp h;have a3:=Bq ps;obtain ⟨A,c,rfl⟩:=h.form;have HP:=hid (h.pms hS);clear h A1;go_enter func44,ntmps44;go_wp2_with fail;have A5:=(Below.refl w.heap.size w).alloc zL (.cells #[.bool false] 4);obtain ⟨Wa,A7⟩: ∃Wa,w.alloc (.cells #[.bool false] 4)=Wa:=⟨_,rfl⟩;have Y1:Wa.heap.size=w.heap.size+1:=by rw[<-A7];simp
 have Z1:=hid (show Wa.heap[w.heap.size]? =some (.cells #[.bool false] 4 (0,0)) by rw[<-A7];exact heap_alloc_new w _);rw[A7] at A5;rw[A7];go_loopw [3,6,9] (fun s3 _ s9 wr=> ∃(i:Nat) (v:Value) (L:List (Pm×Value)),s9=Iv i/\i<=ps.length/\s3=v/\Hid (Ys wr (w.heap.size+1) v (Bo (ps.take i)) L/\wr.heap[w.heap.size]? =some (.cells #[.bool (Fr (ps.take i))] 4 (0,0))/\Below w.heap.size w wr)) (fun _ _ s9 _=>ps.length-(intOf s9).toNat);case atStart=>exact ⟨0,_,[],rfl,by omega,rfl,hid ⟨Ys.nil _ _,Z1.out,A5⟩⟩
 case round=>
  obtain ⟨i,v,L,rfl,hi,rfl,HI⟩:=hrel;have HH:w.heap.size+1<=wr.heap.size:=(Array.getElem?_eq_some_iff.1 HI.out.2.1).1;by_cases B3:i<ps.length
  ·obtain ⟨b,o,p,u,rfl,hb,R0,c0,c1,E9⟩:=(HP.out.keep HI.out.2.2 zL).at_ B3;have HT:ps[i]? =some p:=by
    have:=congrArg List.head? R0
    rwa [List.head?_drop] at this
   have E0:p∈ps:=List.mem_of_getElem? HT;have S1:=Nat.le_trans (KI.out p E0) hw;have PF:=Nat.le_trans (Bd p) S1;have L1:=Nat.le_trans (DC p) S1;have L2:=Nat.le_trans (C3 p.vals) L1;have Z2:=hid fun s (hs:s∈p.vals)=>Nat.le_trans (Nat.le_of_lt (C2 hs)) L1;have A1:=HS.out p E0;have B1:=hid (Ic HT);have AV:=hid (Id HT);have G4:=hid HI.out.1;have SS:=hid HI.out.2.1;have L4:=hid HI.out.2.2;have T5:L.length<=1073741824:=by rw[G4.out.len];have h1:=List.length_filter_le (fun p:Pm=> !p.vals.isEmpty) ((ps.take i).map fun p=>(⟨p.name,Cw p⟩:Pm));rw[List.length_map,List.length_take] at h1;unfold Bo;omega
   have TT:=hid T5;obtain ⟨B,d,rfl⟩:=E9.form;obtain ⟨Wp,H0⟩: ∃Wp,wr.alloc (.cells #[Sv p.name,vP B p d] 57)=Wp:=⟨_,rfl⟩;have a4:Wp.heap.size=wr.heap.size+1:=by rw[<-H0];simp
   have p0:Wp.cell? (Ad wr.heap.size 0)=some (Sv p.name):=by rw[<-H0];simp
   have p1:Wp.cell? (Ad wr.heap.size 1)=some (vP B p d):=by rw[<-H0];simp
   have hf:Wp.frozen? (Ad wr.heap.size 1)=false:=by rw[<-H0];simp
   have L5:Below wr.heap.size wr Wp:=by rw[<-H0];exact zA
   have Z3:=hid ((E9.keep (L5.mono (by omega)) zL).x);have Z4:=hid L5;clear E9 R0 HT E0 HI T5 L5;go_wp2_with fail;(try rw[H0]);go_wp2_with fail;refine (Ui p.vals (vP B p d) Wp (S:=(· <w.heap.size)) (fun k hk=>by omega) Z3.out (by omega)).mono ?_;rintro e w3 ⟨v3,rfl,E3,A8⟩;have q0:=(A8.cell (p:=(Ad wr.heap.size 0)) (show wr.heap.size<_ by omega)).trans p0;have q1:=(A8.cell (p:=(Ad wr.heap.size 1)) (show wr.heap.size<_ by omega)).trans p1;have qf:=(A8.frozen (p:=(Ad wr.heap.size 1)) (show wr.heap.size<_ by omega)).trans hf;have HL:=hid E3;have IB:=hid A8;obtain ⟨A3,d3,rfl⟩:=E3.form;obtain ⟨W4,F1⟩: ∃W4,w3.setCell (Ad wr.heap.size 1) (vP A3 p d3)=W4:=⟨_,rfl⟩;have r0:W4.cell? (Ad wr.heap.size 0)=some (Sv p.name):=by rw[<-F1,World.cell?_setCell_other _ _ _ _ (by simp)];exact q0
   have r1:W4.cell? (Ad wr.heap.size 1)=some (vP A3 p d3):=by rw[<-F1];exact World.cell?_setCell_same _ _ _ q1
   have rf:W4.frozen? (Ad wr.heap.size 1)=false:=by rw[<-F1];simp[qf]
   have a5:W4.heap.size=w3.heap.size:=by rw[<-F1];simp[World.setCell]
   have TX:Below wr.heap.size wr W4:=by rw[<-F1];exact (Z4.out.trans (A8.mono (by omega))).setCell (p:=(Ad wr.heap.size 1)) zL _
   have U1: ∀k,k≠wr.heap.size->W4.heap[k]? =w3.heap[k]? :=fun k hk=>by rw[<-F1];exact Below.heap_setCell w3 (Ad wr.heap.size 1) _ k hk
   have HQ:BN W4 Wp.heap.size 9 1 (vP A3 p d3) p.vals.length (p.vals.map fun s=>[sV s]):=
    BN.hi (HL.out.r) ⟨by omega,fun k AN A0=>U1 k (by omega)⟩
   have a6:wr.heap.size<w3.heap.size:=by have:=A8.size;omega
   have U2:=hid HQ;have V5:=hid TX;clear E3 A8 HL IB HQ TX U1 q0 p0 p1;go_wp2_with fail;(try rw[F1]);go_wp2_with fail;refine (Bh p.name Ae W4 (by omega) (by decide)).mono ?_;rintro e w5 ⟨rfl,F2⟩;have s0:=(F2.cell (p:=(Ad wr.heap.size 0)) (show wr.heap.size<_ by omega)).trans r0;have s1:=(F2.cell (p:=(Ad wr.heap.size 1)) (show wr.heap.size<_ by omega)).trans r1;have sf:=(F2.frozen (p:=(Ad wr.heap.size 1)) (show wr.heap.size<_ by omega)).trans rf;have a7:W4.heap.size<=w5.heap.size:=F2.size;have H1:=hid (V5.out.trans (F2.mono (by omega)));have L6:=hid (U2.out.low F2);have HW:=hid ((H1.out.block w.heap.size (by omega)).trans SS.out);clear F2 V5 U2 r0 r1 rf;cases H2:AF p.name Ae with
   |false=>
    have HA:Cw p=p.vals:=by unfold Cw;rw[H2,if_neg (by simp)]
    rw[HA] at B1;rw[H2] at AV;rw[Bool.false_and,Bool.or_false] at AV;have HC:p.vals.isEmpty=false:=by cases Z5:p.vals with
     |nil=>exact absurd Z5 A1
     |cons x r=>rfl
    rw[HC] at B1;have HY:=hid (L4.out.trans (H1.out.mono (by omega)));have F3:=hid (show w.heap.size+1<=w5.heap.size by omega);have H3:=hid (G4.out.hi (Below.hi H1.out));have L7:=hid (show Bj w5 (fun k=>w.heap.size+1<=k/\Off w5 u3 k) (vP A3 p d3) p.vals from Ce.sx L6.out.s fun k AN A0=>⟨by omega,A0,fun e=>by have:=(G4.out.row.row.lt k e).2;omega⟩);have F4:=hid (H3.out.hi (Below.hi ((Below.refl w5.heap.size w5).alloc zL (.cells #[Sv p.name,vP A3 p d3] 57))));have L8:=hid (L7.out.move (w':=w5.alloc (.cells #[Sv p.name,vP A3 p d3] 57)) (S':=fun k=>w.heap.size+1<=k/\Off (w5.alloc (.cells #[Sv p.name,vP A3 p d3] 57)) u3 k) (fun k hk=>Below.heap_alloc _ _ _ hk.2.1) fun k hk=>⟨hk.1,by have:=hk.2.1;simp;omega,hk.2.2⟩);have L9:=hid ((Below.heap_alloc w5 (.cells #[Sv p.name,vP A3 p d3] 57) _ (by omega)).trans HW.out);clear H2 HA HC A1;go_wp2_with (at_builtin;refine AU rfl _ _ 37 rfl (w.heap.size+1) 57 (.agg #[.string ⟨#[]⟩,.slice none 0 0]) 2 40 underlying37 EU rfl (by decide) (by decide) _ L.length _ rfl (H3.out.row.row.alloc _) w5.heap.size 1 [Sv p.name,vP A3 p d3] rfl rfl (E6 _ _ _ _ _ (by omega)) (by simp[Value.oneCell']) TT.out (by have:=F3.out;simp;omega) ?_;intro g cap w8 A4 AL HD _ G2;refine Hid.out ?_);refine hid ?_;have LB:=hid (F4.out.snoc (p:=⟨p.name,p.vals⟩) L8.out AL HD.out rfl A4);have LL:=hid ((HY.out.alloc (by have:=F3.out;omega) (.cells #[Sv p.name,vP A3 p d3] 57)).grown AL (by have:=F3.out;simp;omega) (fun k hk=>by have:=(F4.out.row.row.lt k hk).1;omega));have M2:=hid (M3 AL L9.out (Ct F4.out.row.row (by omega)));clear A4 AL HD G2;go_wp2
    go_roundw;case rel=>exact ⟨i+1,_,_,by go_num,by omega,rfl,hid ⟨by rw[B1.out];exact LB.out,by rw[AV.out];exact M2.out,LL.out⟩⟩
    case measure=>simp[intOf];omega
   |true=>
    have HA:Cw p=p.vals.filter fun s=> !AF s CA:=by unfold Cw;rw[H2,if_pos rfl]
    rw[HA] at B1;rw[H2] at AV;rw[Bool.true_and] at AV;clear H2 HA A1;go_wp2_with fail;refine (Ro p.vals (vP A3 p d3) Wp.heap.size w.heap.size (Fr (ps.take i)) w5 (by omega) L6.out.s (by omega) HW.out (by omega) (fun s hs=>Nat.le_trans (Z2.out s hs) (by omega))).mono ?_;rintro e w6 ⟨v6,rfl,HZ,FB,a8⟩;have t0:w6.cell? (Ad wr.heap.size 0)=some (Sv p.name):=(World.cell?_of_block (w:=w5) (a:=(Ad wr.heap.size 0)) (GC FB (show wr.heap.size<_ by omega) (show wr.heap.size≠_ by omega))).trans s0;have t1:w6.cell? (Ad wr.heap.size 1)=some (vP A3 p d3):=(World.cell?_of_block (w:=w5) (a:=(Ad wr.heap.size 1)) (GC FB (show wr.heap.size<_ by omega) (show wr.heap.size≠_ by omega))).trans s1;have tf:w6.frozen? (Ad wr.heap.size 1)=false:=(World.frozen?_of_block (w:=w5) (a:=(Ad wr.heap.size 1)) (GC FB (show wr.heap.size<_ by omega) (show wr.heap.size≠_ by omega))).trans sf;obtain ⟨A6,d6,rfl⟩:=HZ.form;obtain ⟨l6,VC⟩: ∃l6,p.vals.filter (fun s=> !AF s CA)=l6:=⟨_,rfl⟩;rw[VC] at HZ B1;rw[VC];obtain ⟨W7,E1⟩: ∃W7,w6.setCell (Ad wr.heap.size 1) (.slice A6 l6.length d6)=W7:=⟨_,rfl⟩;have u0:W7.cell? (Ad wr.heap.size 0)=some (Sv p.name):=by rw[<-E1,World.cell?_setCell_other _ _ _ _ (by simp)];exact t0
    have u1:W7.cell? (Ad wr.heap.size 1)=some (.slice A6 l6.length d6):=by rw[<-E1];exact World.cell?_setCell_same _ _ _ t1
    have a9:W7.heap.size=w6.heap.size:=by rw[<-E1];simp[World.setCell]
    have I0: ∀k,k≠wr.heap.size->W7.heap[k]? =w6.heap[k]? :=fun k hk=>by rw[<-E1];exact Below.heap_setCell w6 (Ad wr.heap.size 1) _ k hk
    have VX:=hid (show W7.heap[w.heap.size]? =some (.cells #[.bool (Fr (ps.take i)||p.vals.any (AF · CA))] 4 (0,0)) from (I0 _ (by omega)).trans ((FB.block _ (by omega)).trans (Gv HW.out)));have W0:BN W7 Wp.heap.size 9 1 (.slice A6 l6.length d6) l6.length (l6.map fun s=>[sV s]):=BN.hi HZ.r ⟨by omega,fun k AN A0=>I0 k (by omega)⟩;have W1:Below w.heap.size w W7:=by rw[<-E1];exact ((L4.out.trans (H1.out.mono (by omega))).setCell (p:=(Ad w.heap.size 0)) zL _).trans (FB.mono (by omega))|>.setCell (p:=(Ad wr.heap.size 1)) (show w.heap.size<=wr.heap.size by omega) _
    have W2:Hi (w.heap.size+1) wr W7:=⟨by omega,fun k AN A0=>by rw[I0 k (by omega),GC FB (by omega) (by omega)];exact H1.out.block k A0⟩;have W3:=hid W0;have HY:=hid W1;have F3:=hid (show w.heap.size+1<=W7.heap.size by omega);have H3:=hid (G4.out.hi W2);have Z6:=hid (fun k e=>(G4.out.row.row.lt k e).2: ∀k,u3.ownBlock=some k->k<wr.heap.size);have ZU:Wp.heap.size<=W7.heap.size:=(by omega);clear HZ FB W0 W1 W2 I0 HW L6 H1 L4 SS G4 s0 s1 sf t0;cases l6 with
    |nil=>
     have W5:=hid (show Bo (ps.take (i+1))=Bo (ps.take i) by rw[B1.out];simp);clear B1;simp only[List.length_nil] at E1 u1;go_wp2_with fail;(try rw[E1]);go_roundw;case rel=>exact ⟨i+1,_,_,by go_num,by omega,rfl,hid ⟨by rw[W5.out];exact H3.out,by rw[AV.out];exact VX.out,HY.out⟩⟩
     case measure=>simp[intOf];omega
    |cons s6 r6=>
     have Z7:(((s6::r6).length:Int)==0)=false:=by simp;omega
     have W6:=hid W3.out.s;obtain ⟨V6,MM⟩: ∃V6,s6::r6=V6:=⟨_,rfl⟩;have HC:V6.isEmpty=false:=by rw[<-MM];rfl
     rw[MM] at B1 W3 u1 Z7 W6 E1;rw[MM];rw[HC] at B1;have L7:=hid (show Bj W7 (fun k=>w.heap.size+1<=k/\Off W7 u3 k) (.slice A6 V6.length d6) V6 from Ce.sx W6.out fun k AN A0=>⟨by omega,A0,fun e=>by have:=Z6.out k e;omega⟩);have F4:=hid (H3.out.hi (Below.hi ((Below.refl W7.heap.size W7).alloc zL (.cells #[Sv p.name,.slice A6 V6.length d6] 57))));have L8:=hid (L7.out.move (w':=W7.alloc (.cells #[Sv p.name,.slice A6 V6.length d6] 57)) (S':=fun k=>w.heap.size+1<=k/\Off (W7.alloc (.cells #[Sv p.name,.slice A6 V6.length d6] 57)) u3 k) (fun k hk=>Below.heap_alloc _ _ _ hk.2.1) fun k hk=>⟨hk.1,by have:=hk.2.1;simp;omega,hk.2.2⟩);have L9:=hid ((Below.heap_alloc W7 (.cells #[Sv p.name,.slice A6 V6.length d6] 57) _ (by omega)).trans VX.out);clear HC;go_wp2_with (at_builtin;refine AU rfl _ _ 37 rfl (w.heap.size+1) 57 (.agg #[.string ⟨#[]⟩,.slice none 0 0]) 2 40 underlying37 EU rfl (by decide) (by decide) _ L.length _ rfl (H3.out.row.row.alloc _) w6.heap.size 1 [Sv p.name,.slice A6 V6.length d6] rfl rfl (E6 _ _ _ _ _ (by omega)) (by simp[Value.oneCell']) TT.out (by have:=F3.out;simp;omega) ?_;intro g cap w8 A4 AL HD _ G2;refine Hid.out ?_);refine hid ?_;have LB:=hid (F4.out.snoc (p:=⟨p.name,V6⟩) L8.out AL HD.out rfl A4);have LL:=hid ((HY.out.alloc (by have:=F3.out;omega) (.cells #[Sv p.name,.slice A6 V6.length d6] 57)).grown AL (by have:=F3.out;simp;omega) (fun k hk=>by have:=(F4.out.row.row.lt k hk).1;omega));have M2:=hid (M3 AL L9.out (Ct F4.out.row.row (by omega)));clear A4 AL HD G2;go_wp2
     go_roundw;case rel=>exact ⟨i+1,_,_,by go_num,by omega,rfl,hid ⟨by rw[B1.out];exact LB.out,by rw[AV.out];exact M2.out,LL.out⟩⟩
     case measure=>simp[intOf];omega
  ·obtain rfl:i=ps.length:=(by omega);have HN:=hid (show Ys wr (w.heap.size+1) u3 (Bo ps) L by have:=HI.out.1;rwa [List.take_length] at this);have HK:=hid (show wr.heap[w.heap.size]? =some (.cells #[.bool (Fr ps)] 4 (0,0)) by have:=HI.out.2.1;rwa [List.take_length] at this);have HB:=hid HI.out.2.2;have E2: ∀p∈Bo ps,p.name.length<=1073741824:=fun p hp=>by
    obtain ⟨q,hq,e⟩:=Kh hp;have h1:=Nat.le_trans (Bd q) (Nat.le_trans (KI.out q hq) hw);rw[<-e];omega
   have aA:(Bo ps).length<=ps.length:=by have h1:=List.length_filter_le (fun p:Pm=> !p.vals.isEmpty) (ps.map fun p=>(⟨p.name,Cw p⟩:Pm));rw[List.length_map] at h1;exact h1
   have N0:=hid E2;clear HI KI HS E2;obtain ⟨A3,c3,rfl⟩:=HN.out.row.form;have ck:=M0 HK.out;cases DT:Fr ps with
   |false=>
    have HE:=hid (show Cb ps=Bo ps by unfold Cb;rw[DT];rfl);rw[DT] at ck;clear DT HK;go_wp2
    go_ret;refine ⟨_,rfl, ?_,HB.out⟩;rw[HE.out];exact HN.out.x fun k AN A0=>⟨by omega,A0⟩
   |true=>
    rw[DT] at ck;have AV:=hid DT;clear DT HK;have HF:L.length=(Bo ps).length:=HN.out.len;have HX:=hid (HN.out.x (S:=fun k=>w.heap.size<=k/\k<wr.heap.size) fun k AN A0=>⟨by omega,A0⟩);rw[HF] at HX;have G1:=M1 (Bo ps) CM;have aB:=hid (Kf (Bo ps) CM 0);rw[HF];clear HN;go_wp2_with fail;refine (Gu (Bo ps) CM A3 c3 wr (HX.out.pms fun k hk=>hk.2) (by omega) N0.out (by decide)).mono ?_;rintro e w9 ⟨rfl,A9⟩;have DD:=hid A9;have W8:=hid (HX.out.move (w':=w9) (S':=fun k=>w.heap.size<=k/\k<w9.heap.size) (fun k hk=>A9.block k hk.2) fun k hk=>⟨hk.1,Nat.lt_of_lt_of_le hk.2 A9.size⟩);clear A9 HX;obtain ⟨m,hm⟩: ∃m,CF (Bo ps) CM=m:=⟨_,rfl⟩;rw[hm] at G1⊢;clear hm;cases H4:F7 CM (Bo ps) with
    |true=>
     rw[H4] at G1;have Z8: ¬m<0:=of_decide_eq_false G1;have HE:=hid (show Cb ps=Bo ps by unfold Cb;rw[AV.out,H4];rfl);clear G1 H4 AV;go_wp2
     go_ret;refine ⟨_,rfl, ?_,HB.out.trans (DD.out.mono (by omega))⟩;rw[HE.out];exact W8.out
    |false=>
     rw[H4] at G1;have Z8:m<0:=of_decide_eq_true G1;have HE:=hid (show Cb ps=Bo ps++[⟨CM,[[49]]⟩] by unfold Cb;rw[AV.out,H4];rfl);clear G1 H4 AV;go_wp2_with fail;have aC:=DD.out.size;have W9:Bj (w9.alloc (.cells #[.string ⟨#[49]⟩] 9)) (fun k=>w.heap.size<=k/\k<(w9.alloc (.cells #[.string ⟨#[49]⟩] 9)).heap.size) (.slice (some (Ad w9.heap.size 0)) 1 1) [[49]]:=
      ⟨_,1,rfl,Nat.le_refl _,fun _=>⟨w9.heap.size,0,rfl,⟨by omega,by simp⟩,fun i hi j hj=>by
       obtain rfl:i=0:=by have:i<1:=hi;omega
       obtain rfl:j=0:=(by omega);simp⟩⟩
     refine (JT (S:=fun k=>w.heap.size<=k/\k<(w9.alloc (.cells #[.string ⟨#[49]⟩] 9)).heap.size) (Bo ps) CM [[49]] _ _ _ (fun k hk=>hk.2) (W8.out.move (fun k hk=>Below.heap_alloc _ _ _ hk.2) fun k hk=>⟨hk.1,by have:=hk.2;simp;omega⟩) W9 (by omega)).mono ?_;rintro e WA ⟨Z9,aD,rfl,I6,HG⟩;have WF:=HG.size;have ZI:=hid (show Ah WA (Cy w WA) Z9 (Cb ps) by rw[HE.out];exact Yr.x I6 (fun k hk=>⟨hk.1,Nat.lt_of_lt_of_le hk.2 WF⟩) (fun k AN A0=>⟨by simp at AN;omega,A0⟩));have X1:=hid (HB.out.trans (DD.out.mono (by omega))|>.alloc (by omega) (.cells #[.string ⟨#[49]⟩] 9)|>.trans (HG.mono (by simp;omega)));clear I6 HG W9;go_wp2
     go_ret;exact ⟨_,rfl,ZI.out,X1.out⟩
theorem Gw: ∀(l:List Pm) (s:Str) (i:Nat),(CF.go s i l= -1/\l.find? (fun p=>AF p.name s)=none)∨ ∃k p,CF.go s i l=((i+k:Nat):Int)/\k<l.length/\l.drop k=p::l.drop (k+1)/\l.find? (fun p=>AF p.name s)=some p
 |[],_,_=> .inl ⟨rfl,rfl⟩
 |p::r,s,i=>by
  unfold CF.go;rw[List.find?_cons];cases h:AF p.name s with
  |true=>exact .inr ⟨0,p,by simp,by simp,rfl,rfl⟩
  |false=>
   rw[if_neg (by simp)];rcases Gw r s (i+1) with ⟨h1,h2⟩|⟨k,q,h1,h2,h3,h4⟩
   ·exact .inl ⟨h1,h2⟩
   ·exact .inr ⟨k+1,q,by rw[h1];congr 1;omega,by simpa using h2,by simpa using h3,h4⟩
theorem DO (l:List Pm) (s:Str):(CF l s= -1/\l.find? (fun p=>AF p.name s)=none)∨ ∃(k:Nat) (p:Pm),CF l s=(k:Int)/\k<l.length/\l.drop k=p::l.drop (k+1)/\l.find? (fun p=>AF p.name s)=some p:=by
 rcases Gw l s 0 with h|⟨k,p,h1,h2⟩
 ·exact .inl h
 ·exact .inr ⟨k,p,by rw[Nat.zero_add] at h1;exact h1,h2⟩
def Rp (n:Str):Str:=if n==BV||n==CN then Dx else if n==Bn then Et else []
theorem WG (a b:Str):((Sv a:Value)=Sv b)↔a=b:=by
 constructor
 ·intro h;simp only[Value.string.injEq,ByteArray.mk.injEq] at h;exact List.toArray_inj h
 ·rintro rfl;rfl
theorem Uv (n:Str):((Dm (Dm (Dm (fun _=>none) (Sv BV) (Sv Dx)) (Sv CN) (Sv Dx)) (Sv Bn) (Sv Et)) (Sv n)).getD (.string ⟨#[]⟩)= .string ⟨(Rp n).toArray⟩:=by
 unfold Dm Rp;simp only[WG];by_cases h1:n=Bn
 ·rw[if_pos h1,h1];rfl
 ·rw[if_neg h1];by_cases h2:n=CN
  ·rw[if_pos h2,h2];rfl
  ·rw[if_neg h2];by_cases h3:n=BV
   ·rw[if_pos h3,h3];rfl
   ·rw[if_neg h3];simp[h1,h2,h3]
theorem Ln (l:Str):(loS l).length=l.length:=by unfold loS;simp
theorem Pc (k b:Str) (w:World) (hk:k.length<=268435456) (hb:b.length<=268435456) (hm:B.medB k=true):
 Calls prog 91 #[Sv k,Sv b] w fun e w'=>e= .returned (.tuple #[.string (B.dataS k (B.encL b)),.nilIface])/\Below w.heap.size w w':=by
 have ZJ:=B.encL_len b;go_enter func91,ntmps91;go_wp2_with fail;refine (B.media_any k _ (by omega)).mono ?_;rintro e w1 ⟨rfl,rfl⟩;rw[hm];go_wp2_with fail;refine (B.encode_any b _ (by omega)).mono ?_;rintro e w2 ⟨rfl,DA⟩;go_wp2
 go_ret2;exact ⟨rfl,DA⟩
theorem Rq (k b:Str) (w:World) (hk:k.length<=268435456) (hm:B.medB k=false):
 Calls prog 91 #[Sv k,Sv b] w fun e w'=>e= .returned (.tuple #[.string ⟨#[]⟩,.iface 26 (Iv 3)])/\w=w':=by
 go_enter func91,ntmps91;go_wp2_with fail;refine (B.media_any k _ (by omega)).mono ?_;rintro e w1 ⟨rfl,rfl⟩;rw[hm];go_wp2
 go_ret2;exact ⟨rfl,rfl⟩
theorem Nk (k b:Str) (w:World) (hk:k.length<=268435456) (hb:b.length<=268435456) (hm:B.medB k=true) (hL:B.Laid w):
 Calls prog 32 #[Sv k,Sv b] w fun e w'=>e= .returned (.tuple #[.string (B.dataS k (B.refB b)),Iv 0])/\Below w.heap.size w w':=by
 have ZJ:(B.refB b).length<=4*b.length:=by rw[B.enc_eq];exact B.encL_len b
 go_enter func32,ntmps32;go_wp2_with fail;refine (B.mediaR_any k _ (by omega)).mono ?_;rintro e w1 ⟨rfl,A2⟩;rw[hm];go_wp2_with fail;refine (B.refB64_any b _ (by omega) (hL.below hL.sz A2)).mono ?_;rintro e w2 ⟨rfl,DA⟩;go_wp2
 go_ret2;exact ⟨rfl,A2.trans (DA.mono A2.size)⟩
theorem Pd (k b:Str) (w:World) (hk:k.length<=268435456) (hm:B.medB k=false):
 Calls prog 32 #[Sv k,Sv b] w fun e w'=>e= .returned (.tuple #[.string ⟨#[]⟩,Iv 3])/\Below w.heap.size w w':=by
 go_enter func32,ntmps32;go_wp2_with fail;refine (B.mediaR_any k _ (by omega)).mono ?_;rintro e w1 ⟨rfl,A2⟩;rw[hm];go_wp2
 go_ret2;exact ⟨rfl,A2⟩
theorem Pe (n:Str) (l:List Pm) (A:Option Addr) (c:Nat) (w:World) (hv:Xv w w.heap.size (.slice A l.length c) l) (hl:l.length<=134217728) (E2: ∀p∈l,p.name.length<=134217728) (A1: ∀p∈l,p.vals≠[]) (L2: ∀p∈l,∀s∈p.vals,s.length<=134217728):
 Calls prog 92 #[Sv n,.slice A l.length c] w fun e w'=>e= .returned (.string ⟨(Bb n l).toArray⟩)/\Below w.heap.size w w':=by
 have HV:=hid hv;have N0:=hid E2;have HS:=hid A1;have ZK:=hid L2;clear hv E2 A1 L2;go_enter func92,ntmps92;go_wp2_with fail;refine (Gu l Ae A c w HV.out (by omega) (fun p hp=>Nat.le_trans (N0.out p hp) (by omega)) (by decide)).mono ?_;rintro e w1 ⟨rfl,hb⟩;have HB:=hid hb;have I1:=hb.size;clear hb;rcases DO l Ae with ⟨hf,hq⟩|⟨k,p,hf,hk,hd,hq⟩
 ·have HM:=hid (show Bb n l=O4 by unfold Bb;rw[hq]);rw[hf];clear hf hq;go_wp2
  go_ret;exact ⟨by rw[HM.out];rfl,HB.out⟩
 ·have HM:=hid (show Bb n l=(if n==BV||n==CN then Dx else if n==Bn then Et else CX)++loS (p.vals.headD []) by unfold Bb;rw[hq]);rw[hf];obtain ⟨b,o,p',u,rfl,B3,N1,c0,c1,E9⟩:=(HV.out.keep HB.out zL).at_ hk;rw[hd] at N1;obtain rfl:p=p':=(by simpa using N1);have E0:p∈l:=List.mem_of_mem_drop (show p∈l.drop k by rw[hd];simp);have A1:=HS.out p E0;obtain ⟨s,r,I2⟩: ∃s r,p.vals=s::r:=List.exists_cons_of_ne_nil A1;have aE:=ZK.out p E0 s (by rw[I2];simp);obtain ⟨B,d,rfl⟩:=E9.form;obtain ⟨b2,o2,s',rfl,ZV,N2,c2⟩:=E9.at_ (k:=0) (by rw[I2];simp);rw[I2] at N2 HM;obtain rfl:s=s':=(by simpa using N2);have L1:0<p.vals.length:=by rw[I2];simp
  have ZL:=hid c1;have ZM:=hid c2;clear hf hq hd N1 E9 N2 A1 c0 c1 c2;go_upto_region 4 with fail;refine wp_region_lit ?_;refine Bg rfl 81 rfl .string ?_;intro wm r hr hw hF;have B2:Below w1.heap.size w1 wm:=by rw[hw];exact zA
  have I3:w1.heap.size<=r:=by rw[hr];exact Nat.le_refl _
  clear hw hr;refine BA rfl 81 9 9 _ _ _ (.inl rfl) underlying81 .string underlying9 _ _ hF rfl (Sv BV) (Sv Dx) rfl rfl trivial ?_;clear hF;intro aF hF AB _;replace B2:=AB.out _ _ I3 B2;clear AB;refine BA rfl 81 9 9 _ _ _ (.inl rfl) underlying81 .string underlying9 _ _ hF rfl (Sv CN) (Sv Dx) rfl rfl trivial ?_;clear hF;intro aG hF AB _;replace B2:=AB.out _ _ I3 B2;clear AB;refine BA rfl 81 9 9 _ _ _ (.inl rfl) underlying81 .string underlying9 _ _ hF rfl (Sv Bn) (Sv Et) rfl rfl trivial ?_;clear hF;intro aH hF AB _;replace B2:=AB.out _ _ I3 B2;clear AB;have c1:=(B2.cell (p:=(Ad b (o+k*2+1))) (show b<_ by omega)).trans ZL.out;have c2:=(B2.cell (p:=(Ad b2 (o2+0))) (show b2<_ by omega)).trans ZM.out;rw[Nat.add_zero] at c2;have H8:=hid (HB.out.trans (B2.mono I1));obtain ⟨kn,HR⟩: ∃kn,Rp n=kn:=⟨_,rfl⟩;have X2:=hid HR;have N3:=Uv n;rw[HR] at N3;have OV:=hid N3;clear HR N3 B2 I3;have I4:=hid (show (kn=Dx/\Bb n l=Dx++loS s)∨(kn=Et/\Bb n l=Et++loS s)∨(kn=[]/\Bb n l=CX++loS s) by
   rw[HM.out,<-X2.out];unfold Rp;split
   ·exact .inl ⟨rfl,rfl⟩
   ·split
    ·exact .inr (.inl ⟨rfl,rfl⟩)
    ·exact .inr (.inr ⟨rfl,rfl⟩))
  clear HM X2;rcases I4.out with ⟨rfl,hm⟩|⟨rfl,hm⟩|⟨rfl,hm⟩
  ·have HM:=hid hm;clear hm I4;go_wp2_with (at_lookup;refine Al rfl 81 9 9 _ _ false rfl underlying81 .string underlying9 (.string ⟨#[]⟩) (fun _=>by kernel_rfl) _ _ hF rfl (Sv n) rfl trivial (.string ⟨#[105,109,97,103,101,47]⟩) (by exact OV.out) ?_);refine (Em s _ (by omega)).mono ?_;rintro e w9 ⟨rfl,A9⟩;have HF:=Ln s;have DD:=hid (H8.out.trans (A9.mono H8.out.size));clear A9;go_wp2
   go_ret;exact ⟨by rw[HM.out,<-AM];rfl,DD.out⟩
  ·have HM:=hid hm;clear hm I4;go_wp2_with (at_lookup;refine Al rfl 81 9 9 _ _ false rfl underlying81 .string underlying9 (.string ⟨#[]⟩) (fun _=>by kernel_rfl) _ _ hF rfl (Sv n) rfl trivial (.string ⟨#[97,117,100,105,111,47]⟩) (by exact OV.out) ?_);refine (Em s _ (by omega)).mono ?_;rintro e w9 ⟨rfl,A9⟩;have HF:=Ln s;have DD:=hid (H8.out.trans (A9.mono H8.out.size));clear A9;go_wp2
   go_ret;exact ⟨by rw[HM.out,<-AM];rfl,DD.out⟩
  ·have HM:=hid hm;clear hm I4;go_wp2_with (at_lookup;refine Al rfl 81 9 9 _ _ false rfl underlying81 .string underlying9 (.string ⟨#[]⟩) (fun _=>by kernel_rfl) _ _ hF rfl (Sv n) rfl trivial (.string ⟨#[]⟩) (by exact OV.out) ?_);refine (Em s _ (by omega)).mono ?_;rintro e w9 ⟨rfl,A9⟩;have HF:=Ln s;have DD:=hid (H8.out.trans (A9.mono H8.out.size));clear A9;go_wp2
   go_ret;exact ⟨by rw[HM.out,<-AM];rfl,DD.out⟩
theorem FQ.low {w w':World} {r:Nat} {kd:TypeDesc} {f:Value->Option Value} (h:FQ w r kd f) (hb:Below w.heap.size w w'):FQ w' r kd f:=by obtain ⟨E,c,h1,h2⟩:=h;exact ⟨E,c,(hb.block r (Array.getElem?_eq_some_iff.1 h1).1).trans h1,h2⟩
theorem Uy (l:Str):Xs (Xs l)=Xs l:=by
 unfold Xs;rw[List.map_map]
 congr 1
 funext c;have: ∀c:Fin 256,Xq (Xq (UInt8.ofNat c.val))=Xq (UInt8.ofNat c.val):=(by decide+kernel);have h:=this ⟨c.toNat,c.toNat_lt⟩;simp only[UInt8.ofNat_toNat] at h;exact h
theorem TO (n:Str) (v:Int):AR (Xs n) v=AR n v:=by unfold AR;rw[Uy]
theorem Kk (u:Str) (l:List It) (x:It):cntN u (l++[x])=cntN u l+(if Xs x.name==u then 1 else 0):=by
 unfold cntN;rw[List.filter_append,List.length_append];by_cases h:(Xs x.name==u)=true
 ·rw[if_pos h];simp[h]
 ·rw[if_neg h];simp[h]
theorem Pn (u:Str) (l:List It):cntN u l<=l.length:=by unfold cntN;exact List.length_filter_le _ _
theorem If {v:Int} {x:It} {r:List It} {k:Nat} {e:Int} (h:CY x v=e) (he:e≠0):By v k (x::r)=some (e,(k:Int)):=by unfold By;rw[h,if_neg he]
theorem Kl {v:Int} {x:It} {r:List It} {k:Nat} (h:CY x v=0):By v k (x::r)=By v (k+1) r:=by
 conv=>lhs;unfold By
 rw[h,if_pos rfl]
theorem Ig {v:Int} {x:It} {seen r:List It} (h:0<(AR x.name v).most/\(AR x.name v).most<=(cntN (Xs x.name) seen:Int)):Ba v seen (x::r)=some seen.length:=by rw[Ba,if_pos h]
theorem FA {v:Int} {x:It} {seen r:List It} (h: ¬(0<(AR x.name v).most/\(AR x.name v).most<=(cntN (Xs x.name) seen:Int))):Ba v seen (x::r)=Ba v (seen++[x]) r:=by rw[Ba,if_neg h]
theorem FC {c:Cd} (h:c.version≠3/\c.version≠4):BM c=(1, -1):=by unfold BM;rw[if_pos h]
theorem Ih {c:Cd} (h: ¬(c.version≠3/\c.version≠4)) (h2:60<c.items.length):BM c=(4, -1):=by unfold BM;rw[if_neg h,if_pos h2]
def Bz (v:Int) (items:List It) (n:Str):Bool:=decide ((AR n v).least<=(cntN n items:Int))
theorem Po (v:Int) (items:List It):(EP v).all (fun r=>decide ((AR r.1 v).least<=(cntN r.1 items:Int)))=(AI v).all (Bz v items):=by unfold AI;rw[List.all_map];rfl
theorem Ii {c:Cd} (h: ¬(c.version≠3/\c.version≠4)) (h2: ¬60<c.items.length):BM c=(match By c.version 0 c.items with
 |some f=>f
 |none=>match Ba c.version [] c.items with
  |some i=>(9,(i:Int))
  |none=>if (AI c.version).all (Bz c.version c.items) then (0, -1) else (7, -1)):=by
 unfold BM;rw[if_neg h,if_neg h2,Po];rfl
structure Qf (w:World) (c:Cd) (A:Option Addr) (k:Nat):Prop where
 its:Its w w.heap.size (.slice A c.items.length k) c.items
 b: ∀x∈c.items,Yq x
theorem Qf.keep {w w':World} {c:Cd} {A:Option Addr} {k:Nat} (h:Qf w c A k) (hb:Below w.heap.size w w'):Qf w' c A k:=⟨h.its.keep hb hb.size,h.b⟩
def CntF (F:Value->Option Value) (l:List It):Prop:= ∀u:Str,(F (Sv u)).getD (Iv 0)=Iv (cntN u l)
theorem Km (v:Int): ∀n∈AI v,n.length<=100:=by unfold AI EP;split<;>decide
theorem Gy (v:Int):(AI v).length<=100:=by unfold AI EP;split<;>decide
theorem CntF.nil:CntF (fun _=>none) []:=fun _=>rfl
theorem CntF.snoc {F:Value->Option Value} {l:List It} {x:It} (h:CntF F l):CntF (Dm F (.string ⟨(Xs x.name).toArray⟩) (.int .i64 ((cntN (Xs x.name) l:Int)+1))) (l++[x]):=fun u=>by
 unfold Dm;rw[Kk];by_cases hu:u=Xs x.name
 ·subst hu;rw[if_pos rfl];simp
 ·rw[if_neg (Ap hu),h u];have:(Xs x.name==u)=false:=(by simpa using fun e=>hu e.symm);rw[this];simp
theorem Pp (v:Int) (h3:v≠3) (h4:v≠4) (w:World):Calls prog 37 #[Iv v] w fun e w'=>e= .returned (.tuple #[.slice none 0 0,.iface 26 (Iv 1)])/\Below w.heap.size w w':=by
 have q3:(v != 3)=true:=(by simpa using h3);have q4:(v != 4)=true:=(by simpa using h4);go_enter func37,ntmps37;go_wp2
 go_ret2;exact ⟨rfl,by first|exact zB|exact zA⟩
theorem Nn (v:Int) (h3:v≠3) (h4:v≠4) (w:World):Calls prog 24 #[Iv v] w fun e w'=>e= .returned (.tuple #[.slice none 0 0,Iv 1])/\Below w.heap.size w w':=by
 have q3:(v != 3)=true:=(by simpa using h3);have q4:(v != 4)=true:=(by simpa using h4);go_enter func24,ntmps24;go_wp2
 go_ret2;exact ⟨rfl,by first|exact zB|exact zA⟩
theorem Kn (x:It): ∀(l:List It) (i:Nat),Cf i (l++[x])=if AF x.name O3 then some (i+l.length) else Cf i l
 |[],i=>by rw[List.nil_append,Cf,Cf];rfl
 |y::l,i=>by
  rw[List.cons_append,Cf,Kn x l (i+1),Cf];cases AF x.name O3 with
  |true=>
   simp only[if_true,List.length_cons]
   congr 1
   omega
  |false=>rfl
theorem Lo: ∀(l:List It) (i k:Nat),Cf i l=some k->i<=k/\k<i+l.length
 |[],_,_,h=>by rw[Cf] at h;cases h
 |y::l,i,k,h=>by
  rw[Cf] at h;cases hl:Cf (i+1) l with
  |some m=>
   rw[hl] at h;have:=Lo l (i+1) m hl;have hk:m=k:=(by simpa using h);subst hk;rw[List.length_cons];omega
  |none=>
   rw[hl] at h;rw[List.length_cons];cases hs:AF y.name O3 with
   |true=>
    rw[hs] at h;have:i=k:=(by simpa using h);omega
   |false=>rw[hs] at h;simp at h
def CB (l:List It):Int:=match Cf 0 l with
 |some k=>(k:Int)
 |none=> -1
theorem Ij {l:List It} {i:Nat} {x:It} (h:l[i]? =some x):CB (l.take (i+1))=if AF x.name O3 then (i:Int) else CB (l.take i):=by have hi:i<l.length:=(List.getElem?_eq_some_iff.1 h).1;unfold CB;rw[List.take_add_one,h];show (match Cf 0 (l.take i++[x]) with|some k=>(k:Int)|none=> -1)=_;rw[Kn,List.length_take,Nat.zero_add,Nat.min_eq_left (by omega)];cases AF x.name O3<;>rfl
theorem Uz:CB []= -1:=rfl
theorem Gz {l:List It} {i:Nat} {x:It} (h:l[i]? =some x):BQ (l.take (i+1))=Ax (BQ (l.take i)) x:=by unfold BQ;rw[List.take_add_one,h,List.foldl_append];rfl
theorem Tt (l:List It):BQ (l.take l.length)=BQ l:=by rw[List.take_length]
theorem G0 {out:List It} {x:It} (h:AF x.name AZ=false∨(x.val.type==1)=false):Ax out x=out++[x]:=by
 have:CP out x=none:=by
  unfold CP;rcases h with h|h
  ·rw[h];rfl
  ·rw[h,Bool.and_false];rfl
 unfold Ax;rw[this]
theorem Ko {out:List It} {x:It} (h:CB out<0):Ax out x=out++[x]:=by
 have:CP out x=none:=by
  unfold CP;unfold CB at h;cases hl:Cf 0 out with
  |none=>cases (AF x.name AZ&&x.val.type==1)<;>rfl
  |some k=>rw[hl] at h;simp at h;omega
 unfold Ax;rw[this]
theorem Lp {out:List It} {x:It} {k:Nat} (h:CB out=(k:Int)) (hh:F7 AZ (out.getD k default).ps=true):Ax out x=out++[x]:=by
 have:CP out x=none:=by
  unfold CP;unfold CB at h;cases hl:Cf 0 out with
  |none=>cases (AF x.name AZ&&x.val.type==1)<;>rfl
  |some m=>
   rw[hl] at h;have:m=k:=by have:(m:Int)=(k:Int):=h;omega
   subst this;simp only[hh];cases (AF x.name AZ&&x.val.type==1)<;>rfl
 unfold Ax;rw[this]
theorem Lq {out:List It} {x:It} {k:Nat} (h1:AF x.name AZ=true) (h2:(x.val.type==1)=true) (h:CB out=(k:Int)) (hh:F7 AZ (out.getD k default).ps=false):
 Ax out x=out.set k {out.getD k default with ps:=(out.getD k default).ps++[⟨AZ,[x.val.text]⟩]}:=by
 have:CP out x=some k:=by
  unfold CP;unfold CB at h;cases hl:Cf 0 out with
  |none=>rw[hl] at h;simp at h
  |some m=>
   rw[hl] at h;have:m=k:=by have:(m:Int)=(k:Int):=h;omega
   subst this;simp only[hh,h1,h2];rfl
 unfold Ax;rw[this];rfl
theorem M4 {out:List It} {k:Nat} (h:CB out=(k:Int)):k<out.length:=by
 unfold CB at h;cases hl:Cf 0 out with
 |none=>rw[hl] at h;simp at h
 |some m=>
  rw[hl] at h;have:m=k:=by have:(m:Int)=(k:Int):=h;omega
  subst this;have:=Lo out 0 m hl;omega
theorem G3 (out:List It):CB out= -1∨ ∃k:Nat,CB out=(k:Int)/\k<out.length:=by
 cases hl:Cf 0 out with
 |none=>left;unfold CB;rw[hl]
 |some m=>
  right
  have h:CB out=(m:Int):=by unfold CB;rw[hl]
  exact ⟨m,h,M4 h⟩
theorem G5: ∀(pre Y r:List It) (i:Nat),pre.map Bi=Y.map some->Da i (pre++r)=(match Da (i+pre.length) r with
 | .inl k=> .inl k
 | .inr l=> .inr (Y++l))
 |[],[],r,i,_=>by rw[List.nil_append,List.length_nil,Nat.add_zero];cases Da i r<;>rfl
 |[],_::_,_,_,h=>by simp at h
 |_::_,[],_,_,h=>by simp at h
 |x::pre,y::Y,r,i,h=>by simp only[List.map_cons,List.cons.injEq] at h;rw[List.cons_append,Da,h.1,G5 pre Y r (i+1) h.2,List.length_cons,show i+1+pre.length=i+(pre.length+1) by omega];cases Da (i+(pre.length+1)) r<;>rfl
theorem Kq {l Y:List It} {i:Nat} {x:It} (h:(l.take i).map Bi=Y.map some) (hx:l[i]? =some x) (hb:Bi x=none):Da 0 l= .inl i:=by
 have hi:i<l.length:=(List.getElem?_eq_some_iff.1 hx).1;have h1:=G5 (l.take i) Y (l.drop i) 0 h;rw[List.take_append_drop,List.length_take,Nat.zero_add,Nat.min_eq_left (by omega)] at h1;have hd:l.drop i=x::l.drop (i+1):=by rw[List.drop_eq_getElem_cons hi];rw[List.getElem?_eq_getElem hi] at hx;rw[Option.some.inj hx]
 rw[h1,hd,Da,hb]
theorem M5 {l Y:List It} (h:l.map Bi=Y.map some):Da 0 l= .inr Y:=by have h1:=G5 l Y [] 0 h;rw[List.append_nil,Da] at h1;simpa using h1
theorem M6 {l Y:List It} {i:Nat} {x y:It} (h:(l.take i).map Bi=Y.map some) (hx:l[i]? =some x) (hb:Bi x=some y):(l.take (i+1)).map Bi=(Y++[y]).map some:=by rw[List.take_add_one,hx,List.map_append,List.map_append,h];simp[hb]
theorem Lr (a b:List Pm):Yb (a++b)=Yb a+Yb b:=by unfold Yb;rw[List.map_append,List.sum_append]
theorem FT (f:Pm->Bool): ∀l:List Pm,Yb (l.filter f)<=Yb l
 |[]=>Nat.le_refl _
 |p::l=>by
  have ih:=FT f l;rw[List.filter_cons];have h1:Yb (p::l)=wP p+Yb l:=by unfold Yb;rw[List.map_cons,List.sum_cons]
  split
  ·have h2:Yb (p::l.filter f)=wP p+Yb (l.filter f):=by unfold Yb;rw[List.map_cons,List.sum_cons]
   omega
  ·omega
theorem Kr (f:Str->Bool): ∀l:List Str,wS (l.filter f)<=wS l
 |[]=>Nat.le_refl _
 |p::l=>by
  have ih:=Kr f l;rw[List.filter_cons];have h1:wS (p::l)=p.length+1+wS l:=by unfold wS;rw[List.map_cons,List.sum_cons]
  split
  ·have h2:wS (p::l.filter f)=p.length+1+wS (l.filter f):=by unfold wS;rw[List.map_cons,List.sum_cons]
   omega
  ·omega
theorem M7: ∀l:List Pm,Yb (l.map fun p=>(⟨p.name,Cw p⟩:Pm))<=Yb l
 |[]=>Nat.le_refl _
 |p::l=>by
  have ih:=M7 l;have h1:Yb (p::l)=wP p+Yb l:=by unfold Yb;rw[List.map_cons,List.sum_cons]
  have h2:Yb ((p::l).map fun p=>(⟨p.name,Cw p⟩:Pm))=wP ⟨p.name,Cw p⟩+Yb (l.map fun p=>(⟨p.name,Cw p⟩:Pm)):=by unfold Yb;rw[List.map_cons,List.map_cons,List.sum_cons]
  have h3:wP ⟨p.name,Cw p⟩<=wP p:=by unfold wP Cw;have:=Kr (fun s=> !AF s CA) p.vals;split<;>simp only<;>omega
  omega
theorem Pq (l:List Pm):Yb (Bo l)<=Yb l:=Nat.le_trans (FT _ _) (M7 l)
theorem Ps (l:List Pm):Yb (Cb l)<=Yb l+12:=by
 have h:=Pq l;unfold Cb;split
 ·unfold Gd;rw[Lr];have:Yb [(⟨CM,[[49]]⟩:Pm)]=12:=(by decide);omega
 ·omega
theorem G6 (n:Str) (l:List Pm):Yb (noP n l)<=Yb l:=FT _ _
theorem Rv {l:List Pm} (h: ∀p∈l,p.vals≠[]): ∀p∈Cb l,p.vals≠[]:=by
 have h1: ∀p∈Bo l,p.vals≠[]:=fun p hp e=>by have:=(List.mem_filter.1 hp).2;rw[e] at this;simp at this
 intro p hp;unfold Cb at hp;split at hp
 ·unfold Gd at hp;rcases List.mem_append.1 hp with hp|hp
  ·exact h1 p hp
  ·rw[List.mem_singleton.1 hp];simp
 ·exact h1 p hp
structure Y4 (x:It):Prop where
 group:x.group.length<=10000
 name:x.name.length<=10000
 ps:Yb x.ps<=100000
 text:x.val.text.length<=10000
 parts:YV x.val.parts<=10000
 ne: ∀p∈x.ps,p.vals≠[]
theorem FU (l:Str):(Xs l).length=l.length:=by unfold Xs;simp
theorem Pt (k:Int):(B6 k).length<=20:=by unfold B6;split<;>(try split)<;>(try split)<;>(try split)<;>(try split)<;>(try split)<;>simp[Ca,JI,AK,Ac,AT,Mc]
theorem Ks {x:It} (h:Y4 x):Yq (CO x):=by unfold CO;refine ⟨by have:=h.group;simp only;omega,by have:=h.name;simp only;omega, ?_,by have:=h.text;simp only;omega,by have:=h.parts;simp only;omega⟩;simp only[Gd];rw[Lr];have h1:=G6 AA x.ps;have h2:=h.ps;have h3:=Pt x.val.type;have h4:Yb [(⟨AA,[B6 x.val.type]⟩:Pm)]=5+2+3*((B6 x.val.type).length+1):=(by simp[Yb,wP,wS,AA]);omega
theorem Ik: ∀(n:Nat) (l:List UInt8),l.length<=n->(B.bytes8 l).1.length<=l.length
 |0,l,h=>by rw[B.bytes8_short (by omega)];simp
 |n+1,l,h=>by
  by_cases h8:8<=l.length
  ·obtain ⟨a,b,c,d,e,f,g,i,r,rfl⟩:=B.eight h8;have hr:r.length<=n:=by simp at h;omega
   have ih:=Ik n r hr;rw[B.bytes8];simp only[List.length_cons];omega
  ·rw[B.bytes8_short (by omega)];simp
theorem Pu (l:List UInt8):(B.bits6 l).length=6*l.length:=by
 unfold B.bits6
 induction l with
 |nil=>rfl
 |cons c r ih=>
  rw[List.flatMap_cons,List.length_append,ih,B.binL_length,List.length_cons];omega
theorem JV {l o:List UInt8} (h:B.unB l= .ok o):o.length<=6*l.length:=by
 have hb:(B.bodyOf l).length<=l.length:=by
  unfold B.bodyOf;split
  ·exact Nat.le_refl _
  ·exact Nat.le_trans (B.trim_len _ _) (B.trim_len _ _)
 unfold B.unB at h;split at h
 ·split at h
  ·cases h
  ·split at h
   ·cases h
   ·injection h with h;rw[<-h];have:=Ik _ (B.bits6 (B.bodyOf l)) zL;rw[Pu] at this;omega
 ·cases h
theorem Ls {l:List Pm} {p:Pm} (h:p∈l) {s:Str} (hs:s∈p.vals):s.length<=Yb l:=by have h1:=Bp h;have h2:=DC p;have h3:=C2 hs;omega
theorem EJ (n:Str) (l:List Pm):(Bb n l).length<=24+Yb l:=by
 unfold Bb;cases hf:l.find? (fun p=>AF p.name Ae) with
 |none=>simp[O4]
 |some p=>
  have hp:=List.mem_of_find?_eq_some hf;have h1:(loS (p.vals.headD [])).length<=Yb l:=by
   unfold loS;rw[List.length_map];cases hv:p.vals with
   |nil=>simp
   |cons s r=>exact Ls hp (s:=s) (by rw[hv];simp)
  simp only[List.length_append];split
  ·simp only[Dx,List.length_cons,List.length_nil];omega
  ·split
   ·simp only[Et,List.length_cons,List.length_nil];omega
   ·simp only[CX,List.length_cons,List.length_nil];omega
theorem U0 {n:Str} {x y:It} (hn:n.length<=10000) (h:Y4 x) (hy:CE n x=some y):Yq y:=by
 obtain ⟨h1,h2,h3,h4,h5,h6⟩:=h;have I5:=fun m=>G6 m x.ps;unfold CE at hy;split at hy
 ·unfold BX at hy;split at hy
  ·split at hy
   ·injection hy with hy;subst hy;have:=I5 AA;exact ⟨by simp only;omega,by simp only;omega,by simp only;omega,by simp only;omega,by simp only;omega⟩
   ·cases hy
  ·split at hy
   ·split at hy
    ·cases hy
    ·split at hy
     ·injection hy with hy;subst hy;rename_i bytes hu _;have hl:=JV hu;have he:=B.encL_len bytes;have hm:=EJ n x.ps;have w1:=G6 AE x.ps;have w2:=G6 Ae (noP AE x.ps);have w3:=G6 AA (noP Ae (noP AE x.ps));refine ⟨by simp only;omega,by simp only;omega,by simp only;omega, ?_,by simp[YV]⟩;simp only[KJ,List.length_append,List.length_cons,List.length_nil];omega
     ·cases hy
   ·cases hy
 ·split at hy
  ·unfold Cx at hy;split at hy
   ·injection hy with hy;subst hy;have:=I5 AA;have he:=F5 x.val.text;refine ⟨by simp only;omega, ?_,by simp only;omega, ?_,by simp[YV]⟩
    ·simp only[YY,List.length_append,List.length_cons,List.length_nil];omega
    ·simp only;split<;>omega
   ·cases hy
  ·split at hy
   ·unfold DZ at hy;split at hy
    ·split at hy
     ·split at hy
      ·injection hy with hy;subst hy;rename_i s hg _;have:=I5 AA;have hs:s.length<=5+YV x.val.parts:=by
        unfold SK at hg;split at hg
        ·rename_i a b hp;injection hg with hg;rw[<-hg,hp];simp only[SJ,List.length_append,List.length_cons,List.length_nil,YV,wS,List.map_cons,List.map_nil,List.sum_cons,List.sum_nil];omega
        ·cases hg
       exact ⟨by simp only;omega,by simp only;omega,by simp only;omega,by simp only;omega,by simp[YV]⟩
      ·cases hy
     ·cases hy
    ·cases hy
   ·split at hy
    ·injection hy with hy;subst hy;exact Ks ⟨h1,h2,h3,h4,h5,h6⟩
    ·split at hy
     ·injection hy with hy;subst hy;split
      ·have:=I5 AA;exact ⟨by simp only;omega,by simp only;omega,by simp only;omega,by simp only;omega,by simp only;omega⟩
      ·exact Ks ⟨h1,h2,h3,h4,h5,h6⟩
     ·injection hy with hy;subst hy;exact ⟨by omega,by omega,by omega,by omega,by omega⟩
structure Y5 (x:It):Prop where
 group:x.group.length<=10000
 name:x.name.length<=10000
 ps:Yb x.ps<=90000
 text:x.val.text.length<=10000
 parts:YV x.val.parts<=10000
 ne: ∀p∈x.ps,p.vals≠[]
theorem Y5.t {x:It} (h:Y5 x):Y4 {x with ps:=Cb x.ps}:=
 ⟨h.group,h.name,by have:=Ps x.ps;have:=h.ps;simp only;omega,h.text,h.parts,Rv h.ne⟩
theorem Lt {x y:It} (h:Y5 x) (hy:Bi x=some y):Yq y:=
 U0 (n:=Xs x.name) (by rw[FU];exact h.name) h.t hy
structure Y6 (x:It):Prop where
 group:x.group.length<=2500
 name:x.name.length<=2500
 ps:Yb x.ps<=10000
 text:x.val.text.length<=2500
 parts:YV x.val.parts<=2500
 ne: ∀p∈x.ps,p.vals≠[]
structure Y7 (x:It):Prop where
 group:x.group.length<=2500
 name:x.name.length<=2500
 ps:F7 AZ x.ps=false->Yb x.ps<=10000
 ps2:Yb x.ps<=20000
 text:x.val.text.length<=2500
 parts:YV x.val.parts<=2500
 ne: ∀p∈x.ps,p.vals≠[]
theorem Y6.l {x:It} (h:Y6 x):Y7 x:=⟨h.group,h.name,fun _=>h.ps,by have:=h.ps;omega,h.text,h.parts,h.ne⟩
theorem Y7.p {x:It} (h:Y7 x):Y5 x:=⟨by have:=h.group;omega,by have:=h.name;omega,by have:=h.ps2;omega,by have:=h.text;omega,by have:=h.parts;omega,h.ne⟩
theorem Y6.b {x:It} (h:Y6 x):Yq x:=⟨by have:=h.group;omega,by have:=h.name;omega,by have:=h.ps;omega,by have:=h.text;omega,by have:=h.parts;omega⟩
theorem Pv {out:List It} {x:It} (h: ∀y∈out,Y7 y) (hx:Y6 x): ∀y∈Ax out x,Y7 y:=by
 intro y hy;unfold Ax at hy;cases hl:CP out x with
 |none=>
  rw[hl] at hy;rcases List.mem_append.1 hy with hy|hy
  ·exact h y hy
  ·rw[List.mem_singleton.1 hy];exact hx.l
 |some k=>
  rw[hl] at hy;rcases List.mem_or_eq_of_mem_set hy with hy|rfl
  ·exact h y hy
  ·unfold CP at hl;split at hl
   ·split at hl
    ·rename_i k' ZN;split at hl
     ·cases hl
     ·injection hl with hl;subst hl;rename_i hh;have hk:=(Lo out 0 k' ZN).2;have hm:out.getD k' default∈out:=(by simp[List.getD,List.getElem?_eq_getElem (show k'<out.length by omega)]);have hq:=h _ hm;have hw:=hq.ps (by simpa using hh);have ht:=hx.text;have hp:F7 AZ (Gd (out.getD k' default).ps AZ x.val.text)=true:=by
       unfold F7 Gd;rw[List.any_append];have:([(⟨AZ,[x.val.text]⟩:Pm)].any fun p=>AF p.name AZ)=true:=(by simp[AF]);rw[this,Bool.or_true]
      refine ⟨hq.group,hq.name,fun h=> ?_, ?_,hq.text,hq.parts,fun p hp=> ?_⟩
      ·simp only at h;rw[hp] at h;cases h
      ·simp only[Gd];rw[Lr];have:Yb [(⟨AZ,[x.val.text]⟩:Pm)]=5+2+3*(x.val.text.length+1):=(by simp[Yb,wP,wS,AZ]);omega
      ·simp only[Gd] at hp;rcases List.mem_append.1 hp with hp|hp
       ·exact hq.ne p hp
       ·rw[List.mem_singleton.1 hp];simp
    ·cases hl
   ·cases hl
theorem M8: ∀(l out:List It),(∀y∈out,Y7 y)->(∀x∈l,Y6 x)-> ∀y∈l.foldl Ax out,Y7 y
 |[],_,h,_=>h
 |x::l,out,h,hq=>M8 l (Ax out x) (Pv h (hq x (by simp))) fun y hy=>hq y (by simp[hy])
theorem D1 {l:List It} (h: ∀x∈l,Y6 x): ∀y∈BQ l,Y7 y:=M8 l [] (fun _ h=>by simp at h) h
theorem Lu (out:List It) (x:It):(Ax out x).length<=out.length+1:=by unfold Ax;split<;>simp
theorem Il: ∀(l out:List It),(l.foldl Ax out).length<=out.length+l.length
 |[],_=>by simp
 |x::l,out=>by have h1:=Il l (Ax out x);have h2:=Lu out x;rw[List.foldl_cons,List.length_cons];omega
theorem Cu (l:List It):(BQ l).length<=l.length:=by have:=Il l [];simpa[BQ] using this
theorem Kt {c:Cd} (h:(BM c).1≠0):upC c=(BM c,noC):=by unfold upC;rw[if_pos h]
theorem Ku {c:Cd} (h:(BM c).1=0) (h2:c.version≠3):upC c=((6, -1),noC):=by unfold upC;rw[if_neg (by omega),if_pos h2]
theorem Pw {c:Cd} {i:Nat} (h:(BM c).1=0) (h2:c.version=3) (h3:Da 0 (BQ c.items)= .inl i):upC c=((13,(i:Int)),noC):=by unfold upC;rw[if_neg (by omega),if_neg (by omega),h3]
theorem G7 {c:Cd} {l:List It} (h:(BM c).1=0) (h2:c.version=3) (h3:Da 0 (BQ c.items)= .inr l) (h4:(BM ⟨4,l⟩).1≠0):upC c=((13, -1),noC):=by unfold upC;rw[if_neg (by omega),if_neg (by omega),h3];simp only;rw[if_pos h4]
theorem SQ {c:Cd} {l:List It} (h:(BM c).1=0) (h2:c.version=3) (h3:Da 0 (BQ c.items)= .inr l) (h4:(BM ⟨4,l⟩).1=0):upC c=((0, -1),⟨4,l⟩):=by unfold upC;rw[if_neg (by omega),if_neg (by omega),h3];simp only;rw[if_neg (by omega)]
theorem Im {v:Int}: ∀{l:List It} {i:Nat},By v i l=none-> ∀x∈l,CY x v=0
 |[],_,_,_,h=>by simp at h
 |x::r,i,h,y,hy=>by
  unfold By at h;split at h
  ·rename_i h0;rcases List.mem_cons.1 hy with rfl|hy
   ·exact h0
   ·exact Im h y hy
  ·cases h
theorem In: ∀{l seen:List Pm},B7 seen l=0-> ∀p∈l,BS p=true
 |[],_,_,_,h=>by simp at h
 |p::r,seen,h,q,hq=>by
  unfold B7 at h;split at h
  ·cases h
  ·rename_i hf;split at h
   ·cases h
   ·rcases List.mem_cons.1 hq with rfl|hq
    ·simpa using hf
    ·exact In h q hq
theorem TP {x:It} {v:Int} (h:CY x v=0): ∀p∈x.ps,p.vals≠[]:=by
 have hp:B7 [] x.ps=0:=by
  unfold CY at h;split at h
  ·rename_i h1;exact absurd h h1
  ·split at h
   ·cases h
   ·split at h
    ·rename_i h1;exact absurd h h1
    ·rename_i h1;exact Classical.not_not.1 h1
 intro p E0 e;have:=In hp p E0;unfold BS at this;rw[e] at this;simp at this
theorem Io {c:Cd} (h:(BM c).1=0): ∀x∈c.items,CY x c.version=0:=by
 unfold BM at h;split at h
 ·cases h
 ·split at h
  ·cases h
  ·split at h
   ·rename_i f hf;exfalso;have: ∀{l:List It} {i:Nat} {f:Int×Int},By c.version i l=some f->f.1≠0:=by
     intro l
     induction l with
     |nil=>intro i f h;cases h
     |cons x r ih=>
      intro i f h;unfold By at h;split at h
      ·exact ih h
      ·rename_i hx;injection h with h;rw[<-h];exact hx
    exact this hf h
   ·rename_i hn;exact Im hn
theorem JW {c:Cd} (h:(BM c).1=0): ∀x∈c.items,∀p∈x.ps,p.vals≠[]:=fun x hx=>TP (Io h x hx)
theorem G8 {c:Cd} (h:(BM c).1=0):c.items.length<=60:=by
 unfold BM at h;split at h
 ·cases h
 ·split at h
  ·cases h
  ·omega
section
theorem Ip:(prog.info? 44).map (fun i=>(i.zero,i.size,i.bytes))=some (some (.agg Z15),15,176):=by kernel_rfl
def InJ (w:World) (P:Nat->Prop) (base:Nat) (v:Value) (k:Nat):Prop:=P k∨(base<=k/\Off w v k)
structure EK (w:World) (P:Nat->Prop) (base:Nat) (v:Value) (L:List (It×Value×Value)):Prop where
 row:BN w base 44 15 v L.length (L.map Qd)
 pms: ∀q∈L,Ah w (InJ w P base v) q.2.1 q.1.ps
 lls: ∀q∈L,BY w (InJ w P base v) q.2.2 q.1.val.parts
 low: ∀k,P k->k<base
 le:base<=w.heap.size
section
variable {w w':World} {P:Nat->Prop} {base:Nat} {v:Value} {L:List (It×Value×Value)}
theorem EK.nil (hP: ∀k,P k->k<base) (hb:base<=w.heap.size):EK w P base (.slice none 0 0) []:=⟨BN.nil _ _ _ _,fun _ h=>by simp at h,fun _ h=>by simp at h,hP,hb⟩
theorem EK.move (h:EK w P base v L) (hk: ∀k,(P k∨base<=k)->k<w.heap.size->w'.heap[k]? =w.heap[k]?) (hs:w.heap.size<=w'.heap.size):EK w' P base v L:=by
 have hm: ∀k,InJ w P base v k->w'.heap[k]? =w.heap[k]? :=fun k A0=>by
  have hl:=h.low;have he:=h.le;rcases A0 with A0|A0
  ·exact hk k (.inl A0) (Nat.lt_of_lt_of_le (hl k A0) he)
  ·exact hk k (.inr A0.1) A0.2.1
 have hi: ∀k,InJ w P base v k->InJ w' P base v k:=fun k A0=>by
  rcases A0 with A0|A0
  ·exact .inl A0
  ·exact .inr ⟨A0.1,Nat.lt_of_lt_of_le A0.2.1 hs,A0.2.2⟩
 exact ⟨h.row.hi ⟨hs,fun b h1 h2=>hk b (.inr h1) h2⟩,fun q hq=>(h.pms q hq).move hm hi,fun q hq=>(h.lls q hq).move hm hi,h.low,Nat.le_trans h.le hs⟩
theorem EK.keep (h:EK w P base v L) (hb:Below w.heap.size w w'):EK w' P base v L:=h.move (fun k _ hk=>hb.block k hk) hb.size
theorem EK.form (h:EK w P base v L): ∃A c,v= .slice A L.length c:=h.row.form
theorem EK.its (h:EK w P base v L):Its w w.heap.size v (L.map (·.1)):=by
 have X3: ∀k,InJ w P base v k->k<w.heap.size:=fun k hk=>by
  rcases hk with hk|hk
  ·exact Nat.lt_of_lt_of_le (h.low k hk) h.le
  ·exact hk.2.1
 refine ⟨fun i=>(L.getD i (default,undef,undef)).2.1,fun i=>(L.getD i (default,undef,undef)).2.2, ?_,fun i hi=> ?_⟩
 ·rw[List.length_map];refine h.row.sl.congr fun i hi j hj=> ?_;rw[Aw Qd L i (default,undef,undef) [] hi,Aw (·.1) L i (default,undef,undef) default hi];rfl
 ·rw[List.length_map] at hi;rw[Aw (·.1) L i (default,undef,undef) default hi];exact ⟨(h.pms _ (C5 L i _ hi)).pms X3,(h.lls _ (C5 L i _ hi)).lls X3⟩
theorem EK.snoc {x:It} {pv qv v':Value} {g:Nat} (h:EK w P base v L) (hg:w.grownBy w' v.ownBlock) (ZO:v.ownBlock=some g∨g=w.heap.size) (ZP:v'.ownBlock=some g) (hu:Ah w (InJ w P base v) pv x.ps) (ZQ:BY w (InJ w P base v) qv x.val.parts)
 (h':w'.ownsRow base 44 15 v' (L.length+1) ((L.map Qd).flatten++Xx x pv qv)):EK w' P base v' (L++[(x,pv,qv)]):=by
 have ho:=Ev hg ZO ZP hg.size;have A1: ∀k,P k->v.ownBlock≠some k:=fun k hk e=>by have:=(h.row.row.lt k e).1;have:=h.low k hk;omega
 have hm: ∀k,InJ w P base v k->w'.heap[k]? =w.heap[k]? :=fun k hk=>by
  rcases hk with hk|hk
  ·exact hg.block k (Nat.lt_of_lt_of_le (h.low k hk) h.le) (A1 k hk).symm
  ·exact ho.1 k hk.2
 have hi: ∀k,InJ w P base v k->InJ w' P base v' k:=fun k hk=>by
  rcases hk with hk|hk
  ·exact .inl hk
  ·exact .inr ⟨hk.1,ho.2 k hk.2⟩
 refine ⟨?_,fun q hq=> ?_,fun q hq=> ?_,h.low,Nat.le_trans h.le hg.size⟩
 ·rw[List.map_append,List.length_append];exact h.row.snoc rfl h'
 ·rcases List.mem_append.1 hq with hq|hq
  ·exact (h.pms q hq).move hm hi
  ·rw[List.mem_singleton.1 hq];exact hu.move hm hi
 ·rcases List.mem_append.1 hq with hq|hq
  ·exact (h.lls q hq).move hm hi
  ·rw[List.mem_singleton.1 hq];exact ZQ.move hm hi
theorem EK.at_ {i:Nat} (h:EK w P base v L) (hi:i<L.length):
 ∃(g c:Nat) (x:It) (pv qv:Value),v= .slice (some (Ad g 0)) L.length c/\base<=g/\g<w.heap.size/\L[i]? =some (x,pv,qv)/\Dn w g (i*15) x pv qv/\Ah w (InJ w P base v) pv x.ps/\BY w (InJ w P base v) qv x.val.parts:=by
 obtain ⟨A,c,e⟩:=h.form;subst e;obtain ⟨g,rfl⟩:=h.row.some_ (by omega);have XB:=h.row.low_base;have hq:L[i]? =some L[i]:=List.getElem?_eq_getElem hi;obtain ⟨⟨x,pv,qv⟩,ZR⟩: ∃q,L[i]=q:=⟨_,rfl⟩;rw[ZR] at hq;have hm:(x,pv,qv)∈L:=List.mem_of_getElem? hq;have hg:(L.map Qd).getD i []=Xx x pv qv:=by rw[Aw Qd L i (default,undef,undef) [] hi];simp only[List.getD,hq,Option.getD_some];rfl
 have hc: ∀j,j<15->w.cell? (Ad g (i*15+j))=(Xx x pv qv)[j]? :=fun j hj=>(by rw[h.row.cellAt hi hj,hg]);exact ⟨g,c,x,pv,qv,rfl,XB.1,XB.2,hq,⟨hc 0 (by omega),hc 1 (by omega),hc 2 (by omega),hc 3 (by omega),hc 4 (by omega),hc 5 (by omega),hc 6 (by omega),hc 7 (by omega),hc 8 (by omega),hc 9 (by omega),hc 10 (by omega),hc 11 (by omega),hc 12 (by omega),hc 13 (by omega),hc 14 (by omega)⟩,h.pms _ hm,h.lls _ hm⟩
theorem EK.setP {g c k:Nat} {x:It} {pv qv:Value} (h:EK w P base (.slice (some (Ad g 0)) L.length c) L) (hx:L[k]? =some (x,pv,qv)) (ps:List Pm) (pv':Value) (hp:Ah w (InJ w P base (.slice (some (Ad g 0)) L.length c)) pv' ps):
 EK (w.setCell (Ad g (k*15+2)) pv') P base (.slice (some (Ad g 0)) L.length c) (L.set k ({x with ps:=ps},pv',qv)):=by
 have hk:k<L.length:=(List.getElem?_eq_some_iff.1 hx).1;have hg:(L.map Qd).getD k []=Xx x pv qv:=by rw[Aw Qd L k (default,undef,undef) [] hk];simp only[List.getD,hx,Option.getD_some];rfl
 have aI:=h.row.low_base.1;have ho: ∀b,InJ w P base (.slice (some (Ad g 0)) L.length c) b->b≠g:=fun b hb e=>by
  rcases hb with hb|hb
  ·have:=h.low b hb;omega
  ·exact hb.2.2 (by rw[e];rfl)
 have hm: ∀b,InJ w P base (.slice (some (Ad g 0)) L.length c) b->(w.setCell (Ad g (k*15+2)) pv').heap[b]? =w.heap[b]? :=fun b hb=>heap_setCell_other w _ b _ (ho b hb);have I1:(w.setCell (Ad g (k*15+2)) pv').heap.size=w.heap.size:=(by simp[World.setCell]);have hs: ∀b,InJ w P base (.slice (some (Ad g 0)) L.length c) b->InJ (w.setCell (Ad g (k*15+2)) pv') P base (.slice (some (Ad g 0)) L.length c) b:=fun b hb=>by
  rcases hb with hb|hb
  ·exact .inl hb
  ·exact .inr ⟨hb.1,by rw[I1];exact hb.2.1,hb.2.2⟩
 have ZS:(x,pv,qv)∈L:=List.mem_of_getElem? hx;refine ⟨?_,fun q hq=> ?_,fun q hq=> ?_,h.low,by rw[I1];exact h.le⟩
 ·have h1:=h.row.set_ (i:=k) (j:=2) (by omega) (by omega) pv';rw[hg] at h1;rw[List.map_set,List.length_set];exact h1
 ·rcases List.mem_or_eq_of_mem_set hq with hq|rfl
  ·exact (h.pms q hq).move hm hs
  ·exact hp.move hm hs
 ·rcases List.mem_or_eq_of_mem_set hq with hq|rfl
  ·exact (h.lls q hq).move hm hs
  ·exact (h.lls _ ZS).move hm hs
theorem G9 (w:World) (b:Nat) (hb:b=w.heap.size) (x:It) (pv qv:Value): ∀(j:Nat) u,(Xx x pv qv)[j]? =some u->(w.alloc (.cells (IA x pv qv) 44)).cell? (Ad b j)=some u:=by subst hb;intro j u hu;exact Bc _ _ _ _ (by rw[<-Array.getElem?_toList];exact hu)
end
end
def z44:Value:= .agg Z15
theorem Fj {w:World} {ops:Array Oper} {rest:List Oper} {o:Oper} {a:Act} {Q:Exit->Act->World->Prop} (ZT:o.guard=none) (s t:Operand)
 (ho:o.op= .call {callee:= .builtin .append,args:= #[s,t],argTypes:= #[22,22]}) (base:Nat) (v:Value) (n:Nat) (xs:List Value) (hs:a.eval s=v) (A4:w.ownsRow base 44 15 v n xs)
 (x:It) (A B:Option Addr) (l m k j b c:Nat) (hx:a.eval t= .slice (some (Ad b 0)) 1 c) (P1: ∀i u,(Xx x (.slice A l k) (.slice B m j))[i]? =some u->w.cell? (Ad b i)=some u) (hn:n<=1073741824) (P2:base<=w.heap.size)
 (h: ∀g cap w',w'.ownsRow base 44 15 (.slice (some (Ad g 0)) (n+1) cap) (n+1) (xs++Xx x (.slice A l k) (.slice B m j))->w.grownBy w' v.ownBlock->Hid (v.ownBlock=some g∨g=w.heap.size)->g<w'.heap.size->Hid (∀w0,Below base w0 w->Below base w0 w')->wpList prog ops Q rest (a.put o.dst (.slice (some (Ad g 0)) (n+1) cap)) w'):wpList prog ops Q (o::rest) a w:=
 AU ZT s t 22 ho base 44 z44 15 176 underlying22 Ip rfl (by decide) (by decide) v n xs hs A4 b c (Xx x (.slice A l k) (.slice B m j)) hx rfl P1 (by simp[Xx,Value.oneCell']) hn P2 h
end Go.Proofs.YtjhpdljphchfaaaGreatDoor
