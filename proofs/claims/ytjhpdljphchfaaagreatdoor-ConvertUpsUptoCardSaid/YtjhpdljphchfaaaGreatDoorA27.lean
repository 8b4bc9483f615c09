/- A part of the proof of ConvertUps: Fits of the program and of the reference walked. -/
import Derived.Test.YtjhpdljphchfaaaGreatDoorA21
import Derived.Test.YtjhpdljphchfaaaGreatDoorA16
import Derived.Laws.OwnMore
import Derived.Deep.AppendSrc
import Derived.Deep.Upon
import Derived.Lib.SliceRun
import Derived.Test.YtjhpdljphchfaaaGreatDoorA19
import Derived.Test.YtjhpdljphchfaaaGreatDoorA26
import Derived.Test.YtjhpdljphchfaaaGreatDoorA23
import Derived.Test.YtjhpdljphchfaaaGreatDoorA10
set_option maxHeartbeats 40000000
set_option maxRecDepth 1000000
set_option linter.all false
namespace Go.Proofs.YtjhpdljphchfaaaGreatDoor
open Go.RowKit
open Go.Proofs.Tryz
section
structure BN (w:World) (base:Nat) (E:TypeId) (size:Nat) (v:Value) (n:Nat) (xs:List (List Value)):Prop where
 row:w.ownsRow base E size v n xs.flatten
 each: ∀x∈xs,x.length=size
 len:xs.length=n
theorem Lc: ∀(xs:List (List Value)) (size i j:Nat),(∀x∈xs,x.length=size)->i<xs.length->j<size->xs.flatten[i*size+j]? =(xs.getD i [])[j]?
 |[],_,i,_,_,hi,_=>absurd hi (Nat.not_lt_zero _)
 |x::xs,size,0,j,h,_,hj=>by have hx:x.length=size:=h x (by simp);rw[List.flatten_cons,Nat.zero_mul,Nat.zero_add,List.getElem?_append_left (by omega)];rfl
 |x::xs,size,i+1,j,h,hi,hj=>by have hx:x.length=size:=h x (by simp);have ih:=Lc xs size i j (fun y hy=>h y (by simp[hy])) (by simpa using hi) hj;have e:(i+1)*size+j=x.length+(i*size+j):=(by rw[Nat.succ_mul,hx];omega);rw[List.flatten_cons,e,List.getElem?_append_right (by omega),Nat.add_sub_cancel_left,ih];rfl
theorem Md: ∀(xs:List (List Value)) (size i j:Nat) (u:Value),(∀x∈xs,x.length=size)->i<xs.length->j<size->xs.flatten.set (i*size+j) u=(xs.set i ((xs.getD i []).set j u)).flatten
 |[],_,i,_,_,_,hi,_=>absurd hi (Nat.not_lt_zero _)
 |x::xs,size,0,j,u,h,_,hj=>by have hx:x.length=size:=h x (by simp);rw[List.flatten_cons,Nat.zero_mul,Nat.zero_add,List.set_append_left _ _ (by omega)];rfl
 |x::xs,size,i+1,j,u,h,hi,hj=>by have hx:x.length=size:=h x (by simp);have ih:=Md xs size i j u (fun y hy=>h y (by simp[hy])) (by simpa using hi) hj;have e:(i+1)*size+j=x.length+(i*size+j):=(by rw[Nat.succ_mul,hx];omega);rw[List.flatten_cons,e,List.set_append_right _ _ (by omega),Nat.add_sub_cancel_left,ih];rfl
section
variable {w w':World} {base:Nat} {E:TypeId} {size n:Nat} {v:Value} {xs:List (List Value)}
theorem BN.nil (w:World) (base:Nat) (E:TypeId) (size:Nat):BN w base E size (.slice none 0 0) 0 []:=⟨World.ownsRow_nil _ _ _ _,fun _ h=>by simp at h,rfl⟩
theorem BN.snoc {news:List Value} (h:BN w base E size v n xs) (hn:news.length=size) {v':Value} (h':w'.ownsRow base E size v' (n+1) (xs.flatten++news)):BN w' base E size v' (n+1) (xs++[news]):=
 ⟨by simpa using h',fun x hx=>by
  rcases List.mem_append.1 hx with hx|hx
  ·exact h.each x hx
  ·rw[List.mem_singleton.1 hx,hn],by simp[h.len]⟩
theorem BN.form (h:BN w base E size v n xs): ∃A c,v= .slice A n c:=by
 rcases h.row.2 with ⟨e,h0⟩|⟨g,cap,_,e,_⟩
 ·exact ⟨none,0,by rw[e,h0]⟩
 ·exact ⟨_,cap,e⟩
theorem BN.low (h:BN w base E size v n xs) (hb:Below w.heap.size w w'):BN w' base E size v n xs:=⟨Cq h.row hb,h.each,h.len⟩
theorem BN.alloc (h:BN w base E size v n xs) (o:Obj):BN (w.alloc o) base E size v n xs:=⟨h.row.alloc o,h.each,h.len⟩
theorem BN.cellAt {g c i j:Nat} (h:BN w base E size (.slice (some (Ad g 0)) n c) n xs) (hi:i<n) (hj:j<size):w.cell? (Ad g (i*size+j))=(xs.getD i [])[j]? :=by have hl:=h.len;have hm:i*size+j<n*size:=(by have:(i+1)*size<=n*size:=Nat.mul_le_mul_right _ hi;rw[Nat.succ_mul] at this;omega);rw[h.row.cellAt _ hm,Lc xs size i j h.each (by omega) hj]
theorem BN.set_ {g c i j:Nat} (h:BN w base E size (.slice (some (Ad g 0)) n c) n xs) (hi:i<n) (hj:j<size) (u:Value):
 BN (w.setCell (Ad g (i*size+j)) u) base E size (.slice (some (Ad g 0)) n c) n (xs.set i ((xs.getD i []).set j u)):=by
 have hl:=h.len;refine ⟨?_,fun x hx=> ?_,by simpa using hl⟩
 ·rw[<-Md xs size i j u h.each (by omega) hj];exact (h.row.stored _ u).1
 ·rcases List.mem_or_eq_of_mem_set hx with hx|rfl
  ·exact h.each x hx
  ·rw[List.length_set];exact h.each _ (by simp[List.getD,List.getElem?_eq_getElem (show i<xs.length by omega)])
theorem BN.low_base {g c:Nat} (h:BN w base E size (.slice (some (Ad g 0)) n c) n xs):base<=g/\g<w.heap.size:=h.row.lt g rfl
theorem BN.sl (h:BN w base E size v n xs):Sl w w.heap.size size v n (fun i j=>(xs.getD i []).getD j undef):=by
 have hl:=h.len;rcases h.row.2 with ⟨e,h0⟩|⟨g,cap,cur,e,TX,hg,I3,_,N2,H9⟩
 ·subst h0;subst e;exact Sl.nil
 ·subst e;refine ⟨some (Ad g 0),cap,rfl,I3,fun _=>⟨g,0,rfl,(Array.getElem?_eq_some_iff.1 hg).1,fun i hi j hj=> ?_⟩⟩;rw[Nat.zero_add,h.cellAt hi hj];have hx:(xs.getD i []).length=size:=h.each _ (by simp[List.getD,List.getElem?_eq_getElem (show i<xs.length by omega)]);have I5:j<(xs.getD i []).length:=(by omega);rw[List.getElem?_eq_getElem I5];show _=some (((xs.getD i [])[j]?).getD undef);rw[List.getElem?_eq_getElem I5];rfl
end
def YZ (w:World) (S:Nat->Prop) (size:Nat) (v:Value) (n:Nat) (f:Nat->Nat->Value):Prop:=
 ∃A c,v= .slice A n c/\n<=c/\(0<n-> ∃b o,A=some (Ad b o)/\S b/\ ∀i,i<n-> ∀j,j<size->w.cell? (Ad b (o+i*size+j))=some (f i j))
def Bj (w:World) (S:Nat->Prop) (v:Value) (l:List Str):Prop:=YZ w S 1 v l.length fun i _=> .string ⟨(l.getD i []).toArray⟩
def Ah (w:World) (S:Nat->Prop) (v:Value) (ps:List Pm):Prop:=
 ∃vs:Nat->Value,(YZ w S 2 v ps.length fun i j=>if j=0 then .string ⟨(ps.getD i default).name.toArray⟩ else vs i)/\ ∀i,i<ps.length->Bj w S (vs i) (ps.getD i default).vals
def BY (w:World) (S:Nat->Prop) (v:Value) (l:List (List Str)):Prop:=
 ∃vs:Nat->Value,(YZ w S 1 v l.length fun i _=>vs i)/\ ∀i,i<l.length->Bj w S (vs i) (l.getD i [])
section
variable {w w':World} {S S':Nat->Prop} {v:Value}
theorem YZ.move {size n:Nat} {f:Nat->Nat->Value} (h:YZ w S size v n f) (hk: ∀k,S k->w'.heap[k]? =w.heap[k]?) (hS: ∀k,S k->S' k):YZ w' S' size v n f:=by obtain ⟨A,c,e,hc,h⟩:=h;refine ⟨A,c,e,hc,fun hn=> ?_⟩;obtain ⟨b,o,e,hl,h⟩:=h hn;exact ⟨b,o,e,hS b hl,fun i hi j hj=>(World.cell?_of_block (w:=w) (a:=(Ad b (o+i*size+j))) (hk b hl)).trans (h i hi j hj)⟩
theorem Bj.move {l:List Str} (h:Bj w S v l) (hk: ∀k,S k->w'.heap[k]? =w.heap[k]?) (hS: ∀k,S k->S' k):Bj w' S' v l:=YZ.move h hk hS
theorem Ah.move {l:List Pm} (h:Ah w S v l) (hk: ∀k,S k->w'.heap[k]? =w.heap[k]?) (hS: ∀k,S k->S' k):Ah w' S' v l:=
 let ⟨vs,h1,h2⟩:=h;⟨vs,h1.move hk hS,fun i hi=>(h2 i hi).move hk hS⟩
theorem BY.move {l:List (List Str)} (h:BY w S v l) (hk: ∀k,S k->w'.heap[k]? =w.heap[k]?) (hS: ∀k,S k->S' k):BY w' S' v l:=
 let ⟨vs,h1,h2⟩:=h;⟨vs,h1.move hk hS,fun i hi=>(h2 i hi).move hk hS⟩
theorem Bj.more {l:List Str} (h:Bj w S v l) (hS: ∀k,S k->S' k):Bj w S' v l:=h.move (fun _ _=>rfl) hS
theorem Ah.more {l:List Pm} (h:Ah w S v l) (hS: ∀k,S k->S' k):Ah w S' v l:=h.move (fun _ _=>rfl) hS
theorem BY.more {l:List (List Str)} (h:BY w S v l) (hS: ∀k,S k->S' k):BY w S' v l:=h.move (fun _ _=>rfl) hS
theorem Bj.strs {l:List Str} {B:Nat} (h:Bj w S v l) (hS: ∀k,S k->k<B):CD w B v l:=h.more hS
theorem Ah.pms {l:List Pm} {B:Nat} (h:Ah w S v l) (hS: ∀k,S k->k<B):Xv w B v l:=h.more hS
theorem BY.lls {l:List (List Str)} {B:Nat} (h:BY w S v l) (hS: ∀k,S k->k<B):Xw w B v l:=h.more hS
theorem CD.x {l:List Str} {B:Nat} (h:CD w B v l):Bj w (· <B) v l:=h
theorem Xv.x {l:List Pm} {B:Nat} (h:Xv w B v l):Ah w (· <B) v l:=h
theorem Xw.x {l:List (List Str)} {B:Nat} (h:Xw w B v l):BY w (· <B) v l:=h
theorem Bj.nil:Bj w S (.slice none 0 0) []:=⟨none,0,rfl,Nat.le_refl _,fun h=>absurd h (Nat.lt_irrefl _)⟩
theorem Ah.nil:Ah w S (.slice none 0 0) []:=⟨fun _=>undef,⟨none,0,rfl,Nat.le_refl _,fun h=>absurd h (Nat.lt_irrefl _)⟩,fun _ h=>absurd h (Nat.not_lt_zero _)⟩
theorem BY.nil:BY w S (.slice none 0 0) []:=⟨fun _=>undef,⟨none,0,rfl,Nat.le_refl _,fun h=>absurd h (Nat.lt_irrefl _)⟩,fun _ h=>absurd h (Nat.not_lt_zero _)⟩
theorem Bj.form {l:List Str} (h:Bj w S v l): ∃A c,v= .slice A l.length c:=let ⟨A,c,e,_⟩:=h;⟨A,c,e⟩
theorem Ah.form {l:List Pm} (h:Ah w S v l): ∃A c,v= .slice A l.length c:=let ⟨_,⟨A,c,e,_⟩,_⟩:=h;⟨A,c,e⟩
theorem BY.form {l:List (List Str)} (h:BY w S v l): ∃A c,v= .slice A l.length c:=let ⟨_,⟨A,c,e,_⟩,_⟩:=h;⟨A,c,e⟩
end
def Off (w:World) (v:Value) (k:Nat):Prop:=k<w.heap.size/\v.ownBlock≠some k
def Cy (w w':World) (k:Nat):Prop:=w.heap.size<=k/\k<w'.heap.size
theorem Ev {w w':World} {v v':Value} {g:Nat} (hg:w.grownBy w' v.ownBlock) (h1:v.ownBlock=some g∨g=w.heap.size) (h2:v'.ownBlock=some g) (hs:w.heap.size<=w'.heap.size):
 (∀k,Off w v k->w'.heap[k]? =w.heap[k]?)/\(∀k,Off w v k->Off w' v' k):=by
 refine ⟨fun k hk=>hg.block k hk.1 hk.2.symm,fun k hk=>⟨by have:=hk.1;omega, ?_⟩⟩;rw[h2];intro e;have e:g=k:=(by simpa using e);rcases h1 with h1|h1
 ·exact hk.2 (by rw[h1,e])
 ·have:=hk.1;omega
def Ya (q:Pm×Value):List Value:=[Sv q.1.name,q.2]
def Qd (q:It×Value×Value):List Value:=Xx q.1 q.2.1 q.2.2
theorem Aw {α β:Type} (f:α->β) (l:List α) (i:Nat) (d:α) (e:β) (h:i<l.length):(l.map f).getD i e=f (l.getD i d):=by simp[List.getD,List.getElem?_eq_getElem h]
theorem C5 {α:Type} (l:List α) (i:Nat) (d:α) (h:i<l.length):l.getD i d∈l:=by simp[List.getD,List.getElem?_eq_getElem h]
structure K9 (w:World) (base:Nat) (E:TypeId) (v:Value) (n:Nat) (L:List (Pm×Value)):Prop where
 row:BN w base E 2 v n (L.map Ya)
 strs: ∀q∈L,Bj w (Off w v) q.2 q.1.vals
structure Me (w:World) (base:Nat) (E:TypeId) (v:Value) (n:Nat) (L:List (It×Value×Value)):Prop where
 row:BN w base E 15 v n (L.map Qd)
 pms: ∀q∈L,Ah w (Off w v) q.2.1 q.1.ps
 lls: ∀q∈L,BY w (Off w v) q.2.2 q.1.val.parts
section
variable {w w':World} {base:Nat} {E:TypeId} {n:Nat} {v:Value}
theorem K9.nil (w:World) (base:Nat) (E:TypeId):K9 w base E (.slice none 0 0) 0 []:=⟨BN.nil _ _ _ _,fun _ h=>by simp at h⟩
theorem Me.nil (w:World) (base:Nat) (E:TypeId):Me w base E (.slice none 0 0) 0 []:=⟨BN.nil _ _ _ _,fun _ h=>by simp at h,fun _ h=>by simp at h⟩
theorem K9.len {L:List (Pm×Value)} (h:K9 w base E v n L):L.length=n:=by simpa using h.row.len
theorem Me.len {L:List (It×Value×Value)} (h:Me w base E v n L):L.length=n:=by simpa using h.row.len
theorem FP (hb:Below w.heap.size w w'):(∀k,Off w v k->w'.heap[k]? =w.heap[k]?)/\(∀k,Off w v k->Off w' v k):=
 ⟨fun k hk=>hb.block k hk.1,fun _ hk=>⟨Nat.lt_of_lt_of_le hk.1 hb.size,hk.2⟩⟩
theorem K9.low {L:List (Pm×Value)} (h:K9 w base E v n L) (hb:Below w.heap.size w w'):K9 w' base E v n L:=
 ⟨h.row.low hb,fun q hq=>(h.strs q hq).move (FP hb).1 (FP hb).2⟩
theorem Me.low {L:List (It×Value×Value)} (h:Me w base E v n L) (hb:Below w.heap.size w w'):Me w' base E v n L:=
 ⟨h.row.low hb,fun q hq=>(h.pms q hq).move (FP hb).1 (FP hb).2,fun q hq=>(h.lls q hq).move (FP hb).1 (FP hb).2⟩
theorem K9.form {L:List (Pm×Value)} (h:K9 w base E v n L): ∃A c,v= .slice A n c:=h.row.form
theorem Me.form {L:List (It×Value×Value)} (h:Me w base E v n L): ∃A c,v= .slice A n c:=h.row.form
theorem YZ.grow {S S':Nat->Prop} {size n:Nat} {f:Nat->Nat->Value} (h:YZ w S size v n f) (hS: ∀k,S k->S' k):YZ w S' size v n f:=h.move (fun _ _=>rfl) hS
theorem BN.slX {size:Nat} {xs:List (List Value)} (h:BN w base E size v n xs):YZ w (fun k=>base<=k/\k<w.heap.size) size v n (fun i j=>(xs.getD i []).getD j undef):=by
 have hl:=h.len;rcases h.row.2 with ⟨e,h0⟩|⟨g,cap,cur,e,TX,hg,I3,_,N2,H9⟩
 ·subst h0;subst e;exact ⟨none,0,rfl,Nat.le_refl _,fun h=>absurd h (Nat.lt_irrefl _)⟩
 ·subst e;refine ⟨some (Ad g 0),cap,rfl,I3,fun _=>⟨g,0,rfl,⟨TX,(Array.getElem?_eq_some_iff.1 hg).1⟩,fun i hi j hj=> ?_⟩⟩;rw[Nat.zero_add,h.cellAt hi hj];have hx:(xs.getD i []).length=size:=h.each _ (by simp[List.getD,List.getElem?_eq_getElem (show i<xs.length by omega)]);have I5:j<(xs.getD i []).length:=(by omega);rw[List.getElem?_eq_getElem I5];show _=some (((xs.getD i [])[j]?).getD undef);rw[List.getElem?_eq_getElem I5];rfl
theorem YZ.congr {S:Nat->Prop} {size:Nat} {f g:Nat->Nat->Value} (h:YZ w S size v n f) (e: ∀i,i<n-> ∀j,j<size->f i j=g i j):YZ w S size v n g:=by obtain ⟨A,c,e1,hc,h⟩:=h;refine ⟨A,c,e1,hc,fun hn=> ?_⟩;obtain ⟨b,o,e2,hl,h⟩:=h hn;exact ⟨b,o,e2,hl,fun i hi j hj=>by rw[h i hi j hj,e i hi j hj]⟩
theorem K9.pmsX {L:List (Pm×Value)} {S:Nat->Prop} (h:K9 w base E v n L) (h1: ∀k,base<=k->k<w.heap.size->S k) (h2: ∀q∈L,Bj w S q.2 q.1.vals):Ah w S v (L.map (·.1)):=by
 have hl:=h.len;subst hl;refine ⟨fun i=>(L.getD i (default,undef)).2, ?_,fun i hi=> ?_⟩
 ·rw[List.length_map];refine (h.row.slX.grow fun k hk=>h1 k hk.1 hk.2).congr fun i hi j hj=> ?_;rw[Aw Ya L i (default,undef) [] hi,Aw (·.1) L i (default,undef) default hi];rcases (show j=0∨j=1 by omega) with rfl|rfl<;>rfl
 ·rw[List.length_map] at hi;rw[Aw (·.1) L i (default,undef) default hi];exact h2 _ (C5 L i _ hi)
theorem K9.pms {L:List (Pm×Value)} (h:K9 w base E v n L):Xv w w.heap.size v (L.map (·.1)):=
 h.pmsX (S:=(· <w.heap.size)) (fun _ _ hk=>hk) (fun q hq=>(h.strs q hq).more fun _ hk=>hk.1)
theorem Me.its {L:List (It×Value×Value)} (h:Me w base E v n L):Its w w.heap.size v (L.map (·.1)):=by
 have hl:=h.len;subst hl;refine ⟨fun i=>(L.getD i (default,undef,undef)).2.1,fun i=>(L.getD i (default,undef,undef)).2.2, ?_,fun i hi=> ?_⟩
 ·rw[List.length_map];refine h.row.sl.congr fun i hi j hj=> ?_;rw[Aw Qd L i (default,undef,undef) [] hi,Aw (·.1) L i (default,undef,undef) default hi];rfl
 ·rw[List.length_map] at hi;rw[Aw (·.1) L i (default,undef,undef) default hi];exact ⟨(h.pms _ (C5 L i _ hi)).pms fun _ hk=>hk.1,(h.lls _ (C5 L i _ hi)).lls fun _ hk=>hk.1⟩
theorem K9.snoc {L:List (Pm×Value)} {p:Pm} {u v':Value} {g:Nat} (h:K9 w base E v n L) (hg:w.grownBy w' v.ownBlock) (N3:v.ownBlock=some g∨g=w.heap.size) (OV:v'.ownBlock=some g) (hu:Bj w (Off w v) u p.vals)
 (h':w'.ownsRow base E 2 v' (n+1) ((L.map Ya).flatten++[Sv p.name,u])):K9 w' base E v' (n+1) (L++[(p,u)]):=by
 have ho:=Ev hg N3 OV hg.size;refine ⟨?_,fun q hq=> ?_⟩
 ·rw[List.map_append];exact h.row.snoc rfl h'
 ·rcases List.mem_append.1 hq with hq|hq
  ·exact (h.strs q hq).move ho.1 ho.2
  ·rw[List.mem_singleton.1 hq];exact hu.move ho.1 ho.2
theorem Me.snoc {L:List (It×Value×Value)} {x:It} {pv qv v':Value} {g:Nat} (h:Me w base E v n L) (hg:w.grownBy w' v.ownBlock) (N3:v.ownBlock=some g∨g=w.heap.size) (OV:v'.ownBlock=some g) (hu:Ah w (Off w v) pv x.ps) (W7:BY w (Off w v) qv x.val.parts)
 (h':w'.ownsRow base E 15 v' (n+1) ((L.map Qd).flatten++Xx x pv qv)):Me w' base E v' (n+1) (L++[(x,pv,qv)]):=by
 have ho:=Ev hg N3 OV hg.size;refine ⟨?_,fun q hq=> ?_,fun q hq=> ?_⟩
 ·rw[List.map_append];exact h.row.snoc rfl h'
 ·rcases List.mem_append.1 hq with hq|hq
  ·exact (h.pms q hq).move ho.1 ho.2
  ·rw[List.mem_singleton.1 hq];exact hu.move ho.1 ho.2
 ·rcases List.mem_append.1 hq with hq|hq
  ·exact (h.lls q hq).move ho.1 ho.2
  ·rw[List.mem_singleton.1 hq];exact W7.move ho.1 ho.2
end
end
theorem KK (size:Nat): ∀xs:List (List Value),(∀x∈xs,x.length=size)->xs.flatten.length=xs.length*size
 |[],_=>by simp
 |x::xs,h=>by rw[List.flatten_cons,List.length_append,KK size xs fun y hy=>h y (by simp[hy]),h x (by simp),List.length_cons,Nat.succ_mul];omega
theorem RI (b o i:Nat):((Ad b o):Addr).add i=(Ad b (o+i)):=by unfold Addr.add;split<;>simp_all
theorem Db {w:World} {ops:Array Oper} {rest:List Oper} {o:Oper} {a:Act} {Q:Exit->Act->World->Prop} (U1:o.guard=none) (s x:Operand) (T:TypeId)
 (ho:o.op= .call {callee:= .builtin .append,args:= #[s,x],argTypes:= #[T,T]})
 (base:Nat) (E:TypeId) (z:Value) (size bytes:Nat) (hT:prog.underlying T=some (.slice E)) (P1:(prog.info? E).map (fun i=>(i.zero,i.size,i.bytes))=some (some z,size,bytes))
 (W8:z.cells.size=size) (P2:0<size) (W9:bytes<=1000)
 (v:Value) (hs:a.eval s=v) (I2:w.ownsRow base E size v 0 [])
 (ad:Addr) (m c:Nat) (xs:List (List Value)) (hx:a.eval x= .slice (some ad) m c) (A9:xs.length=m) (A4: ∀x∈xs,x.length=size)
 (A1:0<m-> ∃b o,ad=(Ad b o)/\ ∀i,i<m-> ∀j,j<size->w.cell? (Ad b (o+i*size+j))=(xs.getD i [])[j]?) (h1: ∀x∈xs,∀u∈x,u.oneCell'=true)
 (hn:m<=1073741824) (I6:base<=w.heap.size)
 (h: ∀v' w',BN w' base E size v' m xs->Hid (∀w0,Below base w0 w->Below base w0 w')->wpList prog ops Q rest (a.put o.dst v') w'):wpList prog ops Q (o::rest) a w:=by
 obtain ⟨i0,hi,IB,U2,WA⟩:=info_parts P1;rcases Nat.eq_zero_or_pos m with h0|h0
 ·subst h0;obtain rfl:xs=[]:=List.eq_nil_of_length_eq_zero A9;have hr: ∀ty,(Builtin.append_ #[T,T] ty #[v,.slice (some ad) 0 c]).run prog w= .ok v w:=by
   intro ty;have MM:Src prog i0.size T (.slice (some ad) 0 c) 0 [] w:=Src.ofSlice w hT ad 0 c [] (by simp) (fun j u hu=>by simp at hu) (fun u hu=>by simp at hu);rcases I2.2 with ⟨rfl,_⟩|⟨g,cap,cur,rfl,_⟩
   ·exact run_append_nothing w T T ty E i0 hT hi none 0 0 zL _ MM
   ·exact run_append_nothing w T T ty E i0 hT hi _ 0 cap (Nat.zero_le _) _ MM
  refine wpList_plain U1 fun _ hK=> ?_;unfold Oper.wp execOp;simp only[ho,resolve,invoke,builtin,Sem.run_bind,Sem.run_pure,Result.andThen_ok,List.map_toArray,List.map_cons,List.map_nil,hs,hx,hr];exact hK _ _ (h v w ⟨I2,A4,rfl⟩ (hid fun _ hb=>hb))
 ·obtain ⟨b,o0,rfl,hc⟩:=A1 h0;have PB:=KK size xs A4;rw[A9] at PB;have A7:(0+m)*bytes<=140737488355328:=Nat.le_trans (Nat.mul_le_mul (show 0+m<=1073741824 by omega) W9) (by omega);refine wpList_append_lies w U1 s x T ho base E i0 z size bytes hT hi IB U2 WA W8 P2 v 0 [] hs I2 (Ad b o0) m c xs.flatten hx PB (fun j u hu=> ?_) (fun u hu=> ?_) h0 (by unfold maxLen;omega) A7 I6 w.heap.size rfl ?_
  ·have hj:j<m*size:=(by rw[<-PB];exact (List.getElem?_eq_some_iff.1 hu).1);have WF:j/size<m:=(Nat.div_lt_iff_lt_mul P2).2 hj;have V5:j%size<size:=Nat.mod_lt _ P2;have hd:j/size*size+j%size=j:=(by rw[Nat.mul_comm];exact Nat.div_add_mod j size);rw[RI,<-hd,<-Nat.add_assoc,hc _ WF _ V5,<-Lc xs size _ _ A4 (by omega) V5,hd,hu]
  ·obtain ⟨y,hy,hu⟩:=List.mem_flatten.1 hu;exact h1 y hy u hu
  ·intro g cap w' h2 h3 h4 h5;refine h _ w' ⟨by simpa using h2,A4,by simpa using A9⟩ (hid fun w0 hb=>hb.grown h3 I6 (fun k hk=>by obtain ⟨h6,_⟩:=I2.lt k hk;exact h6))
theorem EU:(prog.info? 57).map (fun i=>(i.zero,i.size,i.bytes))=some (some (.agg #[.string ⟨#[]⟩,.slice none 0 0]),2,40):=by kernel_rfl
theorem S0 (A:Option Addr) (n c:Nat) (xs:List (List Value)) (w:World) (A9:xs.length=n) (A4: ∀x∈xs,x.length=2) (h1: ∀x∈xs,∀u∈x,u.oneCell'=true) (hn:n<=1073741824)
 (A1:0<n-> ∃b o,A=some (Ad b o)/\b<w.heap.size/\ ∀i,i<n-> ∀j,j<2->w.cell? (Ad b (o+i*2+j))=(xs.getD i [])[j]?):
 Calls prog 86 #[.slice A n c] w fun e w'=> ∃v',e= .returned v'/\BN w' w.heap.size 57 2 v' n xs/\Below w.heap.size w w':=by
 cases A with
 |none=>
  have h0:n=0:=by
   rcases Nat.eq_zero_or_pos n with h|h
   ·exact h
   ·obtain ⟨_,_,h,_⟩:=A1 h;exact absurd h (by simp)
  subst h0;obtain rfl:xs=[]:=List.eq_nil_of_length_eq_zero A9;have hq: ∀W:World,(binOp .eql 37 (.slice none 0 c) (.slice none 0 0)).run prog W= .ok (.bool true) W:=fun W=>Lib.run_eql_slice_nil W 37 57 none 0 c 0 0 underlying37;clear A1 A4 h1 A9;go_enter func86,ntmps86;go_wp2;go_ret;exact ⟨_,rfl,BN.nil _ _ _ _,zB⟩
 |some ad=>
  have hq: ∀W:World,(binOp .eql 37 (.slice (some ad) n c) (.slice none 0 0)).run prog W= .ok (.bool false) W:=fun W=>Lib.run_eql_slice_nil W 37 57 (some ad) n c 0 0 underlying37;have HC:=hid A1;have HE:=hid A4;have H1:=hid h1;have HG:=hid (World.ownsRow_lit (base:=w.heap.size) (e:=57) (size:=2) w #[] 0 zL (Nat.zero_le _) rfl);have KI:=(Below.refl w.heap.size w).alloc zL (.cells #[] 57);clear A1 A4 h1;go_enter func86,ntmps86;go_wp2_with (at_builtin;refine Db rfl _ _ 37 rfl w.heap.size 57 (.agg #[.string ⟨#[]⟩,.slice none 0 0]) 2 40 underlying37 EU rfl (by decide) (by decide) _ rfl HG.out ad n c xs rfl A9 HE.out (fun h=>by obtain ⟨b,o,e,hb,hc⟩:=HC.out h;refine ⟨b,o,by simpa using e,fun i hi j hj=> ?_⟩;rw[<-hc i hi j hj];exact World.cell?_of_block (KI.block b hb)) H1.out hn (by simp) ?_;intro v' w2 B3 L1;refine Hid.out ?_);refine hid ?_;go_wp2
  go_ret;exact ⟨_,rfl,B3,L1.out _ KI⟩
theorem S2 (A:Option Addr) (n c:Nat) (xs:List (List Value)) (w:World) (A9:xs.length=n) (A4: ∀x∈xs,x.length=1) (h1: ∀x∈xs,∀u∈x,u.oneCell'=true) (hn:n<=1073741824)
 (A1:0<n-> ∃b o,A=some (Ad b o)/\b<w.heap.size/\ ∀i,i<n-> ∀j,j<1->w.cell? (Ad b (o+i*1+j))=(xs.getD i [])[j]?):
 Calls prog 87 #[.slice A n c] w fun e w'=> ∃v',e= .returned v'/\BN w' w.heap.size 9 1 v' n xs/\Below w.heap.size w w':=by
 cases A with
 |none=>
  have h0:n=0:=by
   rcases Nat.eq_zero_or_pos n with h|h
   ·exact h
   ·obtain ⟨_,_,h,_⟩:=A1 h;exact absurd h (by simp)
  subst h0;obtain rfl:xs=[]:=List.eq_nil_of_length_eq_zero A9;have hq: ∀W:World,(binOp .eql 55 (.slice none 0 c) (.slice none 0 0)).run prog W= .ok (.bool true) W:=fun W=>Lib.run_eql_slice_nil W 55 9 none 0 c 0 0 underlying55;clear A1 A4 h1 A9;go_enter func87,ntmps87;go_wp2;go_ret;exact ⟨_,rfl,BN.nil _ _ _ _,zB⟩
 |some ad=>
  have hq: ∀W:World,(binOp .eql 55 (.slice (some ad) n c) (.slice none 0 0)).run prog W= .ok (.bool false) W:=fun W=>Lib.run_eql_slice_nil W 55 9 (some ad) n c 0 0 underlying55;have HC:=hid A1;have HE:=hid A4;have H1:=hid h1;have HG:=hid (World.ownsRow_lit (base:=w.heap.size) (e:=9) (size:=1) w #[] 0 zL (Nat.zero_le _) rfl);have KI:=(Below.refl w.heap.size w).alloc zL (.cells #[] 9);clear A1 A4 h1;go_enter func87,ntmps87;go_wp2_with (at_builtin;refine Db rfl _ _ 55 rfl w.heap.size 9 (.string ⟨#[]⟩) 1 16 underlying55 Fm rfl (by decide) (by decide) _ rfl HG.out ad n c xs rfl A9 HE.out (fun h=>by obtain ⟨b,o,e,hb,hc⟩:=HC.out h;refine ⟨b,o,by simpa using e,fun i hi j hj=> ?_⟩;rw[<-hc i hi j hj];exact World.cell?_of_block (KI.block b hb)) H1.out hn (by simp) ?_;intro v' w2 B3 L1;refine Hid.out ?_);refine hid ?_;go_wp2
  go_ret;exact ⟨_,rfl,B3,L1.out _ KI⟩
theorem Dc {α β:Type} (f:α->β): ∀l:List α,(l.map fun s=>[f s]).flatten=l.map f
 |[]=>rfl
 |x::l=>by rw[List.map_cons,List.flatten_cons,Dc f l];rfl
theorem Ui {S:Nat->Prop} (l:List Str) (v:Value) (w:World) (hS:sW S w) (h:Bj w S v l) (hn:l.length<=1073741824):
 Calls prog 87 #[v] w fun e w'=> ∃v',e= .returned v'/\Ce w' w.heap.size v' l.length l/\Below w.heap.size w w':=by
 obtain ⟨A,c,rfl,hc,A1⟩:=h;refine (S2 A l.length c (l.map fun s=>[sV s]) w (by simp) (fun x hx=> ?_) (fun x hx u hu=> ?_) hn (fun h0=> ?_)).mono ?_
 ·obtain ⟨s,_,rfl⟩:=List.mem_map.1 hx;rfl
 ·obtain ⟨s,_,rfl⟩:=List.mem_map.1 hx;rw[List.mem_singleton.1 hu];rfl
 ·obtain ⟨b,o,e,hb,hc⟩:=A1 h0;refine ⟨b,o,e,hS b hb,fun i hi j hj=> ?_⟩;rw[hc i hi j hj,Aw (fun s=>[sV s]) l i [] [] hi];obtain rfl:j=0:=(by omega);rfl
 ·rintro e w' ⟨v',rfl,hO,hb⟩;refine ⟨v',rfl, ?_,hb⟩;have:=hO.row;rw[Dc] at this;exact this
theorem Uj {S:Nat->Prop} (ps:List Pm) (v:Value) (w:World) (hS:sW S w) (h:Ah w S v ps) (hn:ps.length<=1073741824):
 Calls prog 86 #[v] w fun e w'=> ∃(v':Value) (L:List (Pm×Value)),e= .returned v'/\L.map (·.1)=ps/\BN w' w.heap.size 57 2 v' ps.length (L.map Ya)/\(∀q∈L,Bj w' S q.2 q.1.vals)/\Below w.heap.size w w':=by
 obtain ⟨vs,⟨A,c,rfl,hc,A1⟩,X1⟩:=h;have A9:((List.range ps.length).map fun i=>(ps.getD i default,vs i)).length=ps.length:=(by simp);have V6: ∀i,i<ps.length->(((List.range ps.length).map fun i=>(ps.getD i default,vs i)).map Ya).getD i []=Ya (ps.getD i default,vs i):=fun i hi=>(by rw[Aw Ya _ i (default,undef) [] (by rw[A9];exact hi),Aw (fun i=>(ps.getD i default,vs i)) _ i 0 _ (by simpa using hi)];simp[List.getD,List.getElem?_range hi]);have N0: ∀q∈(List.range ps.length).map fun i=>(ps.getD i default,vs i),Bj w S q.2 q.1.vals:=fun q hq=>(by obtain ⟨i,hi,rfl⟩:=List.mem_map.1 hq;exact X1 i (List.mem_range.1 hi));refine (S0 A ps.length c (((List.range ps.length).map fun i=>(ps.getD i default,vs i)).map Ya) w (by simp) (fun x hx=> ?_) (fun x hx u hu=> ?_) hn (fun h0=> ?_)).mono ?_
 ·obtain ⟨q,_,rfl⟩:=List.mem_map.1 hx;rfl
 ·obtain ⟨q,hq,rfl⟩:=List.mem_map.1 hx;obtain ⟨A',c',hf⟩:=(N0 q hq).form;rcases List.mem_cons.1 hu with rfl|hu
  ·rfl
  ·rw[List.mem_singleton.1 hu,hf];rfl
 ·obtain ⟨b,o,e,hb,hc⟩:=A1 h0;refine ⟨b,o,e,hS b hb,fun i hi j hj=> ?_⟩;rw[hc i hi j hj,V6 i hi];rcases (show j=0∨j=1 by omega) with rfl|rfl<;>rfl
 ·rintro e w' ⟨v',rfl,hO,hb⟩;refine ⟨v',_,rfl, ?_,hO,fun q hq=>(N0 q hq).move (fun k hk=>hb.block k (hS k hk)) fun _ h=>h,hb⟩;apply List.ext_getElem
  ·simp
  ·intro i h1 h2;simp[List.getD,List.getElem?_eq_getElem h2]
def Hi (base:Nat) (w w':World):Prop:=w.heap.size<=w'.heap.size/\ ∀b,base<=b->b<w.heap.size->w'.heap[b]? =w.heap[b]?
theorem Hi.refl (base:Nat) (w:World):Hi base w w:=⟨Nat.le_refl _,fun _ _ _=>rfl⟩
theorem Hi.trans {base:Nat} {w w1 w2:World} (h:Hi base w w1) (h':Hi base w1 w2):Hi base w w2:=⟨Nat.le_trans h.1 h'.1,fun b h1 h2=>(h'.2 b h1 (Nat.lt_of_lt_of_le h2 h.1)).trans (h.2 b h1 h2)⟩
theorem Below.hi {base:Nat} {w w':World} (h:Below w.heap.size w w'):Hi base w w':=⟨h.size,fun b _ hb=>h.block b hb⟩
theorem BN.hi {w w':World} {base:Nat} {E:TypeId} {size n:Nat} {v:Value} {xs:List (List Value)} (h:BN w base E size v n xs) (hb:Hi base w w'):BN w' base E size v n xs:=by
 refine ⟨⟨h.row.1, ?_⟩,h.each,h.len⟩;rcases h.row.2 with h0|⟨g,cap,cur,e1,e2,e3,e4⟩
 ·exact .inl h0
 ·exact .inr ⟨g,cap,cur,e1,e2,(hb.2 g e2 (Array.getElem?_eq_some_iff.1 e3).1).trans e3,e4⟩
theorem BN.some_ {w:World} {base:Nat} {E:TypeId} {size n c:Nat} {A:Option Addr} {xs:List (List Value)} (h:BN w base E size (.slice A n c) n xs) (hn:0<n): ∃g,A=some (Ad g 0):=by
 rcases h.row.2 with ⟨e,h0⟩|⟨g,cap,cur,e1,_⟩
 ·omega
 ·simp only[Value.slice.injEq] at e1;exact ⟨g,e1.1⟩
theorem O5 {x:List Value} (h:x.length=2): ∃a b,x=[a,b]:=by
 match x,h with
 |[a,b],_=>exact ⟨a,b,rfl⟩
theorem O6 {x:List Value} (h:x.length=1): ∃a,x=[a]:=by
 match x,h with
 |[a],_=>exact ⟨a,rfl⟩
theorem RJ (base:Nat) (W:Nat->World) (P:Nat->Bool) (X:List (List Value)) (A:Option Addr) (n c:Nat) (g:FuncId) (lb:Array Value) (w:World) (hn:n<=1073741824)
 (hX:BN w base 57 2 (.slice A n c) n X) (hg: ∀(args:Array Value) (w:World),(callFunc g args).run prog w= .ok (.enter g args) w) (h0:Below base (W 0) w)
 (hp: ∀k x0 x1 wr,k<n->X[k]? =some [x0,x1]->Below base (W k) wr->base<=wr.heap.size->Calls prog g (#[.agg #[x0,x1]]++lb) wr fun e w'=>e= .returned (.bool (P k))/\Below base (W (k+1)) w'/\Hi base wr w') (F4:base<=w.heap.size):
 Calls prog 147 #[.slice A n c,.func (.func g) #[] lb] w fun e w'=>Hi base w w'/\
  ((e= .returned (Iv (-1))/\Below base (W n) w'/\ ∀k,k<n->P k=false)∨ ∃k,k<n/\e= .returned (Iv k)/\Below base (W (k+1)) w'/\P k=true/\ ∀j,j<k->P j=false):=by
 have HP:=hid hp;have HX:=hid hX;have HL:=hid h0;clear hp hX h0;go_enter func147,ntmps147;go_wp2
 go_loopw [5,8] (fun _ i wr=> ∃k:Nat,i=Iv k/\k<=n/\Hid (Below base (W k) wr/\Hi base w wr/\ ∀j,j<k->P j=false)) (fun _ i _=>n-(intOf i).toNat);case atStart=>exact ⟨0,rfl,by omega,hid ⟨HL.out,Hi.refl _ _,fun _ h=>absurd h (Nat.not_lt_zero _)⟩⟩
 case round=>
  obtain ⟨k,rfl,hk,HI⟩:=hrel;by_cases A5:k<n
  ·have HO:BN wr base 57 2 (.slice A n c) n X:=HX.out.hi HI.out.2.1;obtain ⟨g0,rfl⟩:=HO.some_ (by omega);have AW:k<X.length:=(by rw[HX.out.len];exact A5);have L2:=HX.out.each X[k] (List.getElem_mem AW);obtain ⟨x0,x1,E3⟩:=O5 L2;have B1:X[k]? =some [x0,x1]:=(by rw[List.getElem?_eq_getElem AW,E3]);have hx:X.getD k []=[x0,x1]:=(by simp[List.getD,B1]);have c0:wr.cell? (Ad g0 (k*2+0))=some x0:=(by rw[(HO).cellAt A5 (by omega),hx];rfl);have c1:wr.cell? (Ad g0 (k*2+1))=some x1:=(by rw[(HO).cellAt A5 (by omega),hx];rfl);rw[Nat.add_zero] at c0;have HK:=hid B1;have X2:=hid HO;clear hx E3 B1 L2 AW HO;go_wp2_with fail;refine (HP.out k x0 x1 _ A5 HK.out HI.out.1 (Nat.le_trans F4 HI.out.2.1.1)).mono ?_;rintro e w1 ⟨rfl,A2,L4⟩;have HJ:=hid A2;have HH:=hid (HI.out.2.1.trans L4);have HA:=hid HI.out.2.2;clear A2 L4 HI;cases AB:P k with
   |true=>
    have HT:=hid AB;clear AB;go_wp2
    go_ret;exact ⟨HH.out,.inr ⟨k,A5,rfl,HJ.out,HT.out,HA.out⟩⟩
   |false=>
    have HT:=hid AB;clear AB;go_wp2
    go_roundw;case rel=>
     refine ⟨k+1,by go_num,by omega,hid ⟨HJ.out,HH.out,fun j hj=> ?_⟩⟩;rcases Nat.lt_or_ge j k with h|h
     ·exact HA.out j h
     ·obtain rfl:j=k:=(by omega);exact HT.out
    case measure=>simp[intOf];omega
  ·obtain rfl:k=n:=(by omega);go_wp2
   go_ret;exact ⟨HI.out.2.1,.inl ⟨rfl,HI.out.1,HI.out.2.2⟩⟩
theorem RK (base:Nat) (W:Nat->World) (P:Nat->Bool) (X:List (List Value)) (A:Option Addr) (n c:Nat) (g:FuncId) (lb:Array Value) (w:World) (hn:n<=1073741824)
 (hX:BN w base 9 1 (.slice A n c) n X) (hg: ∀(args:Array Value) (w:World),(callFunc g args).run prog w= .ok (.enter g args) w) (h0:Below base (W 0) w)
 (hp: ∀k x0 wr,k<n->X[k]? =some [x0]->Below base (W k) wr->base<=wr.heap.size->Calls prog g (#[x0]++lb) wr fun e w'=>e= .returned (.bool (P k))/\Below base (W (k+1)) w'/\Hi base wr w') (F4:base<=w.heap.size):
 Calls prog 142 #[.slice A n c,.func (.func g) #[] lb] w fun e w'=>Hi base w w'/\
  ((e= .returned (Iv (-1))/\Below base (W n) w'/\ ∀k,k<n->P k=false)∨ ∃k,k<n/\e= .returned (Iv k)/\Below base (W (k+1)) w'/\P k=true/\ ∀j,j<k->P j=false):=by
 have HP:=hid hp;have HX:=hid hX;have HL:=hid h0;clear hp hX h0;go_enter func142,ntmps142;go_wp2
 go_loopw [5,8] (fun _ i wr=> ∃k:Nat,i=Iv k/\k<=n/\Hid (Below base (W k) wr/\Hi base w wr/\ ∀j,j<k->P j=false)) (fun _ i _=>n-(intOf i).toNat);case atStart=>exact ⟨0,rfl,by omega,hid ⟨HL.out,Hi.refl _ _,fun _ h=>absurd h (Nat.not_lt_zero _)⟩⟩
 case round=>
  obtain ⟨k,rfl,hk,HI⟩:=hrel;by_cases A5:k<n
  ·have HO:BN wr base 9 1 (.slice A n c) n X:=HX.out.hi HI.out.2.1;obtain ⟨g0,rfl⟩:=HO.some_ (by omega);have AW:k<X.length:=(by rw[HX.out.len];exact A5);have L2:=HX.out.each X[k] (List.getElem_mem AW);obtain ⟨x0,E3⟩:=O6 L2;have B1:X[k]? =some [x0]:=(by rw[List.getElem?_eq_getElem AW,E3]);have hx:X.getD k []=[x0]:=(by simp[List.getD,B1]);have c0:wr.cell? (Ad g0 (k*1+0))=some x0:=(by rw[(HO).cellAt A5 (by omega),hx];rfl);have c0:=c0;rw[Nat.mul_one,Nat.add_zero] at c0;have HK:=hid B1;have X2:=hid HO;clear hx E3 B1 L2 AW HO;go_wp2_with fail;refine (HP.out k x0 _ A5 HK.out HI.out.1 (Nat.le_trans F4 HI.out.2.1.1)).mono ?_;rintro e w1 ⟨rfl,A2,L4⟩;have HJ:=hid A2;have HH:=hid (HI.out.2.1.trans L4);have HA:=hid HI.out.2.2;clear A2 L4 HI;cases AB:P k with
   |true=>
    have HT:=hid AB;clear AB;go_wp2
    go_ret;exact ⟨HH.out,.inr ⟨k,A5,rfl,HJ.out,HT.out,HA.out⟩⟩
   |false=>
    have HT:=hid AB;clear AB;go_wp2
    go_roundw;case rel=>
     refine ⟨k+1,by go_num,by omega,hid ⟨HJ.out,HH.out,fun j hj=> ?_⟩⟩;rcases Nat.lt_or_ge j k with h|h
     ·exact HA.out j h
     ·obtain rfl:j=k:=(by omega);exact HT.out
    case measure=>simp[intOf];omega
  ·obtain rfl:k=n:=(by omega);go_wp2
   go_ret;exact ⟨HI.out.2.1,.inl ⟨rfl,HI.out.1,HI.out.2.2⟩⟩
section
def BR {α:Type} (P:Nat->Bool):Nat->List α->List α
 |0,_=>[]
 |j+1,X=>BR P j X++(if P j then [] else (X[j]?).toList)
theorem EF {α:Type} (P:Nat->Bool) (X:List α): ∀j,(∀i,i<j->P i=false)->BR P j X=X.take j
 |0,_=>by simp[BR]
 |j+1,h=>by rw[BR,EF P X j fun i hi=>h i (by omega),h j (by omega),if_neg (by simp),List.take_add_one]
theorem KL {α:Type} (P:Nat->Bool) (X:List α) (h: ∀i,i<X.length->P i=false):BR P X.length X=X:=by rw[EF P X _ h,List.take_length]
theorem JJ {α:Type} {P:Nat->Bool} {j:Nat} (X:List α) (h:P j=true):BR P (j+1) X=BR P j X:=by rw[BR,h,if_pos rfl,List.append_nil]
theorem O7 {α:Type} {P:Nat->Bool} {j:Nat} {X:List α} {x:α} (h:P j=false) (hx:X[j]? =some x):BR P (j+1) X=BR P j X++[x]:=by rw[BR,h,if_neg (by simp),hx];rfl
theorem RL {α:Type} (P:Nat->Bool) (X:List α): ∀j,(BR P j X).length<=j
 |0=>by simp[BR]
 |j+1=>by
  have:=RL P X j;rw[BR,List.length_append];have h2:(if P j=true then [] else (X[j]?).toList).length<=1:=by
   split
   ·simp
   ·cases X[j]? <;>simp
  omega
theorem Ge {α β:Type} (f:α->β) (P:Nat->Bool) (X:List α): ∀j,BR P j (X.map f)=(BR P j X).map f
 |0=>rfl
 |j+1=>by
  rw[BR,BR,Ge f P X j,List.map_append]
  congr 1
  split
  ·rfl
  ·cases h:X[j]? <;>simp[h]
theorem Dz {α:Type} (P:Nat->Bool) (p:α->Bool) (X:List α) (h: ∀i x,X[i]? =some x->P i=p x): ∀j,j<=X.length->BR P j X=(X.take j).filter fun x=> !p x
 |0,_=>by simp[BR]
 |j+1,hj=>by
  have hx:X[j]? =some X[j]:=List.getElem?_eq_getElem (by omega);rw[BR,Dz P p X h j (by omega),List.take_add_one,List.filter_append,hx,h j _ hx]
  congr 1
  generalize X[j]=y;cases hy:p y<;>simp[hy]
section
variable {w w':World} {base:Nat} {E:TypeId} {size n cap g:Nat}
theorem BN.frozen {xs:List (List Value)} (h:BN w base E size (.slice (some (Ad g 0)) n cap) n xs) (k:Nat):w.frozen? (Ad g k)=false:=by
 rcases h.row.2 with ⟨h',_⟩|⟨g',cap',cur,h',_,hg,_⟩
 ·simp at h'
 ·simp only[Value.slice.injEq,Option.some.injEq,Addr.mk.injEq,and_true,true_and] at h';obtain ⟨rfl,rfl⟩:=h';simp[World.frozen?,hg]
theorem BN.capLe {xs:List (List Value)} (h:BN w base E size (.slice (some (Ad g 0)) n cap) n xs):n<=cap:=by
 rcases h.row.2 with ⟨h',_⟩|⟨g',cap',cur,h',_,_,I3,_⟩
 ·simp at h'
 ·simp only[Value.slice.injEq,Option.some.injEq,Addr.mk.injEq,and_true,true_and] at h';obtain ⟨rfl,rfl⟩:=h';exact I3
theorem O8 {xs:List Value} (h:w.ownsRow base E size (.slice (some (Ad g 0)) n cap) n xs) {m:Nat} (hm:m<=n):w.ownsRow base E size (.slice (some (Ad g 0)) m cap) m (xs.take (m*size)):=by
 have X3:m*size<=n*size:=Nat.mul_le_mul_right _ hm;rcases h.2 with ⟨h',_⟩|⟨g',cap',cur,h',hb,hg,I3,XB,N2,H9⟩
 ·simp at h'
 ·simp only[Value.slice.injEq,Option.some.injEq,Addr.mk.injEq,and_true,true_and] at h';obtain ⟨rfl,rfl⟩:=h';refine ⟨by rw[List.length_take,h.1];omega,.inr ⟨g,cap,cur,rfl,hb,hg,by omega,XB,N2, ?_⟩⟩;rw[<-H9,List.take_take,Nat.min_eq_left X3]
theorem FZ: ∀(vs:List Value) (o:Nat) (w:World) (xs:List Value),w.ownsRow base E size (.slice (some (Ad g 0)) n cap) n xs-> ∃xs',(w.setCells g o vs).ownsRow base E size (.slice (some (Ad g 0)) n cap) n xs'/\xs'.take o=xs.take o
 |[],_,_,xs,h=>⟨xs,h,rfl⟩
 |v::r,o,w,xs,h=>by obtain ⟨xs',h1,h2⟩:=FZ r (o+1) _ _ (h.stored o v).1;refine ⟨xs',h1, ?_⟩;have:=congrArg (List.take o) h2;rw[List.take_take,List.take_take,Nat.min_eq_left (by omega)] at this;rw[this,List.take_set_of_le zL]
theorem B8: ∀(vs:List Value) (o:Nat) (w:World) {B:Nat} {a:World},Below B a w->B<=g->Below B a (w.setCells g o vs)
 |[],_,_,_,_,h,_=>h
 |v::r,o,w,_,_,h,hB=>B8 r (o+1) _ (h.setCell (p:=(Ad g o)) hB v) hB
theorem KM (size:Nat): ∀(xs:List (List Value)) (i:Nat),(∀x∈xs,x.length=size)->xs.flatten.take (i*size)=(xs.take i).flatten
 |_,0,_=>by simp
 |[],i+1,_=>by simp
 |x::xs,i+1,h=>by have hx:x.length=size:=h x (by simp);rw[List.flatten_cons,List.take_succ_cons,List.flatten_cons,Nat.succ_mul,Nat.add_comm,<-hx,List.take_length_add_append,hx,KM size xs i fun y hy=>h y (by simp[hy])]
theorem BN.cleared {X:List (List Value)} (h:BN w base E size (.slice (some (Ad g 0)) n cap) n X) {i:Nat} (hi:i<=n) (vs:List Value):
 BN (w.setCells g (i*size) vs) base E size (.slice (some (Ad g 0)) i cap) i (X.take i):=by
 obtain ⟨xs',h1,h2⟩:=FZ vs (i*size) w _ h.row;have h3:=O8 h1 hi;rw[h2,KM size X i h.each] at h3;exact ⟨h3,fun x hx=>h.each x (List.mem_of_mem_take hx),by rw[List.length_take,h.len];omega⟩
theorem BN.set1 {X:List (List Value)} (h:BN w base E 1 (.slice (some (Ad g 0)) n cap) n X) {i:Nat} (hi:i<n) (x0:Value):BN (w.setCell (Ad g i) x0) base E 1 (.slice (some (Ad g 0)) n cap) n (X.set i [x0]):=by have h1:=h.set_ hi (show 0<1 by omega) x0;rw[Nat.mul_one,Nat.add_zero] at h1;have hl:(X.getD i []).length=1:=h.each _ (C5 X i [] (by rw[h.len];exact hi));obtain ⟨a,ha⟩:=O6 hl;rw[ha] at h1;exact h1
theorem BN.set2 {X:List (List Value)} (h:BN w base E 2 (.slice (some (Ad g 0)) n cap) n X) {i:Nat} (hi:i<n) (x0 x1:Value):BN ((w.setCell (Ad g (i*2)) x0).setCell (Ad g (i*2+1)) x1) base E 2 (.slice (some (Ad g 0)) n cap) n (X.set i [x0,x1]):=by have h1:=h.set_ hi (show 0<2 by omega) x0;have h2:=h1.set_ hi (show 1<2 by omega) x1;rw[Nat.add_zero] at h2;have E1:i<X.length:=(by rw[h.len];exact hi);have hl:(X.getD i []).length=2:=h.each _ (C5 X i [] E1);obtain ⟨a,b,ha⟩:=O5 hl;rw[ha] at h2;have e:(X.set i ([a,b].set 0 x0)).getD i []=[x0,b]:=(by simp[List.getD,List.getElem?_set_self E1]);rw[e,List.set_set] at h2;exact h2
end
theorem KN (w:World) (t e ty:TypeId) (z:Value) (ht:prog.underlying t=some (.slice e)) (hv: ∀w,(zeroValue e).run prog w= .ok z w) (h1: ∀u∈z.cells,u.oneCell'=true) (h0:0<z.cells.size) (b o n c:Nat) (hn:0<n)
 (hc: ∀j,j<n*z.cells.size->(w.cell? (Ad b (o+j))).isSome=true) (hf: ∀j,w.frozen? (Ad b (o+j))=false):
 (Builtin.clear_ #[t] ty #[.slice (some (Ad b o)) n c]).run prog w= .ok (.tuple #[]) (w.setCells b o (Builtin.zeroCells z.cells n).toList):=by
 have VC:=run_storeCells_cells (P:=prog) b o (Builtin.zeroCells z.cells n).toList 0 w (by simpa[Builtin.zeroCells] using hc) (by intro j _;simpa using hf j) (by intro v VX;simp only[Builtin.zeroCells,Array.toList_map,List.mem_map] at VX;obtain ⟨i,_,rfl⟩:=VX;have A5:i%z.cells.size<z.cells.size:=Nat.mod_lt _ h0;rw[getElem!_pos z.cells _ A5];exact h1 _ (Array.getElem_mem A5));simp only[Nat.add_zero] at VC;obtain ⟨m,rfl⟩: ∃m,n=m+1:=⟨n- 1,by omega⟩;simp[Builtin.clear_,run_underlying ht,hv,VC]
theorem RM (base:Nat) (W:Nat->World) (P:Nat->Bool) (X:List (List Value)) (A:Option Addr) (n c:Nat) (g:FuncId) (lb:Array Value) (w:World) (hn:n<=1073741824)
 (hX:BN w base 57 2 (.slice A n c) n X) (L5: ∀x∈X,∃s0 B0 m0 d0,x=[.string s0,.slice B0 m0 d0]) (hg: ∀(args:Array Value) (w:World),(callFunc g args).run prog w= .ok (.enter g args) w) (h0:Below base (W 0) w)
 (hp: ∀k x0 x1 wr,k<n->X[k]? =some [x0,x1]->Below base (W k) wr->base<=wr.heap.size->Calls prog g (#[.agg #[x0,x1]]++lb) wr fun e w'=>e= .returned (.bool (P k))/\Below base (W (k+1)) w'/\Hi base wr w') (F4:base<=w.heap.size):
 Calls prog 94 #[.slice A n c,.func (.func g) #[] lb] w fun e w'=> ∃v',e= .returned v'/\BN w' base 57 2 v' (BR P n X).length (BR P n X)/\Below base (W n) w'/\w.heap.size<=w'.heap.size:=by
 have HP:=hid hp;have HX:=hid hX;have HL:=hid h0;have PF:=hid L5;clear hp hX h0 L5;go_enter func94,ntmps94;go_wp2_with fail;refine (RJ base W P X A n c g lb _ hn HX.out hg HL.out HP.out F4).mono ?_;rintro e w1 ⟨DD,⟨rfl,A2,AL⟩|⟨k0,Y1,rfl,A2,hk,AL⟩⟩
 ·have HR:=hid (HX.out.hi DD);have HK:=hid (show BR P n X=X by rw[<-HX.out.len];exact KL P X fun i hi=>AL i (by rw[<-HX.out.len];exact hi));have HB:=hid A2;have HS:=hid DD.1;clear A2 DD AL;go_wp2
  go_ret;exact ⟨_,rfl,by rw[HK.out,HX.out.len];exact HR.out,HB.out,HS.out⟩
 ·obtain ⟨g0,rfl⟩:=HX.out.some_ (by omega);have G2:=HX.out.hi DD;have Q1:=hid (show Below base (W (k0+1)) w1/\w.heap.size<=w1.heap.size/\ ∃X',BN w1 base 57 2 (.slice (some (Ad g0 0)) n c) n X'/\X'.take k0=BR P (k0+1) X/\X'.drop (k0+1)=X.drop (k0+1) from
   ⟨A2,DD.1,X,G2,by rw[JJ X hk,EF P X k0 AL],rfl⟩)
  have hq:(((k0:Nat):Int)== -1)=false:=(by simp);clear A2 DD AL hk G2;go_wp2
  go_loopw [5,6,7] (fun s5 s6 _ wr=> ∃i j:Nat,s5=Iv i/\s6=Iv j/\i<j/\j<=n/\Hid (Below base (W j) wr/\w.heap.size<=wr.heap.size/\ ∃X',BN wr base 57 2 (.slice (some (Ad g0 0)) n c) n X'/\X'.take i=BR P j X/\X'.drop j=X.drop j)) (fun _ s6 _ _=>n-(intOf s6).toNat);case atStart=>exact ⟨k0,k0+1,rfl,by go_num,by omega,by omega,Q1⟩
  case round=>
   obtain ⟨i,j,rfl,rfl,Y2,Y3,HI⟩:=hrel;by_cases A5:j<n
   ·obtain ⟨X',HO,HT,HD⟩: ∃X',Hid (BN wr base 57 2 (.slice (some (Ad g0 0)) n c) n X')/\Hid (X'.take i=BR P j X)/\Hid (X'.drop j=X.drop j):=by
     obtain ⟨X',a1,a2,a3⟩:=HI.out.2.2;exact ⟨X',hid a1,hid a2,hid a3⟩
    have HB:=hid HI.out.1;have HS:=hid HI.out.2.1;have AW:j<X.length:=(by rw[HX.out.len];exact A5);obtain ⟨s0,B0,m0,d0,E3⟩:=PF.out X[j] (List.getElem_mem AW);have B1:X[j]? =some [(.string s0),(.slice B0 m0 d0)]:=(by rw[List.getElem?_eq_getElem AW,E3]);have hx:X'.getD j []=[(.string s0),(.slice B0 m0 d0)]:=(by have h1:X'[j]? =(X'.drop j)[0]? :=(by rw[List.getElem?_drop,Nat.add_zero]);rw[HD.out,List.getElem?_drop,Nat.add_zero,B1] at h1;simp[List.getD,h1]);have c0:wr.cell? (Ad g0 (j*2+0))=some (.string s0):=(by rw[HO.out.cellAt A5 (by omega),hx];rfl);have c1:wr.cell? (Ad g0 (j*2+1))=some (.slice B0 m0 d0):=(by rw[HO.out.cellAt A5 (by omega),hx];rfl);rw[Nat.add_zero] at c0;have HK:=hid B1;have A0:base<=wr.heap.size:=Nat.le_trans F4 HS.out;clear hx E3 B1 AW HI;go_wp2_with fail;refine (HP.out j (.string s0) (.slice B0 m0 d0) _ A5 HK.out (HB.out.alloc A0 _) (by simp;omega)).mono ?_;rintro e w2 ⟨rfl,A7,FB⟩;have HM:=hid A7;have HN:=hid (show w.heap.size<=w2.heap.size from Nat.le_trans HS.out (Nat.le_trans (by simp) FB.1));have A8:=hid ((HO.out.alloc (.cells #[.string s0,.slice B0 m0 d0] 57)).hi FB);have ZN:w2.cell? (Ad wr.heap.size 0)=some (.string s0):=(World.cell?_of_block (w:=wr.alloc (.cells #[.string s0,.slice B0 m0 d0] 57)) (a:=(Ad wr.heap.size 0)) (FB.2 wr.heap.size A0 (by simp))).trans (by simp);have ZO:w2.cell? (Ad wr.heap.size 1)=some (.slice B0 m0 d0):=(World.cell?_of_block (w:=wr.alloc (.cells #[.string s0,.slice B0 m0 d0] 57)) (a:=(Ad wr.heap.size 1)) (FB.2 wr.heap.size A0 (by simp))).trans (by simp);clear A7 FB;cases AB:P j with
    |true=>
     have HW:=hid (show Below base (W (j+1)) w2/\w.heap.size<=w2.heap.size/\ ∃X',BN w2 base 57 2 (.slice (some (Ad g0 0)) n c) n X'/\X'.take i=BR P (j+1) X/\X'.drop (j+1)=X.drop (j+1) from
      ⟨HM.out,HN.out,X',A8.out,by rw[HT.out,JJ X AB],by rw[<-List.drop_drop,HD.out,List.drop_drop]⟩)
     clear AB;go_wp2
     go_roundw;case rel=>exact ⟨i,j+1,rfl,by go_num,by omega,by omega,HW⟩
     case measure=>simp[intOf];omega
    |false=>
     have G4:i<n:=(by omega);have E1:i<X'.length:=(by rw[A8.out.len];exact G4);have L6:=A8.out.each X'[i] (List.getElem_mem E1);obtain ⟨y0,y1,L7⟩:=O5 L6;have hy:X'.getD i []=[y0,y1]:=(by simp[List.getD,List.getElem?_eq_getElem E1,L7]);have e0:w2.cell? (Ad g0 (i*2))=some y0:=(by have:=A8.out.cellAt G4 (show 0<2 by omega);rw[Nat.add_zero,hy] at this;exact this);have e1:w2.cell? (Ad g0 (i*2+1))=some y1:=(by have:=A8.out.cellAt G4 (show 1<2 by omega);rw[hy] at this;exact this);have f0:w2.frozen? (Ad g0 (i*2))=false:=A8.out.frozen _;have f1:w2.frozen? (Ad g0 (i*2+1))=false:=A8.out.frozen _;have HF:=hid A8.out.frozen;have L8:Below base (W (j+1)) ((w2.setCell (Ad g0 (i*2)) (.string s0)).setCell (Ad g0 (i*2+1)) (.slice B0 m0 d0))/\w.heap.size<=((w2.setCell (Ad g0 (i*2)) (.string s0)).setCell (Ad g0 (i*2+1)) (.slice B0 m0 d0)).heap.size/\ ∃X',BN ((w2.setCell (Ad g0 (i*2)) (.string s0)).setCell (Ad g0 (i*2+1)) (.slice B0 m0 d0)) base 57 2 (.slice (some (Ad g0 0)) n c) n X'/\X'.take (i+1)=BR P (j+1) X/\X'.drop (j+1)=X.drop (j+1):=by
      have LL:base<=g0:=A8.out.low_base.1;refine ⟨(HM.out.setCell (p:=(Ad g0 (i*2))) LL _).setCell (p:=(Ad g0 (i*2+1))) LL _,by simpa[World.setCell] using HN.out,X'.set i [(.string s0),(.slice B0 m0 d0)],A8.out.set2 G4 (.string s0) (.slice B0 m0 d0), ?_, ?_⟩
      ·rw[List.take_add_one,List.take_set_of_le zL,HT.out,List.getElem?_set_self E1,O7 AB HK.out];rfl
      ·rw[List.drop_set_of_lt (by omega),<-List.drop_drop,HD.out,List.drop_drop]
     have HW:=hid L8;clear L8 AB hy L7 L6 E1 A8 HO HM HB HS HN HT HD;go_wp2
     go_roundw;case rel=>exact ⟨i+1,j+1,by go_num,by go_num,by omega,by omega,HW⟩
     case measure=>simp[intOf];omega
   ·obtain rfl:j=n:=(by omega);obtain ⟨X',HO,HT⟩: ∃X',Hid (BN wr base 57 2 (.slice (some (Ad g0 0)) j c) j X')/\Hid (X'.take i=BR P j X):=by
     obtain ⟨X',a1,a2,a3⟩:=HI.out.2.2;exact ⟨X',hid a1,hid a2⟩
    have HB:=hid HI.out.1;have HS:=hid HI.out.2.1;have Q2: ∀ty,(Builtin.clear_ #[37] ty #[.slice (some (Ad g0 (i*2))) (j- i) (c- i)]).run prog wr= .ok (.tuple #[]) (wr.setCells g0 (i*2) (Builtin.zeroCells ((.agg #[.string ⟨#[]⟩,.slice none 0 0]):Value).cells (j- i)).toList):=fun ty=>(by refine KN wr 37 57 ty (.agg #[.string ⟨#[]⟩,.slice none 0 0]) underlying37 zeroValue57 (by simp[Value.cells,Value.oneCell']) (by simp[Value.cells]) g0 (i*2) (j- i) (c- i) (by omega) (fun k hk=> ?_) (fun k=>HO.out.frozen _);rw[HO.out.row.cellAt _ (by simp[Value.cells] at hk;omega),Option.isSome_iff_exists];exact ⟨_,List.getElem?_eq_getElem (by rw[HO.out.row.1];simp[Value.cells] at hk;omega)⟩);have B3:=HO.out.cleared (i:=i) (by omega) (Builtin.zeroCells ((.agg #[.string ⟨#[]⟩,.slice none 0 0]):Value).cells (j- i)).toList;have A7:=B8 (g:=g0) (Builtin.zeroCells ((.agg #[.string ⟨#[]⟩,.slice none 0 0]):Value).cells (j- i)).toList (i*2) wr HB.out HO.out.low_base.1;have HY:w.heap.size<=(wr.setCells g0 (i*2) (Builtin.zeroCells ((.agg #[.string ⟨#[]⟩,.slice none 0 0]):Value).cells (j- i)).toList).heap.size:=Nat.le_trans HS.out (B8 (g:=g0) _ _ wr (Below.refl 0 wr) (Nat.zero_le _)).size;have YB:j<=c:=HO.out.capLe;have L9:(BR P j X).length=i:=(by rw[<-HT.out,List.length_take,HO.out.len];omega);rw[HT.out] at B3;obtain ⟨wc,LB⟩: ∃wc,wc=wr.setCells g0 (i*2) (Builtin.zeroCells ((.agg #[.string ⟨#[]⟩,.slice none 0 0]):Value).cells (j- i)).toList:=⟨_,rfl⟩;rw[<-LB] at Q2 B3 A7 HY;have H1:=hid B3;have H2:=hid A7;have H3:=hid HY;have H4:=hid L9;clear LB B3 A7 HY L9 HB HS HI HO HT;go_wp2
    go_ret;refine ⟨_,rfl, ?_,H2.out,H3.out⟩;rw[H4.out];exact H1.out
theorem RN (base:Nat) (W:Nat->World) (P:Nat->Bool) (X:List (List Value)) (A:Option Addr) (n c:Nat) (g:FuncId) (lb:Array Value) (w:World) (hn:n<=1073741824)
 (hX:BN w base 9 1 (.slice A n c) n X) (L5: ∀x∈X,∃s0,x=[.string s0]) (hg: ∀(args:Array Value) (w:World),(callFunc g args).run prog w= .ok (.enter g args) w) (h0:Below base (W 0) w)
 (hp: ∀k x0 wr,k<n->X[k]? =some [x0]->Below base (W k) wr->base<=wr.heap.size->Calls prog g (#[x0]++lb) wr fun e w'=>e= .returned (.bool (P k))/\Below base (W (k+1)) w'/\Hi base wr w') (F4:base<=w.heap.size):
 Calls prog 88 #[.slice A n c,.func (.func g) #[] lb] w fun e w'=> ∃v',e= .returned v'/\BN w' base 9 1 v' (BR P n X).length (BR P n X)/\Below base (W n) w'/\w.heap.size<=w'.heap.size:=by
 have HP:=hid hp;have HX:=hid hX;have HL:=hid h0;have PF:=hid L5;clear hp hX h0 L5;go_enter func88,ntmps88;go_wp2_with fail;refine (RK base W P X A n c g lb _ hn HX.out hg HL.out HP.out F4).mono ?_;rintro e w1 ⟨DD,⟨rfl,A2,AL⟩|⟨k0,Y1,rfl,A2,hk,AL⟩⟩
 ·have HR:=hid (HX.out.hi DD);have HK:=hid (show BR P n X=X by rw[<-HX.out.len];exact KL P X fun i hi=>AL i (by rw[<-HX.out.len];exact hi));have HB:=hid A2;have HS:=hid DD.1;clear A2 DD AL;go_wp2
  go_ret;exact ⟨_,rfl,by rw[HK.out,HX.out.len];exact HR.out,HB.out,HS.out⟩
 ·obtain ⟨g0,rfl⟩:=HX.out.some_ (by omega);have G2:=HX.out.hi DD;have Q1:=hid (show Below base (W (k0+1)) w1/\w.heap.size<=w1.heap.size/\ ∃X',BN w1 base 9 1 (.slice (some (Ad g0 0)) n c) n X'/\X'.take k0=BR P (k0+1) X/\X'.drop (k0+1)=X.drop (k0+1) from
   ⟨A2,DD.1,X,G2,by rw[JJ X hk,EF P X k0 AL],rfl⟩)
  have hq:(((k0:Nat):Int)== -1)=false:=(by simp);clear A2 DD AL hk G2;go_wp2
  go_loopw [5,6,7] (fun s5 s6 _ wr=> ∃i j:Nat,s5=Iv i/\s6=Iv j/\i<j/\j<=n/\Hid (Below base (W j) wr/\w.heap.size<=wr.heap.size/\ ∃X',BN wr base 9 1 (.slice (some (Ad g0 0)) n c) n X'/\X'.take i=BR P j X/\X'.drop j=X.drop j)) (fun _ s6 _ _=>n-(intOf s6).toNat);case atStart=>exact ⟨k0,k0+1,rfl,by go_num,by omega,by omega,Q1⟩
  case round=>
   obtain ⟨i,j,rfl,rfl,Y2,Y3,HI⟩:=hrel;by_cases A5:j<n
   ·obtain ⟨X',HO,HT,HD⟩: ∃X',Hid (BN wr base 9 1 (.slice (some (Ad g0 0)) n c) n X')/\Hid (X'.take i=BR P j X)/\Hid (X'.drop j=X.drop j):=by
     obtain ⟨X',a1,a2,a3⟩:=HI.out.2.2;exact ⟨X',hid a1,hid a2,hid a3⟩
    have HB:=hid HI.out.1;have HS:=hid HI.out.2.1;have AW:j<X.length:=(by rw[HX.out.len];exact A5);obtain ⟨s0,E3⟩:=PF.out X[j] (List.getElem_mem AW);have B1:X[j]? =some [(.string s0)]:=(by rw[List.getElem?_eq_getElem AW,E3]);have hx:X'.getD j []=[(.string s0)]:=(by have h1:X'[j]? =(X'.drop j)[0]? :=(by rw[List.getElem?_drop,Nat.add_zero]);rw[HD.out,List.getElem?_drop,Nat.add_zero,B1] at h1;simp[List.getD,h1]);have c0:wr.cell? (Ad g0 (j*1+0))=some (.string s0):=(by rw[HO.out.cellAt A5 (by omega),hx];rfl);rw[Nat.mul_one,Nat.add_zero] at c0;have HK:=hid B1;have A0:base<=wr.heap.size:=Nat.le_trans F4 HS.out;clear hx E3 B1 AW HI;go_wp2_with fail;refine (HP.out j (.string s0) _ A5 HK.out HB.out A0).mono ?_;rintro e w2 ⟨rfl,A7,FB⟩;have HM:=hid A7;have HN:=hid (show w.heap.size<=w2.heap.size from Nat.le_trans HS.out (Nat.le_trans (by simp) FB.1));have A8:=hid ((HO.out).hi FB);clear A7 FB;cases AB:P j with
    |true=>
     have HW:=hid (show Below base (W (j+1)) w2/\w.heap.size<=w2.heap.size/\ ∃X',BN w2 base 9 1 (.slice (some (Ad g0 0)) n c) n X'/\X'.take i=BR P (j+1) X/\X'.drop (j+1)=X.drop (j+1) from
      ⟨HM.out,HN.out,X',A8.out,by rw[HT.out,JJ X AB],by rw[<-List.drop_drop,HD.out,List.drop_drop]⟩)
     clear AB;go_wp2
     go_roundw;case rel=>exact ⟨i,j+1,rfl,by go_num,by omega,by omega,HW⟩
     case measure=>simp[intOf];omega
    |false=>
     have G4:i<n:=(by omega);have E1:i<X'.length:=(by rw[A8.out.len];exact G4);have L6:=A8.out.each X'[i] (List.getElem_mem E1);obtain ⟨y0,L7⟩:=O6 L6;have hy:X'.getD i []=[y0]:=(by simp[List.getD,List.getElem?_eq_getElem E1,L7]);have e0:w2.cell? (Ad g0 i)=some y0:=(by have:=A8.out.cellAt G4 (show 0<1 by omega);rw[Nat.mul_one,Nat.add_zero,hy] at this;exact this);have f0:w2.frozen? (Ad g0 i)=false:=A8.out.frozen _;have HF:=hid A8.out.frozen;have L8:Below base (W (j+1)) (w2.setCell (Ad g0 i) (.string s0))/\w.heap.size<=(w2.setCell (Ad g0 i) (.string s0)).heap.size/\ ∃X',BN (w2.setCell (Ad g0 i) (.string s0)) base 9 1 (.slice (some (Ad g0 0)) n c) n X'/\X'.take (i+1)=BR P (j+1) X/\X'.drop (j+1)=X.drop (j+1):=by
      have LL:base<=g0:=A8.out.low_base.1;refine ⟨HM.out.setCell (p:=(Ad g0 i)) LL _,by simpa[World.setCell] using HN.out,X'.set i [(.string s0)],A8.out.set1 G4 (.string s0), ?_, ?_⟩
      ·rw[List.take_add_one,List.take_set_of_le zL,HT.out,List.getElem?_set_self E1,O7 AB HK.out];rfl
      ·rw[List.drop_set_of_lt (by omega),<-List.drop_drop,HD.out,List.drop_drop]
     have HW:=hid L8;clear L8 AB hy L7 L6 E1 A8 HO HM HB HS HN HT HD;go_wp2
     go_roundw;case rel=>exact ⟨i+1,j+1,by go_num,by go_num,by omega,by omega,HW⟩
     case measure=>simp[intOf];omega
   ·obtain rfl:j=n:=(by omega);obtain ⟨X',HO,HT⟩: ∃X',Hid (BN wr base 9 1 (.slice (some (Ad g0 0)) j c) j X')/\Hid (X'.take i=BR P j X):=by
     obtain ⟨X',a1,a2,a3⟩:=HI.out.2.2;exact ⟨X',hid a1,hid a2⟩
    have HB:=hid HI.out.1;have HS:=hid HI.out.2.1;have Q2: ∀ty,(Builtin.clear_ #[55] ty #[.slice (some (Ad g0 i)) (j- i) (c- i)]).run prog wr= .ok (.tuple #[]) (wr.setCells g0 (i) (Builtin.zeroCells ((.string ⟨#[]⟩):Value).cells (j- i)).toList):=fun ty=>(by refine KN wr 55 9 ty (.string ⟨#[]⟩) underlying55 zeroValue9 (by simp[Value.cells,Value.oneCell']) (by simp[Value.cells]) g0 (i) (j- i) (c- i) (by omega) (fun k hk=> ?_) (fun k=>HO.out.frozen _);rw[HO.out.row.cellAt _ (by simp[Value.cells] at hk;omega),Option.isSome_iff_exists];exact ⟨_,List.getElem?_eq_getElem (by rw[HO.out.row.1];simp[Value.cells] at hk;omega)⟩);have B3:=HO.out.cleared (i:=i) (by omega) (Builtin.zeroCells ((.string ⟨#[]⟩):Value).cells (j- i)).toList;have A7:=B8 (g:=g0) (Builtin.zeroCells ((.string ⟨#[]⟩):Value).cells (j- i)).toList (i) wr HB.out HO.out.low_base.1;have HY:w.heap.size<=(wr.setCells g0 (i) (Builtin.zeroCells ((.string ⟨#[]⟩):Value).cells (j- i)).toList).heap.size:=Nat.le_trans HS.out (B8 (g:=g0) _ _ wr (Below.refl 0 wr) (Nat.zero_le _)).size;have YB:j<=c:=HO.out.capLe;have L9:(BR P j X).length=i:=(by rw[<-HT.out,List.length_take,HO.out.len];omega);rw[HT.out] at B3;rw[Nat.mul_one] at B3;obtain ⟨wc,LB⟩: ∃wc,wc=wr.setCells g0 (i) (Builtin.zeroCells ((.string ⟨#[]⟩):Value).cells (j- i)).toList:=⟨_,rfl⟩;rw[<-LB] at Q2 B3 A7 HY;have H1:=hid B3;have H2:=hid A7;have H3:=hid HY;have H4:=hid L9;clear LB B3 A7 HY L9 HB HS HI HO HT;go_wp2
    go_ret;refine ⟨_,rfl, ?_,H2.out,H3.out⟩;rw[H4.out];exact H1.out
end
theorem PM (s:Str) (hs:s.length<=1073741824) (w:World) (hL:LD w):Calls prog 131 #[Sv s,Iv 100] w fun e w'=>e= .returned (.bool (ET s 100))/\Below w.heap.size w w':=IV s 100 (by decide) hs w hL
theorem KX (s:Str) (hs:s.length<=1073741824) (w:World) (hL:LD w):Calls prog 131 #[Sv s,Iv 999] w fun e w'=>e= .returned (.bool (ET s 999))/\Below w.heap.size w w':=IV s 999 (by decide) hs w hL
theorem NY (s:Str) (hs:s.length<=1073741824) (w:World) (hL:LD w):Calls prog 102 #[Sv s,Iv 100] w fun e w'=>e= .returned (.bool (ET s 100))/\Below w.heap.size w w':=Gp s 100 (by decide) hs w hL
theorem NZ (s:Str) (hs:s.length<=1073741824) (w:World) (hL:LD w):Calls prog 102 #[Sv s,Iv 999] w fun e w'=>e= .returned (.bool (ET s 999))/\Below w.heap.size w w':=Gp s 999 (by decide) hs w hL
theorem Na (s:Str) (hs:s.length<=1073741824) (w:World) (hL:LD w):
 Calls prog 75 #[Sv s,.string ⟨#[46]⟩] w fun e w'=>(∃(a b:Str) (t:Bool),e= .returned (.tuple #[Sv a,Sv b,.bool t])/\Hid (Fq s=VQ a b t)/\a.length<=s.length/\b.length<=s.length)/\Below w.heap.size w w':=by
 obtain ⟨B,hB⟩:=hL;obtain ⟨m,hm⟩:=hB.mx;refine (strings_Cut ⟨s.toArray⟩ ⟨#[46]⟩ m w (show s.toArray.size<_ by simp;omega) hm).mono ?_;rintro e w' ⟨rfl,n,rfl⟩;refine ⟨⟨_,_,_,rfl,hid (TA s), ?_, ?_⟩,below_drewN' zB _⟩
 ·show (Lib.cut s [46]).1.length<=_;unfold Lib.cut;split
  ·simp;omega
  ·exact Nat.le_refl _
 ·show (Lib.cut s [46]).2.1.length<=_;unfold Lib.cut;split<;>simp
theorem Mq {vals:List Str} {s:Str} (h:vals.length=1) (hd:vals.drop 0=s::vals.drop (0+1)):vals=[s]:=by rw[List.drop_zero] at hd;exact hd.trans (by rw[List.drop_eq_nil_of_le (by omega)])
theorem Gq {α:Type} (l:List α):decide (0<l.length)= !l.isEmpty:=by
 cases l with
 |nil=>rfl
 |cons x r=>exact decide_eq_true (by simp only[List.length_cons];omega)
theorem Rb (p:Pm) (A:Option Addr) (c:Nat) (w:World) (hL:LD w) (hv:CD w w.heap.size (vP A p c) p.vals) (hw:wP p<=134217728):
 Calls prog 79 #[.agg #[Sv p.name,vP A p c]] w fun e w'=>e= .returned (.bool (BS p))/\Below w.heap.size w w':=by
 have Z0:=Bd p;have Z1:=DC p;have Z2:=C3 p.vals;have H0:Below w.heap.size w (w.alloc (.cells #[Sv p.name,vP A p c] 57)):=zA;have HV:=hid hv;have F1:=hid fun s (h:s∈p.vals)=>C2 h;clear hv;go_enter func79,ntmps79;go_wp2_with fail;refine (Cl p.name _ (by omega)).mono ?_;rintro e w1 ⟨rfl,A2⟩;have A0:=H0.trans (A2.mono H0.size);have A5:w.heap.size<w1.heap.size:=(by have:=A2.size;simp at this;omega);have q1:w1.cell? (Ad w.heap.size 1)=some (vP A p c):=(by rw[A2.cell (p:=(Ad w.heap.size 1)) (by simp)];simp);have HS:=hid (HV.out.keep A0 A0.size);have E2:=hL.below A0;obtain ⟨U,hU⟩: ∃U,Xs p.name=U:=⟨_,rfl⟩;rw[hU];have HU:=hid hU;clear hU A2 H0 HV hL;by_cases t0:U=AA
 ·have HQ:=hid t0;have a0:(U==[86,65,76,85,69])=true:=(by rw[t0];rfl);have a1:(U==[65,76,84,73,68])=false:=(by rw[t0];rfl);have a2:(U==[77,69,68,73,65,84,89,80,69])=false:=(by rw[t0];rfl);have a3:(U==[69,78,67,79,68,73,78,71])=false:=(by rw[t0];rfl);have a4:(U==[76,65,78,71,85,65,71,69])=false:=(by rw[t0];rfl);have a5:(U==[80,82,69,70])=false:=(by rw[t0];rfl);have a6:(U==[84,89,80,69])=false:=(by rw[t0];rfl);have a7:(U==[80,73,68])=false:=(by rw[t0];rfl);have HT:=hid t0;clear t0;have HE:=hid (Ey p HU.out (by rw[HT.out];simp));go_wp2
  go_ret;exact ⟨AD HE.out.symm,A0⟩
 have g0:(U==AA)=false:=(by simpa using t0);by_cases t1:U=IH
 ·have HQ:=hid t1;have a0:(U==[86,65,76,85,69])=false:=(by rw[t1];rfl);have a1:(U==[65,76,84,73,68])=true:=(by rw[t1];rfl);have a2:(U==[77,69,68,73,65,84,89,80,69])=false:=(by rw[t1];rfl);have a3:(U==[69,78,67,79,68,73,78,71])=false:=(by rw[t1];rfl);have a4:(U==[76,65,78,71,85,65,71,69])=false:=(by rw[t1];rfl);have a5:(U==[80,82,69,70])=false:=(by rw[t1];rfl);have a6:(U==[84,89,80,69])=false:=(by rw[t1];rfl);have a7:(U==[80,73,68])=false:=(by rw[t1];rfl);have HT:=hid t1;clear t0 t1 g0;have HE:=hid (Ey p HU.out (by rw[HT.out];simp));go_wp2
  go_ret;exact ⟨AD HE.out.symm,A0⟩
 have g1:(U==IH)=false:=(by simpa using t1);by_cases t2:U=Ci
 ·have HQ:=hid t2;have a0:(U==[86,65,76,85,69])=false:=(by rw[t2];rfl);have a1:(U==[65,76,84,73,68])=false:=(by rw[t2];rfl);have a2:(U==[77,69,68,73,65,84,89,80,69])=true:=(by rw[t2];rfl);have a3:(U==[69,78,67,79,68,73,78,71])=false:=(by rw[t2];rfl);have a4:(U==[76,65,78,71,85,65,71,69])=false:=(by rw[t2];rfl);have a5:(U==[80,82,69,70])=false:=(by rw[t2];rfl);have a6:(U==[84,89,80,69])=false:=(by rw[t2];rfl);have a7:(U==[80,73,68])=false:=(by rw[t2];rfl);have HT:=hid t2;clear t0 t1 t2 g0 g1;have HE:=hid (Ey p HU.out (by rw[HT.out];simp));go_wp2
  go_ret;exact ⟨AD HE.out.symm,A0⟩
 have g2:(U==Ci)=false:=(by simpa using t2);by_cases t3:U=AE
 ·have HQ:=hid t3;have a0:(U==[86,65,76,85,69])=false:=(by rw[t3];rfl);have a1:(U==[65,76,84,73,68])=false:=(by rw[t3];rfl);have a2:(U==[77,69,68,73,65,84,89,80,69])=false:=(by rw[t3];rfl);have a3:(U==[69,78,67,79,68,73,78,71])=true:=(by rw[t3];rfl);have a4:(U==[76,65,78,71,85,65,71,69])=false:=(by rw[t3];rfl);have a5:(U==[80,82,69,70])=false:=(by rw[t3];rfl);have a6:(U==[84,89,80,69])=false:=(by rw[t3];rfl);have a7:(U==[80,73,68])=false:=(by rw[t3];rfl);have HT:=hid t3;clear t0 t1 t2 t3 g0 g1 g2;have HE:=hid (Ey p HU.out (by rw[HT.out];simp));go_wp2
  go_ret;exact ⟨AD HE.out.symm,A0⟩
 have g3:(U==AE)=false:=(by simpa using t3);by_cases t4:U=BD
 ·have HQ:=hid t4;have a0:(U==[86,65,76,85,69])=false:=(by rw[t4];rfl);have a1:(U==[65,76,84,73,68])=false:=(by rw[t4];rfl);have a2:(U==[77,69,68,73,65,84,89,80,69])=false:=(by rw[t4];rfl);have a3:(U==[69,78,67,79,68,73,78,71])=false:=(by rw[t4];rfl);have a4:(U==[76,65,78,71,85,65,71,69])=true:=(by rw[t4];rfl);have a5:(U==[80,82,69,70])=false:=(by rw[t4];rfl);have a6:(U==[84,89,80,69])=false:=(by rw[t4];rfl);have a7:(U==[80,73,68])=false:=(by rw[t4];rfl);have HT:=hid t4;clear t0 t1 t2 t3 t4 g0 g1 g2 g3;by_cases h1:p.vals.length=1
  ·obtain ⟨b,o,s,rfl,DA,hd,hc⟩:=HS.out.at_ (k:=0) (by omega);rw[Nat.add_zero] at hc;have HE:=hid ((Mo p HU.out (Mq h1 hd)).trans (show BH U s=BH BD s by rw[HT.out]));have H8:=F1.out s (List.mem_of_mem_drop (i:=0) (by rw[hd];simp));have hq:((p.vals.length:Int)==1)=true:=(by rw[h1];rfl);have W0:(0:Int)<(p.vals.length:Int):=(by omega);clear hd h1;go_wp2_with fail;refine (MX s _ (by omega)).mono ?_;rintro e w2 ⟨⟨u,pp,rfl,hu⟩,A7⟩;have N1:=A0.trans (A7.mono A0.size);by_cases hl:Bf s=0
   ·rw[hl] at hu;obtain rfl:=hu.isNil;have HR:=hid (show BS p=true by rw[HE.out,show BH BD s=(Bf s==0) from rfl,hl];rfl);clear hu hl;go_wp2
    go_ret;exact ⟨AD HR.out.symm,N1⟩
   ·obtain ⟨t,x,rfl⟩:=hu.notNil hl;have HR:=hid (show BS p=false by rw[HE.out,show BH BD s=(Bf s==0) from rfl];simpa using hl);clear hu hl;go_wp2
    go_ret;exact ⟨AD HR.out.symm,N1⟩
  ·have HE:=hid (Gl p HU.out (by rw[HT.out];rfl) h1);have hq:((p.vals.length:Int)==1)=false:=(by simp;omega);clear h1;go_wp2
   go_ret;exact ⟨AD HE.out.symm,A0⟩
 have g4:(U==BD)=false:=(by simpa using t4);by_cases t5:U=CM
 ·have HQ:=hid t5;have a0:(U==[86,65,76,85,69])=false:=(by rw[t5];rfl);have a1:(U==[65,76,84,73,68])=false:=(by rw[t5];rfl);have a2:(U==[77,69,68,73,65,84,89,80,69])=false:=(by rw[t5];rfl);have a3:(U==[69,78,67,79,68,73,78,71])=false:=(by rw[t5];rfl);have a4:(U==[76,65,78,71,85,65,71,69])=false:=(by rw[t5];rfl);have a5:(U==[80,82,69,70])=true:=(by rw[t5];rfl);have a6:(U==[84,89,80,69])=false:=(by rw[t5];rfl);have a7:(U==[80,73,68])=false:=(by rw[t5];rfl);have HT:=hid t5;clear t0 t1 t2 t3 t4 t5 g0 g1 g2 g3 g4;by_cases h1:p.vals.length=1
  ·obtain ⟨b,o,s,rfl,DA,hd,hc⟩:=HS.out.at_ (k:=0) (by omega);rw[Nat.add_zero] at hc;have HE:=hid ((Mo p HU.out (Mq h1 hd)).trans (show BH U s=BH CM s by rw[HT.out]));have H8:=F1.out s (List.mem_of_mem_drop (i:=0) (by rw[hd];simp));have hq:((p.vals.length:Int)==1)=true:=(by rw[h1];rfl);have W0:(0:Int)<(p.vals.length:Int):=(by omega);clear hd h1;go_wp2_with fail;refine (PM s (by omega) _ E2).mono ?_;rintro e w2 ⟨rfl,A7⟩;go_wp2
   go_ret;exact ⟨AD (by rw[HE.out];rfl),A0.trans (A7.mono A0.size)⟩
  ·have HE:=hid (Gl p HU.out (by rw[HT.out];rfl) h1);have hq:((p.vals.length:Int)==1)=false:=(by simp;omega);clear h1;go_wp2
   go_ret;exact ⟨AD HE.out.symm,A0⟩
 have g5:(U==CM)=false:=(by simpa using t5);by_cases t6:U=Ae
 ·have HQ:=hid t6;have a0:(U==[86,65,76,85,69])=false:=(by rw[t6];rfl);have a1:(U==[65,76,84,73,68])=false:=(by rw[t6];rfl);have a2:(U==[77,69,68,73,65,84,89,80,69])=false:=(by rw[t6];rfl);have a3:(U==[69,78,67,79,68,73,78,71])=false:=(by rw[t6];rfl);have a4:(U==[76,65,78,71,85,65,71,69])=false:=(by rw[t6];rfl);have a5:(U==[80,82,69,70])=false:=(by rw[t6];rfl);have a6:(U==[84,89,80,69])=true:=(by rw[t6];rfl);have a7:(U==[80,73,68])=false:=(by rw[t6];rfl);have HT:=hid t6;clear t0 t1 t2 t3 t4 t5 t6 g0 g1 g2 g3 g4 g5;have HE:=hid (show BS p=(!p.vals.isEmpty&&p.vals.all AP) by rw[Gm p (U:=Ae) (HU.out.trans HT.out) (by decide)];rfl);go_wp2
  go_loop [5,50] (fun _ i=> ∃k:Nat,k<=p.vals.length/\i=Iv k/\Hid ((p.vals.drop k).all AP=p.vals.all AP)) (fun _ i=>p.vals.length-(intOf i).toNat)
  case atStart=>exact ⟨0,by omega,rfl,hid rfl⟩
  case round=>
   obtain ⟨k,hk,rfl,HF⟩:=hrel;by_cases DT:k<p.vals.length
   ·obtain ⟨b,o,s,rfl,DA,hd,hc⟩:=HS.out.at_ DT;have H8:=F1.out s (List.mem_of_mem_drop (by rw[hd];simp));have A6:=hid (show p.vals.all AP=(AP s&&(p.vals.drop (k+1)).all AP) by rw[<-HF.out,hd,List.all_cons]);clear hd HF;go_wp2_with fail;refine (Dp s _ (by omega)).mono ?_;rintro e w2 ⟨rfl,rfl⟩;obtain ⟨z,hz⟩: ∃z,AP s=z:=⟨_,rfl⟩;rw[hz] at A6⊢;clear hz;cases z with
    |true=>
     have Z3:=hid (show (p.vals.drop (k+1)).all AP=p.vals.all AP by rw[A6.out,Bool.true_and]);clear A6;go_wp2
     go_round
     case rel=>exact ⟨k+1,by omega,by go_num,Z3⟩
     case measure=>simp[intOf];omega
    |false=>
     have HR:=hid (show BS p=false by rw[HE.out,A6.out,Bool.false_and,Bool.and_false]);go_wp2
     go_ret;exact ⟨AD HR.out.symm,A0⟩
   ·obtain rfl:k=p.vals.length:=(by omega);have HR:=hid (show BS p=decide (0<p.vals.length) by rw[HE.out,<-HF.out,List.drop_length,List.all_nil,Bool.and_true,Gq]);clear HF HE;go_wp2
    go_ret;exact ⟨AD HR.out.symm,A0⟩
 have g6:(U==Ae)=false:=(by simpa using t6);by_cases t7:U=Qc
 ·have HQ:=hid t7;have a0:(U==[86,65,76,85,69])=false:=(by rw[t7];rfl);have a1:(U==[65,76,84,73,68])=false:=(by rw[t7];rfl);have a2:(U==[77,69,68,73,65,84,89,80,69])=false:=(by rw[t7];rfl);have a3:(U==[69,78,67,79,68,73,78,71])=false:=(by rw[t7];rfl);have a4:(U==[76,65,78,71,85,65,71,69])=false:=(by rw[t7];rfl);have a5:(U==[80,82,69,70])=false:=(by rw[t7];rfl);have a6:(U==[84,89,80,69])=false:=(by rw[t7];rfl);have a7:(U==[80,73,68])=true:=(by rw[t7];rfl);have HT:=hid t7;clear t0 t1 t2 t3 t4 t5 t6 t7 g0 g1 g2 g3 g4 g5 g6;have HE:=hid (show BS p=(!p.vals.isEmpty&&p.vals.all Fq) by rw[Gm p (U:=Qc) (HU.out.trans HT.out) (by decide)];rfl);go_wp2
  go_loopw [7,8,9,10,63] (fun _ _ _ _ i wr=> ∃k:Nat,k<=p.vals.length/\i=Iv k/\Hid (p.vals.all Fq=(p.vals.drop k).all Fq)/\Below w1.heap.size w1 wr) (fun _ _ _ _ i _=>p.vals.length-(intOf i).toNat);case atStart=>exact ⟨0,by omega,rfl,hid rfl,zB⟩
  case round=>
   obtain ⟨k,hk,rfl,HF,hb⟩:=hrel;have F2:=hb.size;have G1:=E2.below hb;have E9:=A0.trans (hb.mono A0.size);have q1r:=(hb.cell (p:=(Ad w.heap.size 1)) A5).trans q1;by_cases DT:k<p.vals.length
   ·obtain ⟨b,o,s,rfl,DA,hd,AN⟩:=HS.out.at_ DT;have hc:=(hb.cell (p:=(Ad b (o+k))) DA).trans AN;have H8:=F1.out s (List.mem_of_mem_drop (by rw[hd];simp));have A6:=hid (show p.vals.all Fq=(Fq s&&(p.vals.drop (k+1)).all Fq) by rw[HF.out,hd,List.all_cons]);clear hd HF AN;go_wp2_with fail;refine (Na s (by omega) _ G1).mono ?_;rintro e w2 ⟨⟨x,y,t,rfl,HP,hx,hy⟩,A7⟩;have B2:=hb.trans (A7.mono F2);have Z4:=E2.below B2;have I4:=hid (show Fq s=(ET x 999&&(!t||ET y 999)) from HP.out);clear HP A7;go_wp2_with fail;refine (KX x (by omega) _ Z4).mono ?_;rintro e w3 ⟨rfl,F3⟩;have AV:=B2.trans (F3.mono B2.size);have Z5:=E2.below AV;clear F3;obtain ⟨z,hz⟩: ∃z,ET x 999=z:=⟨_,rfl⟩;rw[hz] at I4⊢;clear hz;cases z with
    |false=>
     have HR:=hid (show BS p=false by rw[HE.out,A6.out,I4.out,Bool.false_and,Bool.false_and,Bool.and_false]);go_wp2
     go_ret;exact ⟨AD HR.out.symm,A0.trans (AV.mono A0.size)⟩
    |true=>
     cases t with
     |false=>
      go_wp2
      go_roundw;case rel=>exact ⟨k+1,by omega,by go_num,hid (by rw[A6.out,I4.out];rfl),AV⟩
      case measure=>simp[intOf];omega
     |true=>
      go_wp2_with fail;refine (KX y (by omega) _ Z5).mono ?_;rintro e w4 ⟨rfl,HZ⟩;have W1:=AV.trans (HZ.mono AV.size);clear HZ;obtain ⟨z,hz⟩: ∃z,ET y 999=z:=⟨_,rfl⟩;rw[hz] at I4⊢;clear hz;cases z with
      |false=>
       have HR:=hid (show BS p=false by rw[HE.out,A6.out,I4.out];exact Bool.and_false _);go_wp2
       go_ret;exact ⟨AD HR.out.symm,A0.trans (W1.mono A0.size)⟩
      |true=>
       go_wp2
       go_roundw;case rel=>exact ⟨k+1,by omega,by go_num,hid (by rw[A6.out,I4.out];rfl),W1⟩
       case measure=>simp[intOf];omega
   ·obtain rfl:k=p.vals.length:=(by omega);have HR:=hid (show BS p=decide (0<p.vals.length) by rw[HE.out,HF.out,List.drop_length,List.all_nil,Bool.and_true,Gq]);have ZP:w.heap.size<wr.heap.size:=(by omega);clear HF HE;go_wp2
    go_ret;exact ⟨AD HR.out.symm,E9⟩
 have g7:(U==Qc)=false:=(by simpa using t7);have HE:=hid (show BS p=decide (0<p.vals.length) by rw[Gm p HU.out (by unfold CI;rw[g0,g1,g2,g3,g4,g5];rfl),List.all_eq_true.2 (fun v _=>Gn g4 g5 g6 g7 v),Bool.and_true,Gq]);unfold AA at g0;unfold IH at g1;unfold Ci at g2;unfold AE at g3;unfold BD at g4;unfold CM at g5;unfold Ae at g6;unfold Qc at g7;clear t0 t1 t2 t3 t4 t5 t6 t7;go_wp2
 go_ret;exact ⟨AD HE.out.symm,A0⟩
def ZG:Str:=[32,86,65,76,85,69,32,65,76,84,73,68,32,77,69,68,73,65,84,89,80,69,32,69,78,67,79,68,73,78,71,32,76,65,78,71,85,65,71,69,32,80,82,69,70,32]
theorem D4 (U:Str):((⟨#[32]⟩:ByteArray)++⟨U.toArray⟩)++⟨#[32]⟩=⟨(YD U).toArray⟩:=by rw[show (⟨#[32]⟩:ByteArray)=⟨[32].toArray⟩ from rfl,AM,AM];rfl
theorem Ir (L:Str) (U:Str) (x:Bool) (h:Lib.contains L (YD U)=x) (w:World) (hL:LD w) (hs:L.length<=1000):Calls prog 33 #[Sv L,.string ⟨(YD U).toArray⟩] w fun e w'=>e= .returned (.bool x)/\w'=w:=by obtain ⟨B,hB⟩:=hL;obtain ⟨m,hm⟩:=hB.mx;refine (strings_Contains ⟨L.toArray⟩ _ m w (show L.toArray.size<_ by simp;omega) hm).mono ?_;rintro e w1 ⟨rfl,rfl⟩;exact ⟨AD h,rfl⟩
theorem QD (U:Str) (x:Bool) (h:Lib.contains ZG (YD U)=x) (w:World) (hL:LD w):Calls prog 33 #[.string ⟨#[32,86,65,76,85,69,32,65,76,84,73,68,32,77,69,68,73,65,84,89,80,69,32,69,78,67,79,68,73,78,71,32,76,65,78,71,85,65,71,69,32,80,82,69,70,32]⟩,.string ⟨(YD U).toArray⟩] w fun e w'=>e= .returned (.bool x)/\w'=w:=Ir ZG U x h w hL (by decide)
theorem Tc (l:Str):(Xs l).length=l.length:=by unfold Xs;simp
theorem QE (p:Pm) (A:Option Addr) (c:Nat) (w:World) (hL:LD w) (hn:AP p.name=true) (hv:CD w w.heap.size (vP A p c) p.vals) (hw:wP p<=134217728):
 Calls prog 54 #[.agg #[Sv p.name,vP A p c]] w fun e w'=>e= .returned (.bool (BS p))/\Below w.heap.size w w':=by
 have Z0:=Bd p;have Z1:=DC p;have Z2:=C3 p.vals;have H0:Below w.heap.size w (w.alloc (.cells #[Sv p.name,vP A p c] 57)):=zA;have HV:=hid hv;have F1:=hid fun s (h:s∈p.vals)=>C2 h;have R0:=hid (IU hn);clear hv hn;by_cases h0:p.vals.length=0
 ·have HE:=hid (show BS p=false by unfold BS;rw[List.eq_nil_of_length_eq_zero h0];rfl);have hq:((p.vals.length:Int)==0)=true:=(by rw[h0];rfl);clear h0;go_enter func54,ntmps54;go_wp2
  go_ret;exact ⟨AD HE.out.symm,H0⟩
 have W0:((p.vals.length:Int)==0)=false:=(by simpa using fun e=>h0 (by rw[e];rfl));go_enter func54,ntmps54;go_wp2_with fail;refine (Hv p.name _ (by omega)).mono ?_;rintro e w1 ⟨rfl,A2⟩;have A0:=H0.trans (A2.mono H0.size);have A5:w.heap.size<w1.heap.size:=(by have:=A2.size;simp at this;omega);have q1:w1.cell? (Ad w.heap.size 1)=some (vP A p c):=(by rw[A2.cell (p:=(Ad w.heap.size 1)) (by simp)];simp);have HS:=hid (HV.out.keep A0 A0.size);have E2:=hL.below A0;have Z6:=Tc p.name;obtain ⟨U,hU⟩: ∃U,Xs p.name=U:=⟨_,rfl⟩;rw[hU] at Z6 R0⊢;have HU:=hid hU;have Z7:=D4 U;have W2:=hid (PK U R0.out);clear hU A2 H0 HV hL R0;go_wp2_with fail;refine (QD U (CI U) W2.out _ E2).mono ?_;rintro e w2 ⟨rfl,rfl⟩;clear Z7 W2;by_cases I0:CI U=true/\p.vals.length≠1
 ·have HE:=hid (Gl p HU.out I0.1 I0.2);have hq:((p.vals.length:Int) != 1)=true:=(by simp;omega);rw[I0.1];clear I0;go_wp2
  go_ret;exact ⟨AD HE.out.symm,A0⟩
 have HE:=hid (show BS p=p.vals.all (BH U) by
  rw[KW p HU.out,show p.vals.isEmpty=false by cases hh:p.vals with|nil=>exact absurd (by rw[hh];rfl) h0|cons a b=>rfl];cases ho:CI U with
  |false=>simp
  |true=>
   have:p.vals.length=1:=Classical.byContradiction fun hc=>I0 ⟨ho,hc⟩;rw[this];simp)
 have M2:(CI U=true/\((p.vals.length:Int) != 1)=false)∨CI U=false:=by
  cases ho:CI U with
  |false=>exact .inr rfl
  |true=>exact .inl ⟨rfl,by have:p.vals.length=1:=Classical.byContradiction fun hc=>I0 ⟨ho,hc⟩;rw[this];rfl⟩
 clear I0 h0;rcases M2 with ⟨ho,ZQ⟩|ho;rw[ho];by_cases t0:U=BD
 ·have HQ:=hid t0;have a0:(U==[76,65,78,71,85,65,71,69])=true:=(by rw[t0];rfl);have a1:(U==[80,82,69,70])=false:=(by rw[t0];rfl);have a2:(U==[84,89,80,69])=false:=(by rw[t0];rfl);have a3:(U==[80,73,68])=false:=(by rw[t0];rfl);clear ho t0;go_wp2
  go_loopw [5,6,7,9,30] (fun _ _ _ _ i wr=> ∃k:Nat,k<=p.vals.length/\i=Iv k/\Hid (p.vals.all (BH U)=(p.vals.drop k).all (BH U))/\Below w2.heap.size w2 wr) (fun _ _ _ _ i _=>p.vals.length-(intOf i).toNat);case atStart=>exact ⟨0,by omega,rfl,hid rfl,zB⟩
  case round=>
   obtain ⟨k,hk,rfl,HF,hb⟩:=hrel;have F2:=hb.size;have G1:=E2.below hb;have E9:=A0.trans (hb.mono A0.size);by_cases DT:k<p.vals.length
   ·obtain ⟨b,o,s,rfl,DA,hd,AN⟩:=HS.out.at_ DT;have hc:=(hb.cell (p:=(Ad b (o+k))) DA).trans AN;have H8:=F1.out s (List.mem_of_mem_drop (by rw[hd];simp));have A6:=hid (show p.vals.all (BH U)=(BH U s&&(p.vals.drop (k+1)).all (BH U)) by rw[HF.out,hd,List.all_cons]);clear hd HF AN;go_wp2_with fail;refine (KC s _ (by omega) G1).mono ?_;rintro e w3 ⟨⟨pp,rfl⟩,B2⟩;have F3:=hb.trans (B2.mono F2);go_wp2_with fail;refine (CU _ _ _).mono ?_;rintro e w4 ⟨rfl,W3⟩;have AV:Below w2.heap.size w2 w4:=(by rw[<-W3];exact F3.alloc F3.size _);clear W3 B2 F3;obtain ⟨z,hz⟩: ∃z,(Bf s==0)=z:=⟨_,rfl⟩;have E0:=hid (show BH U s=z by rw[HQ.out,<-hz];rfl);rw[hz];clear hz;cases z with
    |true=>
     go_wp2
     go_roundw;case rel=>exact ⟨k+1,by omega,by go_num,hid (by rw[A6.out,E0.out,Bool.true_and]),AV⟩
     case measure=>simp[intOf];omega
    |false=>
     have HR:=hid (show BS p=false by rw[HE.out,A6.out,E0.out,Bool.false_and]);go_wp2
     go_ret;exact ⟨AD HR.out.symm,A0.trans ((AV).mono A0.size)⟩
   ·obtain rfl:k=p.vals.length:=(by omega);have HR:=hid (show BS p=true by rw[HE.out,HF.out,List.drop_length,List.all_nil]);clear HF HE;go_wp2
    go_ret;exact ⟨AD HR.out.symm,E9⟩
 have g0:(U==BD)=false:=(by simpa using t0);by_cases t1:U=CM
 ·have HQ:=hid t1;have a0:(U==[76,65,78,71,85,65,71,69])=false:=(by rw[t1];rfl);have a1:(U==[80,82,69,70])=true:=(by rw[t1];rfl);have a2:(U==[84,89,80,69])=false:=(by rw[t1];rfl);have a3:(U==[80,73,68])=false:=(by rw[t1];rfl);clear ho t0 t1 g0;go_wp2
  go_loopw [5,6,7,9,30] (fun _ _ _ _ i wr=> ∃k:Nat,k<=p.vals.length/\i=Iv k/\Hid (p.vals.all (BH U)=(p.vals.drop k).all (BH U))/\Below w2.heap.size w2 wr) (fun _ _ _ _ i _=>p.vals.length-(intOf i).toNat);case atStart=>exact ⟨0,by omega,rfl,hid rfl,zB⟩
  case round=>
   obtain ⟨k,hk,rfl,HF,hb⟩:=hrel;have F2:=hb.size;have G1:=E2.below hb;have E9:=A0.trans (hb.mono A0.size);by_cases DT:k<p.vals.length
   ·obtain ⟨b,o,s,rfl,DA,hd,AN⟩:=HS.out.at_ DT;have hc:=(hb.cell (p:=(Ad b (o+k))) DA).trans AN;have H8:=F1.out s (List.mem_of_mem_drop (by rw[hd];simp));have A6:=hid (show p.vals.all (BH U)=(BH U s&&(p.vals.drop (k+1)).all (BH U)) by rw[HF.out,hd,List.all_cons]);clear hd HF AN;go_wp2_with fail;refine (NY s (by omega) _ G1).mono ?_;rintro e w3 ⟨rfl,B2⟩;have AV:=hb.trans (B2.mono F2);clear B2;obtain ⟨z,hz⟩: ∃z,ET s 100=z:=⟨_,rfl⟩;have E0:=hid (show BH U s=z by rw[HQ.out,<-hz];rfl);rw[hz];clear hz;cases z with
    |true=>
     go_wp2
     go_roundw;case rel=>exact ⟨k+1,by omega,by go_num,hid (by rw[A6.out,E0.out,Bool.true_and]),AV⟩
     case measure=>simp[intOf];omega
    |false=>
     have HR:=hid (show BS p=false by rw[HE.out,A6.out,E0.out,Bool.false_and]);go_wp2
     go_ret;exact ⟨AD HR.out.symm,A0.trans ((AV).mono A0.size)⟩
   ·obtain rfl:k=p.vals.length:=(by omega);have HR:=hid (show BS p=true by rw[HE.out,HF.out,List.drop_length,List.all_nil]);clear HF HE;go_wp2
    go_ret;exact ⟨AD HR.out.symm,E9⟩
 have g1:(U==CM)=false:=(by simpa using t1);by_cases t2:U=Ae
 ·have HQ:=hid t2;rw[t2] at ho;cases ho
 have g2:(U==Ae)=false:=(by simpa using t2);by_cases t3:U=Qc
 ·have HQ:=hid t3;rw[t3] at ho;cases ho
 rotate_left;rw[ho];by_cases t0:U=BD
 ·have HQ:=hid t0;rw[t0] at ho;cases ho
 have g0:(U==BD)=false:=(by simpa using t0);by_cases t1:U=CM
 ·have HQ:=hid t1;rw[t1] at ho;cases ho
 have g1:(U==CM)=false:=(by simpa using t1);by_cases t2:U=Ae
 ·have HQ:=hid t2;have a0:(U==[76,65,78,71,85,65,71,69])=false:=(by rw[t2];rfl);have a1:(U==[80,82,69,70])=false:=(by rw[t2];rfl);have a2:(U==[84,89,80,69])=true:=(by rw[t2];rfl);have a3:(U==[80,73,68])=false:=(by rw[t2];rfl);clear ho t0 t1 t2 g0 g1;go_wp2
  go_loopw [5,6,7,9,30] (fun _ _ _ _ i wr=> ∃k:Nat,k<=p.vals.length/\i=Iv k/\Hid (p.vals.all (BH U)=(p.vals.drop k).all (BH U))/\Below w2.heap.size w2 wr) (fun _ _ _ _ i _=>p.vals.length-(intOf i).toNat);case atStart=>exact ⟨0,by omega,rfl,hid rfl,zB⟩
  case round=>
   obtain ⟨k,hk,rfl,HF,hb⟩:=hrel;have F2:=hb.size;have G1:=E2.below hb;have E9:=A0.trans (hb.mono A0.size);by_cases DT:k<p.vals.length
   ·obtain ⟨b,o,s,rfl,DA,hd,AN⟩:=HS.out.at_ DT;have hc:=(hb.cell (p:=(Ad b (o+k))) DA).trans AN;have H8:=F1.out s (List.mem_of_mem_drop (by rw[hd];simp));have A6:=hid (show p.vals.all (BH U)=(BH U s&&(p.vals.drop (k+1)).all (BH U)) by rw[HF.out,hd,List.all_cons]);clear hd HF AN;go_wp2_with fail;refine (DQ s _ (by omega)).mono ?_;rintro e w3 ⟨rfl,B2⟩;have AV:=hb.trans (B2.mono F2);clear B2;obtain ⟨z,hz⟩: ∃z,AP s=z:=⟨_,rfl⟩;have E0:=hid (show BH U s=z by rw[HQ.out,<-hz];rfl);rw[hz];clear hz;cases z with
    |true=>
     go_wp2
     go_roundw;case rel=>exact ⟨k+1,by omega,by go_num,hid (by rw[A6.out,E0.out,Bool.true_and]),AV⟩
     case measure=>simp[intOf];omega
    |false=>
     have HR:=hid (show BS p=false by rw[HE.out,A6.out,E0.out,Bool.false_and]);go_wp2
     go_ret;exact ⟨AD HR.out.symm,A0.trans ((AV).mono A0.size)⟩
   ·obtain rfl:k=p.vals.length:=(by omega);have HR:=hid (show BS p=true by rw[HE.out,HF.out,List.drop_length,List.all_nil]);clear HF HE;go_wp2
    go_ret;exact ⟨AD HR.out.symm,E9⟩
 have g2:(U==Ae)=false:=(by simpa using t2);by_cases t3:U=Qc
 ·have HQ:=hid t3;have a0:(U==[76,65,78,71,85,65,71,69])=false:=(by rw[t3];rfl);have a1:(U==[80,82,69,70])=false:=(by rw[t3];rfl);have a2:(U==[84,89,80,69])=false:=(by rw[t3];rfl);have a3:(U==[80,73,68])=true:=(by rw[t3];rfl);clear ho t0 t1 t2 t3 g0 g1 g2;go_wp2
  go_loopw [5,6,7,9,30] (fun _ _ _ _ i wr=> ∃k:Nat,k<=p.vals.length/\i=Iv k/\Hid (p.vals.all (BH U)=(p.vals.drop k).all (BH U))/\Below w2.heap.size w2 wr) (fun _ _ _ _ i _=>p.vals.length-(intOf i).toNat);case atStart=>exact ⟨0,by omega,rfl,hid rfl,zB⟩
  case round=>
   obtain ⟨k,hk,rfl,HF,hb⟩:=hrel;have F2:=hb.size;have G1:=E2.below hb;have E9:=A0.trans (hb.mono A0.size);by_cases DT:k<p.vals.length
   ·obtain ⟨b,o,s,rfl,DA,hd,AN⟩:=HS.out.at_ DT;have hc:=(hb.cell (p:=(Ad b (o+k))) DA).trans AN;have H8:=F1.out s (List.mem_of_mem_drop (by rw[hd];simp));have A6:=hid (show p.vals.all (BH U)=(BH U s&&(p.vals.drop (k+1)).all (BH U)) by rw[HF.out,hd,List.all_cons]);clear hd HF AN;go_wp2_with fail;refine (KB s 46 _ (by omega) G1).mono ?_;rintro e w3 ⟨⟨A3,c3,rfl,S1⟩,B2⟩;have F3:=hb.trans (B2.mono F2);have Z8:=E2.below F3;have Z9:=ID 46 s;have W4:=hid (GZ 46 s);have SS:=hid (show BH U s=(decide ((pcs 46 s).length<=2)&&(pcs 46 s).all (ET · 999)) by rw[HQ.out];rfl);obtain ⟨Q,hQ⟩: ∃Q,pcs 46 s=Q:=⟨_,rfl⟩;rw[hQ] at S1 Z9 W4 SS⊢;have ZI:=hid S1;clear hQ B2 S1;obtain ⟨z0,IB⟩: ∃z0,decide (Q.length<=2)=z0:=⟨_,rfl⟩;have U2:decide ((Q.length:Int)<=2)=z0:=(by rw[<-IB];exact decide_eq_decide.2 (by omega));rw[IB] at SS;clear IB;go_wp2
    go_loopw [6,9,57] (fun s6 _ i wx=> ∃(j:Nat) (z:Bool),j<=Q.length/\i=Iv j/\s6= .bool z/\Hid (BH U s=(z&&(Q.drop j).all (ET · 999)))/\Below w3.heap.size w3 wx) (fun _ _ i _=>Q.length-(intOf i).toNat);case atStart=>exact ⟨0,z0,by omega,rfl,rfl,SS,zB⟩
    case round=>
     obtain ⟨j,z,hj,rfl,rfl,HJ,I1⟩:=hrel;have ZM:=I1.size;have ZJ:=Z8.below I1;by_cases ZK:j<Q.length
     ·obtain ⟨b3,o3,t,rfl,W5,T5,W6⟩:=ZI.out.at_ ZK;have ZR:=(I1.cell (p:=(Ad b3 (o3+j))) W5).trans W6;have ZS:=W4.out t (List.mem_of_mem_drop (show t∈Q.drop j by rw[T5];simp));have TT:=hid (show BH U s=(z&&(ET t 999&&(Q.drop (j+1)).all (ET · 999))) by rw[HJ.out,T5,List.all_cons]);clear T5 HJ W6;cases z with
      |false=>
       go_wp2
       go_roundw;case rel=>exact ⟨j+1,false,by omega,by go_num,rfl,hid (by rw[TT.out];rfl),I1⟩
       case measure=>simp[intOf];omega
      |true=>
       go_wp2_with fail;refine (NZ t (by omega) _ ZJ).mono ?_;rintro e w5 ⟨rfl,AV⟩;have HZ:=I1.trans (AV.mono I1.size);obtain ⟨y,hy⟩: ∃y,ET t 999=y:=⟨_,rfl⟩;rw[hy] at TT⊢;clear hy AV;go_wp2
       go_roundw;case rel=>exact ⟨j+1,y,by omega,by go_num,rfl,hid (by rw[TT.out];rfl),HZ⟩
       case measure=>simp[intOf];omega
     ·obtain rfl:j=Q.length:=(by omega);have E0:=hid (show BH U s=z by rw[HJ.out,List.drop_length,List.all_nil,Bool.and_true]);have HZ:=F3.trans (I1.mono F3.size);clear HJ;cases z with
      |true=>
       go_wp2
       go_roundw;case rel=>exact ⟨k+1,by omega,by go_num,hid (by rw[A6.out,E0.out,Bool.true_and]),HZ⟩
       case measure=>simp[intOf];omega
      |false=>
       have HR:=hid (show BS p=false by rw[HE.out,A6.out,E0.out,Bool.false_and]);go_wp2
       go_ret;exact ⟨AD HR.out.symm,A0.trans ((HZ).mono A0.size)⟩
   ·obtain rfl:k=p.vals.length:=(by omega);have HR:=hid (show BS p=true by rw[HE.out,HF.out,List.drop_length,List.all_nil]);clear HF HE;go_wp2
    go_ret;exact ⟨AD HR.out.symm,E9⟩
 rotate_left;all_goals
  have g3:(U==Qc)=false:=(by simpa using t3);have ZL:=hid (fun v=>Gn g0 g1 g2 g3 v);unfold BD at g0;unfold CM at g1;unfold Ae at g2;unfold Qc at g3;clear ho t0 t1 t2 t3;go_wp2
  go_loopw [5,6,7,9,30] (fun _ _ _ _ i wr=> ∃k:Nat,k<=p.vals.length/\i=Iv k/\Hid (p.vals.all (BH U)=(p.vals.drop k).all (BH U))/\Below w2.heap.size w2 wr) (fun _ _ _ _ i _=>p.vals.length-(intOf i).toNat);case atStart=>exact ⟨0,by omega,rfl,hid rfl,zB⟩
  case round=>
   obtain ⟨k,hk,rfl,HF,hb⟩:=hrel;have F2:=hb.size;have G1:=E2.below hb;have E9:=A0.trans (hb.mono A0.size);by_cases DT:k<p.vals.length
   ·obtain ⟨b,o,s,rfl,DA,hd,AN⟩:=HS.out.at_ DT;have hc:=(hb.cell (p:=(Ad b (o+k))) DA).trans AN;have H8:=F1.out s (List.mem_of_mem_drop (by rw[hd];simp));have A6:=hid (show p.vals.all (BH U)=(BH U s&&(p.vals.drop (k+1)).all (BH U)) by rw[HF.out,hd,List.all_cons]);clear hd HF AN;have E0:=hid (ZL.out s);go_wp2
    go_roundw;case rel=>exact ⟨k+1,by omega,by go_num,hid (by rw[A6.out,E0.out,Bool.true_and]),hb⟩
    case measure=>simp[intOf];omega
   ·obtain rfl:k=p.vals.length:=(by omega);have HR:=hid (show BS p=true by rw[HE.out,HF.out,List.drop_length,List.all_nil]);clear HF HE;go_wp2
    go_ret;exact ⟨AD HR.out.symm,E9⟩
end Go.Proofs.YtjhpdljphchfaaaGreatDoor
