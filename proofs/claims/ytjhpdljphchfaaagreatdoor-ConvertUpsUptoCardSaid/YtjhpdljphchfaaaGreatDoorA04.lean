/- A part of the proof of ConvertUps: a map of the call of its own, read as a function. -/
import Derived.MapKept
import Derived.WideMake
import Derived.Below
import Derived.Test.YtjhpdljphchfaaaGreatDoorA01
set_option maxHeartbeats 40000000
set_option maxRecDepth 1000000
set_option linter.all false
namespace Go.Proofs.YtjhpdljphchfaaaGreatDoor
open Go.RowKit
section
open Go.MapKept Classical
theorem RT {kd:TypeDesc} {a b:Value} (ha:IsKey kd a) (hb:IsKey kd b): ∃c,Instr.sameNow kd a b=some c/\(c=true↔a=b):=by exact sameNow_of_keys ha hb
theorem Gi {kd:TypeDesc} {k:Value} (hk:IsKey kd k): ∀(L:List MapEntry) (i:Nat),(∀x∈L,IsKey kd x.key)->
 ∃o,Instr.findNow kd k L i=some o/\((o=none/\ ∀x∈L,x.key≠k)∨(∃j x,o=some (i+j,x.val)/\L[j]? =some x/\x.key=k))
 |[],i,_=>⟨none,rfl,.inl ⟨rfl,by simp⟩⟩
 |e::L,i,h=>by
  obtain ⟨c,h1,h2⟩:=RT hk (h e (by simp));obtain ⟨o,h3,h4⟩:=Gi hk L (i+1) (fun x hx=>h x (by simp[hx]));unfold Instr.findNow;rw[h1];cases c with
  |true=>exact ⟨_,rfl,.inr ⟨0,e,rfl,rfl,(h2.1 rfl).symm⟩⟩
  |false=>
   refine ⟨o,h3, ?_⟩;have A0:e.key≠k:=fun e'=>(by have:=h2.2 e'.symm;cases this);rcases h4 with ⟨rfl,h5⟩|⟨j,x,rfl,h5,h6⟩
   ·exact .inl ⟨rfl,by
     intro x hx;rcases List.mem_cons.1 hx with rfl|hx
     ·exact A0
     ·exact h5 x hx⟩
   ·exact .inr ⟨j+1,x,by rw[show i+1+j=i+(j+1) by omega],by simpa using h5,h6⟩
def FQ (w:World) (r:Nat) (kd:TypeDesc) (f:Value->Option Value):Prop:=
 ∃(E:Array MapEntry) (c:Nat),w.heap[r]? =some (.map E c)/\(∀x∈E.toList,IsKey kd x.key)/\E.toList.Pairwise (fun x y=>x.key≠y.key)/\ ∀k v,f k=some v↔ ∃x∈E.toList,x.key=k/\x.val=v
theorem FQ.lt {w:World} {r:Nat} {kd:TypeDesc} {f:Value->Option Value} (h:FQ w r kd f):r<w.heap.size:=let ⟨_,_,h,_⟩:=h;(Array.getElem?_eq_some_iff.1 h).1
theorem FQ.keep {w w':World} {r:Nat} {kd:TypeDesc} {f:Value->Option Value} (h:FQ w r kd f) (hb:Below w.heap.size w w'):FQ w' r kd f:=
 have hl:=h.lt
 let ⟨E,c,h1,h2⟩:=h
 ⟨E,c,(hb.block r hl).trans h1,h2⟩
theorem FQ.same {w w':World} {r:Nat} {kd:TypeDesc} {f:Value->Option Value} (h:FQ w r kd f) (hb:w'.heap[r]? =w.heap[r]?):FQ w' r kd f:=
 let ⟨E,c,h1,h2⟩:=h
 ⟨E,c,hb.trans h1,h2⟩
theorem FQ.new (w:World) (kd:TypeDesc):FQ (w.alloc (.map #[] 0)) w.heap.size kd (fun _=>none):=
 ⟨#[],0,heap_alloc_new w _,by simp,by simp,by simp⟩
noncomputable def Dm (f:Value->Option Value) (k v:Value):Value->Option Value:=fun x=>if x=k then some v else f x
theorem Fb {L:List MapEntry} (hp:L.Pairwise (fun x y=>x.key≠y.key)) {i j:Nat} {x y:MapEntry} (hi:L[i]? =some x) (hj:L[j]? =some y) (he:x.key=y.key):i=j:=by
 rcases Nat.lt_trichotomy i j with h|h|h
 ·exact absurd he (by have h1:=(List.getElem?_eq_some_iff.1 hi);have h2:=(List.getElem?_eq_some_iff.1 hj);obtain ⟨a1,rfl⟩:=h1;obtain ⟨a2,rfl⟩:=h2;exact List.pairwise_iff_getElem.1 hp i j a1 a2 h)
 ·exact h
 ·exact absurd he.symm (by have h1:=(List.getElem?_eq_some_iff.1 hi);have h2:=(List.getElem?_eq_some_iff.1 hj);obtain ⟨a1,rfl⟩:=h1;obtain ⟨a2,rfl⟩:=h2;exact List.pairwise_iff_getElem.1 hp j i a2 a1 h)
section
variable {P:Program}
theorem FQ.look {w:World} {r:Nat} {kd:TypeDesc} {f:Value->Option Value} (h:FQ w r kd f) {T kt et:TypeId} (hT:P.underlying T=some (.map kt et)) (A1:P.underlying kt=some kd) {k z:Value} (hk:IsKey kd k) (hz:(zeroValue et).run P w= .ok z w) (ok:Bool):
 (Instr.lookup T (.map (some r)) k ok).run P w= .ok (if ok then .tuple #[(f k).getD z,.bool (f k).isSome] else (f k).getD z) w:=by
 obtain ⟨E,c,h1,h2,h3,h4⟩:=h;obtain ⟨o,h5,h6⟩:=Gi hk E.toList 0 h2;have hc:=run_checkKey (P:=P) (w:=w) A1 hk E.isEmpty 9999;simp only[Instr.lookup,Sem.run_bind,run_underlying hT,Result.andThen];rcases h6 with ⟨rfl,h7⟩|⟨j,x,rfl,h7,h8⟩
 ·have hn:f k=none:=by
   cases hf:f k with
   |none=>rfl
   |some v=>
    obtain ⟨x,hx,A3,_⟩:=(h4 k v).1 hf;exact absurd A3 (h7 x hx)
  simp[MapKept.run_getObj_map h1,hc,run_findKey A1 h5,hz,hn,Result.andThen]
 ·have hs:f k=some x.val:=(h4 k x.val).2 ⟨x,List.mem_of_getElem? h7,h8,rfl⟩;simp[MapKept.run_getObj_map h1,hc,run_findKey A1 h5,hs,Result.andThen]
theorem FQ.upd {w:World} {r:Nat} {kd:TypeDesc} {f:Value->Option Value} (h:FQ w r kd f) {T kt et:TypeId} (hT:P.underlying T=some (.map kt et)) (A1:P.underlying kt=some kd) {k:Value} (hk:IsKey kd k) (v:Value):
 ∃o,(Instr.mapUpdate T (.map (some r)) k v).run P w= .ok () {w with heap:=w.heap.setIfInBounds r o}/\FQ {w with heap:=w.heap.setIfInBounds r o} r kd (Dm f k v):=by
 obtain ⟨E,c,h1,h2,h3,h4⟩:=h;obtain ⟨o,h5,h6⟩:=Gi hk E.toList 0 h2;have hc:=run_checkKey (P:=P) (w:=w) A1 hk false 9999;rcases h6 with ⟨rfl,h7⟩|⟨j,x,rfl,h7,h8⟩
 ·refine ⟨.map (E.push {key:=k,val:=v,born:=c}) (c+1), ?_, ?_⟩
  ·simp[Instr.mapUpdate,run_underlying hT,MapKept.run_getObj_map h1,hc,run_findKey A1 h5,MapKept.run_setObj_map _ h1,Result.andThen]
  ·refine ⟨_,_,(heap_set h1).1, ?_, ?_, ?_⟩
   ·intro y hy;simp only[Array.toList_push,List.mem_append,List.mem_singleton] at hy;rcases hy with hy|rfl
    ·exact h2 y hy
    ·exact hk
   ·simp only[Array.toList_push];refine List.pairwise_append.2 ⟨h3,by simp, ?_⟩;intro a ha b hb;rw[List.mem_singleton.1 hb];exact h7 a ha
   ·intro k' v';unfold Dm;simp only[Array.toList_push,List.mem_append,List.mem_singleton];constructor
    ·intro hf;split at hf
     ·rename_i e;subst e;injection hf with hf;subst hf;exact ⟨_,.inr rfl,rfl,rfl⟩
     ·obtain ⟨y,hy,e1,e2⟩:=(h4 k' v').1 hf;exact ⟨y,.inl hy,e1,e2⟩
    ·rintro ⟨y,hy|rfl,rfl,rfl⟩
     ·rw[if_neg (h7 y hy)];exact (h4 _ _).2 ⟨y,hy,rfl,rfl⟩
     ·rw[if_pos rfl]
 ·have hj:E[j]? =some x:=(by simpa using h7);have A4:(Instr.keyThatStays k k).run P w= .ok k w:=by
   have:Instr.sameBits 10000 k k=true:=(by cases kd<;>cases k<;>simp_all[IsKey,Instr.sameBits,bytes_beq]);simp[Instr.keyThatStays,this]
  refine ⟨.map (E.modify j fun e=>{e with key:=k,val:=v}) c, ?_, ?_⟩
  ·simp[Instr.mapUpdate,run_underlying hT,MapKept.run_getObj_map h1,hc,run_findKey A1 h5,hj,h8,A4,MapKept.run_setObj_map _ h1,Result.andThen]
  ·have hm: ∀y,y∈(E.modify j fun e=>{e with key:=k,val:=v}).toList↔(y={x with key:=k,val:=v}∨(y∈E.toList/\y.key≠k)):=by
    intro y;rw[List.mem_iff_getElem?];simp only[Array.getElem?_toList,Array.getElem?_modify];constructor
    ·rintro ⟨i,hi⟩;by_cases A2:j=i
     ·subst A2;rw[if_pos rfl,hj] at hi;exact .inl (by simpa using hi.symm)
     ·rw[if_neg A2] at hi;refine .inr ⟨by rw[List.mem_iff_getElem?];exact ⟨i,by simpa using hi⟩,fun e=>A2 ?_⟩;exact Fb h3 h7 (show E.toList[i]? =some y by simpa using hi) (h8.trans e.symm)
    ·rintro (rfl|⟨hy,A0⟩)
     ·exact ⟨j,by rw[if_pos rfl,hj];rfl⟩
     ·obtain ⟨i,hi⟩:=List.mem_iff_getElem?.1 hy;refine ⟨i, ?_⟩;have A2:j≠i:=fun e=>by
       subst e;rw[h7] at hi;injection hi with hi;subst hi;exact A0 h8
      rw[if_neg A2];simpa using hi
   refine ⟨_,_,(heap_set h1).1, ?_, ?_, ?_⟩
   ·intro y hy;rcases (hm y).1 hy with rfl|⟨hy,_⟩
    ·exact hk
    ·exact h2 y hy
   ·rw[List.pairwise_iff_getElem];intro a b ha hb A5 he;have ga:=List.getElem?_eq_getElem ha;have gb:=List.getElem?_eq_getElem hb;rw[Array.getElem?_toList,Array.getElem?_modify] at ga gb;have key: ∀i y,(if j=i then Option.map (fun e:MapEntry=>{e with key:=k,val:=v}) E[i]? else E[i]?)=some y-> ∃z,E.toList[i]? =some z/\z.key=y.key:=by
     intro i y hi;split at hi
     ·rename_i e;subst e;rw[hj] at hi;simp at hi;exact ⟨x,h7,by rw[h8,<-hi]⟩
     ·exact ⟨y,by simpa using hi,rfl⟩
    obtain ⟨za,ea,ka⟩:=key a _ ga;obtain ⟨zb,eb,kb⟩:=key b _ gb;have:=Fb h3 ea eb (by rw[ka,kb];exact he);omega
   ·intro k' v';unfold Dm;constructor
    ·intro hf;split at hf
     ·rename_i e;subst e;injection hf with hf;subst hf;exact ⟨_,(hm _).2 (.inl rfl),rfl,rfl⟩
     ·rename_i A0;obtain ⟨y,hy,e1,e2⟩:=(h4 k' v').1 hf;exact ⟨y,(hm y).2 (.inr ⟨hy,by rw[e1];exact A0⟩),e1,e2⟩
    ·rintro ⟨y,hy,rfl,rfl⟩;rcases (hm y).1 hy with rfl|⟨hy,A0⟩
     ·rw[if_pos rfl]
     ·rw[if_neg A0];exact (h4 _ _).2 ⟨y,hy,rfl,rfl⟩
end
end
end Go.Proofs.YtjhpdljphchfaaaGreatDoor
