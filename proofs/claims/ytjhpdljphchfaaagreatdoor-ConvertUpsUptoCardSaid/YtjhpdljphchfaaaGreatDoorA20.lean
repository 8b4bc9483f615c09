/- A part of the proof of ConvertUps: a region that writes out a map, in any order. -/
import Derived.Test.YtjhpdljphchfaaaGreatDoorA18
import Derived.Deep.RegionHeld
set_option maxHeartbeats 40000000
set_option maxRecDepth 1000000
set_option linter.all false
namespace Go.Proofs.YtjhpdljphchfaaaGreatDoor
open Go.RowKit
open Go.Proofs.Tryz
section
open Go.MapKept
theorem EO {P:Program} {ops:Array Oper} {Q:Exit->Act->World->Prop} {i:Nat} {o:Oper} (hi:ops[i]? =some o) (hg:o.guard=none) {v:Value} {a:Act} {w w':World} (A1:(execOp a.eval o).run P w= .ok (.value v) w') {K:Act->World->Prop} (h:K (a.put o.dst v) w'):wpOp P ops Q i K a w:=by have hw:Region.wanted o (yielded ops a.tmps)=true:=(by simp[Region.wanted,hg]);unfold wpOp;simp only[hi,hw,if_true,Oper.wp,A1,Oper.upon];exact .inl h
theorem QX {P:Program} {ops:Array Oper} {Q:Exit->Act->World->Prop} {i:Nat} {o:Oper} (hi:ops[i]? =some o) (hg:o.guard=none) {a:Act} {w w':World} (A1:(execOp a.eval o).run P w= .ok .skip w') {K:Act->World->Prop} (h:K (a.put o.dst undef) w'):wpOp P ops Q i K a w:=by have hw:Region.wanted o (yielded ops a.tmps)=true:=(by simp[Region.wanted,hg]);unfold wpOp;simp only[hi,hw,if_true,Oper.wp,A1,Oper.upon];exact .inl h
theorem C8 {ops:Array Oper} {i:Nat} {dst:Option Nat} {op:Op} {pre:List Nat} (h:R9 ops i dst op pre) {listed:Array Bool} (hr:i∈Region.ready .any ops listed):
 ∃o,ops[i]? =some o/\o.dst=dst/\o.op=op/\o.guard=none/\ ∀j∈pre,listed.getD j false=true:=by
 obtain ⟨o,h1,h2,h3,h4,h5⟩:=h;obtain ⟨_,o',h6,h7⟩:=mem_ready.1 hr;obtain rfl:o=o':=(by rw[h1] at h6;exact Option.some.inj h6);refine ⟨o,h1,h2,h3,h4,fun j hj=> ?_⟩;have h8:=List.all_eq_true.1 h5 j hj;obtain ⟨e,he,h9⟩:=Array.any_eq_true'.1 h8;simp only[Bool.and_eq_true,beq_iff_eq] at h9;rw[<-h9.2];exact h7 e he h9.1
theorem QY {a b:ByteArray} (w:World) (h:a.size+b.size<=1000000000):(binOp .add 9 (.string a) (.string b)).run prog w= .ok (.string (a++b)) w:=by have h1: ¬9223372036854775807<(a++b).size:=(by simp;omega);have h2: ¬9223372036854775807<a.size+b.size:=(by omega);simp[go_sem,binOp,h1,h2]
theorem SB {l:Array Bool} {a1:Act} {w1:World} {kb lb:ByteArray} {i:Nat} {a:Act} {w:World} (hi:i<l.size) (h:MJ a1 w1 kb lb (upd (fun j=>l.getD j false) i) a w):MJ a1 w1 kb lb (fun j=>(l.setIfInBounds i true).getD j false) a w:=by rw[show (fun j=>(l.setIfInBounds i true).getD j false)=upd (fun j=>l.getD j false) i from funext fun j=>SA l i j hi];exact h
theorem Wu (w:World):(zeroValue 9).run prog w= .ok (.string ⟨#[]⟩) w:=by kernel_rfl
structure SV (ops:Array Oper):Prop where
 size:ops.size=20
 acyc:(List.range ops.size).all (fun j=>match ops[j]? with
  |some o=>o.after.all (fun e=> !Region.binds .any e||decide (e.on<j))
  |none=>true)=true
 o0:R9 ops 0 (some 81) (.makeMap 81 none) []
 oi: ∀k,k<4->R9 ops (k+1) none (.insert 81 (.tmp 81) (.const (.string (mK k))) (.const (.string (mV k)))) [0]
 o5:R9 ops 5 (some 82) (.move (.tmp 81)) [0,1,2,3,4]
 o7:R9 ops 7 (some 84) (.lookup 81 (.tmp 82) (.tmp 83) false) [5]
 o8:R9 ops 8 (some 85) (.binOp .add 9 (.tmp 84) (.const (.string ⟨#[47]⟩)) 9) [7]
 o17:R9 ops 17 (some 94) (.call {callee:= .value (.func 28),args:= #[.tmp 93],argTypes:= #[9]}) []
 o18:R9 ops 18 (some 95) (.binOp .add 9 (.tmp 85) (.tmp 94) 9) [8,17]
 o19:R9 ops 19 (some 9) (.assign (.tmp 95)) [18]
theorem SC {ops:Array Oper} {Q:Exit->Act->World->Prop} {S:World->Prop} (H:SV ops) {a1:Act} {w1:World} {k0:Nat} (A4:k0<4) {sb lb:ByteArray} (A2:95<a1.tmps.size) (A7:a1.tmps.getD 83 undef= .string (mK k0)) (A8:a1.tmps.getD 93 undef= .string sb)
 (A3: ∀w,Calls prog 28 #[.string sb] w fun e w'=>e= .returned (.string lb)/\Below w.heap.size w w') (AV:lb.size<=100000000) (hS: ∀w,Below w1.heap.size w1 w->S w)
 {l:Array Bool} {a:Act} {w:World} {i:Nat} (B3:l.size=ops.size) (hM:MJ a1 w1 (mV k0) lb (fun j=>l.getD j false) a w) (hi:i∈Region.ready .any ops l):
 wpOp prog ops Q i (fun a' w'=>S w'/\(l.setIfInBounds i true).size=ops.size/\MJ a1 w1 (mV k0) lb (fun j=>(l.setIfInBounds i true).getD j false) a' w') a w:=by
 obtain ⟨DA,A9⟩:=VG (mem_ready.1 hi).1;have E0:i<20:=(by rw[<-H.size];omega);have AW:(l.setIfInBounds i true).size=ops.size:=(by simpa using B3);have fin: ∀{a':Act} {w':World},MJ a1 w1 (mV k0) lb (upd (fun j=>l.getD j false) i) a' w'->S w'/\(l.setIfInBounds i true).size=ops.size/\MJ a1 w1 (mV k0) lb (fun j=>(l.setIfInBounds i true).getD j false) a' w':=
  fun h=>⟨hS _ h.low,AW,SB DA h⟩
 have A0: ∀j∈[6,9,10,11,12,13,14,15,16],i≠j:=fun j hj e=>(by have h1:l.getD j false=true:=hM.pre j hj;rw[<-e,A9] at h1;cases h1);have E1:(mV k0).size<=100:=(by rcases (show k0=0∨k0=1∨k0=2∨k0=3 by omega) with rfl|rfl|rfl|rfl<;>decide);have AB: ∀s,a.eval (.tmp s)=a.tmps.getD s undef:=fun s=>rfl;have hc: ∀v,a.eval (.const v)=v:=fun _=>rfl;have A6: ∀s,s∉[81,82,84,85,94,95,9]->a.eval (.tmp s)=a1.tmps.getD s undef:=fun s hs=>(AB s).trans (hM.other s hs);have A5:i=0∨(∃k,k<4/\i=k+1)∨i=5∨i=7∨i=8∨i=17∨i=18∨i=19:=by
  have h6:=A0 6 (by simp);have h9:=A0 9 (by simp);have E2:=A0 10 (by simp);have E3:=A0 11 (by simp);have E9:=A0 12 (by simp);have F1:=A0 13 (by simp);have F2:=A0 14 (by simp);have F3:=A0 15 (by simp);have F4:=A0 16 (by simp);by_cases h:1<=i/\i<=4
  ·exact .inr (.inl ⟨i- 1,by omega,by omega⟩)
  ·omega
 rcases A5 with rfl|⟨k,hk,rfl⟩|rfl|rfl|rfl|rfl|rfl|rfl
 ·obtain ⟨o,h1,h2,h3,h4,_⟩:=C8 H.o0 hi;refine EO h1 h4 (v:= .map (some w.heap.size)) (w':=w.alloc (.map #[] 0)) ?_ (fin ?_)
  ·simp[execOp,h3,run_makeMap_plain,Result.andThen]
  ·rw[h2];exact hM.put0 A2 A9
 ·obtain ⟨o,h1,h2,h3,h4,h5⟩:=C8 (H.oi k hk) hi;have h0:=h5 0 (by simp);obtain ⟨r,B0,AL,B1⟩:=hM.map;obtain ⟨g1,f,g2,g3⟩:=AL h0;obtain ⟨ob,A1,hF⟩:=g2.upd underlying81 underlying9 (k:= .string (mK k)) trivial (.string (mV k));have DD:l.getD 5 false=false:=by
   cases h:l.getD 5 false with
   |false=>rfl
   |true=>
    have:=(hM.c5 h).2 k hk;rw[A9] at this;cases this
  have he:a.eval (.tmp 81)= .map (some r):=g1;refine QX h1 h4 (w':={w with heap:=w.heap.setIfInBounds r ob}) ?_ (fin ?_)
  ·simp[execOp,h3,he,hc,A1,Result.andThen]
  ·rw[h2];exact hM.ins hk h0 B0 g1 g3 DD hF (fun B A hB h=>Gj hB h)
 ·obtain ⟨o,h1,h2,h3,h4,h5⟩:=C8 H.o5 hi;refine EO h1 h4 (v:=a.tmps.getD 81 undef) (w':=w) ?_ (fin ?_)
  ·simp[execOp,h3,AB]
  ·rw[h2];exact hM.put5 A2 (h5 0 (by simp)) fun k hk=>h5 (k+1) (by simp;omega)
 ·obtain ⟨o,h1,h2,h3,h4,h5⟩:=C8 H.o7 hi;have d5:=h5 5 (by simp);obtain ⟨d0,dk⟩:=hM.c5 d5;obtain ⟨r,B0,AL,B1⟩:=hM.map;obtain ⟨g1,f,g2,g3⟩:=AL d0;have he:a.eval (.tmp 82)= .map (some r):=B1 d5;have AN:a.eval (.tmp 83)= .string (mK k0):=(A6 83 (by simp)).trans A7;have hl:=g2.look underlying81 underlying9 (k:= .string (mK k0)) trivial (Wu w) false;rw[g3 k0 A4 (dk k0 A4)] at hl;refine EO h1 h4 (v:= .string (mV k0)) (w':=w) ?_ (fin ?_)
  ·simp only[execOp,h3,he,AN,hl,Sem.run_bind,Result.andThen_ok];rfl
  ·rw[h2];exact hM.put A2 7 84 _ zB (by simp) (fun _=>rfl) (fun e=>by omega) (fun e=>by omega) (fun e=>by omega) (fun e=>by omega)
 ·obtain ⟨o,h1,h2,h3,h4,h5⟩:=C8 H.o8 hi;have he:a.eval (.tmp 84)= .string (mV k0):=hM.s84 (h5 7 (by simp));have hl:=QY w (a:=mV k0) (b:=⟨#[47]⟩) (by have:(⟨#[47]⟩:ByteArray).size=1:=rfl;omega);refine EO h1 h4 (v:= .string (mV k0++⟨#[47]⟩)) (w':=w) ?_ (fin ?_)
  ·simp[execOp,h3,he,hc,hl,eqGuard_add,Result.andThen]
  ·rw[h2];exact hM.put A2 8 85 _ zB (by simp) (fun e=>by omega) (fun _=>rfl) (fun e=>by omega) (fun e=>by omega) (fun e=>by omega)
 ·obtain ⟨o,h1,h2,h3,h4,h5⟩:=C8 H.o17 hi;have he:a.eval (.tmp 93)= .string sb:=(A6 93 (by simp)).trans A8;have hw:Region.wanted o (yielded ops a.tmps)=true:=(by simp[Region.wanted,h4]);have DT:a.tmps[93]?.getD undef= .string sb:=(by rw[<-he,AB];simp);have A1:(execOp a.eval o).run prog w= .ok (.enter 28 #[.string sb]) w:=(by simp[execOp,h3,go_sem,DT]);unfold wpOp;simp only[h1,hw,if_true];refine .inl ?_;unfold Oper.wp;simp only[A1,Oper.upon];refine (A3 w).mono ?_;rintro e w' ⟨rfl,hb⟩;refine fin ?_;rw[h2];exact hM.put A2 17 94 _ hb (by simp) (fun e=>by omega) (fun e=>by omega) (fun _=>rfl) (fun e=>by omega) (fun e=>by omega)
 ·obtain ⟨o,h1,h2,h3,h4,h5⟩:=C8 H.o18 hi;have he:a.eval (.tmp 85)= .string (mV k0++⟨#[47]⟩):=hM.s85 (h5 8 (by simp));have AN:a.eval (.tmp 94)= .string lb:=hM.s94 (h5 17 (by simp));have hl:=QY w (a:=mV k0++⟨#[47]⟩) (b:=lb) (by have:(⟨#[47]⟩:ByteArray).size=1:=rfl;simp[this];omega);refine EO h1 h4 (v:= .string (mV k0++⟨#[47]⟩++lb)) (w':=w) ?_ (fin ?_)
  ·simp[execOp,h3,he,AN,hl,eqGuard_add,Result.andThen]
  ·rw[h2];exact hM.put A2 18 95 _ zB (by simp) (fun e=>by omega) (fun e=>by omega) (fun e=>by omega) (fun _=>rfl) (fun e=>by omega)
 ·obtain ⟨o,h1,h2,h3,h4,h5⟩:=C8 H.o19 hi;have he:a.eval (.tmp 95)= .string (mV k0++⟨#[47]⟩++lb):=hM.s95 (h5 18 (by simp));refine EO h1 h4 (v:= .string (mV k0++⟨#[47]⟩++lb)) (w':=w) ?_ (fin ?_)
  ·simp[execOp,h3,he]
  ·rw[h2];exact hM.put A2 19 9 _ zB (by simp) (fun e=>by omega) (fun e=>by omega) (fun e=>by omega) (fun e=>by omega) (fun _=>rfl)
theorem N8 {ops:Array Oper} {Q:Exit->Act->World->Prop} {S:World->Prop} (H:SV ops) {a1:Act} {w1:World} {k0:Nat} (A4:k0<4) {sb lb:ByteArray} (A2:95<a1.tmps.size) (A7:a1.tmps.getD 83 undef= .string (mK k0)) (A8:a1.tmps.getD 93 undef= .string sb)
 (A3: ∀w,Calls prog 28 #[.string sb] w fun e w'=>e= .returned (.string lb)/\Below w.heap.size w w') (AV:lb.size<=100000000) (hS: ∀w,Below w1.heap.size w1 w->S w)
 {l:Array Bool} {fuel:Nat} (hl:l= #[false,false,false,false,false,false,true,false,false,true,true,true,true,true,true,true,true,false,false,false]) (hf:11<=fuel)
 (hQ: ∀r w',Below w1.heap.size w1 w'->Q .normal (Ty a1 r (mV k0) lb) w'):wpAnyH prog .any ops Q S fuel l a1 w1:=by
 refine Iw (fun l a w=>l.size=ops.size/\MJ a1 w1 (mV k0) lb (fun j=>l.getD j false) a w) (fun l a w i h hi=>SC H A4 A2 A7 A8 A3 AV hS h.1 h.2 hi) (fun l a w h hr=> ?_) fuel l a1 w1 ?_ ?_
 ·have B2:=QW H.acyc h.1 hr;obtain ⟨r,rfl⟩:=h.2.fin A2 fun j hj=>B2 j (by rw[H.size];exact hj);exact hQ r w h.2.low
 ·subst hl;exact hf
 ·subst hl;refine ⟨H.size.symm,⟨fun j hj=> ?_,rfl,rfl,fun _ _=>rfl,zB,⟨w1.heap.size,Nat.le_refl _,fun h=> ?_,fun h=> ?_⟩,fun k hk h=> ?_,fun h=> ?_,fun h=> ?_,fun h=> ?_,fun h=> ?_,fun h=> ?_,fun h=> ?_⟩⟩
  ·simp only[List.mem_cons,List.not_mem_nil,or_false] at hj;rcases hj with rfl|rfl|rfl|rfl|rfl|rfl|rfl|rfl|rfl<;>rfl
  ·cases h
  ·cases h
  ·rcases (show k=0∨k=1∨k=2∨k=3 by omega) with rfl|rfl|rfl|rfl<;>cases h
  all_goals cases h
end
end Go.Proofs.YtjhpdljphchfaaaGreatDoor
