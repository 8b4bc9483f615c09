/- A part of the proof of ConvertUps: Helpers. -/
import Derived.Test.YtjhpdljphchfaaaGreatDoorA17
import Derived.ProofKit
import Derived.OpenShut
import Derived.Test.YtjhpdljphchfaaaGreatDoorA53
set_option maxHeartbeats 40000000
set_option maxRecDepth 1000000
set_option linter.all false
namespace Go.Proofs.YtjhpdljphchfaaaGreatDoor
open Go.RowKit
open Go.Proofs.Tryz
section
open Go.ChangeShapes Go.WideShapes Go.Deep Go.ChangeAt
theorem Fu (H:Type) (enc:TypeId×Value->H) (W:World) (base:Nat) (args:Array Value) (ds gs:List (DataW H)) (before:List MemPlace)
 (A0: ∀(j:Nat) t v,Tryz.f3.params[j]? =some t->args[j]? =some v->Value.okWide prog W .any base t v)
 (hW:DataW.Whole enc prog Tryz.f3.params.toList Rows.convertUpsSpec.vars false W args.toList ds gs before) (hk:Rows.uptoSmall H (ds++gs)=true) (hL:laidMetH prog Eb W) (A4:W.ShapedOpen prog):
 Calls prog 3 args W fun e W'=> ∃v,e= .returned v/\Rows.convertUpsSpec.post enc prog Tryz.f3 false true false false W args v W':=by
 have A1:=hW;obtain ⟨p,q,A3,hV,rfl,AB,AL⟩:=hW;have hA:DataW.TrodAll enc prog W 0 (fun _=>true) true Tryz.f3.params.toList args.toList ds p:=A3;rw[params3] at hA A0;obtain ⟨v0,AN,d0,AV,p0,q0,A5,rfl,rfl,h0,r0⟩:=trodAll_cons hA;obtain ⟨rfl,rfl,rfl⟩:=trodAll_nil r0;obtain rfl:args= #[v0]:=by cases args;simp_all
 obtain ⟨rfl,rfl⟩:=trodVars_none hV;clear A3;simp only[List.append_nil] at A1 hk;obtain ⟨fuel,hf⟩:=h0;obtain ⟨ver,A,k,L,A6,A7,hB⟩:=Vw (d:=d0) ⟨p0,hf⟩;obtain ⟨cells,rfl,AW⟩:=okWide_struct underlying24 (A0 0 24 v0 rfl rfl);have A8:cells= #[Iv ver,.slice A L.length k]:=by
  have:cells.toList=[Iv ver,.slice A L.length k]:=(by simpa[Value.cells] using A6);cases cells
  simp_all
 subst A8;have B0:Rows.uptoBulk d0<=1048576:=by have h1:Rows.uptoBulkAll [d0]<=1048576:=of_decide_eq_true hk;simpa only[Rows.uptoBulkAll,Nat.add_zero] using h1
 refine (MH ⟨ver,L⟩ A k W (Vx hL A4) A7 (fun x hx=>by have:=hB x hx;exact ⟨Nat.le_trans this.1 (by omega),Nat.le_trans this.2 (by omega)⟩)).mono fun e W' ⟨he,hb⟩=> ?_;subst he;have A9: ∀pl∈p0,pl.block<W.heap.size:=fun pl hp=>A1.lt pl (by simpa using hp);obtain ⟨m,hm⟩:=Oi (enc:=enc) (w:=W) (w':=W') (sp:=fun b=>decide (b<W.heap.size)) (S:=fun b=>b<W.heap.size) (fun b A2=>hb.block b A2) (fun b A2=>decide_eq_true A2) fuel _ _ hf A9;exact ⟨_,rfl,_,_,_,[],p0++[],[],A1,trodAll_mk1 (shut_bool underlying4 true),trodAll_cons_mk ⟨m,hm⟩ trodAll_mk0,rfl,hb.frame _,fun h=>by cases h⟩
end
end Go.Proofs.YtjhpdljphchfaaaGreatDoor
