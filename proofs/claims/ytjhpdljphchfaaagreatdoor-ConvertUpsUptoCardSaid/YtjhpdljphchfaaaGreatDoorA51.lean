/- For every card, at the bounds of the second form: ConvertUps returns true (convertUps_card). Conditions: those of the given statement alone. -/
import Derived.Test.YtjhpdljphchfaaaGreatDoorA22
import Derived.Test.YtjhpdljphchfaaaGreatDoorA53
import Derived.Test.YtjhpdljphchfaaaGreatDoorA02
import Derived.Test.YtjhpdljphchfaaaGreatDoorCards
import Derived.Test.YtjhpdljphchfaaaGreatDoorTie
import Derived.SevenTiedAt
import Derived.Deep.DeepHandedRow
set_option maxHeartbeats 40000000
set_option maxRecDepth 1000000
set_option linter.all false
namespace Go.Proofs.YtjhpdljphchfaaaGreatDoor
open Go.RowKit
open Go.Proofs.Tryz
section
open Go.ChangeShapes Go.WideShapes Go.ChangeAt
theorem Jl (os:Os) {H:Type} (enc:TypeId×Value->H): ∃places,DataW.whole enc prog ((Co os).forCall (fun _ _=>0) ⟨#[],#[.agg #[.int .i64 0,.slice none 0 0]],[]⟩).memory Tryz.f3.params.toList Rows.convertUpsSpec.vars false #[Value.agg #[.int .i64 0,.slice none 0 0]].toList 8=some ([.agg [.lit (.int .i64 0),.nil]],[],places):=
 ⟨[],by kernel_rfl⟩
theorem Hu (os:Os) (started:os.Started) (H:Type) (enc:TypeId×Value->H) (F:Stop.Interp):
 ReturnsInHanded {} checked os 3 .any ((Rows.OpenSpec.upto Rows.convertUpsSpec).preRow enc prog Tryz.f3 Rows.convertUpsUptoRow.domain false Rows.convertUpsUptoRow.laid) (((Rows.OpenSpec.upto Rows.convertUpsSpec).at F).post enc prog Tryz.f3 false true false false):=by
 obtain ⟨places,hx⟩:=Jl os enc;have A1:Input.okWideB prog ((Co os).forCall (fun _ _=>0) ⟨#[],#[.agg #[.int .i64 0,.slice none 0 0]],[]⟩) 3 ⟨#[],#[.agg #[.int .i64 0,.slice none 0 0]],[]⟩=true:=(by kernel_rfl);refine returnsInHanded_of_row (C:=checked) (s:=Rows.OpenSpec.upto Rows.convertUpsSpec) Q4 started (by kernel_rfl) func3
  ⟨Co os,fun _ _=>0,⟨#[],#[.agg #[.int .i64 0,.slice none 0 0]],[]⟩,J6 os,Fl os _,(Input.okWide_of_okWideB (base:=0) A1).1,(Input.okWide_of_okWideB A1).2,
   OpenSpec.preRow_of_cond 8 hx (by kernel_rfl) (fun k hk=>by cases hk;kernel_rfl) (by kernel_rfl) (JE os _),by simp only[Assume.holds];exact ⟨by simp,by simp,fun _=>Modest.zero,by simp,by simp⟩⟩ ?_
 intro W base args ds gs before A2 hW _ A0 _ hL A3 _;exact Fu H enc W base args ds gs before A2 hW (A0 _ rfl) hL A3
theorem SE:Tryz.pinned.checked.prog.funcNamed Rows.convertUpsUptoRow.func=some 3:=by kernel_rfl
theorem Tk:Tryz.f3.isInstance Tryz.pinned.checked.prog Rows.convertUpsUptoRow.origin Rows.convertUpsUptoRow.targs:=of_decide_eq_true (by kernel_rfl)
theorem Tl:Tryz.f3.isWrapper Tryz.pinned.checked.prog Rows.convertUpsUptoRow.wrapper Rows.convertUpsUptoRow.mainSum:=by unfold Func.isWrapper;first|(rw[if_pos (by decide+kernel)];kernel_rfl)|(rw[if_neg (by decide+kernel)];exact ⟨rfl,rfl⟩)
theorem K6:Rows.ConvertUpsUptoSaid:=
 OpenClaim.holds_of_cond 3 Tryz.f3 rfl rfl rfl rfl rfl rfl rfl ⟨rfl,rfl,rfl,rfl,rfl⟩ rfl rfl rfl rfl rfl SE func3 Jk Tk Tl
  (fun os started H enc _ F=>by rw[OpenClaim.pre_eq_preRow];exact Hu os started H enc F)
theorem Jm (f:FuncId) (fn:Func) (hf:Tryz.pinned.checked.prog.funcNamed "visitingcard/visitingcardlaw.ConvertUps" =some f) (A4:Tryz.pinned.checked.prog.funcs[f]? =some fn):
 true=Tryz.pinned.checked.prog.looks []/\ ∀(j:Nat) t,fn.params[j]? =some t->Tryz.pinned.checked.prog.wantsStandIn t=false:=by
 obtain rfl:f=3:=Option.some.inj ((show prog.funcNamed "visitingcard/visitingcardlaw.ConvertUps" =some 3 by kernel_rfl).symm.trans hf)|>.symm;obtain rfl:fn=Tryz.f3:=(Option.some.inj (func3.symm.trans A4)).symm;refine ⟨by kernel_rfl,fun j t ht=> ?_⟩;rw[params3] at ht;obtain rfl:t=24:=(by simpa using Array.mem_of_getElem? ht);exact (show prog.wantsStandIn 24=false by kernel_rfl)
theorem convertUps_card:Rows.ConvertUpsUptoCardSaid:=
 Claim7.holds_tied_plain_at .later [] _ _ _ _ K6 (fun _ h=>by cases h) (by kernel_rfl) (fun _ h=>by cases h) convertUpsUpto_row_tie rfl ⟨rfl,rfl⟩ (by kernel_rfl) rfl Jm (by kernel_rfl)
#print axioms convertUps_card
end
end Go.Proofs.YtjhpdljphchfaaaGreatDoor
