/- A part of the proof of ConvertUps: the closed facts of the row, one by one. -/
import Derived.Test.YtjhpdljphchfaaaGreatDoorRows
import Derived.JoinedOf
import Derived.ProofKit
set_option maxHeartbeats 40000000
set_option maxRecDepth 1000000
set_option linter.all false
namespace Go.Proofs.YtjhpdljphchfaaaGreatDoor
open Go.RowKit
open Go.Proofs.Tryz
theorem Jk:joinedFacts prog 3 Tryz.f3 (Rows.OpenSpec.upto Rows.convertUpsSpec).bare Rows.convertUpsUptoRow=true:=by
 unfold joinedFacts;simp only[Bool.and_eq_true]
 repeat' apply And.intro
 all_goals (as_aux_lemma=>kernel_rfl)
end Go.Proofs.YtjhpdljphchfaaaGreatDoor
