/- A part of the proof of ConvertUps: a world that meets the list of the row. -/
import Derived.Test.YtjhpdljphchfaaaGreatDoorA17
import Derived.ProofKit
import Derived.OpenShut
import Derived.LaidMore
import Derived.Lay
import Derived.LaidHandle
import Derived.LaidLaws
import Derived.Stop.LaidErr
import Derived.Stop.Joined
set_option maxHeartbeats 40000000
set_option maxRecDepth 1000000
set_option linter.all false
namespace Go.Proofs.YtjhpdljphchfaaaGreatDoor
open Go.RowKit
open Go.Proofs.Tryz
section
open Go.ChangeShapes Go.WideShapes Go.ChangeAt
theorem Q4:ownKnob prog.godebug=none:=by kernel_rfl
noncomputable def SH (os:Os):World:=
 {World.holding prog os ⟨#[],#[],[]⟩ with heap:=(World.holding prog os ⟨#[],#[],[]⟩).heap.modify 1 fun
  | .cells _ t frozen=> .cells #[.iface 248 (.agg #[.pointer (some (Ad 14 32))])] t frozen
  |o=>o}
noncomputable def Co (os:Os):World:=(SH os).layVars prog (Eb.filter fun x=>x.2.handleName?.isNone)
theorem J6 (os:Os):(Co os).os=os:=World.layVars_os _ _ _
theorem JE (os:Os) (args:Array Value):laidMetH prog Eb ((Co os).forCall (fun _ _=>0) ⟨#[],args,[]⟩).memory:=by
 have h:laidMetH prog Eb (Co os):=by
  refine laidMetH_of_parts (laidMet_layVars (w0:=SH os) ["math/bits.deBruijn32tab", "math/bits.deBruijn64tab", "internal/strconv.uint64pow10", "unicode/utf8.acceptRanges", "strconv.ErrRange", "strconv.ErrSyntax", "unicode.White_Space", "strings.asciiSpace", "visitingcard/visitingcardref.shapes", "unicode.CaseRanges", "unicode/utf8.first"] [] ?_ ?_ ?_ ?_) (by kernel_rfl)
  ·kernel_rfl
  ·kernel_rfl
  ·kernel_rfl
  ·exact LaidIn.none
 exact h.of_heap (by simp[World.memory,World.forCall,Input.heap])
theorem Fl (os:Os) (args:Array Value):((Co os).forCall (fun _ _=>0) ⟨#[],args,[]⟩).Shaped prog:=
 World.shaped_of_ZipB (by kernel_rfl) (by kernel_rfl)
end
end Go.Proofs.YtjhpdljphchfaaaGreatDoor
