/- reflectlite and errors.As/as walked at the two error types of the seat. -/
import Derived.Test.YtchhmekjfnelcaaGreatDoorShelf
import Derived.WalkKit
import Derived.BigCall
import Derived.WalkSpells
import Derived.WalkLawsBesides
import Derived.BigQuiet
import GoSem.Extern.ReflectliteValue
import Derived.Stop.Asserts
namespace Go.Proofs.YtchhmekjfnelcaaGreatDoor
open Go.RowKit
abbrev hd (t : Nat) : Value := .pointer (some ⟨10, t, none⟩)
theorem m1 (w : World) : (method 295 151 (.agg #[hd 104]) "Kind").run Tryz.prog w = .ok (121, hd 104) w := by kernel_rfl
theorem c1 (w : World) : (callFunc 121 #[hd 104]).run Tryz.prog w = .ok (.value (.int .u8 22)) w := by kernel_rfl
theorem m2 (w : World) : (method 295 151 (.agg #[hd 104]) "Elem").run Tryz.prog w = .ok (138, .agg #[hd 104]) w := by kernel_rfl
theorem c2 (w : World) : (callFunc 138 #[.agg #[hd 104]]).run Tryz.prog w = .ok (.value (.iface 151 (.agg #[hd 22]))) w := by kernel_rfl
theorem m3 (w : World) : (method 295 151 (.agg #[hd 22]) "Kind").run Tryz.prog w = .ok (121, hd 22) w := by kernel_rfl
theorem c3 (w : World) : (callFunc 121 #[hd 22]).run Tryz.prog w = .ok (.value (.int .u8 2)) w := by kernel_rfl
theorem m4 (w : World) : (method 295 151 (.agg #[hd 22]) "Implements").run Tryz.prog w = .ok (139, .agg #[hd 22]) w := by kernel_rfl
theorem c4 (w : World) : (callFunc 139 #[.agg #[hd 22], .iface 151 (.agg #[hd 28])]).run Tryz.prog w = .ok (.value (.bool true)) w := by kernel_rfl
theorem r90 (a : Addr) (w : World) : (callFunc 90 #[.agg #[hd 104, .pointer (some a), .int .u64 150]]).run Tryz.prog w = ((loadVar 104 a >>= fun x => (match x with | .chan none | .nilFunc | .nilIface | .map none | .pointer none | .slice none _ _ => pure (Value.bool true) | _ => pure (Value.bool false) : Sem Value)) >>= fun v => pure (Next.value v)).run Tryz.prog w := by kernel_rfl
theorem m5 (w : World) : (method 295 151 (.agg #[hd 52]) "AssignableTo").run Tryz.prog w = .ok (136, .agg #[hd 52]) w := by kernel_rfl
theorem c5 (w : World) : (callFunc 136 #[.agg #[hd 52], .iface 151 (.agg #[hd 22])]).run Tryz.prog w = .ok (.value (.bool false)) w := by kernel_rfl
theorem m6 (w : World) : (method 295 151 (.agg #[hd 22]) "AssignableTo").run Tryz.prog w = .ok (136, .agg #[hd 22]) w := by kernel_rfl
theorem c6 (w : World) : (callFunc 136 #[.agg #[hd 22], .iface 151 (.agg #[hd 22])]).run Tryz.prog w = .ok (.value (.bool true)) w := by kernel_rfl
theorem r102 (a : Addr) (w : World) : (callFunc 102 #[.iface 52 (.pointer (some a))]).run Tryz.prog w = .ok (.value (.iface 151 (.agg #[hd 52]))) w := by kernel_rfl
theorem r102e (n : Int) (w : World) : (callFunc 102 #[.iface 22 (.int .i64 n)]).run Tryz.prog w = .ok (.value (.iface 151 (.agg #[hd 22]))) w := by kernel_rfl
theorem r103 (a : Addr) (w : World) : (callFunc 103 #[.agg #[hd 104, .pointer (some a), .int .u64 150]]).run Tryz.prog w = ((loadVar 104 a >>= fun x => (match 22, x, some 22 with | 20, i, _ => Extern.ReflectliteValue.unpack i | 22, .pointer none, _ => pure Extern.ReflectliteValue.zeroV | 22, .pointer (some p), some e => Extern.ReflectliteValue.mk e p 256 | _, _, _ => Extern.ReflectliteValue.valueError "reflectlite.Value.Elem" 22 : Sem Value)) >>= fun v => pure (Next.value v)).run Tryz.prog w := by kernel_rfl
theorem r88e (n : Int) (w : World) : (callFunc 88 #[.iface 22 (.int .i64 n)]).run Tryz.prog w = .ok (.value (.agg #[hd 22, .pointer (some ⟨w.heap.size, 0, none⟩), .int .u64 130])) (w.alloc (.cells #[.int .i64 n] 22)) := by kernel_rfl
theorem r104 (a b : Addr) (w : World) : (callFunc 104 #[.agg #[hd 22, .pointer (some a), .int .u64 386], .agg #[hd 22, .pointer (some b), .int .u64 130]]).run Tryz.prog w = ((loadVar 22 b >>= fun x => (storeVar 22 a x >>= fun _ => pure (Value.tuple #[]))) >>= fun v => pure (Next.value v)).run Tryz.prog w := by kernel_rfl
theorem ta1 (a : Addr) (w : World) : (Instr.typeAssert (.iface 52 (.pointer (some a))) 28 156 true).run Tryz.prog w = .ok (.tuple #[.nilIface, .bool false]) w := run_typeAssert_lacksB Tryz.underlying156 (by kernel_rfl) (by kernel_rfl) _ _ w
theorem ta2 (a : Addr) (w : World) : (Instr.typeAssert (.iface 52 (.pointer (some a))) 28 81 true).run Tryz.prog w = .ok (.tuple #[.iface 52 (.pointer (some a)), .bool true]) w := by kernel_rfl
theorem m7 (a : Addr) (w : World) : (method 295 52 (.pointer (some a)) "Unwrap").run Tryz.prog w = .ok (126, .pointer (some a)) w := by kernel_rfl
end Go.Proofs.YtchhmekjfnelcaaGreatDoor
