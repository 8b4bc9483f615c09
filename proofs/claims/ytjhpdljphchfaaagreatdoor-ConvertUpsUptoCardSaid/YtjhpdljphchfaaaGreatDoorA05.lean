/- A part of the proof of ConvertUps: base64 of the reference walked, and what its errors are. -/
import Derived.Test.YtjhpdljphchfaaaGreatDoorA00
import Derived.WalkKit
import Derived.BigCall
import Derived.WalkSpells
import Derived.WalkLawsBesides
import Derived.BigQuiet
import GoSem.Extern.ReflectliteValue
import Derived.Stop.Asserts
import Derived.Deep.QuietTactic
import Derived.Test.YtjhpdljphchfaaaGreatDoorA03
set_option maxHeartbeats 40000000
set_option maxRecDepth 1000000
set_option linter.all false
namespace Go.Proofs.YtjhpdljphchfaaaGreatDoor
open Go.RowKit
open Go.Proofs.Tryz
namespace B
abbrev hd (t:Nat):Value:= .pointer (some (Ad 14 t))
theorem m1 (w:World):(method 503 248 (.agg #[hd 153]) "Kind").run prog w= .ok (290,hd 153) w:=by kernel_rfl
theorem c1 (w:World):(callFunc 290 #[hd 153]).run prog w= .ok (.value (.int .u8 22)) w:=by kernel_rfl
theorem m2 (w:World):(method 503 248 (.agg #[hd 153]) "Elem").run prog w= .ok (306,.agg #[hd 153]) w:=by kernel_rfl
theorem c2 (w:World):(callFunc 306 #[.agg #[hd 153]]).run prog w= .ok (.value (.iface 248 (.agg #[hd 26]))) w:=by kernel_rfl
theorem m3 (w:World):(method 503 248 (.agg #[hd 26]) "Kind").run prog w= .ok (290,hd 26) w:=by kernel_rfl
theorem c3 (w:World):(callFunc 290 #[hd 26]).run prog w= .ok (.value (.int .u8 2)) w:=by kernel_rfl
theorem m4 (w:World):(method 503 248 (.agg #[hd 26]) "Implements").run prog w= .ok (307,.agg #[hd 26]) w:=by kernel_rfl
theorem c4 (w:World):(callFunc 307 #[.agg #[hd 26],.iface 248 (.agg #[hd 32])]).run prog w= .ok (.value (.bool true)) w:=by kernel_rfl
theorem r90 (a:Addr) (w:World):(callFunc 150 #[.agg #[hd 153,.pointer (some a),.int .u64 150]]).run prog w=((loadVar 153 a >>= fun x=>(match x with| .chan none| .nilFunc| .nilIface| .map none| .pointer none| .slice none _ _=>pure (Value.bool true)|_=>pure (Value.bool false):Sem Value))>>= fun v=>pure (Next.value v)).run prog w:=by kernel_rfl
theorem m5 (w:World):(method 503 248 (.agg #[hd 63]) "AssignableTo").run prog w= .ok (304,.agg #[hd 63]) w:=by kernel_rfl
theorem c5 (w:World):(callFunc 304 #[.agg #[hd 63],.iface 248 (.agg #[hd 26])]).run prog w= .ok (.value (.bool false)) w:=by kernel_rfl
theorem m6 (w:World):(method 503 248 (.agg #[hd 26]) "AssignableTo").run prog w= .ok (304,.agg #[hd 26]) w:=by kernel_rfl
theorem c6 (w:World):(callFunc 304 #[.agg #[hd 26],.iface 248 (.agg #[hd 26])]).run prog w= .ok (.value (.bool true)) w:=by kernel_rfl
theorem r102 (a:Addr) (w:World):(callFunc 198 #[.iface 63 (.pointer (some a))]).run prog w= .ok (.value (.iface 248 (.agg #[hd 63]))) w:=by kernel_rfl
theorem r102e (n:Int) (w:World):(callFunc 198 #[.iface 26 (Iv n)]).run prog w= .ok (.value (.iface 248 (.agg #[hd 26]))) w:=by kernel_rfl
theorem r103 (a:Addr) (w:World):(callFunc 199 #[.agg #[hd 153,.pointer (some a),.int .u64 150]]).run prog w=((loadVar 153 a >>= fun x=>(match 22,x,some 26 with|20,i,_=>Extern.ReflectliteValue.unpack i|22,.pointer none,_=>pure Extern.ReflectliteValue.zeroV|22,.pointer (some p),some e=>Extern.ReflectliteValue.mk e p 256|_,_,_=>Extern.ReflectliteValue.valueError "reflectlite.Value.Elem" 22:Sem Value))>>= fun v=>pure (Next.value v)).run prog w:=by kernel_rfl
theorem r88e (n:Int) (w:World):(callFunc 148 #[.iface 26 (Iv n)]).run prog w= .ok (.value (.agg #[hd 26,.pointer (some (Ad w.heap.size 0)),.int .u64 130])) (w.alloc (.cells #[Iv n] 26)):=by kernel_rfl
theorem r104 (a b:Addr) (w:World):(callFunc 200 #[.agg #[hd 26,.pointer (some a),.int .u64 386],.agg #[hd 26,.pointer (some b),.int .u64 130]]).run prog w=((loadVar 26 b >>= fun x=>(storeVar 26 a x >>= fun _=>pure (Value.tuple #[])))>>= fun v=>pure (Next.value v)).run prog w:=by kernel_rfl
theorem ta1 (a:Addr) (w:World):(Instr.typeAssert (.iface 63 (.pointer (some a))) 32 253 true).run prog w= .ok (.tuple #[.nilIface,.bool false]) w:=run_typeAssert_lacksB underlying253 (by kernel_rfl) (by kernel_rfl) _ _ w
theorem ta2 (a:Addr) (w:World):(Instr.typeAssert (.iface 63 (.pointer (some a))) 32 99 true).run prog w= .ok (.tuple #[.iface 63 (.pointer (some a)),.bool true]) w:=by kernel_rfl
theorem m7 (a:Addr) (w:World):(method 503 63 (.pointer (some a)) "Unwrap").run prog w= .ok (295,.pointer (some a)) w:=by kernel_rfl
theorem r88 (t:Nat) (w:World):(callFunc 148 #[.iface 153 (.pointer (some (Ad t 0)))]).run prog w= .ok (.value (.agg #[hd 153,.pointer (some (Ad w.heap.size 0)),.int .u64 150])) (w.alloc (.cells #[.pointer (some (Ad t 0))] 153)):=by kernel_rfl
theorem r89 (a:Addr) (w:World):(callFunc 149 #[.agg #[hd 153,.pointer (some a),.int .u64 150]]).run prog w= .ok (.value (.iface 248 (.agg #[hd 153]))) w:=by kernel_rfl
theorem lv104 (a:Addr) (w:World) (x:Value) (h:w.cell? a=some x):(loadVar 153 a).run prog w= .ok x w:=by simp[loadVar,isAgg153 w,run_load,h,go_sem]
theorem lv22 (a:Addr) (w:World) (x:Value) (h:w.cell? a=some x):(loadVar 26 a).run prog w= .ok x w:=by simp[loadVar,isAgg26 w,run_load,h,go_sem]
theorem sv22 (a:Addr) (w:World) (n:Int) (v:Value) (h:w.cell? a=some v) (hf:w.frozen? a=false):(storeVar 26 a (Iv n)).run prog w= .ok () (w.setCell a (Iv n)):=by simp[storeVar,isAgg26 w,h,hf,go_sem]
theorem r90' (a:Addr) (w:World) (p:Addr) (h:w.cell? a=some (.pointer (some p))):(callFunc 150 #[.agg #[hd 153,.pointer (some a),.int .u64 150]]).run prog w= .ok (.value (.bool false)) w:=by rw[r90];simp[lv104 a w _ h]
theorem mk22 (p:Addr) (w:World):(Extern.ReflectliteValue.mk 26 p 256).run prog w= .ok (.agg #[hd 26,.pointer (some p),.int .u64 386]) w:=by kernel_rfl
theorem r103' (a:Addr) (w:World) (p:Addr) (h:w.cell? a=some (.pointer (some p))):(callFunc 199 #[.agg #[hd 153,.pointer (some a),.int .u64 150]]).run prog w= .ok (.value (.agg #[hd 26,.pointer (some p),.int .u64 386])) w:=by rw[r103];simp[lv104 a w _ h,mk22]
theorem r104' (a b:Addr) (w:World) (n:Int) (v:Value) (hb:w.cell? b=some (Iv n)) (ha:w.cell? a=some v) (hf:w.frozen? a=false):(callFunc 200 #[.agg #[hd 26,.pointer (some a),.int .u64 386],.agg #[hd 26,.pointer (some b),.int .u64 130]]).run prog w= .ok (.value (.tuple #[])) (w.setCell a (Iv n)):=by rw[r104];simp[lv22 b w _ hb,sv22 a w n v ha hf]
theorem unwrap_at (b:Nat) (c:Int) (w:World) (hb:w.cell? (Ad b 0)=some (Iv c)):Calls prog 295 #[.pointer (some (Ad b 0))] w fun e w'=>e= .returned (.iface 26 (Iv c))/\w=w':=by
 go_enter func295,ntmps295;go_wp2
 go_ret;exact ⟨rfl,rfl⟩
theorem as_ptr (b t v:Nat) (c:Int) (z:Value) (w:World) (hb:w.cell? (Ad b 0)=some (Iv c)) (A3:b<w.heap.size) (ht:w.cell? (Ad t 0)=some z) (hf:w.frozen? (Ad t 0)=false) (A4:t<w.heap.size) (hv:w.cell? (Ad v 0)=some (.pointer (some (Ad t 0)))) (AV:v<w.heap.size):
 Calls prog 151 #[.iface 63 (.pointer (some (Ad b 0))),.iface 153 (.pointer (some (Ad t 0))),.agg #[hd 153,.pointer (some (Ad v 0)),.int .u64 150],.iface 248 (.agg #[hd 26])] w fun e w'=>e= .returned (.bool true)/\w'.cell? (Ad t 0)=some (Iv c)/\Below t w w':=by
 have HG:=r102 (Ad b 0);have AW:=r102e c;have h5:=m5;have HK:=c5;have h6:=m6;have F3:=c6;have HH:=ta1 (Ad b 0);have HI:=ta2 (Ad b 0);have h7:=m7 (Ad b 0);have DA:=r88e c;go_enter func151,ntmps151;go_wp2_with fail;refine wp_loop_rounds 2 ?_;rw[rounds_succ];go_wp2_with fail;refine (unwrap_at b c _ (by rw[World.cell?_alloc_lt _ _ _ (by exact A3)];exact hb)).mono ?_;rintro e w1 ⟨rfl,rfl⟩;have DD:=r103' (Ad v 0) (w.alloc (.cells #[hd 153,.pointer (some (Ad v 0)),.int .u64 150] 188)) (Ad t 0) (by rw[World.cell?_alloc_lt _ _ _ (by exact AV)];exact hv);have DT:=r104' (Ad t 0) (Ad (w.heap.size+1) 0) ((w.alloc (.cells #[hd 153,.pointer (some (Ad v 0)),.int .u64 150] 188)).alloc (.cells #[Iv c] 26)) c z (by simp) (by rw[World.cell?_alloc_lt _ _ _ (by simp;omega),World.cell?_alloc_lt _ _ _ (by exact A4)];exact ht) (by rw[World.frozen?_alloc_past _ _ _ (by simp;omega),World.frozen?_alloc_past _ _ _ (by exact A4)];exact hf);go_wp2_with fail;rw[rounds_succ];go_wp2
 go_ret;refine ⟨rfl, ?_,Below.alloc (Below.alloc (Below.setCell (Below.refl t w) (show t<=((Ad t 0):Addr).block from Nat.le_refl t) _) ?_ _) ?_ _⟩;rotate_left
 ·simp;omega
 ·simp;omega
 rw[World.cell?_alloc_lt _ _ _ (by simp;omega),World.cell?_alloc_lt _ _ _ (by simp;omega)];exact World.cell?_setCell_same _ _ _ ht
theorem As_ptr (b t:Nat) (c:Int) (z:Value) (w:World) (A0:w.cell? (Ad 1 0)=some (.iface 248 (.agg #[hd 32]))) (A1:1<w.heap.size) (hb:w.cell? (Ad b 0)=some (Iv c)) (A3:b<w.heap.size) (ht:w.cell? (Ad t 0)=some z) (hf:w.frozen? (Ad t 0)=false) (A4:t<w.heap.size):
 Calls prog 97 #[.iface 63 (.pointer (some (Ad b 0))),.iface 153 (.pointer (some (Ad t 0)))] w fun e w'=>e= .returned (.bool true)/\w'.cell? (Ad t 0)=some (Iv c)/\Below t w w':=by
 have A6:0<w.heap.size:=(by omega);have F4:=r88 t;have FB:=r89;have h1:=m1;have G1:=c1;have h2:=m2;have G2:=c2;have h3:=m3;have G4:=c3;have h4:=m4;have H0:=c4;have H1:=r90' (Ad w.heap.size 0) ((w.alloc (.cells #[.pointer (some (Ad t 0))] 153)).alloc (.cells #[hd 153,.pointer (some (Ad w.heap.size 0)),.int .u64 150] 188)) (Ad t 0) (by simp);go_enter func97,ntmps97;go_wp2_with fail;refine (as_ptr b t w.heap.size c z _ ?_ ?_ ?_ ?_ ?_ ?_ ?_).mono ?_
 ·rw[World.cell?_alloc_lt _ _ _ (by simp;omega),World.cell?_alloc_lt _ _ _ (by exact A3)];exact hb
 ·simp;omega
 ·rw[World.cell?_alloc_lt _ _ _ (by simp;omega),World.cell?_alloc_lt _ _ _ (by exact A4)];exact ht
 ·rw[World.frozen?_alloc_past _ _ _ (by simp;omega),World.frozen?_alloc_past _ _ _ (by exact A4)];exact hf
 ·simp;omega
 ·simp
 ·simp;omega
 rintro e w1 ⟨rfl,hc,A5⟩;go_wp2
 go_ret;exact ⟨rfl,hc,(((Below.refl t w).alloc (by omega) _).alloc (by simp;omega) _).trans A5⟩
theorem Tell_nil (w:World):Calls prog 51 #[.nilIface] w fun e w'=>e= .returned (Iv 0)/\w=w':=by
 go_enter func51,ntmps51;go_wp2
 go_ret;exact ⟨rfl,rfl⟩
theorem Tell_ptr (b:Nat) (c:Int) (w:World) (A0:w.cell? (Ad 1 0)=some (.iface 248 (.agg #[hd 32]))) (A1:1<w.heap.size) (hb:w.cell? (Ad b 0)=some (Iv c)) (A3:b<w.heap.size):
 Calls prog 51 #[.iface 63 (.pointer (some (Ad b 0)))] w fun e w'=>e= .returned (Iv c)/\Below w.heap.size w w':=by
 have A6:0<w.heap.size:=(by omega);go_enter func51,ntmps51;go_wp2_with fail;refine (As_ptr b w.heap.size c (Iv 0) _ ?_ ?_ ?_ ?_ ?_ ?_ ?_).mono ?_
 ·rw[World.cell?_alloc_lt _ _ _ (by exact A1)];exact A0
 ·simp;omega
 ·rw[World.cell?_alloc_lt _ _ _ (by exact A3)];exact hb
 ·simp;omega
 ·simp
 ·simp
 ·simp
 rintro e w1 ⟨rfl,hc,A5⟩;go_wp2
 go_ret;exact ⟨rfl,((Below.refl _ w).alloc (Nat.le_refl _) _).trans A5⟩
theorem below_drewN' {B:Nat} {a w:World} (h:Below B a w) (n:Nat):Below B a (w.drewN n):=⟨h.os,h.tape,h.output,h.size,h.block⟩
theorem ta3 (a:Addr) (w:World):(Instr.typeAssert (.iface 63 (.pointer (some a))) 32 63 true).run prog w= .ok (.tuple #[.pointer (some a),.bool true]) w:=by kernel_rfl
theorem Place_nil (w:World):Calls prog 22 #[.nilIface] w fun e w'=>e= .returned (.tuple #[Iv 0,Iv (-1)])/\w=w':=by
 go_enter func22,ntmps22;go_wp2_with fail;refine (Tell_nil _).mono ?_;rintro e w1 ⟨rfl,rfl⟩;go_wp2_with fail;refine wp_loop_rounds 1 ?_;rw[rounds_succ];go_wp2
 go_ret2;exact ⟨rfl,rfl⟩
theorem Place_ptr (b:Nat) (c p:Int) (w:World) (A0:w.cell? (Ad 1 0)=some (.iface 248 (.agg #[hd 32]))) (A1:1<w.heap.size) (hb:w.cell? (Ad b 0)=some (Iv c)) (A7:w.cell? (Ad b 1)=some (Iv p)) (A3:b<w.heap.size):
 Calls prog 22 #[.iface 63 (.pointer (some (Ad b 0)))] w fun e w'=>e= .returned (.tuple #[Iv c,Iv p])/\Below w.heap.size w w':=by
 have A6:0<w.heap.size:=(by omega);have h3:=ta3 (Ad b 0);go_enter func22,ntmps22;go_wp2_with fail;refine (Tell_ptr b c _ A0 A1 hb A3).mono ?_;rintro e w1 ⟨rfl,A2⟩;have hx:w1.cell? (Ad b 1)=some (Iv p):=(by rw[A2.cell (p:=(Ad b 1)) A3];exact A7);go_wp2_with fail;refine wp_loop_rounds 1 ?_;rw[rounds_succ];go_wp2_with fail
 go_quiet (fail)
 go_wp2
 go_ret2;exact ⟨rfl,below_drewN' A2 _⟩
theorem placed_nil (w:World):Calls prog 7 #[.nilIface,.agg #[Iv 0,Iv (-1)]] w fun e w'=>e= .returned (.bool true)/\Below w.heap.size w w':=by
 go_enter func7,ntmps7;go_wp2_with fail;refine (Place_nil _).mono ?_;rintro e w1 ⟨rfl,rfl⟩;go_wp2
 go_ret;exact ⟨rfl,(Below.refl _ w).alloc (Nat.le_refl _) _⟩
theorem placed_ptr (b:Nat) (c p:Int) (w:World) (A0:w.cell? (Ad 1 0)=some (.iface 248 (.agg #[hd 32]))) (A1:1<w.heap.size) (hb:w.cell? (Ad b 0)=some (Iv c)) (A7:w.cell? (Ad b 1)=some (Iv p)) (A3:b<w.heap.size):
 Calls prog 7 #[.iface 63 (.pointer (some (Ad b 0))),.agg #[Iv c,Iv p]] w fun e w'=>e= .returned (.bool true)/\Below w.heap.size w w':=by
 have A6:0<w.heap.size:=(by omega);go_enter func7,ntmps7;go_wp2_with fail;refine (Place_ptr b c p _ ?_ ?_ ?_ ?_ ?_).mono ?_
 ·rw[World.cell?_alloc_lt _ _ _ (by exact A1)];exact A0
 ·simp;omega
 ·rw[World.cell?_alloc_lt _ _ _ (by exact A3)];exact hb
 ·rw[World.cell?_alloc_lt _ _ _ (by exact A3)];exact A7
 ·simp;omega
 rintro e w1 ⟨rfl,A2⟩;have H2:w1.cell? (Ad w.heap.size 0)=some (Iv c):=(by rw[A2.cell (p:=(Ad w.heap.size 0)) (by simp)];simp);have H3:w1.cell? (Ad w.heap.size 1)=some (Iv p):=(by rw[A2.cell (p:=(Ad w.heap.size 1)) (by simp)];simp);have H4:(c==c)=true:=(by simp);have HL:(p==p)=true:=(by simp);go_wp2
 go_ret;exact ⟨rfl,((Below.refl _ w).alloc (Nat.le_refl _) _).trans (A2.mono (by simp))⟩
theorem ta3e (c:Int) (w:World):(Instr.typeAssert (.iface 26 (Iv c)) 32 63 true).run prog w= .ok (.tuple #[.pointer none,.bool false]) w:=by kernel_rfl
theorem ta4e (c:Int) (w:World):(Instr.typeAssert (.iface 26 (Iv c)) 32 99 true).run prog w= .ok (.tuple #[.nilIface,.bool false]) w:=run_typeAssert_lacksB underlying99 (by kernel_rfl) (by kernel_rfl) _ _ w
theorem as_ern (t v:Nat) (c:Int) (z:Value) (w:World) (ht:w.cell? (Ad t 0)=some z) (hf:w.frozen? (Ad t 0)=false) (A4:t<w.heap.size) (hv:w.cell? (Ad v 0)=some (.pointer (some (Ad t 0)))) (AV:v<w.heap.size):
 Calls prog 151 #[.iface 26 (Iv c),.iface 153 (.pointer (some (Ad t 0))),.agg #[hd 153,.pointer (some (Ad v 0)),.int .u64 150],.iface 248 (.agg #[hd 26])] w fun e w'=>e= .returned (.bool true)/\w'.cell? (Ad t 0)=some (Iv c)/\Below t w w':=by
 have AW:=r102e c;have h6:=m6;have F3:=c6;have DA:=r88e c;have DD:=r103' (Ad v 0) (w.alloc (.cells #[hd 153,.pointer (some (Ad v 0)),.int .u64 150] 188)) (Ad t 0) (by rw[World.cell?_alloc_lt _ _ _ (by exact AV)];exact hv);have DT:=r104' (Ad t 0) (Ad (w.heap.size+1) 0) ((w.alloc (.cells #[hd 153,.pointer (some (Ad v 0)),.int .u64 150] 188)).alloc (.cells #[Iv c] 26)) c z (by simp) (by rw[World.cell?_alloc_lt _ _ _ (by simp;omega),World.cell?_alloc_lt _ _ _ (by exact A4)];exact ht) (by rw[World.frozen?_alloc_past _ _ _ (by simp;omega),World.frozen?_alloc_past _ _ _ (by exact A4)];exact hf);go_enter func151,ntmps151;go_wp2_with fail;refine wp_loop_rounds 1 ?_;rw[rounds_succ];go_wp2
 go_ret;refine ⟨rfl, ?_,Below.alloc (Below.alloc (Below.setCell (Below.refl t w) (show t<=((Ad t 0):Addr).block from Nat.le_refl t) _) ?_ _) ?_ _⟩;rotate_left
 ·simp;omega
 ·simp;omega
 rw[World.cell?_alloc_lt _ _ _ (by simp;omega),World.cell?_alloc_lt _ _ _ (by simp;omega)];exact World.cell?_setCell_same _ _ _ ht
theorem As_ern (t:Nat) (c:Int) (z:Value) (w:World) (A0:w.cell? (Ad 1 0)=some (.iface 248 (.agg #[hd 32]))) (A1:1<w.heap.size) (ht:w.cell? (Ad t 0)=some z) (hf:w.frozen? (Ad t 0)=false) (A4:t<w.heap.size):
 Calls prog 97 #[.iface 26 (Iv c),.iface 153 (.pointer (some (Ad t 0)))] w fun e w'=>e= .returned (.bool true)/\w'.cell? (Ad t 0)=some (Iv c)/\Below t w w':=by
 have A6:0<w.heap.size:=(by omega);have F4:=r88 t;have FB:=r89;have h1:=m1;have G1:=c1;have h2:=m2;have G2:=c2;have h3:=m3;have G4:=c3;have h4:=m4;have H0:=c4;have H1:=r90' (Ad w.heap.size 0) ((w.alloc (.cells #[.pointer (some (Ad t 0))] 153)).alloc (.cells #[hd 153,.pointer (some (Ad w.heap.size 0)),.int .u64 150] 188)) (Ad t 0) (by simp);go_enter func97,ntmps97;go_wp2_with fail;refine (as_ern t w.heap.size c z _ ?_ ?_ ?_ ?_ ?_).mono ?_
 ·rw[World.cell?_alloc_lt _ _ _ (by simp;omega),World.cell?_alloc_lt _ _ _ (by exact A4)];exact ht
 ·rw[World.frozen?_alloc_past _ _ _ (by simp;omega),World.frozen?_alloc_past _ _ _ (by exact A4)];exact hf
 ·simp;omega
 ·simp
 ·simp;omega
 rintro e w1 ⟨rfl,hc,A5⟩;go_wp2
 go_ret;exact ⟨rfl,hc,(((Below.refl t w).alloc (by omega) _).alloc (by simp;omega) _).trans A5⟩
theorem Tell_ern (c:Int) (w:World) (A0:w.cell? (Ad 1 0)=some (.iface 248 (.agg #[hd 32]))) (A1:1<w.heap.size):
 Calls prog 51 #[.iface 26 (Iv c)] w fun e w'=>e= .returned (Iv c)/\Below w.heap.size w w':=by
 have A6:0<w.heap.size:=(by omega);go_enter func51,ntmps51;go_wp2_with fail;refine (As_ern w.heap.size c (Iv 0) _ ?_ ?_ ?_ ?_ ?_).mono ?_
 ·rw[World.cell?_alloc_lt _ _ _ (by exact A1)];exact A0
 ·simp;omega
 ·simp
 ·simp
 ·simp
 rintro e w1 ⟨rfl,hc,A5⟩;go_wp2
 go_ret;exact ⟨rfl,((Below.refl _ w).alloc (Nat.le_refl _) _).trans A5⟩
theorem Place_ern (c:Int) (w:World) (A0:w.cell? (Ad 1 0)=some (.iface 248 (.agg #[hd 32]))) (A1:1<w.heap.size):
 Calls prog 22 #[.iface 26 (Iv c)] w fun e w'=>e= .returned (.tuple #[Iv c,Iv (-1)])/\Below w.heap.size w w':=by
 have A6:0<w.heap.size:=(by omega);have h3:=ta3e c;have h4:=ta4e c;go_enter func22,ntmps22;go_wp2_with fail;refine (Tell_ern c _ A0 A1).mono ?_;rintro e w1 ⟨rfl,A2⟩;go_wp2_with fail;refine wp_loop_rounds 1 ?_;rw[rounds_succ];go_wp2
 go_ret2;exact ⟨rfl,A2⟩
theorem placed_ern (c:Int) (w:World) (A0:w.cell? (Ad 1 0)=some (.iface 248 (.agg #[hd 32]))) (A1:1<w.heap.size):
 Calls prog 7 #[.iface 26 (Iv c),.agg #[Iv c,Iv (-1)]] w fun e w'=>e= .returned (.bool true)/\Below w.heap.size w w':=by
 have A6:0<w.heap.size:=(by omega);go_enter func7,ntmps7;go_wp2_with fail;refine (Place_ern c _ ?_ ?_).mono ?_
 ·rw[World.cell?_alloc_lt _ _ _ (by exact A1)];exact A0
 ·simp;omega
 rintro e w1 ⟨rfl,A2⟩;have H2:w1.cell? (Ad w.heap.size 0)=some (Iv c):=(by rw[A2.cell (p:=(Ad w.heap.size 0)) (by simp)];simp);have H3:w1.cell? (Ad w.heap.size 1)=some (Iv (-1)):=(by rw[A2.cell (p:=(Ad w.heap.size 1)) (by simp)];simp);have H4:(c==c)=true:=(by simp);go_wp2
 go_ret;exact ⟨rfl,((Below.refl _ w).alloc (Nat.le_refl _) _).trans (A2.mono (by simp))⟩
def padN (m n:Nat):Nat:=(m- n%m)%m
def padTo (m:Nat) (c:UInt8) (B:List UInt8):List UInt8:=B++List.replicate (padN m B.length) c
def chunks:List UInt8->List UInt8
 |a::b::c::d::e::f::r=>letter (bval [a,b,c,d,e,f])::chunks r
 |_=>[]
theorem six {a:UInt8} {rest:List UInt8} (h:(a::rest).length%6=0): ∃b c d e f r,rest=b::c::d::e::f::r:=by
 rcases rest with _|⟨b,_|⟨c,_|⟨d,_|⟨e,_|⟨f,r⟩⟩⟩⟩⟩
 ·simp at h
 ·simp at h
 ·simp at h
 ·simp at h
 ·simp at h
 ·exact ⟨_,_,_,_,_,_,rfl⟩
structure Laid (w:World):Prop where
 z9:w.cell? (Ad 12 1)=some (.int .u8 1)
 e4:w.cell? (Ad 1 0)=some (.iface 248 (.agg #[hd 32]))
 sz:14<=w.heap.size
theorem Laid.below {w w':World} (h:Laid w) {B:Nat} (hB:14<=B) (hb:Below B w w'):Laid w':=
 ⟨by rw[hb.cell (p:=(Ad 12 1)) (show 12<B by omega)];exact h.z9,by rw[hb.cell (p:=(Ad 1 0)) (show 1<B by omega)];exact h.e4,Nat.le_trans h.sz hb.size⟩
def bitsOf (l:List UInt8):List UInt8:=l.flatMap fun c=>binL 8 c.toNat
theorem bitsOf_step {l:List UInt8} {k:Nat} (h:k<l.length):bitsOf (l.take (k+1))=bitsOf (l.take k)++binL 8 l[k].toNat:=by rw[List.take_succ_eq_append_getElem h,bitsOf,List.flatMap_append];simp[bitsOf]
theorem bitsOf_len (l:List UInt8):(bitsOf l).length=8*l.length:=by
 induction l with
 |nil=>rfl
 |cons a l ih=>simp only[bitsOf,List.flatMap_cons,List.length_append,binL_length,List.length_cons] at*;omega
theorem bin_bits (L n:Nat):Bits (binL L n):=by
 intro c hc;simp only[binL,List.mem_map] at hc;obtain ⟨j,_,rfl⟩:=hc;rcases Nat.mod_two_eq_zero_or_one (n/2 ^(L- 1- j)) with h|h<;>rw[h]
 ·exact .inl rfl
 ·exact .inr rfl
theorem bitsOf_bits (l:List UInt8):Bits (bitsOf l):=by intro c hc;simp only[bitsOf,List.mem_flatMap] at hc;obtain ⟨x,_,hx⟩:=hc;exact bin_bits _ _ c hx
theorem padTo_bits {B:List UInt8} (m:Nat) (h:Bits B):Bits (padTo m 48 B):=by
 intro c hc;rw[padTo,List.mem_append] at hc;rcases hc with hc|hc
 ·exact h c hc
 ·exact .inl (List.eq_of_mem_replicate hc)
def refB (l:List UInt8):List UInt8:=padTo 4 61 (chunks (padTo 6 48 (bitsOf l)))
theorem ext6 (a b c d e f:UInt8) (r:List UInt8):(⟨(a::b::c::d::e::f::r).toArray⟩:ByteArray).extract 6 (r.length+1+1+1+1+1+1)=⟨r.toArray⟩:=by rw[ba_cut];simp
theorem alpha_cut (N:Nat) (h:N<64):(⟨#[65,66,67,68,69,70,71,72,73,74,75,76,77,78,79,80,81,82,83,84,85,86,87,88,89,90,97,98,99,100,101,102,103,104,105,106,107,108,109,110,111,112,113,114,115,116,117,118,119,120,121,122,48,49,50,51,52,53,54,55,56,57,43,47]⟩:ByteArray).extract N (N+1)=⟨[letter N].toArray⟩:=by
 have:=letter_at N h;rw[show (⟨#[65,66,67,68,69,70,71,72,73,74,75,76,77,78,79,80,81,82,83,84,85,86,87,88,89,90,97,98,99,100,101,102,103,104,105,106,107,108,109,110,111,112,113,114,115,116,117,118,119,120,121,122,48,49,50,51,52,53,54,55,56,57,43,47]⟩:ByteArray)=⟨alpha.data.toList.toArray⟩ from rfl,ba_cut,show N+1- N=1 from by omega];have hl:alpha.data.toList.length=64:=(by decide);rw[List.drop_eq_getElem_cons (by omega),List.take_succ_cons,List.take_zero]
 congr 2
 simp[letter,List.getD,List.getElem?_eq_getElem (show N<alpha.data.toList.length by omega)]
theorem digits8 (c:UInt8) (w:World) (hL:Laid w):Calls prog 62 #[Iv (c.toNat:Int),Iv 2,Iv 8] w fun e w'=>e= .returned (.string ⟨(binL 8 c.toNat).toArray⟩)/\Below w.heap.size w w':=
 digits2 c.toNat 8 w (by omega) (by omega) c.toNat_lt hL.z9 (by have:=hL.sz;omega)
theorem refB64_any (l:List UInt8) (w:World) (hs:l.length<=2147483648) (hL:Laid w):
 Calls prog 65 #[Sv l] w fun e w'=>e= .returned (.string ⟨(refB l).toArray⟩)/\Below w.heap.size w w':=by
 go_enter func65,ntmps65;go_wp2
 go_loopw [3,10] (fun v i wr=> ∃(k:Nat) (B:List UInt8),v=Sv B/\i=Iv k/\k<=l.length/\B.length<=8*k/\Hid (B=bitsOf (l.take k))/\Below w.heap.size w wr) (fun _ i _=>l.length-(intOf i).toNat);case atStart=>exact ⟨0,[],rfl,rfl,by omega,by simp,hid rfl,Below.refl _ _⟩
 case round=>
  obtain ⟨k,B,rfl,rfl,hk,H8,HB,hb⟩:=hrel;have H9:=hL.below hL.sz hb;by_cases HA:k<l.length
  ·obtain ⟨c,hx,hc⟩: ∃c,(∀h,(⟨l.toArray⟩:ByteArray)[k]'h=c)/\l[k]=c:=⟨l[k],fun _=>rfl,rfl⟩;have B0:=bitsOf_step HA;rw[hc] at B0;have HC:=hid B0;clear B0 hc;have HM:=wrap_byte c;have HS:=fun n:Nat=>binL_length 8 n;go_wp2_with fail;refine (digits8 c _ H9).mono ?_;rintro e w1 ⟨rfl,A7⟩;have B1:=hb.trans (A7.mono hb.size);go_wp2_with fail;rw[ba_app];refine ⟨⟨k+1,B++binL 8 c.toNat,rfl,by go_num,by omega,by rw[List.length_append,binL_length];omega,hid (by rw[HC.out,HB.out]),B1⟩,by simp[intOf];omega⟩
  ·have HD:k=l.length:=(by omega);subst HD;rw[List.take_length] at HB;have A8:=bitsOf_len l;rw[<-HB.out] at A8;have AL:=hid A8;clear A8 H8;go_wp2
   go_loop [3] (fun v=> ∃(P:List UInt8) (j:Nat),v=Sv P/\P.length<=17179869190/\Hid (P=B++List.replicate j 48/\j<=padN 6 B.length)) (fun v=>17179869200-(match v with| .string b=>b.size|_=>0))
   case atStart=>exact ⟨B,0,rfl,by have:=AL.out;omega,hid ⟨by simp,Nat.zero_le _⟩⟩
   case round=>
    obtain ⟨P,j,rfl,E0,HP⟩:=hrel;have A9:P.length=B.length+j:=(by rw[HP.out.1];simp);by_cases hq:P.length%6=0
    ·have hj:j=padN 6 B.length:=(by have:=HP.out.2;unfold padN at*;omega);have E1:Hid (P=padTo 6 48 (bitsOf l)):=hid (by rw[HP.out.1,hj,HB.out];rfl);have B2:((P.length:Int)%6 != 0)=false:=(by simp;omega);have HQ:=hid hq;clear A9 hq hj HP;have HE:Hid (Bits P):=hid (by rw[E1.out];exact padTo_bits _ (bitsOf_bits l));go_wp2
     go_loopw [3,5] (fun v o wr=> ∃(rest acc:List UInt8),v=Sv rest/\o=Sv acc/\rest.length<=17179869190/\6*acc.length+rest.length<=17179869190/\Hid (rest.length%6=0/\Bits rest/\acc++chunks rest=chunks P)/\Below w.heap.size w wr) (fun v _ _=>(match v with| .string b=>b.size|_=>0));case atStart=>exact ⟨P,[],rfl,rfl,E0,by simpa using E0,hid ⟨HQ.out,HE.out,rfl⟩,hb⟩
     case round=>
      clear hb;obtain ⟨rest,acc,rfl,rfl,hr,E2,HR,hb⟩:=hrel;rcases rest with _|⟨a,rest⟩
      ·have AN:acc=chunks P:=(by have h:=HR.out.2.2;simpa[chunks] using h);have E3:=hid AN;have HT:acc.length<=17179869190:=(by omega);clear AN E2 hr;go_wp2
       go_loop [5] (fun v=> ∃(O:List UInt8) (j:Nat),v=Sv O/\O.length<=17179869200/\Hid (O=acc++List.replicate j 61/\j<=padN 4 acc.length)) (fun v=>17179869210-(match v with| .string b=>b.size|_=>0))
       case atStart=>exact ⟨acc,0,rfl,by omega,hid ⟨by simp,Nat.zero_le _⟩⟩
       case round=>
        obtain ⟨O,j,rfl,HU,HO⟩:=hrel;have AB:O.length=acc.length+j:=(by rw[HO.out.1];simp);by_cases hq:O.length%4=0
        ·have hj:j=padN 4 acc.length:=(by have:=HO.out.2;unfold padN at*;omega);have HF:Hid (O=refB l):=hid (by rw[HO.out.1,hj,E3.out,E1.out];rfl);have B2:((O.length:Int)%4 != 0)=false:=(by simp;omega);clear AB hq hj HO;go_wp2
         go_ret;exact ⟨by rw[<-HF.out];rfl,hb⟩
        ·have hj:j+1<=padN 4 acc.length:=(by have:=HO.out.2;unfold padN at*;omega);have B2:((O.length:Int)%4 != 0)=true:=(by simp;omega);have HJ:=hid hj;have E9:O.length+1<=17179869200:=(by unfold padN at hj;omega);clear AB hq hj;go_wp2_with fail;rw[show (⟨O.toArray⟩:ByteArray)++⟨#[61]⟩=⟨(O++[61]).toArray⟩ from ba_app O [61]];refine ⟨⟨O++[61],j+1,rfl,by simpa using E9,hid ⟨?_,HJ.out⟩⟩, ?_⟩
         ·rw[HO.out.1,List.replicate_succ',List.append_assoc]
         ·show 17179869210-(O++[61]).length<17179869210- O.length;rw[List.length_append,List.length_singleton];omega
      ·obtain ⟨b,c,d,e,f,r,rfl⟩: ∃b c d e f r,rest=b::c::d::e::f::r:=six HR.out.1;go_wp2_with fail;rw[show (⟨(a::b::c::d::e::f::r).toArray⟩:ByteArray).extract 0 6=⟨[a,b,c,d,e,f].toArray⟩ from by rw[ba_cut];simp];have B3:Bits [a,b,c,d,e,f]:=fun x hx=>HR.out.2.1 x (by simp at hx⊢;rcases hx with h|h|h|h|h|h<;>simp[h]);have F1:bval [a,b,c,d,e,f]<64:=bval_lt _ B3;refine (pint [a,b,c,d,e,f] _ (by simp) (by simp) B3).mono ?_;rintro e1 w1 ⟨rfl,A7⟩;have B1:=hb.trans (A7.mono hb.size);obtain ⟨N,hN⟩: ∃N,bval [a,b,c,d,e,f]=N:=⟨_,rfl⟩;rw[hN];rw[hN] at F1;have HN:=hid hN;clear hN B3;go_wp2_with fail;rw[ext6,alpha_cut N F1,ba_app];refine ⟨⟨r,acc++[letter N],rfl,rfl, ?_, ?_,hid ⟨?_, ?_, ?_⟩,B1⟩, ?_⟩
       ·simp only[List.length_cons] at hr;omega
       ·simp only[List.length_cons,List.length_append,List.length_nil] at E2⊢;omega
       ·have h:=HR.out.1;simp only[List.length_cons] at h;omega
       ·exact fun x hx=>HR.out.2.1 x (by simp[hx])
       ·rw[<-HR.out.2.2,chunks,HN.out,List.append_assoc];rfl
       ·show r.length<r.length+1+1+1+1+1+1;omega
    ·have hj:j+1<=padN 6 B.length:=(by have:=HP.out.2;unfold padN at*;omega);have B2:((P.length:Int)%6 != 0)=true:=(by simp;omega);have HJ:=hid hj;have F2:P.length+1<=17179869190:=(by have:=AL.out;unfold padN at hj;omega);clear A9 hq hj;go_wp2_with fail;rw[show (⟨P.toArray⟩:ByteArray)++⟨#[48]⟩=⟨(P++[48]).toArray⟩ from ba_app P [48]];refine ⟨⟨P++[48],j+1,rfl,by simpa using F2,hid ⟨?_,HJ.out⟩⟩, ?_⟩
     ·rw[HP.out.1,List.replicate_succ',List.append_assoc]
     ·show 17179869200-(P++[48]).length<17179869200- P.length;rw[List.length_append,List.length_singleton];omega
end B
end Go.Proofs.YtjhpdljphchfaaaGreatDoor
