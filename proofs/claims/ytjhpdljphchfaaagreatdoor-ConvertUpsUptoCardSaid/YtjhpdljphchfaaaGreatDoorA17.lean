/- A part of the proof of ConvertUps: An argument reads behind the call as it read before, where its blocks are as they were. -/
import Derived.Test.YtjhpdljphchfaaaGreatDoorA15
import Derived.ChangeSame
import Derived.Below
import Derived.Test.YtjhpdljphchfaaaGreatDoorA10
import Derived.Lib.LaidTab
import Derived.Lib.LaidU8T
import Derived.Shelf.Vars
import Derived.PinnedBridge
set_option maxHeartbeats 40000000
set_option maxRecDepth 1000000
set_option linter.all false
namespace Go.Proofs.YtjhpdljphchfaaaGreatDoor
open Go.RowKit
open Go.Proofs.Tryz
section
open Go.ChangeShapes Go.WideShapes Go.Deep
section
variable {H:Type} {enc:TypeId×Value->H} {w w':World} {sp:Nat->Bool} {S:Nat->Prop}
theorem MR {α β:Type} {f:α->Option β}: ∀{l:List α} {r:List β},r.length=l.length->(∀(i:Nat) (a:α),l[i]? =some a->f a=r[i]?)->l.mapM f=some r
 |[],r,h,_=>by obtain rfl:=List.eq_nil_of_length_eq_zero h;rfl
 |a::l,[],h,_=>by simp at h
 |a::l,b::r,h,hf=>by have h0:f a=some b:=hf 0 a rfl;have h1:=MR (f:=f) (l:=l) (r:=r) (by simpa using h) (fun i x hx=>hf (i+1) x hx);simp[List.mapM_cons,h0,h1]
def Kp (enc:TypeId×Value->H) (w w':World) (sp:Nat->Bool) (S:Nat->Prop) (t:TypeId):Prop:=
 ∀fuel cs x,DataW.trod enc prog w 0 (fun _=>true) true fuel t cs=some x->(∀p∈x.2,S p.block)-> ∃m,DataW.trod enc prog w' 0 sp true m t cs=some x
theorem Q5:Kp enc w w' sp S 9:=fun fuel cs x h _=>by obtain ⟨s,rfl,rfl,hs⟩:=DataW.trod_string underlying9 h;exact ⟨1,by unfold DataW.trod;rw[underlying9];simp[hs]⟩
theorem Q6:Kp enc w w' sp S 3:=fun fuel cs x h _=>by obtain ⟨s,rfl,rfl,hs⟩:=DataW.trod_int underlying3 h;exact ⟨1,by unfold DataW.trod;rw[underlying3];simp[hs]⟩
theorem Oh:Kp enc w w' sp S 4:=fun fuel cs x h _=>by obtain ⟨s,rfl,rfl⟩:=DataW.trod_bool underlying4 h;exact ⟨1,by unfold DataW.trod;rw[underlying4]⟩
theorem Cp {t:TypeId} {fs:Array Field} (ht:prog.underlying t=some (.struct fs)) (hf: ∀(i:Nat) (f:Field),fs[i]? =some f->Kp enc w w' sp S f.type):Kp enc w w' sp S t:=fun fuel cs x h hS=>by
 obtain ⟨xs,n,_,rfl,hl,A6,hg⟩:=DataW.trod_struct ht h;obtain ⟨m,hm⟩:=fuel_lt (n:=fs.size) (q:=fun i m=> ∀f:Field,fs[i]? =some f->DataW.trod enc prog w' 0 sp true m f.type ((cs.drop f.offset).take (prog.cellsOf f.type))=xs[i]?)
  (fun i a b E1 hq f A0=>by have h1:=hq f A0;have hi:i<fs.size:=(Array.getElem?_eq_some_iff.1 A0).1;rw[List.getElem?_eq_getElem (show i<xs.length by omega)] at h1⊢;exact DataW.trod_le E1 h1)
  (fun i hi=>by have A0:fs[i]? =some fs[i]:=Array.getElem?_eq_getElem hi;have h1:=hg i _ A0;have hx:xs[i]? =some xs[i]:=List.getElem?_eq_getElem (by omega);rw[hx] at h1;obtain ⟨m,hm⟩:=hf i _ A0 _ _ _ h1 (fun p hp=>hS p (List.mem_flatMap.2 ⟨xs[i],List.getElem_mem _,hp⟩));exact ⟨m,fun f AN=>by rw[A0] at AN;obtain rfl:=Option.some.inj AN;rw[hx];exact hm⟩)
 refine ⟨m+1,trod_struct_mk ht hl (MR (by simpa using A6) fun i f A0=> ?_)⟩;have A0:fs[i]? =some f:=(by simpa using A0);exact hm i (Array.getElem?_eq_some_iff.1 A0).1 f A0
theorem EE {t e:TypeId} (ht:prog.underlying t=some (.slice e)) (hC:0<prog.cellsOf e) (hh: ∀b,S b->w'.heap[b]? =w.heap[b]?) (hs: ∀b,S b->sp b=true) (he:Kp enc w w' sp S e):Kp enc w w' sp S t:=fun fuel cs x h hS=>by
 rcases open_slice ht h with ⟨rfl,rfl⟩|⟨a,len,cap,m,n,D,Pl,rfl,hb,hl,hm,A4,rfl,hi⟩
 ·refine ⟨0+1, ?_⟩;rw[DataW.trod_step];unfold DataW.trodStep;simp only[ht]
 ·simp only[if_true] at A4;subst A4;by_cases hc:m=0
  ·subst hc;obtain rfl:len=0:=(by omega);refine ⟨0+1, ?_⟩;rw[DataW.trod_step];unfold DataW.trodStep;simp only[ht];simp[hm,MemPlace.row]
  ·have AV:S a.block:=hS (.cell a.block (a.off+0)) (List.mem_append.2 (.inl (List.mem_map.2 ⟨0,List.mem_range.2 (Nat.mul_pos (by omega) hC),rfl⟩)));obtain ⟨k,hk⟩:=shut_slice_whole_cells (enc:=enc) (w:=w') (base:=0) (spare:=sp) (held:=true) ht hb hl hm (hs _ AV) D Pl (fun i AW=>by
    obtain ⟨cs',h1,h2⟩:=hi i AW;obtain ⟨k,hk⟩:=he _ _ _ h2 (fun p hp=>hS p (List.mem_append.2 (.inr (List.mem_flatMap.2 ⟨i,List.mem_range.2 AW,hp⟩))));refine ⟨cs',k, ?_,hk⟩;rw[<-h1];unfold World.cells?;have hc: ∀j,w'.cell? ((a.add (i*prog.cellsOf e)).add j)=w.cell? ((a.add (i*prog.cellsOf e)).add j):=fun j=>(by refine World.cell?_of_block ?_;have B0:((a.add (i*prog.cellsOf e)).add j).block=a.block:=(by unfold Addr.add;split<;>(split<;>rfl));rw[B0];exact hh _ AV);simp only[hc])
   exact ⟨k,hk⟩
theorem Oi (hh: ∀b,S b->w'.heap[b]? =w.heap[b]?) (hs: ∀b,S b->sp b=true):Kp enc w w' sp S 24:=by
 have k9:Kp enc w w' sp S 9:=Q5;have k3:Kp enc w w' sp S 3:=Q6;have k4:Kp enc w w' sp S 4:=Oh;have B1:Kp enc w w' sp S 55:=EE underlying55 (of_decide_eq_true (by kernel_rfl)) hh hs k9;have E2:Kp enc w w' sp S 38:=EE underlying38 (of_decide_eq_true (by kernel_rfl)) hh hs B1;have E3:Kp enc w w' sp S 57:=Cp underlying57 fun i f hf=>by
  match i,hf with
  |0,hf=>obtain rfl:=Option.some.inj hf;exact k9
  |1,hf=>obtain rfl:=Option.some.inj hf;exact B1
  |i+2,hf=>simp at hf
 have E9:Kp enc w w' sp S 37:=EE underlying37 (of_decide_eq_true (by kernel_rfl)) hh hs E3;have F1:Kp enc w w' sp S 40:=Cp underlying40 fun i f hf=>by
  match i,hf with
  |0,hf=>obtain rfl:=Option.some.inj hf;exact k3
  |1,hf=>obtain rfl:=Option.some.inj hf;exact k3
  |2,hf=>obtain rfl:=Option.some.inj hf;exact k3
  |3,hf=>obtain rfl:=Option.some.inj hf;exact k3
  |4,hf=>obtain rfl:=Option.some.inj hf;exact k3
  |5,hf=>obtain rfl:=Option.some.inj hf;exact k3
  |6,hf=>obtain rfl:=Option.some.inj hf;exact k4
  |7,hf=>obtain rfl:=Option.some.inj hf;exact k3
  |i+8,hf=>simp at hf
 have F2:Kp enc w w' sp S 42:=Cp underlying42 fun i f hf=>by
  match i,hf with
  |0,hf=>obtain rfl:=Option.some.inj hf;exact k3
  |1,hf=>obtain rfl:=Option.some.inj hf;exact k9
  |2,hf=>obtain rfl:=Option.some.inj hf;exact E2
  |3,hf=>obtain rfl:=Option.some.inj hf;exact F1
  |4,hf=>obtain rfl:=Option.some.inj hf;exact k3
  |i+5,hf=>simp at hf
 have F3:Kp enc w w' sp S 44:=Cp underlying44 fun i f hf=>by
  match i,hf with
  |0,hf=>obtain rfl:=Option.some.inj hf;exact k9
  |1,hf=>obtain rfl:=Option.some.inj hf;exact k9
  |2,hf=>obtain rfl:=Option.some.inj hf;exact E9
  |3,hf=>obtain rfl:=Option.some.inj hf;exact F2
  |i+4,hf=>simp at hf
 have F4:Kp enc w w' sp S 22:=EE underlying22 (of_decide_eq_true (by kernel_rfl)) hh hs F3;exact Cp underlying24 fun i f hf=>by
  match i,hf with
  |0,hf=>obtain rfl:=Option.some.inj hf;exact k3
  |1,hf=>obtain rfl:=Option.some.inj hf;exact F4
  |i+2,hf=>simp at hf
end
end
section
open Go.ChangeShapes Go.WideShapes Go.Deep
abbrev Eb:List (String×DataW Unit):=Rows.convertUpsUptoRow.laid
theorem Xd:((List.range prog.types.size).filter fun t=>prog.rowNamed t [101,114,114,111,114])=[32]:=by kernel_rfl
theorem YN:(prog.cutTypes.find? (·.1== "internal/reflectlite.rtype")).map (·.2)=some 248:=by kernel_rfl
theorem US {W:World} (h:laidMetH prog Eb W):laidMet prog (Eb.filter fun x=>x.2.handleName?.isNone) W/\handlesMet prog [("errors.errorType",Rows.laid_errors_errorType)] W:=h
theorem z64:(Rows.laid_math_bits_deBruijn64tab:DataW Unit)=Lib.tabData .u8 [0,1,56,2,57,49,28,3,61,58,42,50,38,29,17,4,62,47,59,36,45,43,51,22,53,39,33,30,24,18,12,5,63,55,48,27,60,41,37,16,46,35,44,21,52,32,23,11,54,26,40,15,34,20,31,10,25,14,19,9,13,8,7,6]:=rfl
theorem z10:(Rows.laid_internal_strconv_uint64pow10:DataW Unit)=Lib.tabData .u64 Lib.pow10Tab:=rfl
theorem YO:(Rows.laid_strings_asciiSpace:DataW Unit)=Lib.tabData .u8 Lib.asciiSpaceTab:=rfl
theorem GT {W:World} {name:String} {k:IntKind} {zs:List Int} {g:Nat} {t e:TypeId} {n:Nat}
 (hg:prog.globalNamed name=some g) (A2:(prog.globals[g]?).map (·.type)=some t) (ht:prog.underlying t=some (.array n e)) (he:prog.underlying e=some (.int k)) (FB:prog.cellsOf e=1) (G1:prog.cellsOf t=n)
 (h:Lib.VarReads prog W name (Lib.tabData k zs)):Lib.TabIs prog W name k zs:=by
 obtain ⟨g',t',cs,fuel,p,A7,A8,A1,hd⟩:=h;obtain rfl:=Option.some.inj (hg.symm.trans A7);obtain rfl:=Option.some.inj (A2.symm.trans A8);unfold Lib.TabIs;rw[A1,<-Lib.cells_of_tab ht he FB G1 hd]
theorem zac:(Rows.laid_unicode_utf8_acceptRanges:DataW Unit)=Lib.acceptData:=by kernel_rfl
theorem zfi:Rows.laid_unicode_utf8_first=Lib.firstData:=Pinned.utf8First_eq
def XI:Go.Shelf.Ren:=⟨fun|n=>n,fun|119=>172|138=>302|139=>303|n=>n,fun|3=>8|4=>9|n=>n⟩
theorem YP:U8Types prog XI:=⟨underlying5,underlying172,underlying302,underlying303⟩
theorem YQ:U8Extra prog XI:=by constructor<;>kernel_rfl
theorem H5 {W:World} {name:String} {g:Nat} {t:TypeId} {ms:Array (String×TypeId)} {tn:String} {d:DataW Unit} (hg:prog.globalNamed name=some g) (A2:(prog.globals[g]?).map (·.type)=some t) (ht:prog.underlying t=some (.interface ms)) (h:Lib.VarReads prog W name (.iface tn d)): ∃u v,W.cell? (Ad g 0)=some (.iface u v):=by
 obtain ⟨g',t',cs,fuel,p,A7,A8,A1,hd⟩:=h;obtain rfl:=Option.some.inj (hg.symm.trans A7);obtain rfl:=Option.some.inj (A2.symm.trans A8);have hc:=World.var?_cell hg A1 0;obtain ⟨l⟩:=cs;cases fuel with
 |zero=>simp[DataW.trod] at hd
 |succ fuel=>
  unfold DataW.trod at hd;rw[ht] at hd;simp only at hd hc;split at hd<;>simp_all
theorem UT {α:Type} {l:List α} (h:l.length=3): ∃a b c,l=[a,b,c]:=by
 match l,h with
 |[a,b,c],_=>exact ⟨a,b,c,rfl⟩
theorem LV {W:World} {fuel:Nat} {cs:List Value} {x:DataW Unit×List MemPlace} {a:Str} (h:DataW.trod (fun _=>()) prog W 0 (fun _=>true) false fuel 9 cs=some x) (hx:x.1= .lit (.string a)):cs=[Sv a]:=by obtain ⟨s,rfl,rfl,_⟩:=DataW.trod_string underlying9 h;simp only[DataW.lit.injEq,Lit.string.injEq] at hx;subst hx;exact congrArg (fun b=>[Value.string b]) (Oe _).symm
theorem Xe {W:World} {fuel:Nat} {cs:List Value} {p:List MemPlace} {a b c:Str} (h:DataW.trod (fun _=>()) prog W 0 (fun _=>true) false fuel 263 cs=some (.agg [.lit (.string a),.lit (.string b),.lit (.string c)],p)):cs=[Sv a,Sv b,Sv c]:=by obtain ⟨xs,n,_,hx,hl,A6,hf⟩:=DataW.trod_struct underlying263 h;obtain ⟨c0,c1,c2,rfl⟩:=UT (hl.trans (show prog.cellsOf 263=3 by kernel_rfl));obtain ⟨x0,x1,x2,rfl⟩:=UT A6;have A5:=congrArg Prod.fst hx;simp only[DataW.agg.injEq,List.map_cons,List.map_nil,List.cons.injEq,and_true] at A5;have e9:prog.cellsOf 9=1:=(by kernel_rfl);have f0:DataW.trod (fun _=>()) prog W 0 (fun _=>true) false n 9 (([c0,c1,c2].drop 0).take (prog.cellsOf 9))=some x0:=hf 0 _ rfl;have f1:DataW.trod (fun _=>()) prog W 0 (fun _=>true) false n 9 (([c0,c1,c2].drop 1).take (prog.cellsOf 9))=some x1:=hf 1 _ rfl;have f2:DataW.trod (fun _=>()) prog W 0 (fun _=>true) false n 9 (([c0,c1,c2].drop 2).take (prog.cellsOf 9))=some x2:=hf 2 _ rfl;rw[e9] at f0 f1 f2;have g0:=LV f0 A5.1.symm;have g1:=LV f1 A5.2.1.symm;have g2:=LV f2 A5.2.2.symm;have k0:c0=Sv a:=(by simpa using g0);have k1:c1=Sv b:=(by simpa using g1);have k2:c2=Sv c:=(by simpa using g2);rw[k0,k1,k2]
theorem Og {W:World} (h:Lib.VarReads prog W "visitingcard/visitingcardref.shapes" Rows.laid_visitingcard_visitingcardref_shapes):
 ∃b o c,W.cell? (Ad 4 0)=some (.slice (some (Ad b o)) 7 c)/\b<W.heap.size/\ ∀i,i<7-> ∀j,j<3->W.cell? (Ad b (o+i*3+j))=some (.string ⟨((DB.getD i []).getD j []).toArray⟩):=by
 obtain ⟨g,t,cs,fuel,p,hg,A2,A1,hd⟩:=h;obtain rfl:=Option.some.inj ((show prog.globalNamed "visitingcard/visitingcardref.shapes" =some 4 by kernel_rfl).symm.trans hg);obtain rfl:=Option.some.inj ((show (prog.globals[4]?).map (·.type)=some 262 by kernel_rfl).symm.trans A2);have G2:=World.var?_cell hg A1 0;rcases open_slice underlying262 hd with ⟨_,hx⟩|⟨a,len,cap,m,fu,D,Pl,B2,hb,hl,hm,A4,hx,hi⟩
 ·cases hx
 ·have A9:=congrArg Prod.fst hx;simp only[Rows.laid_visitingcard_visitingcardref_shapes,DataW.slice.injEq] at A9;have B3:len=7:=(by have:=congrArg List.length A9.1;simpa using this.symm);subst B3;have H2:7<=m:=(by rw[A4];split<;>omega);have A3: ∀i,i<7-> ∀j,j<3->W.cell? (a.add (i*3+j))=some (.string ⟨((DB.getD i []).getD j []).toArray⟩):=fun i AB j hj=>by
   obtain ⟨cs',h1,h2⟩:=hi i (by omega);rw[show prog.cellsOf 263=3 by kernel_rfl] at h1;obtain ⟨_,_,h3⟩:=World.cells?_some h1;have h4:=h3 j hj;rw[add_add] at h4;have hD:D i= .agg [.lit (.string ((DB.getD i []).getD 0 [])),.lit (.string ((DB.getD i []).getD 1 [])),.lit (.string ((DB.getD i []).getD 2 []))]:=(by have h5:=congrArg (·[i]?) A9.1;simp only[List.getElem?_map,List.getElem?_range AB,Option.map_some] at h5;rcases (show i=0∨i=1∨i=2∨i=3∨i=4∨i=5∨i=6 by omega) with rfl|rfl|rfl|rfl|rfl|rfl|rfl<;>exact (Option.some.inj h5).symm);rw[hD] at h2;rw[h4,Xe h2];rcases (show j=0∨j=1∨j=2 by omega) with rfl|rfl|rfl<;>rfl
  obtain ⟨b,o,sp⟩:=a;have h0:=A3 0 (by omega) 0 (by omega);rw[show (Addr.mk b o sp).add (0*3+0)=⟨b,o,sp⟩ from by simp[Addr.add]] at h0;have G4:sp=none/\b<W.heap.size:=by
   unfold World.cell? at h0;split at h0
   ·rename_i H0;have AL:=(Array.getElem?_eq_some_iff.1 H0).1;cases sp with
    |none=>exact ⟨rfl,AL⟩
    |some q=>simp at h0
   ·cases h0
  obtain ⟨rfl,AL⟩:=G4;refine ⟨b,o,cap, ?_,AL,fun i AB j hj=> ?_⟩
  ·obtain ⟨l⟩:=cs;simp only at B2;subst B2;exact G2
  ·have h1:=A3 i AB j hj;rw[Addr.add_lit,<-Nat.add_assoc] at h1;exact h1
theorem Vx {W:World} (h:laidMetH prog Eb W) (DA:W.ShapedOpen prog):LD W:=by
 obtain ⟨hd,hh⟩:=US h;have rd: ∀n d,(n,d)∈([("math/bits.deBruijn32tab",Rows.laid_math_bits_deBruijn32tab),("math/bits.deBruijn64tab",Rows.laid_math_bits_deBruijn64tab),("internal/strconv.uint64pow10",Rows.laid_internal_strconv_uint64pow10),("unicode/utf8.acceptRanges",Rows.laid_unicode_utf8_acceptRanges),("strconv.ErrRange",Rows.laid_strconv_ErrRange),("strconv.ErrSyntax",Rows.laid_strconv_ErrSyntax),("unicode.White_Space",Rows.laid_unicode_White_Space),("strings.asciiSpace",Rows.laid_strings_asciiSpace),("visitingcard/visitingcardref.shapes",Rows.laid_visitingcard_visitingcardref_shapes),("unicode.CaseRanges",Rows.laid_unicode_CaseRanges),("unicode/utf8.first",Rows.laid_unicode_utf8_first)]:List (String×DataW Unit))->Lib.VarReads prog W n d:=fun n d hm=>Lib.laidMet.reads (show laidMet prog [("math/bits.deBruijn32tab",Rows.laid_math_bits_deBruijn32tab),("math/bits.deBruijn64tab",Rows.laid_math_bits_deBruijn64tab),("internal/strconv.uint64pow10",Rows.laid_internal_strconv_uint64pow10),("unicode/utf8.acceptRanges",Rows.laid_unicode_utf8_acceptRanges),("strconv.ErrRange",Rows.laid_strconv_ErrRange),("strconv.ErrSyntax",Rows.laid_strconv_ErrSyntax),("unicode.White_Space",Rows.laid_unicode_White_Space),("strings.asciiSpace",Rows.laid_strings_asciiSpace),("visitingcard/visitingcardref.shapes",Rows.laid_visitingcard_visitingcardref_shapes),("unicode.CaseRanges",Rows.laid_unicode_CaseRanges),("unicode/utf8.first",Rows.laid_unicode_utf8_first)] W from hd) hm;have DD:=rd "math/bits.deBruijn64tab" Rows.laid_math_bits_deBruijn64tab (by simp);have DT:=rd "internal/strconv.uint64pow10" Rows.laid_internal_strconv_uint64pow10 (by simp);have rac:=rd "unicode/utf8.acceptRanges" Rows.laid_unicode_utf8_acceptRanges (by simp);have rer:=rd "strconv.ErrRange" Rows.laid_strconv_ErrRange (by simp);have res:=rd "strconv.ErrSyntax" Rows.laid_strconv_ErrSyntax (by simp);have rsp:=rd "strings.asciiSpace" Rows.laid_strings_asciiSpace (by simp);have rsh:=rd "visitingcard/visitingcardref.shapes" Rows.laid_visitingcard_visitingcardref_shapes (by simp);have rfi:=rd "unicode/utf8.first" Rows.laid_unicode_utf8_first (by simp);rw[z64] at DD;rw[z10] at DT;rw[zac] at rac;rw[YO] at rsp;rw[zfi] at rfi;have E0:prog.globalNamed "math/bits.deBruijn64tab" =some 12:=(by kernel_rfl);have c12:W.cell? (Ad 12 1)=some (.int .u8 1):=(GT E0 (t:=351) (by kernel_rfl) underlying351 underlying5 (by kernel_rfl) (by kernel_rfl) DD).cell E0 1 (by decide);have hz:14<=W.heap.size:=(by obtain ⟨cs,H1,_⟩:=DA.1 13 #[.pointer none] 226 (of_decide_eq_true (by kernel_rfl)) (by kernel_rfl);have:=(Array.getElem?_eq_some_iff.1 H1).1;omega);refine ⟨W.heap.size,Nat.le_refl _,hz,cell_of_shapedOpen_int (k:= .i64) (t:=3) DA (of_decide_eq_true (by kernel_rfl)) (zero:= #[Iv 0]) (by kernel_rfl) rfl (by kernel_rfl) (by kernel_rfl) underlying3, ?_, ?_, ?_, ?_, ?_, ?_,c12,Og rsh⟩
 ·exact utf8Tabs_of_readsT YP YQ rfi rac
 ·exact GT (g:=10) (t:=308) (by kernel_rfl) (by kernel_rfl) underlying308 underlying215 (by kernel_rfl) (by kernel_rfl) DT
 ·exact GT (g:=0) (t:=172) (by kernel_rfl) (by kernel_rfl) underlying172 underlying5 (by kernel_rfl) (by kernel_rfl) rsp
 ·exact H5 (g:=6) (t:=32) (by kernel_rfl) (by kernel_rfl) underlying32 res
 ·exact H5 (g:=7) (t:=32) (by kernel_rfl) (by kernel_rfl) underlying32 rer
 ·obtain ⟨name,u,ty,e1,e2,e3,e4,e5⟩:=hh _ (List.mem_singleton.2 rfl);have en:name=[101,114,114,111,114]:=(Option.some.inj e1).symm;subst en;obtain rfl:=Option.some.inj (YN.symm.trans e2);have hm:ty∈(List.range prog.types.size).filter fun t=>prog.rowNamed t [101,114,114,111,114]:=List.mem_filter.2 ⟨List.mem_range.2 e3,e4⟩;rw[Xd] at hm;obtain rfl:=List.mem_singleton.1 hm;have A2:typeHandle prog 32=hdl 32:=(by kernel_rfl);rw[A2] at e5;simpa using World.var?_cell (show prog.globalNamed "errors.errorType" =some 1 by kernel_rfl) e5 0
end
end Go.Proofs.YtjhpdljphchfaaaGreatDoor
