/- A part of the proof of ConvertUps: Print of package line walked. -/
import Derived.Test.YtjhpdljphchfaaaGreatDoorA23
import Derived.Test.YtjhpdljphchfaaaGreatDoorA13
import Derived.Test.YtjhpdljphchfaaaGreatDoorA18
import Derived.Test.YtjhpdljphchfaaaGreatDoorA21
import Derived.Shelf.Strings.BuilderCap
import Derived.Test.YtjhpdljphchfaaaGreatDoorA01
import Derived.Deep.RegionWith
set_option maxHeartbeats 40000000
set_option maxRecDepth 1000000
set_option linter.all false
namespace Go.Proofs.YtjhpdljphchfaaaGreatDoor
open Go.RowKit
open Go.Proofs.Tryz
def Yc (B b:Nat) (acc:Str) (w:World):Prop:=Lib.IsBuilderF 163 5 B b (Lib.byteCells acc) w
theorem Hq (s:Str):Lib.strCells ⟨s.toArray⟩=Lib.byteCells s:=by unfold Lib.strCells Lib.byteCells;simp
theorem JL (a s:Str):Lib.byteCells a++Lib.byteCells s=Lib.byteCells (a++s):=by unfold Lib.byteCells;simp
theorem Yc.new (w:World):Yc w.heap.size w.heap.size [] (w.alloc (.cells #[.pointer none,.slice none 0 0] 163)):=Lib.IsBuilderF.of (Lib.fresh_isBuilder 163 5 w)
theorem RU {W W':World} {B e size n:Nat} {v:Value} {xs:List Value} (h:W.ownsRowF B e size v n xs) (hb:Below W.heap.size W W'):W'.ownsRowF B e size v n xs:=by
 refine ⟨h.1, ?_⟩;rcases h.2 with h0|⟨g,cap,cur,fz,e1,e2,e3,e4⟩
 ·exact .inl h0
 ·exact .inr ⟨g,cap,cur,fz,e1,e2,(hb.block g (Array.getElem?_eq_some_iff.1 e3).1).trans e3,e4⟩
theorem Fc {T e:TypeId} {B b:Nat} {p:Value} {bs:List Value} {w w':World} (h:Lib.BuilderAtF T e B b p bs w) (hb:Below w.heap.size w w'):Lib.BuilderAtF T e B b p bs w':=by obtain ⟨h1,v,h2,h3,h4⟩:=h;exact ⟨h1,v,(hb.block b (Array.getElem?_eq_some_iff.1 h2).1).trans h2,RU h3 hb,h4⟩
theorem Yc.low {B b:Nat} {acc:Str} {w w':World} (h:Yc B b acc w) (hb:Below w.heap.size w w'):Yc B b acc w':=by
 rcases h with h|h
 ·exact .inl (Fc h hb)
 ·exact .inr (Fc h hb)
theorem Yc.lt {B b:Nat} {acc:Str} {w:World} (h:Yc B b acc w):b<w.heap.size:=by
 rcases h with h|h
 ·exact h.lt
 ·exact h.lt
theorem Ew (B b:Nat) (acc s:Str) (w:World) (h:Yc B b acc w) (H3:acc.length+s.length<=140737488355328) (hB:B<=w.heap.size):
 Calls prog 111 #[.pointer (some (Ad b 0)),Sv s] w fun e w'=>e= .returned (.tuple #[Iv s.length,.nilIface])/\Yc B b (acc++s) w'/\Below B w w'/\Lib.OthersKept 5 (some b) w w':=
 (Any.Builder_WriteString_kc lays166 Builder_Extra_166 B b (Lib.byteCells acc) ⟨s.toArray⟩ w h (by rw[Lib.byteCells_length];exact H3) hB).mono fun e w' hh=>by obtain ⟨h1,⟨h2,h3,h4⟩,_⟩:=hh;refine ⟨h1,.inr ?_,h3,h4⟩;rw[Hq,JL] at h2;exact h2
theorem RV (B b:Nat) (l:Str) (w:World) (h:Yc B b l w) (h0:l≠[]):
 Calls prog 113 #[.pointer (some (Ad b 0))] w fun e w'=>e= .returned (Sv l)/\Below B w w':=
 (Any.Builder_String_f lays169 Builder_Extra_169 B b l w h h0).mono fun e w' hh=>⟨hh.1,hh.2.2⟩
theorem JM: ∀l:List Str,Hk l=Bt 44 l
 |[]=>rfl
 |[x]=>rfl
 |x::y::r=>by have ih:=JM (y::r);show x++44::Hk (y::r)=x++44::Bt 44 (y::r);rw[ih]
theorem IQ (s:Str):(OG s).length<=s.length+2:=by unfold OG;split<;>simp
theorem JN (b:Bool) (s:Str):(GG b s).length<=2*s.length+2:=by
 unfold GG;have h1:=JK s;cases b
 ·have:=IQ s;simp only[Bool.false_eq_true,if_false];omega
 ·have:=IQ (Fk s);simp only[if_true];omega
theorem SN (b:Bool) (l:List Str):wS (l.map (GG b))<=3*wS l:=by
 unfold wS
 induction l with
 |nil=>simp
 |cons x r ih=>
  simp only[List.map_cons,List.sum_cons] at ih⊢;have:=JN b x;omega
theorem Mj (b:Bool) (p:Pm):(GH b p).length<=wP p:=by unfold GH wP;have h1:=Dt 44 (p.vals.map (GG b));have h2:=SN b p.vals;rw[JM];simp only[List.length_cons,List.length_append];omega
theorem Mk (b:Bool) (ps:List Pm):(ps.flatMap (GH b)).length<=Yb ps:=by
 unfold Yb
 induction ps with
 |nil=>simp
 |cons p r ih=>
  simp only[List.flatMap_cons,List.length_append,List.map_cons,List.sum_cons] at ih⊢;have:=Mj b p;omega
def KQ (b:Bool):Bool->List Str->Str
 |_,[]=>[]
 |z,v::r=>(if z then 61 else 44)::(GG b v++KQ b false r)
theorem KR (b:Bool): ∀(l:List Str) (v:Str),KQ b false (v::l)=44::Hk ((v::l).map (GG b))
 |[],v=>by simp[KQ,Hk]
 |x::l,v=>by have ih:=KR b l x;show 44::(GG b v++KQ b false (x::l))=44::(GG b v++44::Hk ((x::l).map (GG b)));rw[ih]
theorem RW (b:Bool) (l:List Str) (h:l≠[]):KQ b true l=61::Hk (l.map (GG b)):=by
 cases l with
 |nil=>exact absurd rfl h
 |cons v r=>cases r with
  |nil=>simp[KQ,Hk]
  |cons x r=>
   have:=KR b r x;show 61::(GG b v++KQ b false (x::r))=61::(GG b v++44::Hk ((x::r).map (GG b)));rw[this]
theorem RX (b:Bool) (p:Pm) (h:p.vals≠[]):GH b p=(59::p.name)++KQ b true p.vals:=by rw[RW b p.vals h];simp[GH]
theorem RY (b z:Bool) (l:List Str):(KQ b z l).length<=3*wS l:=by
 unfold wS
 induction l generalizing z with
 |nil=>simp[KQ]
 |cons v r ih=>
  have h1:=ih false;have h2:=JN b v;simp only[KQ,List.length_cons,List.length_append,List.map_cons,List.sum_cons] at h1⊢;omega
theorem Fd {b:Bool}: ∀{ps:List Pm} {k:Nat},Az b k ps=none-> ∀p∈ps,p.vals≠[]
 |[],_,_,p,hp=>by simp at hp
 |q::r,k,h,p,hp=>by
  unfold Az at h;split at h
  ·rename_i h0;rcases List.mem_cons.1 hp with rfl|hp
   ·intro e;unfold Dj at h0;rw[e] at h0;split at h0<;>simp at h0
   ·exact Fd h p hp
  ·cases h
theorem NV {g n:Str} {ps:List Pm} {v:Str} {b:Bool} (h:(BZ g n ps v b).1=0): ∀p∈ps,p.vals≠[]:=by
 unfold BZ at h;split at h
 ·cases h
 split at h
 ·cases h
 split at h
 ·rename_i f hf;exfalso;have: ∀{ps:List Pm} {k:Nat} {f:Int×Int},Az b k ps=some f->f.1≠0:=by
   intro ps
   induction ps with
   |nil=>intro k f h;cases h
   |cons p r ih=>
    intro k f h;unfold Az at h;split at h
    ·exact ih h
    ·rename_i E3;injection h with h;rw[<-h];exact E3
  exact this hf h
 ·rename_i hn;exact Fd hn
theorem KS {g n:Str} {ps:List Pm} {v:Str} {b:Bool} (h:(BZ g n ps v b).1=0):n≠[]:=by intro e;unfold BZ at h;rw[e,if_pos (by simp[AP])] at h;cases h
theorem KT {w:World} {k j:Nat} {cs:Array Value} {t:TypeId} {v:Value} (h:w.heap[k]? =some (.cells cs t (0,0))) (hj:cs[j]? =some v):w.cell? (Ad k j)=some v:=by rw[cell_of_row w k j cs t (0,0) h,hj]
def XM (s:Str) (w:World) (e:Ending) (w':World):Prop:=(∃u,e= .returned (.tuple #[Sv s,u]))/\Below w.heap.size w w'
theorem XN {s s':Str} {u:Value} {w w':World} (h:s=s') (hb:Below w.heap.size w w'):XM s w (.returned (.tuple #[Sv s',u])) w':=⟨⟨u,by rw[h]⟩,hb⟩
noncomputable def Yd:Value->Option Value:=Dm (Dm (fun _=>none) (.bool true) (.string ⟨#[61]⟩)) (.bool false) (.string ⟨#[44]⟩)
theorem Ul (z:Bool):(if false=true then Value.tuple #[(Yd (.bool z)).getD (.string ⟨#[]⟩),.bool (Yd (.bool z)).isSome] else (Yd (.bool z)).getD (.string ⟨#[]⟩))= .string ⟨([if z then 61 else 44]:Str).toArray⟩:=by unfold Yd Dm;cases z<;>simp
def Ts (b:Bool) (s:Str):Str:=if b then Fk s else s
theorem Ml (b:Bool) (s:Str):(Ts b s).length<=2*s.length:=by
 cases b
 ·show s.length<=_;omega
 ·exact JK s
theorem Mm (b:Bool) (s:Str):GG b s=if (Ts b s).any Eg then 34::(Ts b s++[34]) else Ts b s:=rfl
theorem FR (g n:Str) (ps:List Pm) (v:Str) (b:Bool) (A:Option Addr) (c:Nat) (w:World) (hp:Xv w w.heap.size (.slice A ps.length c) ps) (hg:g.length<=134217728) (hn:n.length<=134217728) (hv:v.length<=536870912) (hw:Yb ps<=134217728):
 Calls prog 83 #[.agg #[Sv g,Sv n,.slice A ps.length c,Sv v],.bool b] w (XM (DH g n ps v b) w):=by
 have A8:Below w.heap.size w (w.alloc (.cells #[Sv g,Sv n,.slice A ps.length c,Sv v] 47)):=zA;have HM:=hid fun p (h:p∈ps)=>Bp h;have V6:=Bq ps;have SS:=Mk b ps;have HP:=hid hp;clear hp;go_enter func83,ntmps83;go_wp2_with fail;refine (IN g n ps v b A c _ (HP.out.keep A8 A8.size) hg hn hv hw).mono ?_;rintro e w1 ⟨⟨u,rfl,hu⟩,A0⟩;have B3:=A8.trans (A0.mono A8.size);by_cases hE:(BZ g n ps v b).1=0;rotate_left
 ·have HS:=hid (show DH g n ps v b=[] by unfold DH;rw[if_neg hE]);obtain ⟨t,x,rfl⟩:=hu.notNil hE;clear hu hE HP;go_wp2
  go_ret2;exact XN HS.out B3
 have HS:=hid (show DH g n ps v b=OH g n ps v b by unfold DH;rw[if_pos hE]);have L7:=hid (NV hE);have L8:=KS hE;rw[hE] at hu;obtain rfl:=hu.isNil;have c0:=Am A0 (j:=0) rfl;have c1:=Am A0 (j:=1) rfl;have c2:=Am A0 (j:=2) rfl;have c3:=Am A0 (j:=3) rfl;have AN:w.heap.size<w1.heap.size:=(by have:=A0.size;simp at this;omega);have E9:Xv w1 w1.heap.size (.slice A ps.length c) ps:=HP.out.keep B3 B3.size;obtain ⟨Y,hY⟩: ∃Y,w1.heap.size=Y:=⟨_,rfl⟩;have A3:Y<=w1.heap.size:=Nat.le_of_eq hY.symm;have A9:=Yc.new w1;have A4:Below w1.heap.size w1 (w1.alloc (.cells #[.pointer none,.slice none 0 0] 163)):=zA;obtain ⟨W2,F1⟩: ∃W2,w1.alloc (.cells #[.pointer none,.slice none 0 0] 163)=W2:=⟨_,rfl⟩;rw[F1,hY] at A9 A4;rw[hY] at AN E9;have AB:w.heap.size<Y:=AN;have L9:=hid E9;have AV:=hid A9;clear A0 hu A8 E9 A9 HP AN hE;have e0:=(A4.cell (p:=(Ad w.heap.size 0)) AB).trans c0;have e1:=(A4.cell (p:=(Ad w.heap.size 1)) AB).trans c1;have LB:(⟨g.toArray⟩:ByteArray)++⟨#[46]⟩=⟨(g++[46]).toArray⟩:=AM g [46];obtain ⟨G,hG⟩: ∃G,(if g.isEmpty then [] else g++[46])=G:=⟨_,rfl⟩;have HG:=hid hG;have VC:G.length<=134217729:=(by rw[<-hG];split<;>simp<;>omega);clear hG;go_upto_if 20 with fail;(try rw[F1]);(try rw[hY]);clear F1 hY;go_cut [20] from 21 to 24 (fun _ wz=>Hid (Yc Y Y G wz/\Below Y w1 wz));case first=>
  by_cases H4:g=[]
  ·subst H4;obtain rfl:[]=G:=HG.out;go_wp2
   go_meet;exact hid ⟨AV.out,A4⟩
  ·have H8:List.isEmpty g=false:=(by cases g with|nil=>exact absurd rfl H4|cons x r=>rfl);rw[H8];have H9:=hid (show g++[46]=G by rw[<-HG.out,H8];rfl);clear HG;go_wp2_with fail;refine (Ew Y Y [] (g++[46]) _ AV.out (by rw[H9.out];simp only[List.length_nil];omega) (Nat.le_trans A3 A4.size)).mono ?_;rintro e W3 ⟨rfl,AW,B0,_⟩;have A5:=hid (show Yc Y Y (g++[46]) W3 from AW);have A1:=A4.trans B0;clear AW B0;go_wp2
   go_meet;exact hid ⟨H9.out▸A5.out,A1⟩
 case rest=>
 have HC:=hcut;have A5:=hid HC.out.1;have A1:=HC.out.2;have f1:=(A1.cell (p:=(Ad w.heap.size 1)) AB).trans c1;clear AV A4 HC e0 e1 LB;go_wp2_with fail;refine (Ew Y Y G n _ A5.out (by omega) (Nat.le_trans A3 A1.size)).mono ?_;rintro e Wh ⟨rfl,HB,HF,_⟩;have LL:=hid HB;have HH:=A1.trans HF;have x2:=(HH.cell (p:=(Ad w.heap.size 2)) AB).trans c2;clear HB HF A5;go_wp2
 go_loopw [9,10,11,31] (fun _ _ _ i wr=> ∃(k:Nat) (acc:Str),k<=ps.length/\i=Iv k/\Hid (acc++(ps.drop k).flatMap (GH b)=(G++n)++ps.flatMap (GH b))/\Yc Y Y acc wr/\Below Y w1 wr) (fun _ _ _ i _=>ps.length-(intOf i).toNat);case atStart=>exact ⟨0,G++n,by omega,rfl,hid rfl,LL.out,HH⟩
 case round=>
  obtain ⟨k,acc,hk,rfl,HA,hI,hB⟩:=hrel;have M2:=(Nat.le_trans A3 hB.size);have A8:=congrArg List.length HA.out;simp only[List.length_append,List.length_cons,List.length_nil] at A8;have F2:=hid hI;have T5:=hI.lt;clear hI;by_cases MM:k<ps.length
  ·obtain ⟨bb,o,p,u,rfl,HI,hd,hc,F3,hu⟩:=L9.out.at_ MM;have VX:=(hB.cell (p:=(Ad bb (o+k*2))) HI).trans hc;have TT:=(hB.cell (p:=(Ad bb (o+k*2+1))) HI).trans F3;have F4:p∈ps:=List.mem_of_mem_drop (by rw[hd];simp);have W0:=HM.out p F4;have W1:=Bd p;have W4:=DC p;have W5:=C3 p.vals;have N0:=L7.out p F4;have HD:=hid hd;obtain ⟨A2,c2,hf⟩:=hu.form;subst hf;have HU:=hid hu;clear hc F3 hd hu F4;obtain ⟨bq,DA⟩: ∃bq,wr.heap.size=bq:=⟨_,rfl⟩;obtain ⟨Wr,HK,A0,hq,W6⟩: ∃W:World,wr.alloc (.cells #[Sv p.name,vP A2 p c2] 57)=W/\Below wr.heap.size wr W/\W.heap[bq]? =some (.cells #[Sv p.name,vP A2 p c2] 57 (0,0))/\W.heap.size=bq+1:=
    ⟨_,rfl,zA,by rw[<-DA];exact heap_alloc_new wr _,by simp[DA]⟩
   have HL:=hid (F2.out.low A0);have HN:=hB.trans (A0.mono M2);have TX:Y<bq:=(by omega);have d0:=KT (j:=0) (v:=Sv p.name) hq rfl;have U1:(⟨#[59]⟩:ByteArray)++⟨p.name.toArray⟩=⟨(59::p.name).toArray⟩:=(by rw[show (⟨#[59]⟩:ByteArray)=⟨[59].toArray⟩ from rfl,AM];rfl);have HQ:=hid hq;clear F2 A0 hq;go_wp2_with fail;(try rw[HK]);(try rw[DA]);clear HK DA;refine (Ew Y Y acc (59::p.name) _ HL.out (by simp only[List.length_cons];omega) (Nat.le_trans A3 HN.size)).mono ?_;rintro e w2 ⟨rfl,A9,HO,HR⟩;have AV:=hid A9;have A4:=HN.trans HO;have FB:=HR _ _ HQ.out (by simp;omega) (by intro c fz e;cases e);have d1:=KT (j:=1) (v:=vP A2 p c2) FB rfl;have N1:=hid FB;clear A9 HO HR HL HQ FB d0;have HV:=hid (show (acc++(59::p.name))++KQ b true p.vals++(ps.drop (k+1)).flatMap (GH b)=(G++n)++ps.flatMap (GH b) by rw[<-HA.out,HD.out,List.flatMap_cons,RX _ _ N0];simp only[List.append_assoc]);clear HA HD;go_wp2
   go_loopw [10,11,42] (fun _ _ i wx=> ∃(j:Nat) (acc2:Str),j<=p.vals.length/\i=Iv j/\Hid (acc2++KQ b (j==0) (p.vals.drop j)=(acc++(59::p.name))++KQ b true p.vals)/\Yc Y Y acc2 wx/\Below Y w1 wx/\Hid (wx.heap[bq]? =some (.cells #[Sv p.name,vP A2 p c2] 57 (0,0)))) (fun _ _ i _=>p.vals.length-(intOf i).toNat);case atStart=>exact ⟨0,acc++(59::p.name),by omega,rfl,hid rfl,AV.out,A4,N1⟩
   case round=>
    obtain ⟨j,acc2,hj,rfl,HJ,hI,DD,G1⟩:=hrel;have HW:=hid hI;have HX:=(Nat.le_trans A3 DD.size);have HY:=congrArg List.length HJ.out;have W7:=RY b true p.vals;simp only[List.length_append,List.length_cons] at HY;clear hI;by_cases N2:j<p.vals.length
    ·obtain ⟨b3,o3,s,rfl,HZ,G2,I0⟩:=HU.out.at_ N2;have W8:=C2 (List.mem_of_mem_drop (show s∈p.vals.drop j by rw[G2];simp));have W9:=(DD.cell (p:=(Ad b3 (o3+j))) HZ).trans I0;obtain ⟨z,hz⟩: ∃z,(j==0)=z:=⟨_,rfl⟩;have I1:((j:Int)==0)=z:=(by rw[<-hz];cases j<;>rfl);obtain ⟨sb,G4⟩: ∃sb:UInt8,(if z then 61 else 44)=sb:=⟨_,rfl⟩;have N3:=hid G4;have I2:=hid (show acc2++sb::(GG b s++KQ b false (p.vals.drop (j+1)))=(acc++(59::p.name))++KQ b true p.vals by rw[<-HJ.out,G2,hz,<-G4];rfl);clear G2 HJ I0 hz G4;go_upto_region 15 with fail;refine wp_region_lit ?_;refine Bg rfl 179 rfl .bool ?_;intro wm r hr hw hF;have A6:Below wr.heap.size wr wm:=(by rw[hw];exact zA);have H0:wr.heap.size<=r:=(by rw[hr];exact Nat.le_refl _);clear hw hr;refine BA rfl 179 4 9 _ _ _ (.inl rfl) underlying179 .bool underlying4 _ _ hF rfl _ _ rfl rfl trivial ?_;clear hF;intro WA hF A7 _;replace A6:=A7.out _ _ H0 A6;clear A7;refine BA rfl 179 4 9 _ _ _ (.inl rfl) underlying179 .bool underlying4 _ _ hF rfl _ _ rfl rfl trivial ?_;clear hF;intro WF hF A7 _;replace A6:=A7.out _ _ H0 A6;clear A7;have E1:=hid (HW.out.low A6);have B1:=DD.trans (A6.mono HX);have E2:=hid ((A6.block bq (Array.getElem?_eq_some_iff.1 G1.out).1).trans G1.out);clear A6 H0 G1;go_wp2_with (at_lookup;refine Al rfl 179 4 9 _ _ false rfl underlying179 .bool underlying4 (.string ⟨#[]⟩) (fun _=>by kernel_rfl) _ _ hF rfl (.bool z) (by simp[Act.eval,Act.put,I1]) trivial (.string ⟨([sb]:Str).toArray⟩) (by rw[<-N3.out];exact Ul z) ?_);refine (Ew Y Y acc2 [sb] _ E1.out (by simp only[List.length_cons,List.length_nil];omega) (Nat.le_trans A3 B1.size)).mono ?_;rintro e w3 ⟨rfl,AW,B0,I3⟩;have A5:=hid AW;have A1:=B1.trans B0;have B2:=I3 _ _ E2.out (by simp;omega) (by intro c fz e;cases e);clear AW B0 I3 E1 E2 B1 hF I1;have OV:=Ml b s;have AL:=hid (Mm b s);obtain ⟨T,hT⟩: ∃T,Ts b s=T:=⟨_,rfl⟩;have HT:=hid hT;rw[hT] at OV AL;clear hT;go_upto_if 53 with fail;go_cut [11] from 43 to 63 (fun H1 wz=>H1=Sv T/\Hid (Yc Y Y (acc2++[sb]) wz/\Below Y w1 wz/\wz.heap[bq]? =some (.cells #[Sv p.name,.slice (some (Ad b3 o3)) p.vals.length c2] 57 (0,0))));case first=>
      cases b with
      |false=>
       obtain rfl:=HT.out;go_wp2
       go_meet;exact ⟨rfl,hid ⟨A5.out,A1,B2⟩⟩
      |true=>
       go_wp2_with fail;refine (encode_any s _ (by omega)).mono ?_;rintro e w4 ⟨rfl,DT⟩;have HC:=hid (show _/\_/\_ from ⟨A5.out.low DT,A1.trans (DT.mono (Nat.le_trans A3 A1.size)),(DT.block bq (Array.getElem?_eq_some_iff.1 B2).1).trans B2⟩);rw[show Fk s=T from HT.out];clear DT B2 A1;go_wp2
       go_meet;exact ⟨rfl,HC⟩
     case rest=>
     obtain ⟨rfl,HC⟩:=hcut;obtain ⟨w4,rfl⟩: ∃w4,w4=wc:=⟨_,rfl⟩;have I4:=hid HC.out.1;have I5:=HC.out.2.1;have H2:=hid HC.out.2.2;clear HC B2 A5 A1;go_wp2_with fail;refine (RS T _ (by omega)).mono ?_;rintro e w5 ⟨rfl,E0⟩;have P1:=hid (I4.out.low E0);have I6:=I5.trans (E0.mono (Nat.le_trans A3 I5.size));have P2:=hid ((E0.block bq (Array.getElem?_eq_some_iff.1 H2.out).1).trans H2.out);clear E0 I4 H2;obtain ⟨V,hV⟩: ∃V,GG b s=V:=⟨_,rfl⟩;rw[hV] at AL I2;have X1:V.length<=T.length+2:=(by rw[AL.out];split<;>simp);clear hV;go_upto_if 57 with fail;go_cut [11] from 43 to 63 (fun H1 wz=>H1=Sv V/\wz=w5);case first=>
      obtain ⟨z,hz⟩: ∃z,T.any Eg=z:=⟨_,rfl⟩;rw[hz] at AL;rw[hz];clear hz;have F3:(⟨#[34]⟩:ByteArray)++⟨T.toArray⟩=⟨(34::T).toArray⟩:=AM [34] T;have X2:(⟨(34::T).toArray⟩:ByteArray)++⟨#[34]⟩=⟨(34::(T++[34])).toArray⟩:=AM (34::T) [34];cases z
      ·obtain rfl:V=T:=AL.out;go_wp2
       go_meet;exact ⟨rfl,rfl⟩
      ·obtain rfl:V=34::(T++[34]):=AL.out;go_wp2
       go_meet;exact ⟨rfl,rfl⟩
     case rest=>
     obtain ⟨rfl,rfl⟩:=hcut;go_wp2_with fail;refine (Ew Y Y (acc2++[sb]) V _ P1.out (by simp only[List.length_append,List.length_cons,List.length_nil];omega) (Nat.le_trans A3 I6.size)).mono ?_;rintro e w6 ⟨rfl,IB,KI,L1⟩;have PB:=hid IB;have PF:=I6.trans KI;have Q1:=hid (L1 _ _ P2.out (by simp;omega) (by intro c fz e;cases e));clear IB KI L1;go_wp2
     go_roundw;case rel=>
      refine ⟨j+1,acc2++[sb]++V,by omega,by go_num,hid ?_,PB.out,PF,Q1⟩;rw[show (j+1==0)=false from rfl,<-I2.out];simp only[List.append_assoc,List.cons_append,List.nil_append]
     case measure=>simp[intOf];omega
    ·obtain rfl:j=p.vals.length:=(by omega);have HE:=hid (show acc2++(ps.drop (k+1)).flatMap (GH b)=(G++n)++ps.flatMap (GH b) by
      rw[<-HV.out,<-HJ.out,List.drop_length];simp[KQ])
     clear HJ HV;go_wp2
     go_roundw;case rel=>exact ⟨k+1,acc2,by omega,by go_num,HE,HW.out,DD⟩
     case measure=>simp[intOf];omega
  ·obtain rfl:k=ps.length:=(by omega);have HE:=hid (show acc=(G++n)++ps.flatMap (GH b) by rw[<-HA.out,List.drop_length];simp);have E3:acc≠[]:=by
    rw[HE.out];intro e;have:=congrArg List.length e;have h2:0<n.length:=List.length_pos_iff.2 L8;simp only[List.length_append,List.length_nil] at this;omega
   have L2:=(hB.cell (p:=(Ad w.heap.size 3)) AB).trans c3;have L4:=B3.trans (hB.mono (show w.heap.size<=Y by omega));have Q2:(⟨acc.toArray⟩:ByteArray)++⟨#[58]⟩=⟨(acc++[58]).toArray⟩:=AM acc [58];have R0:(⟨(acc++[58]).toArray⟩:ByteArray)++⟨v.toArray⟩=⟨(acc++[58]++v).toArray⟩:=AM _ v;have U2:acc.length<=1073741824:=(by have:=congrArg List.length HE.out;simp only[List.length_append,List.length_cons,List.length_nil] at this;omega);have HT:=hid (show DH g n ps v b=acc++58::v by rw[HS.out,HE.out];unfold OH;rw[HG.out];try simp only[List.append_assoc,List.nil_append,List.cons_append]);have L5:wr.drew.cell? (Ad w.heap.size 3)=some (Sv v):=L2;have S1:=hid (show Yc Y Y acc wr.drew from F2.out);clear HA HE;go_wp2_with fail;go_region_with (go_at_call 113;refine (RV Y Y acc _ S1.out E3).mono ?_;rintro e w9 ⟨rfl,L6⟩;have X3:=(L6.cell (p:=(Ad w.heap.size 3)) AB).trans L5;have V5:=L4.drew.trans (L6.mono (show w.heap.size<=Y by omega)));all_goals
    go_wp2
    go_ret2;exact XN HT.out (by first|assumption|exact L4.drew)
end Go.Proofs.YtjhpdljphchfaaaGreatDoor
