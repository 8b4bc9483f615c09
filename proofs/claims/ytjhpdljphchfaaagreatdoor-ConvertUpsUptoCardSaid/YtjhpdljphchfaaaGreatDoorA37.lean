/- A part of the proof of ConvertUps: What both Ups stand on: all but one block stays; a card in a block; what an Up gives. -/
import Derived.Test.YtjhpdljphchfaaaGreatDoorA35
import Derived.Test.YtjhpdljphchfaaaGreatDoorA33
import Derived.Test.YtjhpdljphchfaaaGreatDoorA36
import Derived.Test.YtjhpdljphchfaaaGreatDoorA14
import Derived.Test.YtjhpdljphchfaaaGreatDoorA34
set_option maxHeartbeats 40000000
set_option maxRecDepth 1000000
set_option linter.all false
namespace Go.Proofs.YtjhpdljphchfaaaGreatDoor
open Go.RowKit
open Go.Proofs.Tryz
structure Jp (T B:Nat) (w w':World):Prop where
 low:Below T w w'
 mid: ∀k,T<k->k<B->w'.heap[k]? =w.heap[k]?
theorem Jp.get {T B:Nat} {w w':World} (h:Jp T B w w') {k:Nat} (A8:k≠T) (hk:k<B):w'.heap[k]? =w.heap[k]? :=by
 rcases Nat.lt_or_gt_of_ne A8 with h1|h1
 ·exact h.low.block k h1
 ·exact h.mid k h1 hk
theorem Jp.refl (T B:Nat) (w:World):Jp T B w w:=⟨zB,fun _ _ _=>rfl⟩
theorem Jp.below {T B:Nat} {w w' w2:World} (h:Jp T B w w') (hb:Below w'.heap.size w' w2) (hB:B<=w'.heap.size) (hT:T<=w'.heap.size):Jp T B w w2:=
 ⟨h.low.trans (hb.mono hT),fun k h1 h2=>(hb.block k (by omega)).trans (h.mid k h1 h2)⟩
theorem Jp.belowB {T B:Nat} {w w' w2:World} (h:Jp T B w w') (hb:Below B w' w2) (hT:T<=B):Jp T B w w2:=
 ⟨h.low.trans (hb.mono hT),fun k h1 h2=>(hb.block k h2).trans (h.mid k h1 h2)⟩
theorem Jp.setT {T B j:Nat} {w w':World} (h:Jp T B w w') (v:Value):Jp T B w (w'.setCell (Ad T j) v):=
 ⟨h.low.setCell (p:=(Ad T j)) zL v,fun k h1 h2=>(heap_setCell_other w' (Ad T j) k v (by simp;omega)).trans (h.mid k h1 h2)⟩
theorem Jp.grown {T B:Nat} {w w1 w2:World} {own:Option Nat} (h:Jp T B w w1) (hg:w1.grownBy w2 own) (hb:Below T w1 w2) (hB:B<=w1.heap.size) (ho: ∀k,own=some k->B<=k):Jp T B w w2:=
 ⟨h.low.trans hb,fun k h1 h2=>(hg.block k (by omega) (fun e=>by have:=ho k e.symm;omega)).trans (h.mid k h1 h2)⟩
theorem Dn.same {w w':World} {b o:Nat} {x:It} {pv qv:Value} (h:Dn w b o x pv qv) (e:w'.heap[b]? =w.heap[b]?):Dn w' b o x pv qv:=by have hc: ∀j,w'.cell? (Ad b j)=w.cell? (Ad b j):=fun j=>World.cell?_of_block (w:=w) (a:=(Ad b j)) e;exact ⟨(hc _).trans h.c0,(hc _).trans h.c1,(hc _).trans h.c2,(hc _).trans h.c3,(hc _).trans h.c4,(hc _).trans h.c5,(hc _).trans h.c6,(hc _).trans h.c7,(hc _).trans h.c8,(hc _).trans h.c9,(hc _).trans h.c10,(hc _).trans h.c11,(hc _).trans h.c12,(hc _).trans h.c13,(hc _).trans h.c14⟩
theorem D3 {l Y:List It} (h:l.map Bi=Y.map some): ∀y∈Y,∃x∈l,Bi x=some y:=fun y hy=>by have hm:some y∈Y.map some:=List.mem_map_of_mem hy;rw[<-h] at hm;obtain ⟨x,hx,e⟩:=List.mem_map.1 hm;exact ⟨x,hx,e⟩
theorem Ak {w:World} {G:Nat} {x0 x1:Value} {t:TypeId} (h:w.heap[G]? =some (.cells #[x0,x1] t (0,0))):w.cell? (Ad G 0)=some x0/\w.cell? (Ad G 1)=some x1/\w.frozen? (Ad G 0)=false/\w.frozen? (Ad G 1)=false/\G<w.heap.size:=
 ⟨cell_of_row w G 0 _ t (0,0) h,cell_of_row w G 1 _ t (0,0) h,frozen_of_row w G 0 _ t h,frozen_of_row w G 1 _ t h,(Array.getElem?_eq_some_iff.1 h).1⟩
theorem JX {w:World} {G:Nat} {x0 x1:Value} {t:TypeId} (h:w.heap[G]? =some (.cells #[x0,x1] t (0,0))) (y0 y1:Value):((w.setCell (Ad G 0) y0).setCell (Ad G 1) y1).heap[G]? =some (.cells #[y0,y1] t (0,0)):=
 heap_setCell_same _ G 1 _ t y1 (heap_setCell_same w G 0 _ t y0 h)
theorem Px {w:World} {G:Nat} {x0 x1:Value} {t:TypeId} (h:w.heap[G]? =some (.cells #[x0,x1] t (0,0))) (y1:Value):(w.setCell (Ad G 1) y1).heap[G]? =some (.cells #[x0,y1] t (0,0)):=
 heap_setCell_same w G 1 _ t y1 h
theorem SR {w:World} {G:Nat} {x0 x1:Value} {t:TypeId} (h:w.heap[G]? =some (.cells #[x0,x1] t (0,0))):(loadVar 24 (Ad G 0)).run prog w= .ok (.agg #[x0,x1]) w:=by obtain ⟨c0,c1,_,_,cl⟩:=Ak h;simp[go_sem,c0,c1,cl]
theorem CR {fn:Func} {a b:Nat} (hf:fn.results= #[.cell a 24,.tmp b]) {tmps:Array Value} {w:World} {G:Nat} {x0 x1:Value} {t:TypeId} (ha:tmps.getD a undef= .pointer (some (Ad G 0))) (h:w.heap[G]? =some (.cells #[x0,x1] t (0,0))):
 (results fn tmps).run prog w= .ok (.tuple #[.agg #[x0,x1],tmps.getD b undef]) w:=by
 have hl:=SR h;have H8:tmps[a]?.getD undef= .pointer (some (Ad G 0)):=(by simpa using ha);simp[results,hf,H8,hl,asAddr]
theorem Aj.set {w:World} {u:Value} {e p:Int} {G:Nat} {x0:Value} {t:TypeId} (h:Aj w u e p) (hG:w.heap[G]? =some (.cells #[x0,.slice none 0 0] t (0,0))) (y0 y1:Value):Aj ((w.setCell (Ad G 0) y0).setCell (Ad G 1) y1) u e p:=by
 rcases h with h|h|⟨h1,h2,b,h3,h4,h5,h6⟩
 ·exact .inl h
 ·exact .inr (.inl h)
 ·have A8:b≠G:=fun hb=>by
   subst hb;rw[(Ak hG).2.1] at h6;simp at h6
  have hk:((w.setCell (Ad G 0) y0).setCell (Ad G 1) y1).heap[b]? =w.heap[b]? :=(heap_setCell_other _ _ b _ A8).trans (heap_setCell_other w _ b _ A8);exact .inr (.inr ⟨h1,h2,b,h3,by simpa[World.setCell] using h4,(World.cell?_of_block (w:=w) (a:=(Ad b 0)) hk).trans h5,(World.cell?_of_block (w:=w) (a:=(Ad b 1)) hk).trans h6⟩)
def Y8 (c:Cd) (w:World) (e:Ending) (w':World):Prop:= ∃v u,e= .returned (.tuple #[.agg #[Iv (upC c).2.version,v],u])/\Its w' w'.heap.size v (upC c).2.items/\Aj w' u (upC c).1.1 (upC c).1.2/\Below w.heap.size w w'
theorem Kv {c:Cd} {w w':World} {u:Value} {p q:Int} (h:upC c=((p,q),noC)) (hu:Aj w' u p q) (hb:Below w.heap.size w w'):Y8 c w (.returned (.tuple #[.agg #[Iv 0,.slice none 0 0],u])) w':=
 ⟨_,u,by rw[h];rfl,by rw[h];exact Its.nil,by rw[h];exact hu,hb⟩
structure Y9 (w:World) (c:Cd) (A:Option Addr) (k:Nat):Prop where
 its:Its w w.heap.size (.slice A c.items.length k) c.items
 b: ∀x∈c.items,Yq x
 q: ∀x∈c.items,(∀p∈x.ps,p.vals≠[])->Y6 x
theorem Y9.at_ {w:World} {c:Cd} {A:Option Addr} {k:Nat} (h:Y9 w c A k):Qf w c A k:=⟨h.its,h.b⟩
def ZA (x:It):Nat:=x.ps.length+x.group.length+x.name.length+sP x.ps
def ZB (x:It):Nat:=x.val.text.length+x.val.parts.length+YM x.val.parts
def No (x:It):Bool:=decide (2500<ZA x)||decide (2500<ZB x)
def OF (items:List It):Bool:=decide (70<items.length)||items.any No
theorem Rw {items:List It} {k:Nat} {x:It} (h:items.drop k=x::items.drop (k+1)):(items.drop k).any No=(No x||(items.drop (k+1)).any No):=by rw[h,List.any_cons]
theorem TR (v:Int) (items:List It) (A:Option Addr) (c:Nat) (w:World) (h:Its w w.heap.size (.slice A items.length c) items) (hB: ∀x∈items,ZA x<=1073741824/\ZB x<=1073741824):
 Calls prog 4 #[.agg #[Iv v,.slice A items.length c]] w fun e w'=>e= .returned (.bool (OF items))/\Below w.heap.size w w':=by
 have H:=hid h;have HB:=hid hB;clear h hB;obtain ⟨W0,A5,A6,a0,a1,AN⟩: ∃W:World,w.alloc (.cells #[Iv v,.slice A items.length c] 24)=W/\Below w.heap.size w W/\W.cell? (Ad w.heap.size 0)=some (Iv v)/\W.cell? (Ad w.heap.size 1)=some (.slice A items.length c)/\W.heap.size=w.heap.size+1:=
  ⟨_,rfl,zA,by simp,by simp,by simp⟩
 go_enter func4,ntmps4;go_upto_region 1 with fail;(try rw[A5]);clear A5;by_cases E9:70<items.length
 ·have t1:(70:Int)<(items.length:Int):=(by omega);have HC:=hid (show OF items=true by unfold OF;rw[decide_eq_true E9,Bool.true_or]);go_wp2
  go_ret;exact ⟨by rw[HC.out];rfl,A6⟩
 ·have t1: ¬(70:Int)<(items.length:Int):=(by omega);have HC:=hid (show OF items=items.any No by unfold OF;rw[decide_eq_false E9,Bool.false_or]);go_wp2
  go_loopw [4,12] (fun _ B3 wr=> ∃k:Nat,k<=items.length/\B3=Iv k/\Hid (items.any No=(items.drop k).any No)/\Below w.heap.size w wr) (fun _ B3 _=>items.length-(intOf B3).toNat);case atStart=>exact ⟨0,by omega,rfl,hid rfl,A6⟩
  case round=>
   obtain ⟨k,hk,rfl,HA,hb⟩:=hrel;have F1:=hb.size;by_cases DA:k<items.length
   ·obtain ⟨bb,o,x,pv,qv,rfl,H9,hd,F2,DD,DT⟩:=H.out.at_ DA;have F3:=F2.keep hb H9;have HD:=hid (Rw hd);have F4:=HB.out x (List.mem_of_mem_drop (by rw[hd];simp));obtain ⟨A1,k1,HE⟩:=DD.form;obtain ⟨A2,k2,HF⟩:=DT.form;subst HE HF;have HG:=hid (DD.keep hb F1);have HH:=hid (DT.keep hb F1);obtain ⟨h0,h1,h2,h3,h4,h5,h6,h7,h8,h9,HI,HJ,HK,HL,HM⟩:=F3;obtain ⟨Wr,FB,A4,E0,HN⟩: ∃W:World,wr.alloc (.cells (IA x (pP A1 x k1) (lP A2 x k2)) 44)=W/\Below wr.heap.size wr W/\Hid (Yx W wr.heap.size x (pP A1 x k1) (lP A2 x k2))/\W.heap.size=wr.heap.size+1:=
     ⟨_,rfl,zA,hid (Yx.new _ _ _ _),by simp⟩
    obtain ⟨XB,G1⟩: ∃XB,wr.heap.size=XB:=⟨_,rfl⟩;have HP:=hid (HG.out.keep A4 A4.size);have HQ:=hid (HH.out.keep A4 A4.size);rw[G1] at A4 E0 HN;have HR:=hb.trans (A4.mono (show w.heap.size<=XB by omega));obtain ⟨g0,g1,g2,g3,g4,g5,g6,g7,g8,g9,G2,G4,H0,H1,H2,gl⟩:=E0.out.c;clear F2 DD DT hd;go_wp2_with fail;(try rw[FB]);(try rw[G1]);clear FB h0 h1 h2 h3 h4 h5 h6 h7 h8 h9 HI HJ HK HL HM;go_wp2_with fail;refine (Q3 x.group x.name x.ps A1 k1 Wr HP.out F4.1).mono ?_;rintro e w1 ⟨rfl,AV⟩;have AW:=HR.trans (AV.mono (show w.heap.size<=Wr.heap.size by omega));have HS:=AV.size;have HU:=hid (HQ.out.keep AV HS);have HV:=hid (E0.out.keep AV gl);obtain ⟨b1,AB⟩: ∃b,decide (2500<x.ps.length+x.group.length+x.name.length+sP x.ps)=b:=⟨_,rfl⟩;rw[AB];have E1:=hid AB;clear AB g0 g1 g2 g3 g4 g5 g6 g7 g8 g9 G2 G4 H0 H1 H2 gl;obtain ⟨g0,g1,g2,g3,g4,g5,g6,g7,g8,g9,G2,G4,H0,H1,H2,gl⟩:=HV.out.c;cases b1 with
    |true=>
     have HX:=hid (show OF items=true by rw[HC.out,HA.out,HD.out];unfold No ZA;rw[E1.out];rfl);go_wp2
     go_ret;exact ⟨by rw[HX.out];rfl,AW⟩
    |false=>
     go_wp2_with fail;refine (Od x.val A2 k2 w1 HU.out F4.2).mono ?_;rintro e w2 ⟨rfl,HW⟩;have B0:=AW.trans (HW.mono (show w.heap.size<=w1.heap.size by omega));obtain ⟨b2,AL⟩: ∃b,decide (2500<x.val.text.length+x.val.parts.length+YM x.val.parts)=b:=⟨_,rfl⟩;rw[AL];have H3:=hid AL;clear AL;cases b2 with
     |true=>
      have HX:=hid (show OF items=true by rw[HC.out,HA.out,HD.out];unfold No ZA ZB;rw[E1.out,H3.out];rfl);go_wp2
      go_ret;exact ⟨by rw[HX.out];rfl,B0⟩
     |false=>
      have HX:=hid (show items.any No=(items.drop (k+1)).any No by rw[HA.out,HD.out];unfold No ZA ZB;rw[E1.out,H3.out];rfl);go_wp2
      go_roundw;case rel=>exact ⟨k+1,by omega,by go_num,HX,B0⟩
      case measure=>simp[intOf];omega
   ·have HX:=hid (show OF items=false by rw[HC.out,HA.out,List.drop_eq_nil_of_le (by omega)];rfl);go_wp2
    go_ret;exact ⟨by rw[HX.out];rfl,hb⟩
theorem U3 (l:List Str):wS l=sL l+l.length:=by
 unfold wS sL
 induction l with
 |nil=>rfl
 |cons s l ih=>simp only[List.map_cons,List.sum_cons,List.length_cons];omega
theorem Py: ∀l:List Pm,Yb l<=3*sP l+2*l.length
 |[]=>by simp[Yb,sP]
 |p::l=>by
  have ih:=Py l;have h1:Yb (p::l)=wP p+Yb l:=by unfold Yb;rw[List.map_cons,List.sum_cons]
  have h2:sP (p::l)=(p.name.length+p.vals.length+sL p.vals)+sP l:=by unfold sP;rw[List.map_cons,List.sum_cons]
  have h3:=U3 p.vals;unfold wP at h1;rw[List.length_cons];omega
theorem Lv: ∀l:List (List Str),YV l=YM l+l.length
 |[]=>rfl
 |x::l=>by
  have ih:=Lv l;have h1:YV (x::l)=(wS x+1)+YV l:=by unfold YV;rw[List.map_cons,List.sum_cons]
  have h2:YM (x::l)=(x.length+sL x)+YM l:=by unfold YM;rw[List.map_cons,List.sum_cons]
  have h3:=U3 x;rw[List.length_cons];omega
theorem TS {items:List It} (h:OF items=false):items.length<=70/\(∀x∈items,Yq x)/\ ∀x∈items,(∀p∈x.ps,p.vals≠[])->Y6 x:=by
 unfold OF at h;rw[Bool.or_eq_false_iff,decide_eq_false_iff_not,List.any_eq_false] at h;have hx: ∀x∈items,ZA x<=2500/\ZB x<=2500:=fun x hx=>by have:=h.2 x hx;unfold No at this;simp only[Bool.or_eq_true,decide_eq_true_eq] at this;omega
 refine ⟨by omega,fun x hm=> ?_,fun x hm A8=> ?_⟩
 ·have:=hx x hm;unfold ZA ZB at this;have h1:=Py x.ps;have h2:=Lv x.val.parts;exact ⟨by omega,by omega,by omega,by omega,by omega⟩
 ·have:=hx x hm;unfold ZA ZB at this;have h1:=Py x.ps;have h2:=Lv x.val.parts;exact ⟨by omega,by omega,by omega,by omega,by omega,A8⟩
section
attribute [local go_sem ↓] zPe
attribute [local go_sem] XR WH
theorem P5 {S:Nat->Prop} (N:Str) (x:It) (A:Option Addr) (c:Nat) (A':Option Addr) (c':Nat) (w:World) (hS:sW S w) (hx:Ah w S (pP A x c) x.ps) (hN:N.length<=134217728) (hT:x.val.text.length<=134217728) (hw:Yb x.ps<=134217728):
 Calls prog 46 #[Sv N,Yp x (pP A x c) (lP A' x c')] w fun e w'=> ∃pv',e= .returned (Yp ⟨x.group,YY++N,noP AA x.ps,⟨8,if x.val.type=1 then Cz x.val.text else x.val.text,[],default,0⟩⟩ pv' (.slice none 0 0))/\Ah w' (fun k=>S k∨Cy w w' k) pv' (noP AA x.ps)/\Below w.heap.size w w':=by
 have HX:=hid hx;clear hx;simp only[Yp];obtain ⟨T,E2⟩: ∃T,(if x.val.type=1 then Cz x.val.text else x.val.text)=T:=⟨_,rfl⟩;rw[E2];have HT:=hid E2;clear E2;go_enter func46,ntmps46;go_upto_if 12 with fail;obtain ⟨W0,A5⟩: ∃W0,(w.alloc (.cells (IA x (pP A x c) (lP A' x c')) 44)).alloc (.cells Z15 44)=W0:=⟨_,rfl⟩;(try rw[A5]);have B1:W0.heap[w.heap.size+1]? =some (.cells Z15 44 (0,0)):=by rw[<-A5];have h:=heap_alloc_new (w.alloc (.cells (IA x (pP A x c) (lP A' x c')) 44)) (.cells Z15 44);rw[World.size_alloc] at h;exact h
 have L1: ¬9223372036854775807<2+N.length:=(by omega);have hB:Yt W0 (w.heap.size+1) 15:=⟨_,_,B1,rfl⟩;clear B1;have c0:W0.cell? (Ad w.heap.size 0)=some (Sv x.group):=by rw[<-A5];simp
 have c2:W0.cell? (Ad w.heap.size 2)=some (pP A x c):=by rw[<-A5];simp
 have AN:w.heap.size+2<=W0.heap.size:=by rw[<-A5];simp
 have A6:Below w.heap.size w W0:=by rw[<-A5];exact zA.alloc (by simp) _
 have L2:=Nat.le_trans (Bq x.ps) hw;have HY:=hid fun p (hp:p∈x.ps)=>Nat.le_trans (Bd p) (Nat.le_trans (Bp hp) hw);clear A5;go_cut [5] from 12 to 14 (fun s5 wz=>s5=Sv T/\Hid (Below W0.heap.size W0 wz));case first=>
  cases h1:(x.val.type==1)
  ·obtain rfl:T=x.val.text:=(by rw[<-HT.out,if_neg (by simpa using h1)]);go_wp2
   go_meet;exact ⟨rfl,hid zB⟩
  ·have ht:=hid (show Cz x.val.text=T by rw[<-HT.out,if_pos (by simpa using h1)]);go_wp2_with fail;refine (FM x.val.text W0 (by omega)).mono ?_;rintro e w1 ⟨rfl,A4⟩;rw[ht.out];have HB:=hid A4;clear A4 ht;go_wp2
   go_meet;exact ⟨rfl,HB⟩
 case rest=>
 obtain ⟨rfl,HC⟩:=hcut;obtain ⟨w1,rfl⟩: ∃w1,w1=wc:=⟨_,rfl⟩;have A4:=HC.out;replace c0:=(A4.cell (p:=(Ad w.heap.size 0)) (show w.heap.size<W0.heap.size by omega)).trans c0;replace c2:=(A4.cell (p:=(Ad w.heap.size 2)) (show w.heap.size<W0.heap.size by omega)).trans c2;replace hB:=hB.low A4 (show w.heap.size+1<W0.heap.size by omega);replace A6:=A6.trans (A4.mono (show w.heap.size<=W0.heap.size by omega));replace AN:=Nat.le_trans AN A4.size;clear A4 HC;go_wp2_with fail;have HZ:=hid (HX.out.move (w':=w1.drew) (S':=S) (fun k hk=>A6.block k (hS k hk)) fun _ h=>h);go_region_held3 (fun w'=>w'.cell? (Ad w.heap.size 0)=some (Sv x.group)/\w'.cell? (Ad w.heap.size 2)=some (pP A x c)/\Yt w' (w.heap.size+1) 15/\Below (w.heap.size+1) w1 w')
  (first
    |exact ⟨by simpa using c0,by simpa using c2,hB,(zB.drew)⟩
    |(go_split_ands;exact ⟨(A7.cell (p:=(Ad w.heap.size 0)) (show w.heap.size<w1.heap.size by omega)).trans ‹_›,(A7.cell (p:=(Ad w.heap.size 2)) (show w.heap.size<w1.heap.size by omega)).trans ‹_›,Yt.low ‹_› A7 (show w.heap.size+1<w1.heap.size by omega),Below.trans ‹_› (A7.mono (show w.heap.size+1<=w1.heap.size by omega))⟩)
    |(go_split_ands;exact ⟨AO _ ‹_› (by omega),AO _ ‹_› (by omega),Yt.setRow ‹_› _ rfl,AC ‹_› zL _⟩)
    |assumption)
  (first
    |(go_at_call 48;refine (As (S:=S) x.ps AA (pP A x c) w1.drew (fun k hk=>Nat.lt_of_lt_of_le (hS k hk) A6.size) HZ.out (by omega) (by decide) (fun p hp=>Nat.le_trans (HY.out p hp) (by omega))).mono ?_;rintro e9 w9 ⟨pv',L9,rfl,E3,A7⟩;obtain ⟨A9,c9,rfl⟩:=E3.row.form))
 have L4:=A7.size;have B2:=Yt.low hB (zB.drew) (show w.heap.size+1<w1.heap.size by omega);have A0:=B2.low A7 (show w.heap.size+1<w1.heap.size by omega);obtain ⟨WF,A3⟩: ∃WF,w9.setRow (w.heap.size+1) #[Sv x.group,.string (⟨#[88,45]⟩++⟨N.toArray⟩),.slice A9 L9.length c9,Iv 8,Sv T,.slice none 0 0,Iv 0,Iv 0,Iv 0,Iv 0,Iv 0,Iv 0,.bool false,Iv 0,Iv 0]=WF:=⟨_,rfl⟩;have DA:w.heap.size+1<WF.heap.size:=by rw[<-A3];have:w.heap.size+1<w9.heap.size:=A0.lt;simpa[World.setRow] using this
 have z0:WF.cell? (Ad (w.heap.size+1) 0)=some (Sv x.group):=by rw[<-A3,BE A0];rfl
 have z1:WF.cell? (Ad (w.heap.size+1) 1)=some (.string (⟨#[88,45]⟩++⟨N.toArray⟩)):=by rw[<-A3,BE A0];rfl
 have z2:WF.cell? (Ad (w.heap.size+1) 2)=some (.slice A9 L9.length c9):=by rw[<-A3,BE A0];rfl
 have z3:WF.cell? (Ad (w.heap.size+1) 3)=some (Iv 8):=by rw[<-A3,BE A0];rfl
 have z4:WF.cell? (Ad (w.heap.size+1) 4)=some (Sv T):=by rw[<-A3,BE A0];rfl
 have z5:WF.cell? (Ad (w.heap.size+1) 5)=some (.slice none 0 0):=by rw[<-A3,BE A0];rfl
 have z6:WF.cell? (Ad (w.heap.size+1) 6)=some (Iv 0):=by rw[<-A3,BE A0];rfl
 have z7:WF.cell? (Ad (w.heap.size+1) 7)=some (Iv 0):=by rw[<-A3,BE A0];rfl
 have z8:WF.cell? (Ad (w.heap.size+1) 8)=some (Iv 0):=by rw[<-A3,BE A0];rfl
 have z9:WF.cell? (Ad (w.heap.size+1) 9)=some (Iv 0):=by rw[<-A3,BE A0];rfl
 have z10:WF.cell? (Ad (w.heap.size+1) 10)=some (Iv 0):=by rw[<-A3,BE A0];rfl
 have I0:WF.cell? (Ad (w.heap.size+1) 11)=some (Iv 0):=by rw[<-A3,BE A0];rfl
 have I1:WF.cell? (Ad (w.heap.size+1) 12)=some (.bool false):=by rw[<-A3,BE A0];rfl
 have I2:WF.cell? (Ad (w.heap.size+1) 13)=some (Iv 0):=by rw[<-A3,BE A0];rfl
 have I3:WF.cell? (Ad (w.heap.size+1) 14)=some (Iv 0):=by rw[<-A3,BE A0];rfl
 have H4:Below w.heap.size w WF:=by rw[<-A3];exact AC (A6.trans ((Below.refl w1.heap.size w1).drew.trans A7 |>.mono (by omega))) (by omega) _
 have I4:=hid (show∀k,k≠w.heap.size+1->WF.heap[k]? =w9.heap[k]? from fun k hk=>by rw[<-A3];exact AH _ _ _ hk);have I5:=hid (show WF.heap.size=w9.heap.size by rw[<-A3];simp[World.setRow]);rw[A3];have I6:=hid H4;have HO:=hid E3;clear A3 H4 E3 A7 B2 A0 hB c0 c2;go_wp2
 refine bodyPost_ret (v:= .agg #[Sv x.group,.string (⟨#[88,45]⟩++⟨N.toArray⟩),.slice A9 L9.length c9,Iv 8,Sv T,.slice none 0 0,Iv 0,Iv 0,Iv 0,Iv 0,Iv 0,Iv 0,.bool false,Iv 0,Iv 0]) (by simp[results,results46,go_sem,DA,z0,z1,z2,z3,z4,z5,z6,z7,z8,z9,z10,I0,I1,I2,I3]) rfl ?_;refine ⟨.slice A9 L9.length c9, ?_, ?_,I6.out⟩
 ·rw[show (⟨#[88,45]⟩++⟨N.toArray⟩:ByteArray)=⟨(YY++N).toArray⟩ from AM [88,45] N];rfl
 ·have h1:=Yr.x (S':=fun k=>S k∨(w.heap.size+2<=k/\k<w9.heap.size)) HO.out (fun k hk=> .inl hk) (fun k IB KI=> .inr ⟨Nat.le_trans AN IB,KI⟩);refine h1.move (fun k hk=>I4.out k ?_) fun k hk=> ?_
  ·rcases hk with hk|hk
   ·have:=hS k hk;omega
   ·omega
  ·rcases hk with hk|hk
   ·exact .inl hk
   ·exact .inr ⟨by omega,by rw[I5.out];exact hk.2⟩
end
end Go.Proofs.YtjhpdljphchfaaaGreatDoor
