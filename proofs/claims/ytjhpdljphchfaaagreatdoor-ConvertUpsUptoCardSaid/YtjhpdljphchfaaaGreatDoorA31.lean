/- A part of the proof of ConvertUps: rules.table, SplitSeq, rules.Names of the program walked. -/
import Derived.Sort.CutIn
import Derived.Test.YtjhpdljphchfaaaGreatDoorA16
import Derived.Test.YtjhpdljphchfaaaGreatDoorA25
import Derived.Test.YtjhpdljphchfaaaGreatDoorA10
import Derived.Sort.QuietIn
set_option maxHeartbeats 40000000
set_option maxRecDepth 1000000
set_option linter.all false
namespace Go.Proofs.YtjhpdljphchfaaaGreatDoor
open Go.RowKit
open Go.Proofs.Tryz
section
open Go.Shelf
attribute [local go_sem] Oper.semAt_some
theorem Kc (v:Int) (w:World):Calls prog 74 #[Iv v] w fun e w'=>e= .returned (.string ⟨(Dl v).toArray⟩)/\w=w':=by
 by_cases h:v=3
 ·subst h;go_enter func74,ntmps74;go_wp2
  go_ret;exact ⟨by kernel_rfl,rfl⟩
 ·have h3:(v==3)=false:=(by simpa using h);have HT:=hid (show Dl v=Sz by unfold Dl;rw[if_neg h]);go_enter func74,ntmps74;go_wp2
  go_ret;exact ⟨by rw[HT.out];kernel_rfl,rfl⟩
theorem Ff (T s:ByteArray) (w:World):Calls prog 73 #[.string T,.string s] w fun e w'=>
 e= .returned (.func (.func 185) #[] #[.pointer (some (Ad (w.heap.size+1) 0)),.pointer (some (Ad w.heap.size 0)),.pointer (some ⟨w.heap.size+1+1,0,none⟩)])/\
 ((w.alloc (.cells #[.string T] 9)).alloc (.cells #[.string s] 9)).alloc (.cells #[Iv 0] 3)=w':=by
 have L2: ∀(fn:Fn) (first cap:Array Value) (w:World),(Instr.makeFunc fn first cap).run prog w= .ok (.func fn first cap) w:=fun _ _ _ _=>rfl;go_enter func73,ntmps73;go_wp2;go_ret;exact ⟨rfl,rfl⟩
theorem Mt {w:World} {B B' E size n:Nat} {v:Value} {xs:List Value} (h:w.ownsRow B E size v n xs) (hB:B'<=B):w.ownsRow B' E size v n xs:=by
 refine ⟨h.1, ?_⟩;rcases h.2 with h0|⟨g,cap,cur,e1,e2,e3⟩
 ·exact .inl h0
 ·exact .inr ⟨g,cap,cur,e1,by omega,e3⟩
theorem PV {w:World} {B E size n b:Nat} {v:Value} {xs:List Value} (h:w.ownsRow B E size v n xs) (hb:b<B) (u:Value):(w.setCell (Ad b 0) u).ownsRow B E size v n xs:=by
 refine ⟨h.1, ?_⟩;rcases h.2 with h0|⟨g,cap,cur,e1,e2,e3,e4⟩
 ·exact .inl h0
 ·exact .inr ⟨g,cap,cur,e1,e2,(Below.heap_setCell _ _ _ _ (show g≠b by omega)).trans e3,e4⟩
theorem TE {w:World} {b B t:Nat} {v:Value} (h:Boxed w B t v) (hb:B≠b) (u:Value):Boxed (w.setCell (Ad b 0) u) B t v:=(Below.heap_setCell _ _ _ _ (show B≠b from hb)).trans h
theorem Eh {W W':World} (h:Below W.heap.size W W'):KeepsOthers W W':=⟨h.size,fun k o hk _=>(h.block k (Array.getElem?_eq_some_iff.1 hk).1).trans hk⟩
theorem TF {v:Int} {r:Str×Ru} (h:r∈EP v) (w:World) (hL:LD w):Calls prog 75 #[.string ⟨(Hj r).toArray⟩,.string ⟨#[32]⟩] w fun e w'=>(∃y z,e= .returned (.tuple #[Sv r.1,.string y,.bool z]))/\ ∃n,w'=w.drewN n:=by obtain ⟨B,hB⟩:=hL;obtain ⟨m,hm⟩:=hB.mx;have hr:=PR h;refine (strings_Cut ⟨(Hj r).toArray⟩ ⟨#[32]⟩ m w (show (Hj r).toArray.size<_ by have:=hr.len;simp;omega) hm).mono ?_;rintro e w' ⟨rfl,hw⟩;exact ⟨⟨_,_,by rw[show (Lib.cut (⟨(Hj r).toArray⟩:ByteArray).data.toList (⟨#[32]⟩:ByteArray).data.toList).1=r.1 from hr.cut]⟩,hw⟩
def AI (v:Int):List Str:=(EP v).map (·.1)
theorem Lk (v:Int) (k:Nat) (h:k<(EP v).length): ∃r,r∈EP v/\OD 124 (Dl v) k= #[.string ⟨(Hj r).toArray⟩]/\(AI v).take (k+1)=(AI v).take k++[r.1]:=by
 refine ⟨(EP v)[k],List.getElem_mem h, ?_, ?_⟩
 ·rw[OD,F8];simp[List.getD,h]
 ·rw[List.take_succ_eq_append_getElem (by simpa[AI] using h)];simp[AI]
theorem TG {w:World} {B E size n q:Nat} {v:Value} {xs:List Value} (h:w.ownsRow B E size v n xs) (hq:q<B):some q≠v.ownBlock:=by
 rcases h.2 with ⟨rfl,_⟩|⟨g,cap,cur,rfl,e2,_⟩
 ·simp[Value.ownBlock]
 ·simp[Value.ownBlock];omega
theorem PW (vn:Int) (hv:vn=3∨vn=4) (w:World) (hL:LD w):Calls prog 37 #[Iv vn] w fun e w'=>(∃A c,e= .returned (.tuple #[.slice A (AI vn).length c,.nilIface])/\CD w' w'.heap.size (.slice A (AI vn).length c) (AI vn))/\Below w.heap.size w w':=by
 obtain ⟨i0,hi,H0,E3,E9⟩:=info_parts Fm;have HI:=hid hi;have HE:=hid H0;have HF:=hid E3;have HG:=hid E9;clear hi H0 E3 E9;refine (callsIn_wide (n:=9)).1 ?_;refine callsIn_of_wp_marks func37 rfl trivial ?_ rfl;simp only[ntmps37,List.size_toArray,List.length_cons,List.length_nil,Nat.reduceAdd,Nat.reduceSub,Array.replicate_succ,Array.replicate_zero,List.push_toArray,List.append_toArray,List.nil_append,List.cons_append]
 gi_upto_region 1 with fail
 gi_cut [14] from 9 (fun F1 w2=>F1= .bool false/\w=w2)
 case first=>
  rcases hv with rfl|rfl;all_goals
   gi_wp2
   gi_meet
   exact ⟨rfl,rfl⟩
 case rest=>
 obtain ⟨rfl,rfl⟩:=hcut
 gi_wp2_with (first|(refine ⟨trivial, ?_⟩;gi_at_call 74;refine (callsIn_wide.2 (Kc _ _)).mono ?_;rintro e w' ⟨rfl,rfl⟩)|(refine ⟨trivial, ?_⟩;gi_at_call 73;refine (callsIn_wide.2 (Ff _ _ _)).mono ?_;rintro e w' ⟨rfl,rfl⟩))
 rename_i K F2;have bO:=Boxed.new w 55 (.slice none 0 0);have bT:=Boxed.new (w.alloc (.cells #[.slice none 0 0] 55)) 9 (.string ⟨(Dl vn).toArray⟩);have bS:=Boxed.new ((w.alloc (.cells #[.slice none 0 0] 55)).alloc (.cells #[.string ⟨(Dl vn).toArray⟩] 9)) 9 (.string ⟨#[124]⟩);have bV:=Boxed.new (((w.alloc (.cells #[.slice none 0 0] 55)).alloc (.cells #[.string ⟨(Dl vn).toArray⟩] 9)).alloc (.cells #[.string ⟨#[124]⟩] 9)) 3 (Iv 0);have B1:Below w.heap.size w ((((w.alloc (.cells #[.slice none 0 0] 55)).alloc (.cells #[.string ⟨(Dl vn).toArray⟩] 9)).alloc (.cells #[.string ⟨#[124]⟩] 9)).alloc (.cells #[Iv 0] 3)):=
  ((zA.alloc (by simp) _).alloc (by simp;omega) _).alloc (by simp;omega) _
 rw[World.size_alloc] at bT;rw[World.size_alloc,World.size_alloc] at bS;rw[World.size_alloc,World.size_alloc,World.size_alloc] at bV;obtain ⟨W0,A2⟩: ∃W0,(((w.alloc (.cells #[.slice none 0 0] 55)).alloc (.cells #[.string ⟨(Dl vn).toArray⟩] 9)).alloc (.cells #[.string ⟨#[124]⟩] 9)).alloc (.cells #[Iv 0] 3)=W0:=⟨_,rfl⟩;have HH:W0.heap.size=w.heap.size+4:=(by rw[<-A2];simp);have cO:Boxed W0 w.heap.size 55 (.slice none 0 0):=(by rw[<-A2];exact ((bO.alloc _).alloc _).alloc _);have cT:Boxed W0 (w.heap.size+1) 9 (.string ⟨(Dl vn).toArray⟩):=(by rw[<-A2];exact (bT.alloc _).alloc _);have cS:Boxed W0 (w.heap.size+2) 9 (.string ⟨#[124]⟩):=(by rw[<-A2];exact bS.alloc _);have cV:Boxed W0 (w.heap.size+3) 3 (Iv 0):=(by rw[<-A2];exact bV);rw[A2] at B1;rw[A2];clear bO bT bS bV A2;have H1:=PS vn;have L1:(AI vn).length=(EP vn).length:=(by simp[AI]);have hN:(pcs 124 (Dl vn)).length=(EP vn).length:=(by rw[F8];simp);refine EV rfl (by omega) (gf:=185) (lb:= #[.pointer (some (Ad (w.heap.size+2) 0)),.pointer (some (Ad (w.heap.size+1) 0)),.pointer (some (Ad (w.heap.size+3) 0))]) (b:=w.heap.size+1) (N:=(pcs 124 (Dl vn)).length) (encs:=OD 124 (Dl vn)) rfl trivial (enters_of func185 (by kernel_rfl) rfl) (by omega)
  (IX 124 (Dl vn) (w.heap.size+1) _ (w.heap.size+2) (w.heap.size+1) (w.heap.size+3) W0 (by omega) (by have:=Mr vn;omega) (by omega) (by omega) (by omega) (by omega) (by omega) (by omega) (by omega) (by omega) cS.cell cT.cell cV.cell cT.frozen) (fun _=>rfl)
  (fun k W=>(∃v,Boxed W w.heap.size 55 v/\W.ownsRow W0.heap.size 9 1 v k (((AI vn).take k).map sV)/\True)/\(Below w.heap.size w W/\W0.heap.size<=W.heap.size))
  (fun _ _=>False)
  (OwnFrom.and (Own.from (holdsRow_own W0.heap.size w.heap.size 55 9 1 (fun k=>k) (fun k=>((AI vn).take k).map sV) (fun _ _=>True)) _) (OwnFrom.and (ownFrom_below zL (by omega)) (fun _ _ _ _ h hg _=>Nat.le_trans h hg.size)))
  (fun _ _ _ _ hs _ _=>hs)
  ?cf (fun _ _ _ h=>h)
  ⟨⟨_,cO,World.ownsRow_nil _ _ _ _,trivial⟩,B1,Nat.le_refl _⟩
  (fun k=>{tmps:= #[Iv vn,undef,.slice none 0 0,.nilIface,.pointer (some (Ad w.heap.size 0)),.string ⟨((pcs 124 (Dl vn)).getD k []).toArray⟩,undef,undef,undef,u9,u10,u11,u12,u13,.bool false,u15,Iv vn,.string ⟨(Dl vn).toArray⟩,.func (.func 185) #[] #[.pointer (some (Ad (w.heap.size+2) 0)),.pointer (some (Ad (w.heap.size+1) 0)),.pointer (some (Ad (w.heap.size+3) 0))],.string ⟨((pcs 124 (Dl vn)).getD k []).toArray⟩,u20,u21,u22,u23,u24,u25,u26,u27,u28,u29,u30],defers:=[]}) ?assign ?body ?done ?stop
 case cf=>
  rintro k W v ⟨⟨u,hu,hr, -⟩,hb,hz⟩;exact ⟨⟨u,TE hu (by omega) _,PV hr (by omega) _,trivial⟩,hb.setCell (p:=(Ad (w.heap.size+1) 0)) (by simp) _,Nat.le_trans hz (grownBy_setCell' W _ v).size⟩
 case assign=>
  intro l k W K hK;simp only[OD]
  gi_wp2
  exact hK
 case body=>
  rintro l k W ⟨⟨v,hv,A7, -⟩,hB,hZ⟩ HJ;obtain ⟨r,hr,he,ht⟩:=Lk vn k (by omega);have hg:(pcs 124 (Dl vn)).getD k []=Hj r:=(by have:=he;unfold OD at this;simpa using this);have hc:=hv.cell;have B2:LD W:=hL.below hB;have HL:=hB.size;rw[hg]
  gi_wp2_with (first|(refine ⟨trivial, ?_⟩;gi_at_call 75;refine (CallsIn.inRound l (callsIn_wide.2 (TF hr _ B2))).mono ?_;rintro e w2 ⟨⟨y,z,rfl⟩,hm⟩;have A3:Below W.heap.size W w2:=(by obtain ⟨m,rfl⟩:=hm;exact below_drewN' zB _);clear hm;have H2:Boxed w2 w.heap.size 55 v:=(A3.block _ hv.lt).trans hv;have A8:=Cq A7 A3;have L4:=H2.cell;have L5:=A3.size)|(gi_at_builtin;refine wpListIn_append_own _ rfl _ _ 55 rfl W0.heap.size 9 i0 (.string ⟨#[]⟩) 1 16 underlying55 HI.out HE.out HF.out HG.out rfl (by decide) _ _ _ rfl (A8.alloc _) (Ad w2.heap.size 0) 1 1 [sV r.1] rfl rfl (cell_one_new _ _ _) (by simp[sV,Value.oneCell']) (by simp[maxLen];omega) (by omega) (by simp;omega) ?_;intro v' w3 A9 AL _;obtain ⟨g',cap',rfl⟩:=ownsRow_succ A9;obtain ⟨H3,HM,L6,HN,HO⟩:=H2.appended (by decide) (Mt A8 (show w.heap.size<=W0.heap.size by omega)) (by omega) zL (Mt A9 (by omega)) AL;have L7:=H3.cell;have L8:=H3.frozen))
  have H4:(w2.alloc (.cells #[sV r.1] 9)).grownBy w3 v.ownBlock:=AL;refine ⟨(Eh A3).trans HN, ?_,⟨_,HM, ?_,trivial⟩,(hB.trans (A3.mono hB.size)).trans HO, ?_⟩
  ·intro q h1 h2;rw[Below.heap_setCell _ _ _ q (by show q≠w.heap.size;omega),H4.block q (by simp;omega) (TG A8 h2),Below.heap_alloc _ _ _ (by omega),A3.block q (by omega)]
  ·rw[ht,List.map_append];exact PV A9 (by omega) _
  ·have:=H4.size;have:=(grownBy_setCell' w3 w.heap.size (Value.slice (some ⟨g',0,none⟩) (k+1) cap')).size;simp at*;omega
 case done=>
  rintro D W hD ⟨⟨v,hv,A7, -⟩,hB,hZ⟩ hK;have hc:=hv.cell;refine F2 _ _ ?_
  gi_wp2
  refine ⟨by simp,.inl ⟨_,_,rfl,run_takeDeferred hK, ?_⟩⟩;obtain ⟨A,c,rfl⟩:=Ce.form A7;rw[show (pcs 124 (Dl vn)).length=(AI vn).length by omega,List.take_length] at A7;rw[show (pcs 124 (Dl vn)).length=(AI vn).length by omega];have F3:=ownsRow_putObj A7 (Obj.deferred none) hK rfl;exact ⟨_,results_tmp2 rfl _ _ _,⟨A,c,rfl,Ce.strs F3⟩,hB.trans (belowK_b (w:=w) zL W D _ _ (by omega) hK rfl rfl)⟩
 case stop=>
  rintro D c W _ h _;exact h.elim
end
section
open Go.Shelf
attribute [local go_sem] Oper.semAt_some
def Ym (r:Ru):Array Value:= #[Iv r.type,Iv r.least,Iv r.most,Iv r.parts]
def Yn (S:Nat) (p:Value) (cs:Array Value) (e:Value) (W:World):Prop:=W.heap[S]? =some (.cells #[p] 9 (0,0))/\W.heap[S+1]? =some (.cells cs 74 (0,0))/\W.heap[S+2]? =some (.cells #[e] 32 (0,0))
theorem Yn.keep {S:Nat} {p e:Value} {cs:Array Value} {W W':World} (h:Yn S p cs e W) (g: ∀k,k<=S+2->W'.heap[k]? =W.heap[k]?):Yn S p cs e W':=
 ⟨(g _ (by omega)).trans h.1,(g _ (by omega)).trans h.2.1,(g _ (by omega)).trans h.2.2⟩
theorem Yn.grown {S:Nat} {p e:Value} {cs:Array Value} {W W':World} {row:Option Nat} (h:Yn S p cs e W) (hg:W.grownBy W' row) (hr: ∀r,row=some r->S+3<=r):Yn S p cs e W':=by have ne: ∀k,k<=S+2->some k≠row:=fun k hk e'=>(by have:=hr k e'.symm;omega);have lt: ∀k (o:Obj),W.heap[k]? =some o->k<W.heap.size:=fun k o ho=>(Array.getElem?_eq_some_iff.1 ho).1;exact ⟨(hg.block _ (lt _ _ h.1) (ne _ (by omega))).trans h.1,(hg.block _ (lt _ _ h.2.1) (ne _ (by omega))).trans h.2.1,(hg.block _ (lt _ _ h.2.2) (ne _ (by omega))).trans h.2.2⟩
theorem Yn.set {S b:Nat} {p e:Value} {cs:Array Value} {W:World} (h:Yn S p cs e W) (hb:S+2<b) (u:Value):Yn S p cs e (W.setCell (Ad b 0) u):=
 h.keep fun k hk=>Below.heap_setCell _ _ _ k (show k≠b by omega)
theorem Yn.below {S:Nat} {p e:Value} {cs:Array Value} {W W':World} (h:Yn S p cs e W) (hb:Below W.heap.size W W'):Yn S p cs e W':=by have lt: ∀k (o:Obj),W.heap[k]? =some o->k<W.heap.size:=fun k o ho=>(Array.getElem?_eq_some_iff.1 ho).1;exact ⟨(hb.block _ (lt _ _ h.1)).trans h.1,(hb.block _ (lt _ _ h.2.1)).trans h.2.1,(hb.block _ (lt _ _ h.2.2)).trans h.2.2⟩
theorem Ar {W:World} {b:Nat} {a:Addr} {o:Obj} (h:W.heap[b]? =some o) (hb:b≠a.block) (v:Value):(W.setCell a v).heap[b]? =some o:=(Below.heap_setCell _ _ _ b hb).trans h
theorem Au {W:World} {b:Nat} {cs:Array Value} {t:TypeId} (h:W.heap[b]? =some (.cells cs t (0,0))) (j:Nat) (v:Value):(W.setCell (Ad b j) v).heap[b]? =some (.cells (cs.setIfInBounds j v) t (0,0)):=by simp[World.setCell,Array.getElem?_modify,h]
def WC (S:Nat) (W:World) (a b c d e:Value):World:=((((W.setCell (Ad (S+1) 0) a).setCell (Ad (S+1) 1) b).setCell (Ad (S+1) 2) c).setCell (Ad (S+1) 3) d).setCell (Ad (S+2) 0) e
theorem Yn.five {S:Nat} {p e z0 z1 z2 z3:Value} {W:World} (h:Yn S p #[z0,z1,z2,z3] e W) (a b c d f:Value):Yn S p #[a,b,c,d] f (WC S W a b c d f):=by
 have B3:S≠S+1:=(by omega);have HP:S≠S+2:=(by omega);have HQ:S+1≠S+2:=(by omega);have DA:S+2≠S+1:=(by omega);refine ⟨?_, ?_, ?_⟩
 ·exact Ar (Ar (Ar (Ar (Ar h.1 B3 _) B3 _) B3 _) B3 _) HP _
 ·exact Ar (Au (Au (Au (Au h.2.1 0 a) 1 b) 2 c) 3 d) HQ _
 ·exact Au (Ar (Ar (Ar (Ar h.2.2 DA _) DA _) DA _) DA _) 0 f
theorem Nd {S k:Nat} {o:Obj} {W:World} (h:W.heap[k]? =some o) (hk:S+2<k) (a b c d f:Value):(WC S W a b c d f).heap[k]? =some o:=
 Ar (Ar (Ar (Ar (Ar h (show k≠S+1 by omega) _) (show k≠S+1 by omega) _) (show k≠S+1 by omega) _) (show k≠S+1 by omega) _) (show k≠S+2 by omega) _
theorem IY {S:Nat} {w W:World} (h:Below S w W) (a b c d f:Value):Below S w (WC S W a b c d f):=
 ((((h.setCell (p:=(Ad (S+1) 0)) (by simp) a).setCell (p:=(Ad (S+1) 1)) (by simp) b).setCell (p:=(Ad (S+1) 2)) (by simp) c).setCell (p:=(Ad (S+1) 3)) (by simp) d).setCell (p:=(Ad (S+2) 0)) (by simp) f
theorem Yn.putD {S D:Nat} {p e:Value} {cs:Array Value} {W:World} (h:Yn S p cs e W) (hk:W.heap[D]? =some (.deferred (some []))):Yn S p cs e (W.putObj D (.deferred none)):=by have ne: ∀k (cs:Array Value) (t:TypeId),W.heap[k]? =some (.cells cs t (0,0))->k≠D:=fun k cs t h e=>(by subst e;rw[h] at hk;cases hk);exact ⟨(World.putObj_heap_other (ne _ _ _ h.1)).trans h.1,(World.putObj_heap_other (ne _ _ _ h.2.1)).trans h.2.1,(World.putObj_heap_other (ne _ _ _ h.2.2)).trans h.2.2⟩
theorem IZ {S:Nat} {p e:Value} {cs:Array Value} (tmps:Array Value) (W:World) (h4:(prog.info? 74).map (·.size)=some cs.size) (hn:e= .nilIface) (h:Yn S p cs e W)
 (hp:tmps.getD 4 undef= .pointer (some (Ad (S+1) 0))) (hq:tmps.getD 5 undef= .pointer (some (Ad (S+2) 0))):(results Tryz.f40 tmps).run prog W= .ok (.tuple #[.agg cs,.nilIface]) W:=by
 subst hn;have HS:tmps[4]?.getD undef= .pointer (some (Ad (S+1) 0)):=(by simpa using hp);have HU:tmps[5]?.getD undef= .pointer (some (Ad (S+2) 0)):=(by simpa using hq);have hc:W.cell? (Ad (S+2) 0)=some .nilIface:=(by simp[World.cell?,h.2.2]);have h2:(loadVar 32 (Ad (S+2) 0)).run prog W= .ok .nilIface W:=(by simp[loadVar,go_sem,hc]);have h1:=run_loadVar_row (P:=prog) W (S+1) 74 74 cs (0,0) _ h.2.1 underlying74 rfl h4;simp[results,show Tryz.f40.results= #[.cell 4 74,.cell 5 32] from rfl,HS,HU,asAddr,h1,h2]
theorem Ei (u:Str): ∀(t:List (Str×Ru)) (k:Nat),(∀r∈t.take k,(r.1==u)=false)->DN t u=DN (t.drop k) u
 |t,0,_=>rfl
 |[],k+1,_=>by simp
 |r::t,k+1,h=>by rw[DN,h r (by simp)];simp only[List.drop_succ_cons];exact Ei u t k fun r' DD=>h r' (by simp[DD])
theorem Nf (u:Str) (t:List (Str×Ru)) (k:Nat) (hk:k<t.length) (h: ∀r∈t.take k,(r.1==u)=false) (he:(t[k].1==u)=true):DN t u=t[k].2:=by rw[Ei u t k h,List.drop_eq_getElem_cons hk,DN,if_pos he]
theorem PX (v:Int) (r:Str×Ru) (h:r∈EP v):(DF r.2.type).length<=18/\(DF r.2.least).length<=18/\(DF r.2.most).length<=18/\(DF r.2.parts).length<=18:=by
 have h3:Tp.all (fun r=>decide ((DF r.2.type).length<=18/\(DF r.2.least).length<=18/\(DF r.2.most).length<=18/\(DF r.2.parts).length<=18))=true:=(by decide+kernel);have h4:Tq.all (fun r=>decide ((DF r.2.type).length<=18/\(DF r.2.least).length<=18/\(DF r.2.most).length<=18/\(DF r.2.parts).length<=18))=true:=(by decide+kernel);unfold EP at h;split at h
 ·exact of_decide_eq_true (List.all_eq_true.1 h3 r h)
 ·exact of_decide_eq_true (List.all_eq_true.1 h4 r h)
def Ut (r:Ru) (i:Nat):Array Value:= #[Iv (if 0<i then r.type else 0),Iv (if 1<i then r.least else 0),Iv (if 2<i then r.most else 0),Iv (if 3<i then r.parts else 0)]
theorem An {W:World} {b:Nat} {cs:Array Value} {t:TypeId} (h:W.heap[b]? =some (.cells cs t (0,0))) (j:Nat):W.cell? (Ad b j)=cs[j]? :=by simp[World.cell?,h]
theorem Ao {W:World} {b:Nat} {cs:Array Value} {t:TypeId} (h:W.heap[b]? =some (.cells cs t (0,0))) (j:Nat):W.frozen? (Ad b j)=false:=by simp[World.frozen?,h]
def Ej (r:Str×Ru):List Value:=[sV r.1,sV (DF r.2.type),sV (DF r.2.least),sV (DF r.2.most),sV (DF r.2.parts)]
theorem Ng {v:Int} {r:Str×Ru} (h:r∈EP v) (w:World) (hL:LD w):Calls prog 72 #[.string ⟨(Hj r).toArray⟩] w fun e w'=>e= .returned (.slice (some (Ad w.heap.size 0)) 5 5)/\w'=w.alloc (.cells (Ej r).toArray 9):=by obtain ⟨B,hB⟩:=hL;have hr:=PR h;refine (strings_Fields ⟨(Hj r).toArray⟩ w (show (Hj r).toArray.size<_ by have:=hr.len;simp;omega) (fun j b hb=>hr.ascii b (List.mem_of_getElem? hb)) hB.sp).mono ?_;rintro e w' ⟨rfl,rfl⟩;rw[show Lib.fields (⟨(Hj r).toArray⟩:ByteArray).data.toList=_ from hr.fields];exact ⟨rfl,rfl⟩
theorem GA {v:Int} {r:Str×Ru} (h:r∈EP v) (x:Int) (hx:x=r.2.type∨x=r.2.least∨x=r.2.most∨x=r.2.parts) (w:World):Calls prog 85 #[sV (DF x)] w fun e w'=>e= .returned (.tuple #[Iv x,.nilIface])/\Below w.heap.size w w':=by have hr:=PR h;have hs:=PX v r h;refine (strconv_Atoi ⟨(DF x).toArray⟩ x (show (DF x).toArray.size<=18 by rcases hx with rfl|rfl|rfl|rfl<;>simp<;>omega) (by rcases hx with rfl|rfl|rfl|rfl;exact hr.n0;exact hr.n1;exact hr.n2;exact hr.n3) w).mono ?_;rintro e w' ⟨rfl,t,rfl⟩;exact ⟨rfl,Lib.bytesWorld_below _ _ _⟩
theorem Mu (prop:Str) (v:Int) (hv:v=3∨v=4) (hp:prop.length<=1073741824) (w:World) (hL:LD w):Calls prog 40 #[Sv prop,Iv v] w fun e w'=>e= .returned (.tuple #[.agg (Ym (AR prop v)),.nilIface])/\Below w.heap.size w w':=by
 refine (callsIn_wide (n:=9)).1 ?_;refine callsIn_of_wp_marks func40 rfl trivial ?_ rfl;simp only[ntmps40,List.size_toArray,List.length_cons,List.length_nil,Nat.reduceAdd,Nat.reduceSub,Array.replicate_succ,Array.replicate_zero,List.push_toArray,List.append_toArray,List.nil_append,List.cons_append]
 gi_upto_region 1 with fail
 have b0:=Boxed.new w 9 (Sv prop);have b1:((w.alloc (.cells #[Sv prop] 9)).alloc (.cells #[Iv 0,Iv 0,Iv 0,Iv 0] 74)).heap[w.heap.size+1]? =some (.cells #[Iv 0,Iv 0,Iv 0,Iv 0] 74 (0,0)):=(by have h:=World.alloc_heap_new (w.alloc (.cells #[Sv prop] 9)) (.cells #[Iv 0,Iv 0,Iv 0,Iv 0] 74);rw[World.size_alloc] at h;exact h);have b2:=Boxed.new ((w.alloc (.cells #[Sv prop] 9)).alloc (.cells #[Iv 0,Iv 0,Iv 0,Iv 0] 74)) 32 .nilIface;rw[World.size_alloc,World.size_alloc] at b2;obtain ⟨Wa,AB⟩: ∃Wa,((w.alloc (.cells #[Sv prop] 9)).alloc (.cells #[Iv 0,Iv 0,Iv 0,Iv 0] 74)).alloc (.cells #[.nilIface] 32)=Wa:=⟨_,rfl⟩;have DT:Wa.heap.size=w.heap.size+3:=(by rw[<-AB];simp);have H8:Below w.heap.size w Wa:=(by rw[<-AB];exact (zA.alloc (by simp) _).alloc (by simp;omega) _);have a3:Yn w.heap.size (Sv prop) #[Iv 0,Iv 0,Iv 0,Iv 0] .nilIface Wa:=(by rw[<-AB];rw[AB] at b2;refine ⟨(b0.alloc _).alloc _, ?_,by rw[AB];exact b2⟩;exact (Below.heap_alloc _ _ _ (by simp)).trans b1);rw[AB];clear b0 b1 b2 AB
 gi_cut [15] from 10 (fun F1 w2=>F1= .bool false/\Wa=w2)
 case first=>
  rcases hv with rfl|rfl;all_goals
   gi_wp2
   gi_meet
   exact ⟨rfl,rfl⟩
 case rest=>
 obtain ⟨rfl,rfl⟩:=hcut
 gi_wp2_with (first|(refine ⟨trivial, ?_⟩;gi_at_call 74;refine (callsIn_wide.2 (Kc _ _)).mono ?_;rintro e w' ⟨rfl,rfl⟩)|(refine ⟨trivial, ?_⟩;gi_at_call 73;refine (callsIn_wide.2 (Ff _ _ _)).mono ?_;rintro e w' ⟨rfl,rfl⟩))
 rename_i K F2;have bT:=Boxed.new Wa 9 (.string ⟨(Dl v).toArray⟩);have bS:=Boxed.new (Wa.alloc (.cells #[.string ⟨(Dl v).toArray⟩] 9)) 9 (.string ⟨#[124]⟩);have bV:=Boxed.new ((Wa.alloc (.cells #[.string ⟨(Dl v).toArray⟩] 9)).alloc (.cells #[.string ⟨#[124]⟩] 9)) 3 (Iv 0);rw[DT] at bT;rw[World.size_alloc,DT] at bS;rw[World.size_alloc,World.size_alloc,DT] at bV;obtain ⟨W0,A2⟩: ∃W0,((Wa.alloc (.cells #[.string ⟨(Dl v).toArray⟩] 9)).alloc (.cells #[.string ⟨#[124]⟩] 9)).alloc (.cells #[Iv 0] 3)=W0:=⟨_,rfl⟩;have HH:W0.heap.size=w.heap.size+6:=(by rw[<-A2];simp[DT]);have cT:Boxed W0 (w.heap.size+3) 9 (.string ⟨(Dl v).toArray⟩):=(by rw[<-A2];exact (bT.alloc _).alloc _);have cS:Boxed W0 (w.heap.size+4) 9 (.string ⟨#[124]⟩):=(by rw[<-A2];exact bS.alloc _);have cV:Boxed W0 (w.heap.size+5) 3 (Iv 0):=(by rw[<-A2];exact bV);have h3:Yn w.heap.size (Sv prop) #[Iv 0,Iv 0,Iv 0,Iv 0] .nilIface W0:=(by rw[<-A2];exact ((a3.grown (World.grownBy_alloc _ _ none) (by simp)).grown (World.grownBy_alloc _ _ none) (by simp)).grown (World.grownBy_alloc _ _ none) (by simp));have B1:Below w.heap.size w W0:=(by rw[<-A2];exact ((H8.alloc (by omega) _).alloc (by simp;omega) _).alloc (by simp;omega) _);rw[A2];clear bT bS bV A2 a3 H8;have H1:=PS v;have hN:(pcs 124 (Dl v)).length=(EP v).length:=(by rw[F8];simp);refine EV rfl (by omega) (gf:=185) (lb:= #[.pointer (some (Ad (w.heap.size+4) 0)),.pointer (some (Ad (w.heap.size+3) 0)),.pointer (some (Ad (w.heap.size+5) 0))]) (b:=w.heap.size+3) (N:=(pcs 124 (Dl v)).length) (encs:=OD 124 (Dl v)) rfl trivial (enters_of func185 (by kernel_rfl) rfl) (by omega)
  (IX 124 (Dl v) (w.heap.size+3) _ (w.heap.size+4) (w.heap.size+3) (w.heap.size+5) W0 (by omega) (by have:=Mr v;omega) (by omega) (by omega) (by omega) (by omega) (by omega) (by omega) (by omega) (by omega) cS.cell cT.cell cV.cell cT.frozen) (fun _=>rfl)
  (fun k W=>Yn w.heap.size (Sv prop) #[Iv 0,Iv 0,Iv 0,Iv 0] .nilIface W/\Below w.heap.size w W/\W0.heap.size<=W.heap.size/\Hid (∀r∈(EP v).take k,(r.1==Xs prop)=false))
  (fun c W=>c= .ret/\Yn w.heap.size (Sv prop) (Ym (AR prop v)) .nilIface W/\Below w.heap.size w W)
  (fun k W W' row hs hg hr=>⟨hs.1.grown hg (fun r e=>by have:=(hr r e).1;omega),hs.2.1.grown hg hs.2.1.size (fun r e=>by have:=(hr r e).1;omega),Nat.le_trans hs.2.2.1 hg.size,hs.2.2.2⟩)
  (fun k W W' row hs hg hr=>⟨hs.1,hs.2.1.grown hg (fun r e=>by have:=(hr r e).1;omega),hs.2.2.grown hg hs.2.2.size (fun r e=>by have:=(hr r e).1;omega)⟩)
  (fun k W v hs=>⟨hs.1.set (by omega) _,hs.2.1.setCell (p:=(Ad (w.heap.size+3) 0)) (by simp) _,Nat.le_trans hs.2.2.1 (grownBy_setCell' W _ v).size,hs.2.2.2⟩)
  (fun k W v hs=>⟨hs.1,hs.2.1.set (by omega) _,hs.2.2.setCell (p:=(Ad (w.heap.size+3) 0)) (by simp) _⟩)
  ⟨h3,B1,Nat.le_refl _,hid (by simp)⟩
  (fun k=>{tmps:= #[Sv prop,Iv v,.pointer (some (Ad w.heap.size 0)),undef,.pointer (some (Ad (w.heap.size+1) 0)),.pointer (some (Ad (w.heap.size+2) 0)),.string ⟨((pcs 124 (Dl v)).getD k []).toArray⟩,undef,undef,undef,u10,u11,u12,u13,u14,.bool false,u16,u17,Iv v,.string ⟨(Dl v).toArray⟩,.func (.func 185) #[] #[.pointer (some (Ad (w.heap.size+4) 0)),.pointer (some (Ad (w.heap.size+3) 0)),.pointer (some (Ad (w.heap.size+5) 0))],.string ⟨((pcs 124 (Dl v)).getD k []).toArray⟩,u22,u23,u24,u25,u26,u27,u28,u29,u30,u31,u32,u33,u34,u35,u36,u37,u38,u39,u40,u41,u42,u43,u44,u45,u46,u47,u48,u49,u50,u51,u52,u53,u54],defers:=[]}) ?assign ?body ?done ?stop
 case assign=>
  intro l k W K hK;simp only[OD]
  gi_wp2
  exact hK
 case body=>
  rintro l k W ⟨hA,hB,hZ,hH⟩ HJ;have hk:k<(EP v).length:=(by omega);have hg:(pcs 124 (Dl v)).getD k []=Hj (EP v)[k]:=(by rw[F8];simp[List.getD,hk]);have hr:(EP v)[k]∈EP v:=List.getElem_mem hk;obtain ⟨r,AN⟩: ∃r,(EP v)[k]=r:=⟨_,rfl⟩;rw[hg];rw[AN] at hr⊢;have B2:LD W:=hL.below hB;have F4:LD (W.alloc (.cells (Ej r).toArray 9)):=B2.below zA;have HL:=hB.size
  gi_wp2_with (first|(refine ⟨trivial, ?_⟩;gi_at_call 72;refine (CallsIn.inRound l (callsIn_wide.2 (Ng hr _ B2))).mono ?_;rintro e w2 ⟨rfl,rfl⟩))
  obtain ⟨W1,AV⟩: ∃W1,W.alloc (.cells (Ej r).toArray 9)=W1:=⟨_,rfl⟩;have hG:W1.heap[W.heap.size]? =some (.cells (Ej r).toArray 9 (0,0)):=(by rw[<-AV];exact World.alloc_heap_new W _);have E0:Below W.heap.size W W1:=(by rw[<-AV];exact zA);have E3:W1.heap.size=W.heap.size+1:=(by rw[<-AV];simp);rw[AV] at F4⊢;clear AV;have FB:Yn w.heap.size (Sv prop) #[Iv 0,Iv 0,Iv 0,Iv 0] .nilIface W1:=hA.below E0;have c0:W1.cell? (Ad W.heap.size 0)=some (Sv r.1):=(by simp[World.cell?,hG,Ej,sV]);have cp:W1.cell? (Ad w.heap.size 0)=some (Sv prop):=(by simp[World.cell?,FB.1]);have c0d:W1.drew.cell? (Ad W.heap.size 0)=some (Sv r.1):=c0;have cpd:W1.drew.cell? (Ad w.heap.size 0)=some (Sv prop):=cp;have HR:=hid AN;clear AN hg
  gi_cut [29] from 24 (fun v w2=>v= .bool (r.1==Xs prop)/\Below W1.heap.size W1 w2)
  case first=>
   gi_region_with (first|(refine ⟨trivial, ?_⟩;gi_at_call 39;refine (CallsIn.inRound l (callsIn_wide.2 (Cl prop _ hp))).mono ?_;rintro e w2 ⟨rfl,A3⟩;have L9:w2.cell? (Ad W.heap.size 0)=some (Sv r.1):=(A3.cell (p:=(Ad W.heap.size 0)) (show W.heap.size<W1.heap.size by omega)).trans c0))
   all_goals gi_wp2
   all_goals gi_meet
   all_goals (refine ⟨rfl,(Below.refl _ W1).drew.trans A3⟩)
  case rest=>
   obtain ⟨rfl,A3⟩:=hcut;have G1:=FB.below A3;have E9:=A3.size;have H9:LD wc:=F4.below A3;have HB:wc.heap[W.heap.size]? =some (.cells (Ej r).toArray 9 (0,0)):=(A3.block _ (by omega)).trans hG;have E1:Below W.heap.size W wc:=E0.trans (A3.mono E0.size);have G2:Below w.heap.size w wc:=hB.trans (E1.mono hB.size);have HC:KeepsOthers W wc:=Eh E1;have HD:Mid (w.heap.size+3) W0.heap.size W wc:=PT (E1.mono hZ);clear c0 cp c0d cpd hG FB hA E0 A3 F4 E1 hB;cases hm:(r.1==Xs prop) with
   |false=>
    gi_wp2
    refine ⟨HC,HD,G1,G2,by omega,hid ?_⟩;intro r' DD;rw[List.take_succ_eq_append_getElem hk,HR.out] at DD;rcases List.mem_append.1 DD with h|h
    ·exact hH.out r' h
    ·rw[List.mem_singleton.1 h];exact hm
   |true=>
    have HV:=hid (show AR prop v=r.2 by unfold AR;rw[Nf _ _ k hk hH.out (by rw[HR.out];exact hm),HR.out]);clear hm
    gi_wp2
    have HW:W.heap.size<wc.heap.size:=by omega
    gi_loopw [30] (fun v wr=> ∃i:Nat,i<=4/\v=Iv (i:Int)/\wr.heap[wc.heap.size]? =some (.cells (Ut r.2 i) 142 (0,0))/\Below wc.heap.size wc wr) (fun v _=>match v with| .int _ n=>(4- n).toNat|_=>0)
    case atStart=>exact ⟨0,by omega,rfl,World.alloc_heap_new _ _,zA⟩
    case round=>
     obtain ⟨i,hi,rfl,A1,A6⟩:=hrel;have AW:wr.heap[W.heap.size]? =some (.cells (Ej r).toArray 9 (0,0)):=(A6.block _ HW).trans HB;have LB:LD wr:=H9.below A6;have A4:wc.heap.size<wr.heap.size:=(Array.getElem?_eq_some_iff.1 A1).1;rcases (show i=4∨i=0∨i=1∨i=2∨i=3 by omega) with rfl|rfl|rfl|rfl|rfl
     ·have A5:=G1.below A6;have LL:wr.cell? (Ad wc.heap.size 0)=some (Iv r.2.type):=(by rw[An A1];simp[Ut]);have M2:wr.cell? (Ad wc.heap.size 1)=some (Iv r.2.least):=(by rw[An A1];simp[Ut]);have MM:wr.cell? (Ad wc.heap.size 2)=some (Iv r.2.most):=(by rw[An A1];simp[Ut]);have E2:wr.cell? (Ad wc.heap.size 3)=some (Iv r.2.parts):=(by rw[An A1];simp[Ut]);have HX:wr.cell? (Ad (w.heap.size+1) 0)=some (Iv 0):=(by rw[An A5.2.1];rfl);have HY:wr.cell? (Ad (w.heap.size+1) 1)=some (Iv 0):=(by rw[An A5.2.1];rfl);have HZ:wr.cell? (Ad (w.heap.size+1) 2)=some (Iv 0):=(by rw[An A5.2.1];rfl);have I0:wr.cell? (Ad (w.heap.size+1) 3)=some (Iv 0):=(by rw[An A5.2.1];rfl);have I1:wr.cell? (Ad (w.heap.size+2) 0)=some .nilIface:=(by rw[An A5.2.2];rfl);have I2:=Ao A5.2.1 0;have I3:=Ao A5.2.1 1;have I4:=Ao A5.2.1 2;have B0:=Ao A5.2.1 3;have I5:=Ao A5.2.2 0;have I6:=hid A5;clear A5 A1 AW G1 HB
      gi_wp2
      have AN:Ym (AR prop v)= #[Iv r.2.type,Iv r.2.least,Iv r.2.most,Iv r.2.parts]:=(by rw[HV.out];rfl);refine ⟨(((((HC.trans (Eh A6)).trans (KeepsOthers.setCell _ _ _)).trans (KeepsOthers.setCell _ _ _)).trans (KeepsOthers.setCell _ _ _)).trans (KeepsOthers.setCell _ _ _)).trans (KeepsOthers.setCell _ _ _),rfl, ?_,IY (G2.trans (A6.mono G2.size)) _ _ _ _ _⟩;rw[AN];exact I6.out.five _ _ _ _ _
     ·have cf:wr.cell? (Ad W.heap.size 1)=some (.string ⟨(DF r.2.type).toArray⟩):=(by rw[An AW];rfl);have ca:wr.cell? (Ad wc.heap.size 0)=some (Iv 0):=by rw[An A1];rfl
      gi_wp2_with (first|(refine ⟨trivial, ?_⟩;gi_at_call 85;refine (CallsIn.inRound l (callsIn_wide.2 (GA hr r.2.type (.inl rfl) _))).mono ?_;rintro e w3 ⟨rfl,A0⟩;have E2:w3.cell? (Ad wc.heap.size 0)=some (Iv 0):=(A0.cell (p:=(Ad wc.heap.size 0)) A4).trans ca;have B0:w3.frozen? (Ad wc.heap.size 0)=false:=(A0.frozen (p:=(Ad wc.heap.size 0)) A4).trans (Ao A1 0)))
      go_roundw;case rel=>exact ⟨1,by omega,rfl,Au ((A0.block _ A4).trans A1) 0 _,(A6.trans (A0.mono (by omega))).setCell (p:=(Ad wc.heap.size 0)) zL _⟩
      case measure=>simp
     ·have cf:wr.cell? (Ad W.heap.size 2)=some (.string ⟨(DF r.2.least).toArray⟩):=(by rw[An AW];rfl);have ca:wr.cell? (Ad wc.heap.size 1)=some (Iv 0):=by rw[An A1];rfl
      gi_wp2_with (first|(refine ⟨trivial, ?_⟩;gi_at_call 85;refine (CallsIn.inRound l (callsIn_wide.2 (GA hr r.2.least (.inr (.inl rfl)) _))).mono ?_;rintro e w3 ⟨rfl,A0⟩;have E2:w3.cell? (Ad wc.heap.size 1)=some (Iv 0):=(A0.cell (p:=(Ad wc.heap.size 1)) A4).trans ca;have B0:w3.frozen? (Ad wc.heap.size 1)=false:=(A0.frozen (p:=(Ad wc.heap.size 1)) A4).trans (Ao A1 1)))
      go_roundw;case rel=>exact ⟨2,by omega,rfl,Au ((A0.block _ A4).trans A1) 1 _,(A6.trans (A0.mono (by omega))).setCell (p:=(Ad wc.heap.size 1)) zL _⟩
      case measure=>simp
     ·have cf:wr.cell? (Ad W.heap.size 3)=some (.string ⟨(DF r.2.most).toArray⟩):=(by rw[An AW];rfl);have ca:wr.cell? (Ad wc.heap.size 2)=some (Iv 0):=by rw[An A1];rfl
      gi_wp2_with (first|(refine ⟨trivial, ?_⟩;gi_at_call 85;refine (CallsIn.inRound l (callsIn_wide.2 (GA hr r.2.most (.inr (.inr (.inl rfl))) _))).mono ?_;rintro e w3 ⟨rfl,A0⟩;have E2:w3.cell? (Ad wc.heap.size 2)=some (Iv 0):=(A0.cell (p:=(Ad wc.heap.size 2)) A4).trans ca;have B0:w3.frozen? (Ad wc.heap.size 2)=false:=(A0.frozen (p:=(Ad wc.heap.size 2)) A4).trans (Ao A1 2)))
      go_roundw;case rel=>exact ⟨3,by omega,rfl,Au ((A0.block _ A4).trans A1) 2 _,(A6.trans (A0.mono (by omega))).setCell (p:=(Ad wc.heap.size 2)) zL _⟩
      case measure=>simp
     ·have cf:wr.cell? (Ad W.heap.size 4)=some (.string ⟨(DF r.2.parts).toArray⟩):=(by rw[An AW];rfl);have ca:wr.cell? (Ad wc.heap.size 3)=some (Iv 0):=by rw[An A1];rfl
      gi_wp2_with (first|(refine ⟨trivial, ?_⟩;gi_at_call 85;refine (CallsIn.inRound l (callsIn_wide.2 (GA hr r.2.parts (.inr (.inr (.inr rfl))) _))).mono ?_;rintro e w3 ⟨rfl,A0⟩;have E2:w3.cell? (Ad wc.heap.size 3)=some (Iv 0):=(A0.cell (p:=(Ad wc.heap.size 3)) A4).trans ca;have B0:w3.frozen? (Ad wc.heap.size 3)=false:=(A0.frozen (p:=(Ad wc.heap.size 3)) A4).trans (Ao A1 3)))
      go_roundw;case rel=>exact ⟨4,by omega,rfl,Au ((A0.block _ A4).trans A1) 3 _,(A6.trans (A0.mono (by omega))).setCell (p:=(Ad wc.heap.size 3)) zL _⟩
      case measure=>simp
 case done=>
  rintro D W hD ⟨hA,hB,hZ,hH⟩ hK;have HX:W.cell? (Ad (w.heap.size+1) 0)=some (Iv 0):=(by rw[An hA.2.1];rfl);have HY:W.cell? (Ad (w.heap.size+1) 1)=some (Iv 0):=(by rw[An hA.2.1];rfl);have HZ:W.cell? (Ad (w.heap.size+1) 2)=some (Iv 0):=(by rw[An hA.2.1];rfl);have I0:W.cell? (Ad (w.heap.size+1) 3)=some (Iv 0):=(by rw[An hA.2.1];rfl);have I1:W.cell? (Ad (w.heap.size+2) 0)=some .nilIface:=(by rw[An hA.2.2];rfl);have I2:=Ao hA.2.1 0;have I3:=Ao hA.2.1 1;have I4:=Ao hA.2.1 2;have B0:=Ao hA.2.1 3;have I5:=Ao hA.2.2 0;have HA:=hid hA;have HK:=hid hK;clear hA hK;refine F2 _ _ ?_
  gi_wp2
  have h5:=HA.out.five (Iv 8) (Iv 0) (Iv 0) (Iv 0) .nilIface;have G4:=Nd HK.out (show w.heap.size+2<D by omega) (Iv 8) (Iv 0) (Iv 0) (Iv 0) .nilIface;have IB:=IY hB (Iv 8) (Iv 0) (Iv 0) (Iv 0) .nilIface;have KI:Ym (AR prop v)= #[Iv 8,Iv 0,Iv 0,Iv 0]:=(by have h:=hH.out;rw[hN] at h;unfold AR;rw[Ei _ _ _ h];simp[DN,Ym]);refine ⟨by simp,.inl ⟨_,_,rfl,run_takeDeferred G4, ?_⟩⟩;refine ⟨_,IZ _ _ (by kernel_rfl) rfl (h5.putD G4) rfl rfl, ?_,IB.trans (belowK_b (w:=w) zL _ D _ _ (by omega) G4 rfl rfl)⟩;rw[KI]
 case stop=>
  rintro D c W hD ⟨rfl,hA,hB⟩ hK
  gi_wp2
  refine ⟨by simp,.inl ⟨_,_,rfl,run_takeDeferred hK, ?_⟩⟩;exact ⟨_,IZ _ _ (by kernel_rfl) rfl (hA.putD hK) rfl rfl,rfl,hB.trans (belowK_b (w:=w) zL _ D _ _ (by omega) hK rfl rfl)⟩
end
end Go.Proofs.YtjhpdljphchfaaaGreatDoor
