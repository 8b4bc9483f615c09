/- A part of the proof of ConvertUps: upItem of the reference walked: a UID whose text is no URI. -/
import Derived.Test.YtjhpdljphchfaaaGreatDoorA40
set_option maxHeartbeats 40000000
set_option maxRecDepth 1000000
set_option linter.all false
namespace Go.Proofs.YtjhpdljphchfaaaGreatDoor
open Go.RowKit
open Go.Proofs.Tryz
section
attribute [local go_sem ↓] zPe zQe
attribute [local go_sem] XR WH XS WI We Xm Xp
theorem Wi {S:Nat->Prop} (x:It) (A:Option Addr) (c:Nat) (A':Option Addr) (c':Nat) (w:World) (hL:LD w) (hS:sW S w) (hp:Ah w S (pP A x c) x.ps) (hl:BY w S (lP A' x c') x.val.parts) (hT:Y4 x) (F1: ∀c∈Xs x.name,c≠32) (hb:Xs x.name=Ef) (ht:x.val.type=1) (hu:DG x.val.text≠0):
 Calls prog 17 #[Yp x (pP A x c) (lP A' x c')] w (BJ S w (CE (Xs x.name) x)):=by
 have A8:=hid hb;have t1:(x.val.type==1)=true:=(by simpa using ht);have F2:=hid hu;have u1:(DG x.val.text==0)=false:=(by simpa using hu);clear hb ht hu;refine (CS (S:=S) x A c A' c' w).pf ?_ hL hS hp hl hT F1;intro HT HL AV F3 N HO F4 HN V5 ia ib ic id w3 E HE A5 HM hB HV HP A9 AW HQ A7 FB;obtain ⟨c0,c1,c2,c3,c4,c5,c6,c7,c8,c9,c10,c11,c12,c13,c14,A1⟩:=HM.out.c;obtain ⟨d0,d1,d2,d3,d4,d5,d6,d7,d8,d9,B0,B1⟩:=HV.out.c;rw[HN.out] at A8;obtain rfl:=A8.out;have B2:Eu Ef=false:=(by decide);have G1:=hid (show CE (Xs x.name) x=some (CO x) by rw[HN.out];unfold CE;rw[if_neg (by decide),if_neg (by decide),if_neg (by decide),if_neg (by decide),if_pos (by decide),if_neg (fun h=>F2.out h.2)]);have G2:=hid (B9 Ef false F4.out B2 w3 FB);have G4:=hid (D4 Ef);clear HN A8;go_upto_block 0 with fail;go_cut [] from 23 to 236 (fun wz=> ∃(A6:Option Addr) (n6 k6:Nat),Hid (Yx wz w.heap.size {x with ps:=noP AA x.ps++[⟨AA,[B6 x.val.type]⟩]} (.slice A6 n6 k6) (lP A' x c')/\Ah wz (fun k=>S k∨(w.heap.size+2<=k/\k<wz.heap.size)) (.slice A6 n6 k6) (noP AA x.ps++[⟨AA,[B6 x.val.type]⟩])/\Yt wz (w.heap.size+1) 15/\Below w.heap.size w wz));case first=>
  go_upto_region 18 with fail;clear c0 c1 c2 c3 c4 c5 c6 c7 c8 c9 c10 c11 c12 c13 c14 A1;obtain ⟨c0,c1,c2,c3,c4,c5,c6,c7,c8,c9,c10,c11,c12,c13,c14,A1⟩:=HM.out.c;go_wp2_with fail;(try rw[show (⟨#[32]⟩++⟨#[85,73,68]⟩++⟨#[32]⟩:ByteArray)=⟨(YD Ef).toArray⟩ from rfl]);(try rw[G4.out]);refine G2.out.mono ?_;rintro e w4 ⟨rfl,H0⟩;obtain rfl:=H0.symm;go_upto_region 29 with fail;clear c0 c1 c2 c3 c4 c5 c6 c7 c8 c9 c10 c11 c12 c13 c14 A1;obtain ⟨c0,c1,c2,c3,c4,c5,c6,c7,c8,c9,c10,c11,c12,c13,c14,A1⟩:=HM.out.c;go_wp2_with fail;refine (DV x.val.text w3 (by have:=HT.out.text;omega)).mono ?_;rintro e w4 ⟨⟨p9,rfl⟩,A2⟩;go_wp2_with fail;refine (CU _ p9 w4).mono ?_;rintro e w5 ⟨rfl,B3⟩;rw[u1];have A0:Below w3.heap.size w3 w5:=B3▸(A2.trans (zA.mono A2.size));clear B3 A2;have DA:=A0.size;replace A5:=A5.trans (A0.mono (show w.heap.size<=w3.heap.size by omega));replace HM:=hid (HM.out.keep A0 (by omega));replace hB:=hB.low A0 (by omega);replace HV:=hid (HV.out.same (A0.block V5 (by omega)));replace HP:=hid (HP.out.move (w':=w5) (S':=S) (fun k hk=>A0.block k (by have:=hS k hk;omega)) fun _ h=>h);replace A9:=hid (A9.out.move (w':=w5) (S':=S) (fun k hk=>A0.block k (by have:=hS k hk;omega)) fun _ h=>h);replace AW:w.heap.size+3<=w5.heap.size:=(by omega);replace A7:V5<w5.heap.size:=(by omega);clear c0 c1 c2 c3 c4 c5 c6 c7 c8 c9 c10 c11 c12 c13 c14 A1 A0;clear d0 d1 d2 d3 d4 d5 d6 d7 d8 d9 B0 B1;obtain ⟨c0,c1,c2,c3,c4,c5,c6,c7,c8,c9,c10,c11,c12,c13,c14,A1⟩:=HM.out.c;obtain ⟨d0,d1,d2,d3,d4,d5,d6,d7,d8,d9,B0,B1⟩:=HV.out.c;go_upto_region 33 with fail;have H1:=hid (show Ah w5.drew S (pP A x c) x.ps from HP.out);have H2:=hid (HM.out.drew);have H3:Yt w5.drew (w.heap.size+1) 15:=hB;have d0d:w5.drew.cell? (Ad V5 0)=some (Iv x.val.type):=d0;have AB:=hid (show∀k,S k->k<w5.drew.heap.size from fun k hk=>by have:=hS k hk;simp;omega);have HJ:w.heap.size+3<=w5.drew.heap.size:=AW;have DD:V5<w5.drew.heap.size:=A7;have DT:=hid A5.drew;have H4:=hid AV;have H8:=hid (show (noP AA x.ps).length<=100000 from Nat.le_trans (List.length_filter_le _ _) AV);go_region_with (first
   |(go_at_call 30;refine (CJ x.ps (pP A x c) w5.drew AB.out H1.out H4.out F3.out).mono ?_;rintro e4 wk ⟨A4,n4,k4,rfl,E0,A2⟩;have H9:=A2.size;have f0:=(A2.cell (p:=(Ad V5 0)) DD).trans d0d;have E1:=hid A2;have HA:=hid E0;clear E0 A2)
   |(go_at_call 36;refine (Gs x.val.type wk (hL.below (DT.out.trans (E1.out.mono (by omega))))).mono ?_;rintro e5 wj ⟨rfl,A0⟩;have DA:=A0.size;have E2:=hid A0;clear A0)
   |(go_at_call 16;refine (Jh (S:=fun k=>S k∨(w5.drew.heap.size<=k/\k<wk.heap.size)) (noP AA x.ps) (B6 x.val.type) (.slice A4 n4 k4) wj (fun k hk=>by rcases hk with hk|hk;(· have:=AB.out k hk;omega);(· omega)) (HA.out.move (fun k hk=>E2.out.block k (by rcases hk with hk|hk;(· have:=AB.out k hk;omega);(· omega))) fun _ h=>h) H8.out).mono ?_;rintro e6 w6 ⟨A6,n6,k6,rfl,E3,AL⟩;have HB:=hid E3;have HK:=AL.size;have A3:=hid (E1.out.trans ((E2.out.trans (AL.mono DA)).mono H9));have HR:=A3.out.size;have AN:=H2.out.keep A3.out (show w.heap.size<_ by omega);have q6:=AN.frozen 2;have k6c:=AN.c.c2;clear E3 AL))
  all_goals
   go_wp2
   go_meet;refine ⟨A6,n6,k6,hid ⟨AN.setP (noP AA x.ps++[⟨AA,[B6 x.val.type]⟩]) (.slice A6 n6 k6), ?_,(H3.low A3.out (by omega)).setCell _ _ (by simp),(DT.out.trans (A3.out.mono (show w.heap.size<=_ by omega))).setCell (p:=(Ad w.heap.size 2)) zL _⟩⟩;refine HB.out.move (fun k hk=>heap_setCell_other w6 _ k _ ?_) fun k hk=> ?_
   ·rcases hk with (hk|hk)|hk
    ·have:=hS k hk;simp only;omega
    ·simp only;omega
    ·simp only;omega
   ·rcases hk with (hk|hk)|hk
    ·exact .inl hk
    ·exact .inr ⟨by omega,by simp[World.setCell];omega⟩
    ·exact .inr ⟨by omega,by simp[World.setCell];omega⟩
 obtain ⟨A6,n6,k6,HC⟩:=hcut;have HD:=HC.out.1;have HF:=hid HC.out.2.1;have HG:=HC.out.2.2.1;have E9:=HC.out.2.2.2;have HH:=hid (show BY wc S (lP A' x c') x.val.parts from A9.out.move (fun k hk=>(E9.block k (hS k hk)).trans (A5.block k (hS k hk)).symm) fun _ h=>h);clear c0 c1 c2 c3 c4 c5 c6 c7 c8 c9 c10 c11 c12 c13 c14 A1;obtain ⟨c0,c1,c2,c3,c4,c5,c6,c7,c8,c9,c10,c11,c12,c13,c14,A1⟩:=HD.c;simp only at c0 c1 c2 c3 c4 c5 c6 c7 c8 c9 c10 c11 c12 c13 c14;go_wp2
 refine bodyPost_ret (AG (x:={x with ps:=noP AA x.ps++[⟨AA,[B6 x.val.type]⟩]}) (pv:= .slice A6 n6 k6) (qv:=(lP A' x c')) (G:=w.heap.size+1) rfl (by first|(simp;done)|rfl|simp[go_sem]) (Yx.row HG rfl)) rfl ?_;have HI:=AC E9 (show w.heap.size<=w.heap.size+1 by omega) (Yv {x with ps:=noP AA x.ps++[⟨AA,[B6 x.val.type]⟩]} (.slice A6 n6 k6) (lP A' x c'));refine Aq (by rw[G1.out];rfl) ?_ ?_ HI
 ·refine HF.out.move (fun k hk=>AH _ _ _ ?_) fun k hk=> ?_
  ·rcases hk with hk|hk
   ·have:=hS k hk;omega
   ·omega
  ·rcases hk with hk|hk
   ·exact .inl hk
   ·exact .inr ⟨by omega,by simp;omega⟩
 ·exact HH.out.move (fun k hk=>AH _ _ _ (by have:=hS k hk;omega)) fun k hk=> .inl hk
end
end Go.Proofs.YtjhpdljphchfaaaGreatDoor
