/- A part of the proof of ConvertUps: upItem of the reference walked: TZ, and a UID. -/
import Derived.Test.YtjhpdljphchfaaaGreatDoorA40
set_option maxHeartbeats 40000000
set_option maxRecDepth 1000000
set_option linter.all false
namespace Go.Proofs.YtjhpdljphchfaaaGreatDoor
open Go.RowKit
open Go.Proofs.Tryz
section
attribute [local go_sem ↓] zPe zQe
attribute [local go_sem] XR WH XS WI We Xm Xp
theorem VF {S:Nat->Prop} (x:It) (A:Option Addr) (c:Nat) (A':Option Addr) (c':Nat) (w:World) (hL:LD w) (hS:sW S w) (hp:Ah w S (pP A x c) x.ps) (hl:BY w S (lP A' x c') x.val.parts) (hT:Y4 x) (B2: ∀c∈Xs x.name,c≠32) (hb:Xs x.name=YX):
 Calls prog 17 #[Yp x (pP A x c) (lP A' x c')] w (BJ S w (CE (Xs x.name) x)):=by
 have A7:=hid hb;clear hb;refine (CS (S:=S) x A c A' c' w).pf ?_ hL hS hp hl hT B2;intro HT HH B0 B3 N HI DA HN V5 ia ib ic id w3 E HE A8 HM hB HV HP B1 DD HJ AL DT;obtain ⟨c0,c1,c2,c3,c4,c5,c6,c7,c8,c9,c10,c11,c12,c13,c14,A1⟩:=HM.out.c;obtain ⟨d0,d1,d2,d3,d4,d5,d6,d7,d8,d9,H3,H4⟩:=HV.out.c;rw[HN.out] at A7;obtain rfl:=A7.out;have AN:Eu YX=false:=(by decide);have E0:=hid (show CE (Xs x.name) x=some (CO x) by rw[HN.out];unfold CE;rw[if_neg (by decide),if_neg (by decide),if_neg (by decide),if_pos (by decide)]);have E1:=hid (B9 YX false DA.out AN w3 DT);have E2:=hid (D4 YX);clear HN A7;go_upto_block 0 with fail;go_cut [] from 23 to 236 (fun wz=> ∃(A6:Option Addr) (n6 k6:Nat),Hid (Yx wz w.heap.size {x with ps:=noP AA x.ps++[⟨AA,[B6 x.val.type]⟩]} (.slice A6 n6 k6) (lP A' x c')/\Ah wz (fun k=>S k∨(w.heap.size+2<=k/\k<wz.heap.size)) (.slice A6 n6 k6) (noP AA x.ps++[⟨AA,[B6 x.val.type]⟩])/\Yt wz (w.heap.size+1) 15/\Below w.heap.size w wz));case first=>
  go_upto_region 18 with fail;clear c0 c1 c2 c3 c4 c5 c6 c7 c8 c9 c10 c11 c12 c13 c14 A1;obtain ⟨c0,c1,c2,c3,c4,c5,c6,c7,c8,c9,c10,c11,c12,c13,c14,A1⟩:=HM.out.c;go_wp2_with fail;(try rw[show (⟨#[32]⟩++⟨#[84,90]⟩++⟨#[32]⟩:ByteArray)=⟨(YD YX).toArray⟩ from rfl]);(try rw[E2.out]);refine E1.out.mono ?_;rintro e w4 ⟨rfl,E3⟩;obtain rfl:=E3.symm;go_upto_region 33 with fail;have H9:=hid (show Ah w3.drew S (pP A x c) x.ps from HP.out);have HA:=hid (HM.out.drew);have HB:Yt w3.drew (w.heap.size+1) 15:=hB;have d0d:w3.drew.cell? (Ad V5 0)=some (Iv x.val.type):=d0;have AB:=hid (show∀k,S k->k<w3.drew.heap.size from fun k hk=>by have:=hS k hk;simp;omega);have HK:w.heap.size+3<=w3.drew.heap.size:=DD;have E9:V5<w3.drew.heap.size:=AL;have F1:=hid A8.drew;have F2:=hid B0;have HD:=hid (show (noP AA x.ps).length<=100000 from Nat.le_trans (List.length_filter_le _ _) B0);go_region_with (first
   |(go_at_call 30;refine (CJ x.ps (pP A x c) w3.drew AB.out H9.out F2.out B3.out).mono ?_;rintro e4 wk ⟨A4,n4,k4,rfl,F3,A3⟩;have HF:=A3.size;have f0:=(A3.cell (p:=(Ad V5 0)) E9).trans d0d;have F4:=hid A3;have HG:=hid F3;clear F3 A3)
   |(go_at_call 36;refine (Gs x.val.type wk (hL.below (F1.out.trans (F4.out.mono (by omega))))).mono ?_;rintro e5 wj ⟨rfl,A2⟩;have H8:=A2.size;have FB:=hid A2;clear A2)
   |(go_at_call 16;refine (Jh (S:=fun k=>S k∨(w3.drew.heap.size<=k/\k<wk.heap.size)) (noP AA x.ps) (B6 x.val.type) (.slice A4 n4 k4) wj (fun k hk=>by rcases hk with hk|hk;(· have:=AB.out k hk;omega);(· omega)) (HG.out.move (fun k hk=>FB.out.block k (by rcases hk with hk|hk;(· have:=AB.out k hk;omega);(· omega))) fun _ h=>h) HD.out).mono ?_;rintro e6 w6 ⟨A6,n6,k6,rfl,AV,A9⟩;have G1:=hid AV;have HL:=A9.size;have A0:=hid (F4.out.trans ((FB.out.trans (A9.mono H8)).mono HF));have HO:=A0.out.size;have A5:=HA.out.keep A0.out (show w.heap.size<_ by omega);have q6:=A5.frozen 2;have k6c:=A5.c.c2;clear AV A9))
  all_goals
   go_wp2
   go_meet;refine ⟨A6,n6,k6,hid ⟨A5.setP (noP AA x.ps++[⟨AA,[B6 x.val.type]⟩]) (.slice A6 n6 k6), ?_,(HB.low A0.out (by omega)).setCell _ _ (by simp),(F1.out.trans (A0.out.mono (show w.heap.size<=_ by omega))).setCell (p:=(Ad w.heap.size 2)) zL _⟩⟩;refine G1.out.move (fun k hk=>heap_setCell_other w6 _ k _ ?_) fun k hk=> ?_
   ·rcases hk with (hk|hk)|hk
    ·have:=hS k hk;simp only;omega
    ·simp only;omega
    ·simp only;omega
   ·rcases hk with (hk|hk)|hk
    ·exact .inl hk
    ·exact .inr ⟨by omega,by simp[World.setCell];omega⟩
    ·exact .inr ⟨by omega,by simp[World.setCell];omega⟩
 obtain ⟨A6,n6,k6,HC⟩:=hcut;have G2:=HC.out.1;have G4:=hid HC.out.2.1;have H0:=HC.out.2.2.1;have AW:=HC.out.2.2.2;have H1:=hid (show BY wc S (lP A' x c') x.val.parts from B1.out.move (fun k hk=>(AW.block k (hS k hk)).trans (A8.block k (hS k hk)).symm) fun _ h=>h);clear c0 c1 c2 c3 c4 c5 c6 c7 c8 c9 c10 c11 c12 c13 c14 A1;obtain ⟨c0,c1,c2,c3,c4,c5,c6,c7,c8,c9,c10,c11,c12,c13,c14,A1⟩:=G2.c;simp only at c0 c1 c2 c3 c4 c5 c6 c7 c8 c9 c10 c11 c12 c13 c14;go_wp2
 refine bodyPost_ret (AG (x:={x with ps:=noP AA x.ps++[⟨AA,[B6 x.val.type]⟩]}) (pv:= .slice A6 n6 k6) (qv:=(lP A' x c')) (G:=w.heap.size+1) rfl (by first|(simp;done)|rfl|simp[go_sem]) (Yx.row H0 rfl)) rfl ?_;have H2:=AC AW (show w.heap.size<=w.heap.size+1 by omega) (Yv {x with ps:=noP AA x.ps++[⟨AA,[B6 x.val.type]⟩]} (.slice A6 n6 k6) (lP A' x c'));refine Aq (by rw[E0.out];rfl) ?_ ?_ H2
 ·refine G4.out.move (fun k hk=>AH _ _ _ ?_) fun k hk=> ?_
  ·rcases hk with hk|hk
   ·have:=hS k hk;omega
   ·omega
  ·rcases hk with hk|hk
   ·exact .inl hk
   ·exact .inr ⟨by omega,by simp;omega⟩
 ·exact H1.out.move (fun k hk=>AH _ _ _ (by have:=hS k hk;omega)) fun k hk=> .inl hk
end
section
attribute [local go_sem ↓] zPe zQe
attribute [local go_sem] XR WH XS WI We Xm Xp
theorem Wg {S:Nat->Prop} (x:It) (A:Option Addr) (c:Nat) (A':Option Addr) (c':Nat) (w:World) (hL:LD w) (hS:sW S w) (hp:Ah w S (pP A x c) x.ps) (hl:BY w S (lP A' x c') x.val.parts) (hT:Y4 x) (B2: ∀c∈Xs x.name,c≠32) (hb:Xs x.name=Ef) (ht:x.val.type≠1):
 Calls prog 17 #[Yp x (pP A x c) (lP A' x c')] w (BJ S w (CE (Xs x.name) x)):=by
 have A7:=hid hb;have t1:(x.val.type==1)=false:=(by simpa using ht);have HR:=hid ht;clear hb ht;refine (CS (S:=S) x A c A' c' w).pf ?_ hL hS hp hl hT B2;intro HT HH B0 B3 N HI DA HN V5 ia ib ic id w3 E HE A8 HM hB HV HP B1 DD HJ AL DT;obtain ⟨c0,c1,c2,c3,c4,c5,c6,c7,c8,c9,c10,c11,c12,c13,c14,A1⟩:=HM.out.c;obtain ⟨d0,d1,d2,d3,d4,d5,d6,d7,d8,d9,H3,H4⟩:=HV.out.c;rw[HN.out] at A7;obtain rfl:=A7.out;have AN:Eu Ef=false:=(by decide);have E0:=hid (show CE (Xs x.name) x=some (CO x) by rw[HN.out];unfold CE;rw[if_neg (by decide),if_neg (by decide),if_neg (by decide),if_neg (by decide),if_pos (by decide),if_neg (fun h=>HR.out h.1)]);have E1:=hid (B9 Ef false DA.out AN w3 DT);have E2:=hid (D4 Ef);clear HN A7;go_upto_block 0 with fail;go_cut [] from 23 to 236 (fun wz=> ∃(A6:Option Addr) (n6 k6:Nat),Hid (Yx wz w.heap.size {x with ps:=noP AA x.ps++[⟨AA,[B6 x.val.type]⟩]} (.slice A6 n6 k6) (lP A' x c')/\Ah wz (fun k=>S k∨(w.heap.size+2<=k/\k<wz.heap.size)) (.slice A6 n6 k6) (noP AA x.ps++[⟨AA,[B6 x.val.type]⟩])/\Yt wz (w.heap.size+1) 15/\Below w.heap.size w wz));case first=>
  go_upto_region 18 with fail;clear c0 c1 c2 c3 c4 c5 c6 c7 c8 c9 c10 c11 c12 c13 c14 A1;obtain ⟨c0,c1,c2,c3,c4,c5,c6,c7,c8,c9,c10,c11,c12,c13,c14,A1⟩:=HM.out.c;go_wp2_with fail;(try rw[show (⟨#[32]⟩++⟨#[85,73,68]⟩++⟨#[32]⟩:ByteArray)=⟨(YD Ef).toArray⟩ from rfl]);(try rw[E2.out]);refine E1.out.mono ?_;rintro e w4 ⟨rfl,E3⟩;obtain rfl:=E3.symm;go_upto_region 33 with fail;have H9:=hid (show Ah w3.drew S (pP A x c) x.ps from HP.out);have HA:=hid (HM.out.drew);have HB:Yt w3.drew (w.heap.size+1) 15:=hB;have d0d:w3.drew.cell? (Ad V5 0)=some (Iv x.val.type):=d0;have AB:=hid (show∀k,S k->k<w3.drew.heap.size from fun k hk=>by have:=hS k hk;simp;omega);have HK:w.heap.size+3<=w3.drew.heap.size:=DD;have E9:V5<w3.drew.heap.size:=AL;have F1:=hid A8.drew;have F2:=hid B0;have HD:=hid (show (noP AA x.ps).length<=100000 from Nat.le_trans (List.length_filter_le _ _) B0);go_region_with (first
   |(go_at_call 30;refine (CJ x.ps (pP A x c) w3.drew AB.out H9.out F2.out B3.out).mono ?_;rintro e4 wk ⟨A4,n4,k4,rfl,F3,A3⟩;have HF:=A3.size;have f0:=(A3.cell (p:=(Ad V5 0)) E9).trans d0d;have F4:=hid A3;have HG:=hid F3;clear F3 A3)
   |(go_at_call 36;refine (Gs x.val.type wk (hL.below (F1.out.trans (F4.out.mono (by omega))))).mono ?_;rintro e5 wj ⟨rfl,A2⟩;have H8:=A2.size;have FB:=hid A2;clear A2)
   |(go_at_call 16;refine (Jh (S:=fun k=>S k∨(w3.drew.heap.size<=k/\k<wk.heap.size)) (noP AA x.ps) (B6 x.val.type) (.slice A4 n4 k4) wj (fun k hk=>by rcases hk with hk|hk;(· have:=AB.out k hk;omega);(· omega)) (HG.out.move (fun k hk=>FB.out.block k (by rcases hk with hk|hk;(· have:=AB.out k hk;omega);(· omega))) fun _ h=>h) HD.out).mono ?_;rintro e6 w6 ⟨A6,n6,k6,rfl,AV,A9⟩;have G1:=hid AV;have HL:=A9.size;have A0:=hid (F4.out.trans ((FB.out.trans (A9.mono H8)).mono HF));have HO:=A0.out.size;have A5:=HA.out.keep A0.out (show w.heap.size<_ by omega);have q6:=A5.frozen 2;have k6c:=A5.c.c2;clear AV A9))
  all_goals
   go_wp2
   go_meet;refine ⟨A6,n6,k6,hid ⟨A5.setP (noP AA x.ps++[⟨AA,[B6 x.val.type]⟩]) (.slice A6 n6 k6), ?_,(HB.low A0.out (by omega)).setCell _ _ (by simp),(F1.out.trans (A0.out.mono (show w.heap.size<=_ by omega))).setCell (p:=(Ad w.heap.size 2)) zL _⟩⟩;refine G1.out.move (fun k hk=>heap_setCell_other w6 _ k _ ?_) fun k hk=> ?_
   ·rcases hk with (hk|hk)|hk
    ·have:=hS k hk;simp only;omega
    ·simp only;omega
    ·simp only;omega
   ·rcases hk with (hk|hk)|hk
    ·exact .inl hk
    ·exact .inr ⟨by omega,by simp[World.setCell];omega⟩
    ·exact .inr ⟨by omega,by simp[World.setCell];omega⟩
 obtain ⟨A6,n6,k6,HC⟩:=hcut;have G2:=HC.out.1;have G4:=hid HC.out.2.1;have H0:=HC.out.2.2.1;have AW:=HC.out.2.2.2;have H1:=hid (show BY wc S (lP A' x c') x.val.parts from B1.out.move (fun k hk=>(AW.block k (hS k hk)).trans (A8.block k (hS k hk)).symm) fun _ h=>h);clear c0 c1 c2 c3 c4 c5 c6 c7 c8 c9 c10 c11 c12 c13 c14 A1;obtain ⟨c0,c1,c2,c3,c4,c5,c6,c7,c8,c9,c10,c11,c12,c13,c14,A1⟩:=G2.c;simp only at c0 c1 c2 c3 c4 c5 c6 c7 c8 c9 c10 c11 c12 c13 c14;go_wp2
 refine bodyPost_ret (AG (x:={x with ps:=noP AA x.ps++[⟨AA,[B6 x.val.type]⟩]}) (pv:= .slice A6 n6 k6) (qv:=(lP A' x c')) (G:=w.heap.size+1) rfl (by first|(simp;done)|rfl|simp[go_sem]) (Yx.row H0 rfl)) rfl ?_;have H2:=AC AW (show w.heap.size<=w.heap.size+1 by omega) (Yv {x with ps:=noP AA x.ps++[⟨AA,[B6 x.val.type]⟩]} (.slice A6 n6 k6) (lP A' x c'));refine Aq (by rw[E0.out];rfl) ?_ ?_ H2
 ·refine G4.out.move (fun k hk=>AH _ _ _ ?_) fun k hk=> ?_
  ·rcases hk with hk|hk
   ·have:=hS k hk;omega
   ·omega
  ·rcases hk with hk|hk
   ·exact .inl hk
   ·exact .inr ⟨by omega,by simp;omega⟩
 ·exact H1.out.move (fun k hk=>AH _ _ _ (by have:=hS k hk;omega)) fun k hk=> .inl hk
end
section
attribute [local go_sem ↓] zPe zQe
attribute [local go_sem] XR WH XS WI We Xm Xp
theorem Wj {S:Nat->Prop} (x:It) (A:Option Addr) (c:Nat) (A':Option Addr) (c':Nat) (w:World) (hL:LD w) (hS:sW S w) (hp:Ah w S (pP A x c) x.ps) (hl:BY w S (lP A' x c') x.val.parts) (hT:Y4 x) (B2: ∀c∈Xs x.name,c≠32) (hb:Xs x.name=Ef) (ht:x.val.type=1) (hu:DG x.val.text=0):
 Calls prog 17 #[Yp x (pP A x c) (lP A' x c')] w (BJ S w (CE (Xs x.name) x)):=by
 have A7:=hid hb;have t1:(x.val.type==1)=true:=(by simpa using ht);have HS:=hid ht;have HU:=hid hu;have u1:(DG x.val.text==0)=true:=(by simpa using hu);clear hb ht hu;refine (CS (S:=S) x A c A' c' w).pf ?_ hL hS hp hl hT B2;intro HT HH B0 B3 N HI DA HN V5 ia ib ic id w3 E HE A8 HM hB HV HP B1 DD HJ AL DT;obtain ⟨c0,c1,c2,c3,c4,c5,c6,c7,c8,c9,c10,c11,c12,c13,c14,A1⟩:=HM.out.c;obtain ⟨d0,d1,d2,d3,d4,d5,d6,d7,d8,d9,H3,H4⟩:=HV.out.c;rw[HN.out] at A7;obtain rfl:=A7.out;have AN:Eu Ef=false:=(by decide);have E0:=hid (show CE (Xs x.name) x=some {x with ps:=noP AA x.ps,val:={x.val with type:=4}} by rw[HN.out];unfold CE;rw[if_neg (by decide),if_neg (by decide),if_neg (by decide),if_neg (by decide),if_pos (by decide),if_pos ⟨HS.out,HU.out⟩]);have E1:=hid (B9 Ef false DA.out AN w3 DT);have E2:=hid (D4 Ef);clear HN A7;go_upto_block 0 with fail;go_cut [] from 23 to 236 (fun wz=> ∃(A6:Option Addr) (n6 k6:Nat),Hid (Yx wz w.heap.size {x with ps:=noP AA x.ps,val:={x.val with type:=4}} (.slice A6 n6 k6) (lP A' x c')/\Ah wz (fun k=>S k∨(w.heap.size+2<=k/\k<wz.heap.size)) (.slice A6 n6 k6) (noP AA x.ps)/\Yt wz (w.heap.size+1) 15/\Below w.heap.size w wz));case first=>
  go_upto_region 18 with fail;clear c0 c1 c2 c3 c4 c5 c6 c7 c8 c9 c10 c11 c12 c13 c14 A1;obtain ⟨c0,c1,c2,c3,c4,c5,c6,c7,c8,c9,c10,c11,c12,c13,c14,A1⟩:=HM.out.c;go_wp2_with fail;(try rw[show (⟨#[32]⟩++⟨#[85,73,68]⟩++⟨#[32]⟩:ByteArray)=⟨(YD Ef).toArray⟩ from rfl]);(try rw[E2.out]);refine E1.out.mono ?_;rintro e w4 ⟨rfl,E3⟩;obtain rfl:=E3.symm;dsimp only;go_upto_region 29 with fail;clear c0 c1 c2 c3 c4 c5 c6 c7 c8 c9 c10 c11 c12 c13 c14 A1;obtain ⟨c0,c1,c2,c3,c4,c5,c6,c7,c8,c9,c10,c11,c12,c13,c14,A1⟩:=HM.out.c;go_wp2_with fail;refine (DV x.val.text w3 (by have:=HT.out.text;omega)).mono ?_;rintro e w4 ⟨⟨p9,rfl⟩,A3⟩;dsimp only;go_wp2_with fail;refine (CU _ p9 w4).mono ?_;rintro e w5 ⟨rfl,HQ⟩;rw[u1];dsimp only;have A2:Below w3.heap.size w3 w5:=HQ▸(A3.trans (zA.mono A3.size));clear HQ A3;have H8:=A2.size;replace A8:=A8.trans (A2.mono (show w.heap.size<=w3.heap.size by omega));replace HM:=hid (HM.out.keep A2 (by omega));replace hB:=hB.low A2 (by omega);replace HV:=hid (HV.out.same (A2.block V5 (by omega)));replace HP:=hid (HP.out.move (w':=w5) (S':=S) (fun k hk=>A2.block k (by have:=hS k hk;omega)) fun _ h=>h);replace B1:=hid (B1.out.move (w':=w5) (S':=S) (fun k hk=>A2.block k (by have:=hS k hk;omega)) fun _ h=>h);replace DD:w.heap.size+3<=w5.heap.size:=(by omega);replace AL:V5<w5.heap.size:=(by omega);clear c0 c1 c2 c3 c4 c5 c6 c7 c8 c9 c10 c11 c12 c13 c14 A1 A2;clear d0 d1 d2 d3 d4 d5 d6 d7 d8 d9 H3 H4;obtain ⟨c0,c1,c2,c3,c4,c5,c6,c7,c8,c9,c10,c11,c12,c13,c14,A1⟩:=HM.out.c;obtain ⟨d0,d1,d2,d3,d4,d5,d6,d7,d8,d9,H3,H4⟩:=HV.out.c;go_upto_region 30 with fail;have AB:=hid (show∀k,S k->k<w5.heap.size from fun k hk=>by have:=hS k hk;omega);have F2:=hid B0;have HW:=hid A8;go_wp2_with fail;refine (CJ x.ps (pP A x c) w5 AB.out HP.out F2.out B3.out).mono ?_;rintro e4 w6 ⟨A6,n6,k6,rfl,AV,A9⟩;dsimp only;have G1:=hid AV;have A0:=hid A9;have HO:=A0.out.size;have A5:=HM.out.keep A0.out (show w.heap.size<_ by omega);have q6:=A5.frozen 2;have q6':=A5.frozen 3;have k6c:=A5.c.c2;have k6d:=A5.c.c3;clear AV A9;go_wp2
  go_meet;refine ⟨A6,n6,k6,hid ⟨(A5.setP (noP AA x.ps) (.slice A6 n6 k6)).setT 4, ?_,((hB.low A0.out (by omega)).setCell _ _ (by simp)).setCell _ _ (by simp),((A8.trans (A0.out.mono (show w.heap.size<=_ by omega))).setCell (p:=(Ad w.heap.size 2)) zL _).setCell (p:=(Ad w.heap.size 3)) zL _⟩⟩;refine G1.out.move (fun k hk=>(heap_setCell_other _ _ k _ ?_).trans (heap_setCell_other w6 _ k _ ?_)) fun k hk=> ?_
  ·rcases hk with hk|hk
   ·have:=hS k hk;simp only;omega
   ·simp only;omega
  ·rcases hk with hk|hk
   ·have:=hS k hk;simp only;omega
   ·simp only;omega
  ·rcases hk with hk|hk
   ·exact .inl hk
   ·exact .inr ⟨by omega,by simp[World.setCell];omega⟩
 obtain ⟨A6,n6,k6,HC⟩:=hcut;have G2:=HC.out.1;have G4:=hid HC.out.2.1;have H0:=HC.out.2.2.1;have AW:=HC.out.2.2.2;have H1:=hid (show BY wc S (lP A' x c') x.val.parts from B1.out.move (fun k hk=>(AW.block k (hS k hk)).trans (A8.block k (hS k hk)).symm) fun _ h=>h);clear c0 c1 c2 c3 c4 c5 c6 c7 c8 c9 c10 c11 c12 c13 c14 A1;obtain ⟨c0,c1,c2,c3,c4,c5,c6,c7,c8,c9,c10,c11,c12,c13,c14,A1⟩:=G2.c;simp only at c0 c1 c2 c3 c4 c5 c6 c7 c8 c9 c10 c11 c12 c13 c14;go_wp2
 refine bodyPost_ret (AG (x:={x with ps:=noP AA x.ps,val:={x.val with type:=4}}) (pv:= .slice A6 n6 k6) (qv:=(lP A' x c')) (G:=w.heap.size+1) rfl (by first|(simp;done)|rfl|simp[go_sem]) (Yx.row H0 rfl)) rfl ?_;have H2:=AC AW (show w.heap.size<=w.heap.size+1 by omega) (Yv {x with ps:=noP AA x.ps,val:={x.val with type:=4}} (.slice A6 n6 k6) (lP A' x c'));refine Aq (by rw[E0.out]) ?_ ?_ H2
 ·refine G4.out.move (fun k hk=>AH _ _ _ ?_) fun k hk=> ?_
  ·rcases hk with hk|hk
   ·have:=hS k hk;omega
   ·omega
  ·rcases hk with hk|hk
   ·exact .inl hk
   ·exact .inr ⟨by omega,by simp;omega⟩
 ·exact H1.out.move (fun k hk=>AH _ _ _ (by have:=hS k hk;omega)) fun k hk=> .inl hk
end
end Go.Proofs.YtjhpdljphchfaaaGreatDoor
