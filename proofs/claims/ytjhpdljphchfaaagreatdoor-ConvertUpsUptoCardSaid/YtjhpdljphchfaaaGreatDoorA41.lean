/- A part of the proof of ConvertUps: one of package convert walked: names that are not known. -/
import Derived.Test.YtjhpdljphchfaaaGreatDoorA44
import Derived.Test.YtjhpdljphchfaaaGreatDoorA40
import Derived.Test.YtjhpdljphchfaaaGreatDoorA35
set_option maxHeartbeats 40000000
set_option maxRecDepth 1000000
set_option linter.all false
namespace Go.Proofs.YtjhpdljphchfaaaGreatDoor
open Go.RowKit
open Go.Proofs.Tryz
section
attribute [local go_sem ↓] zPe
attribute [local go_sem] XR WH Xm Xp
theorem U7 {S:Nat->Prop} (x:It) (A:Option Addr) (c:Nat) (A':Option Addr) (c':Nat) (w:World) (hS:sW S w) (hp:Ah w S (pP A x c) x.ps) (hl:BY w S (lP A' x c') x.val.parts) (hT:Y5 x) (hb:Eu (Xs x.name)=true) (B2: ¬x.val.type=1):
 Calls prog 21 #[Yp x (pP A x c) (lP A' x c')] w (BJ S w (Bi x)):=by
 have A7:Xs x.name=Du∨Xs x.name=Dv∨Xs x.name=Cr∨Xs x.name=Gb∨Xs x.name=Gc∨Xs x.name=AZ:=(by simpa[Eu,or_assoc] using hb);have A4:=hid A7;have A8:=hid hb;clear hb A7;refine (Dh (S:=S) x A c A' c' w).pf ?_ hS hp hl hT;intro E2 N E3 HN A5 k5 W3 P AB AL B3 AN AV DA E9 ia ib ic id A6;obtain ⟨c0,c1,c2,c3,c4,c5,c6,c7,c8,c9,c10,c11,c12,c13,c14,A1⟩:=B3.out.c;simp only at c0 c1 c2 c3 c4 c5 c6 c7 c8 c9 c10 c11 c12 c13 c14;rw[HN.out] at A4 A8;have A3:=hid (show CE N {x with ps:=P}=Cx N {x with ps:=P} by unfold CE;rw[if_neg,if_pos A8.out];rcases A4.out with rfl|rfl|rfl|rfl|rfl|rfl<;>decide);have DD:=hid (show∀k,(S k∨(w.heap.size+2<=k/\k<W3.heap.size))->k<W3.drew.heap.size from fun k hk=>by
  rcases hk with hk|hk
  ·have:=hS k hk;simp;omega
  ·simp;exact hk.2)
 have DT:=hid (show Ah W3.drew (fun k=>S k∨(w.heap.size+2<=k/\k<W3.heap.size)) (.slice A5 P.length k5) P from DA.out.more fun k hk=> .inr hk);have E0:=hid (Nat.le_trans AL.out.text (by decide:10000<=134217728));have E1:=hid (Nat.le_trans AL.out.ps (by decide:100000<=134217728));obtain ⟨TT,AW⟩: ∃TT,(if x.val.type=1 then Cz x.val.text else x.val.text)=TT:=⟨_,rfl⟩;have B0:=hid AW;clear AW HN;rcases A4.out with rfl|rfl|rfl|rfl|rfl|rfl;all_goals
  by_cases ht:x.val.type=1
  ·exact absurd ht B2
  have t1:(x.val.type==1)=false:=(by simpa using ht);cases t8:(x.val.type==8);all_goals
   go_wp2_with fail;first
    |(go_region_held3 (fun w'=>w'.cell? (Ad w.heap.size 0)=some (Sv x.group)/\w'.cell? (Ad w.heap.size 1)=some (Sv x.name)/\w'.cell? (Ad w.heap.size 2)=some (.slice A5 P.length k5)/\w'.cell? (Ad w.heap.size 3)=some (Iv x.val.type)/\w'.cell? (Ad w.heap.size 4)=some (Sv x.val.text)/\w'.cell? (Ad w.heap.size 5)=some (lP A' x c')/\w'.cell? (Ad w.heap.size 6)=some (Iv x.val.st.y)/\w'.cell? (Ad w.heap.size 7)=some (Iv x.val.st.mo)/\w'.cell? (Ad w.heap.size 8)=some (Iv x.val.st.d)/\w'.cell? (Ad w.heap.size 9)=some (Iv x.val.st.h)/\w'.cell? (Ad w.heap.size 10)=some (Iv x.val.st.mi)/\w'.cell? (Ad w.heap.size 11)=some (Iv x.val.st.s)/\w'.cell? (Ad w.heap.size 12)=some (.bool x.val.st.zoned)/\w'.cell? (Ad w.heap.size 13)=some (Iv x.val.st.zone)/\w'.cell? (Ad w.heap.size 14)=some (Iv x.val.n)/\Yt w' (w.heap.size+1) 15/\Below (w.heap.size+1) W3 w')
       (first
         |exact ⟨by simpa using c0,by simpa using c1,by simpa using c2,by simpa using c3,by simpa using c4,by simpa using c5,by simpa using c6,by simpa using c7,by simpa using c8,by simpa using c9,by simpa using c10,by simpa using c11,by simpa using c12,by simpa using c13,by simpa using c14,AN,zB.drew⟩
         |(go_split_ands;exact ⟨(A0.cell (p:=(Ad w.heap.size 0)) (show w.heap.size<W3.drew.heap.size from A1)).trans ‹_›,(A0.cell (p:=(Ad w.heap.size 1)) (show w.heap.size<W3.drew.heap.size from A1)).trans ‹_›,(A0.cell (p:=(Ad w.heap.size 2)) (show w.heap.size<W3.drew.heap.size from A1)).trans ‹_›,(A0.cell (p:=(Ad w.heap.size 3)) (show w.heap.size<W3.drew.heap.size from A1)).trans ‹_›,(A0.cell (p:=(Ad w.heap.size 4)) (show w.heap.size<W3.drew.heap.size from A1)).trans ‹_›,(A0.cell (p:=(Ad w.heap.size 5)) (show w.heap.size<W3.drew.heap.size from A1)).trans ‹_›,(A0.cell (p:=(Ad w.heap.size 6)) (show w.heap.size<W3.drew.heap.size from A1)).trans ‹_›,(A0.cell (p:=(Ad w.heap.size 7)) (show w.heap.size<W3.drew.heap.size from A1)).trans ‹_›,(A0.cell (p:=(Ad w.heap.size 8)) (show w.heap.size<W3.drew.heap.size from A1)).trans ‹_›,(A0.cell (p:=(Ad w.heap.size 9)) (show w.heap.size<W3.drew.heap.size from A1)).trans ‹_›,(A0.cell (p:=(Ad w.heap.size 10)) (show w.heap.size<W3.drew.heap.size from A1)).trans ‹_›,(A0.cell (p:=(Ad w.heap.size 11)) (show w.heap.size<W3.drew.heap.size from A1)).trans ‹_›,(A0.cell (p:=(Ad w.heap.size 12)) (show w.heap.size<W3.drew.heap.size from A1)).trans ‹_›,(A0.cell (p:=(Ad w.heap.size 13)) (show w.heap.size<W3.drew.heap.size from A1)).trans ‹_›,(A0.cell (p:=(Ad w.heap.size 14)) (show w.heap.size<W3.drew.heap.size from A1)).trans ‹_›,Yt.low ‹_› A0 (show w.heap.size+1<W3.drew.heap.size from A6),Below.trans ‹_› (A0.mono (show w.heap.size+1<=W3.drew.heap.size from Nat.le_of_lt A6))⟩)
         |(go_split_ands;exact ⟨AO _ ‹_› (by omega),AO _ ‹_› (by omega),AO _ ‹_› (by omega),AO _ ‹_› (by omega),AO _ ‹_› (by omega),AO _ ‹_› (by omega),AO _ ‹_› (by omega),AO _ ‹_› (by omega),AO _ ‹_› (by omega),AO _ ‹_› (by omega),AO _ ‹_› (by omega),AO _ ‹_› (by omega),AO _ ‹_› (by omega),AO _ ‹_› (by omega),AO _ ‹_› (by omega),Yt.setRow ‹_› _ rfl,AC ‹_› zL _⟩)
         |assumption)
       (first
         |(go_at_call 46;refine (P6 (S:=fun k=>S k∨(w.heap.size+2<=k/\k<W3.heap.size)) {x with ps:=P} A3 A5 k5 A' c' TT B0.out W3.drew DD.out DT.out (by decide) E0.out E1.out).mono ?_;rintro e9 w9 ⟨F1,rfl,B1,A0⟩;obtain ⟨A9,c9,rfl⟩:=B1.form;simp only[Yp])))
    |fail
   go_wp2
   refine bodyPost_ret (K0 TT A3 (pv:= .slice A9 (noP AA P).length c9) (qv:= .slice none 0 0) (G:=w.heap.size+1) rfl (by first|(simp;done)|rfl|simp[go_sem]) (Yx.row (Yt.low (show Yt W3.drew (w.heap.size+1) 15 from AN) A0 (show w.heap.size+1<W3.drew.heap.size from A6)) rfl)) rfl ?_
  ·have hu:=WQ A3 (fun h=>h.elim ht fun h=>by rw[show x.val.type=8 from h] at t8;cases t8);refine Br hS AB.out A3.out (AV.drew) A0 (by simp;omega) (fun z A2=> ?_) (fun A2=> ?_)
   ·rw[hu] at A2;cases A2
   ·rfl
  ·have hu:=ST A3 (.inr (by simpa using t8)) B0;refine Br hS AB.out A3.out (AV.drew) A0 (by simp;omega) (fun z A2=> ?_) (fun A2=> ?_)
   ·rw[hu] at A2;cases A2;exact ⟨rfl,rfl,B1,BY.nil⟩
   ·rw[hu] at A2;cases A2
theorem TZ {S:Nat->Prop} (x:It) (A:Option Addr) (c:Nat) (A':Option Addr) (c':Nat) (w:World) (hS:sW S w) (hp:Ah w S (pP A x c) x.ps) (hl:BY w S (lP A' x c') x.val.parts) (hT:Y5 x) (hb:Eu (Xs x.name)=true):
 Calls prog 21 #[Yp x (pP A x c) (lP A' x c')] w (BJ S w (Bi x)):=by
 by_cases h1:x.val.type=1
 ·exact U6 x A c A' c' w hS hp hl hT hb h1
 ·exact U7 x A c A' c' w hS hp hl hT hb h1
end
end Go.Proofs.YtjhpdljphchfaaaGreatDoor
