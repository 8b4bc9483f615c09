/- A part of the proof of ConvertUps: names and words of cards, read. -/
import Derived.Test.YtjhpdljphchfaaaGreatDoorA14
import Derived.Test.YtjhpdljphchfaaaGreatDoorA16
import Derived.Lib.IndexBytes
set_option maxHeartbeats 40000000
set_option maxRecDepth 1000000
set_option linter.all false
namespace Go.Proofs.YtjhpdljphchfaaaGreatDoor
open Go.RowKit
theorem De (b:UInt8) (l S:Str):Lib.contains (b::l) S=(S.isPrefixOf (b::l)||Lib.contains l S):=by
 have A0:=Lib.index_ge l S;unfold Lib.contains;rw[Lib.index];split
 ·rename_i h;rw[h];rfl
 ·rename_i h;rw[Bool.eq_false_iff.2 h,Bool.false_or];split
  ·rename_i h2;rw[beq_iff_eq.1 h2]
  ·rename_i h2;have h2: ¬Lib.index l S= -1:=(by simpa using h2);exact decide_eq_decide.2 (by omega)
theorem Ex (U:Str): ∀(w l:Str),(∀c∈w,c≠32)->Lib.contains (w++l) (YD U)=Lib.contains l (YD U)
 |[],l,_=>rfl
 |c::w,l,h=>by have hc:c≠32:=h c (by simp);rw[List.cons_append,De,Ex U w l (fun x hx=>h x (by simp[hx]))];have:(YD U).isPrefixOf (c::(w++l))=false:=(by show ((32==c)&&_)=false;rw[show ((32:UInt8)==c)=false by simpa using fun e=>hc e.symm];rfl);rw[this,Bool.false_or]
theorem Mn: ∀(U w r:Str),(∀c∈U,c≠32)->(∀c∈w,c≠32)->(U++[32]).isPrefixOf (w++32::r)=(U==w)
 |[],[],r,_,_=>rfl
 |[],c::w,r,_,hw=>by have hc:c≠32:=hw c (by simp);show (((32:UInt8)==c)&&_)=false;rw[show ((32:UInt8)==c)=false by simpa using fun e=>hc e.symm];rfl
 |c::U,[],r,hU,_=>by have hc:c≠32:=hU c (by simp);show ((c==32)&&_)=false;rw[show (c==32)=false by simpa using hc];rfl
 |c::U,d::w,r,hU,hw=>by have ih:=Mn U w r (fun x hx=>hU x (by simp[hx])) (fun x hx=>hw x (by simp[hx]));show ((c==d)&&(U++[32]).isPrefixOf (w++32::r))=_;rw[ih];rfl
def IT:List Str->Str
 |[]=>[32]
 |w::ws=>32::(w++IT ws)
theorem Lg: ∀ws,∃r,IT ws=32::r
 |[]=>⟨[],rfl⟩
 |_::_=>⟨_,rfl⟩
theorem DE (U:Str) (hU: ∀c∈U,c≠32): ∀ws:List Str,(∀w∈ws,∀c∈w,c≠32)->Lib.contains (IT ws) (YD U)=ws.any (U== ·)
 |[],_=>by show Lib.contains [32] (YD U)=false;rw[De];cases U<;>rfl
 |w::ws,h=>by
  have ih:=DE U hU ws (fun x hx=>h x (by simp[hx]));have hw:=h w (by simp);obtain ⟨r,hr⟩:=Lg ws;show Lib.contains (32::(w++IT ws)) (YD U)=_;rw[De,Ex U w _ hw,ih,List.any_cons]
  congr 1
  rw[hr];exact Mn U w r hU hw
theorem PJ (c:UInt8) (h:Ab c=true):Xq c≠32:=by have: ∀c:Fin 256,Ab (UInt8.ofNat c.val)=true->Xq (UInt8.ofNat c.val)≠32:=(by decide+kernel);have h2:=this ⟨c.toNat,c.toNat_lt⟩;simp only[UInt8.ofNat_toNat] at h2;exact h2 h
theorem IU {n:Str} (h:AP n=true): ∀c∈Xs n,c≠32:=by unfold AP at h;rw[Bool.and_eq_true,Bool.and_eq_true,List.all_eq_true] at h;intro c hc;unfold Xs at hc;obtain ⟨d,hd,rfl⟩:=List.mem_map.1 hc;exact PJ d (h.1.1 d hd)
def S8:List Str:=[AA,IH,Ci,AE,BD,CM]
def S9:List Str:=[Du,Dv,Cr,Gb,Gc,AZ]
theorem PK (U:Str) (hU: ∀c∈U,c≠32):Lib.contains [32,86,65,76,85,69,32,65,76,84,73,68,32,77,69,68,73,65,84,89,80,69,32,69,78,67,79,68,73,78,71,32,76,65,78,71,85,65,71,69,32,80,82,69,70,32] (YD U)=CI U:=by have:=DE U hU S8 (by decide);rw[show IT S8=[32,86,65,76,85,69,32,65,76,84,73,68,32,77,69,68,73,65,84,89,80,69,32,69,78,67,79,68,73,78,71,32,76,65,78,71,85,65,71,69,32,80,82,69,70,32] from rfl] at this;rw[this];simp[S8,CI,Bool.or_assoc]
theorem PL (U:Str) (hU: ∀c∈U,c≠32):Lib.contains [32,65,71,69,78,84,32,67,76,65,83,83,32,77,65,73,76,69,82,32,78,65,77,69,32,83,79,82,84,45,83,84,82,73,78,71,32,76,65,66,69,76,32] (YD U)=Eu U:=by have:=DE U hU S9 (by decide);rw[show IT S9=[32,65,71,69,78,84,32,67,76,65,83,83,32,77,65,73,76,69,82,32,78,65,77,69,32,83,79,82,84,45,83,84,82,73,78,71,32,76,65,66,69,76,32] from rfl] at this;rw[this];simp[S9,Eu,Bool.or_assoc]
def VQ (a b:Str) (two:Bool):Bool:=ET a 999&&(!two||ET b 999)
theorem TA (s:Str):Fq s=VQ (Lib.cut s [46]).1 (Lib.cut s [46]).2.1 (Lib.cut s [46]).2.2:=by
 unfold Lib.cut;rw[Lib.index_one];rcases DS 46 s with ⟨h1,h2⟩|⟨i,h1,h2,h3,h4⟩
 ·rw[h1,if_neg (by decide)];unfold Fq VQ;rw[Es 46 s h2];simp
 ·rw[h1,if_pos (by omega)];simp only[Int.toNat_natCast,List.length_cons,List.length_nil,Nat.zero_add];unfold Fq VQ;rw[GY 46 s i h3 h4];by_cases hb:(46:UInt8)∈s.drop (i+1)
  ·rw[RG _ 999 (by decide) hb];rcases DS 46 (s.drop (i+1)) with ⟨_,k2⟩|⟨j,_,_,k3,k4⟩
   ·exact absurd rfl (k2 46 hb)
   ·rw[GY 46 _ j k3 k4];have:1<=(pcs 46 ((s.drop (i+1)).drop (j+1))).length:=by
     have:=Ow 46 ((s.drop (i+1)).drop (j+1));omega
    rw[decide_eq_false (by simp only[List.length_cons];omega)];simp
  ·rw[Es 46 (s.drop (i+1)) (fun x hx e=>hb (by rw[<-e];exact hx))];simp
theorem KW (p:Pm) {U:Str} (h:Xs p.name=U):BS p=(!p.vals.isEmpty&&(!CI U||p.vals.length==1)&&p.vals.all (BH U)):=by unfold BS;rw[h]
theorem Ey (p:Pm) {U:Str} (h:Xs p.name=U) (hU:U=AA∨U=IH∨U=Ci∨U=AE):BS p=((p.vals.length:Int)==1):=by
 rw[KW p h];have h1:CI U=true:=(by rcases hU with rfl|rfl|rfl|rfl<;>rfl);have h2: ∀v,BH U v=true:=(by rcases hU with rfl|rfl|rfl|rfl<;>intro v<;>rfl);rw[h1,List.all_eq_true.2 (fun v _=>h2 v),Bool.and_true];rcases p.vals with _|⟨a,_|⟨b,r⟩⟩
 ·rfl
 ·rfl
 ·rw[show (((a::b::r:List Str).length:Int)==1)=false by simp;omega];simp
theorem Gl (p:Pm) {U:Str} (h:Xs p.name=U) (hU:CI U=true) (hl:p.vals.length≠1):BS p=false:=by rw[KW p h,hU];rw[show (p.vals.length==1)=false by simpa using hl];simp
theorem Mo (p:Pm) {U s:Str} (h:Xs p.name=U) (hv:p.vals=[s]):BS p=BH U s:=by rw[KW p h,hv];simp
theorem Gm (p:Pm) {U:Str} (h:Xs p.name=U) (hU:CI U=false):BS p=(!p.vals.isEmpty&&p.vals.all (BH U)):=by rw[KW p h,hU];simp
theorem Gn {U:Str} (h1:(U==BD)=false) (h2:(U==CM)=false) (h3:(U==Ae)=false) (h4:(U==Qc)=false) (v:Str):BH U v=true:=by unfold BH;rw[h1,h2,h3,h4];rfl
end Go.Proofs.YtjhpdljphchfaaaGreatDoor
