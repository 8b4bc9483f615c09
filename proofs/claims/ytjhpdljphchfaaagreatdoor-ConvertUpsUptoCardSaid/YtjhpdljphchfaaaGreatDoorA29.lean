/- A part of the proof of ConvertUps: An item in memory; what is asked of one that a walk meets. -/
import Derived.Test.YtjhpdljphchfaaaGreatDoorA28
import Derived.Test.YtjhpdljphchfaaaGreatDoorA24
import Derived.Test.YtjhpdljphchfaaaGreatDoorA27
import Derived.Test.YtjhpdljphchfaaaGreatDoorA32
set_option maxHeartbeats 40000000
set_option maxRecDepth 1000000
set_option linter.all false
namespace Go.Proofs.YtjhpdljphchfaaaGreatDoor
open Go.RowKit
open Go.Proofs.Tryz
theorem EI (v:Int) (w:World):Calls prog 77 #[Iv v] w fun e w'=>e= .returned (.bool (v==4))/\w=w':=by
 go_enter func77,ntmps77;go_wp2
 go_ret;exact ⟨rfl,rfl⟩
theorem Ni (s:Str) (w:World) (hs:s.length<=1073741824):Calls prog 78 #[Sv s] w fun e w'=>e= .returned (.bool (Dy s))/\Below w.heap.size w w':=by
 have HF:=hid (show Dy s=(Xs s==[66,69,71,73,78]||Xs s==[69,78,68]||Xs s==[86,69,82,83,73,79,78]) from rfl);go_enter func78,ntmps78;go_wp2_with fail;refine (Cl s _ hs).mono ?_;rintro e w1 ⟨rfl,hb⟩;obtain ⟨U,hU⟩: ∃U,Xs s=U:=⟨_,rfl⟩;rw[hU] at HF⊢;clear hU;obtain ⟨x,hx⟩: ∃x,(U==[66,69,71,73,78])=x:=⟨_,rfl⟩;obtain ⟨y,hy⟩: ∃y,(U==[69,78,68])=y:=⟨_,rfl⟩;obtain ⟨z,hz⟩: ∃z,(U==[86,69,82,83,73,79,78])=z:=⟨_,rfl⟩;rw[hx,hy,hz] at HF;cases x<;>cases y<;>cases z<;>
 ·go_wp2
  go_ret;exact ⟨AD (by rw[HF.out];rfl),hb⟩
theorem Kf: ∀(l:List Pm) (s:Str) (i:Nat),CF.go s i l= -1∨(i:Int)<=CF.go s i l
 |[],_,_=> .inl rfl
 |p::r,s,i=>by
  rw[CF.go];split
  ·exact .inr (Int.le_refl _)
  ·rcases Kf r s (i+1) with h|h
   ·exact .inl h
   ·exact .inr (by omega)
theorem Gu (l:List Pm) (s:Str) (A:Option Addr) (c:Nat) (w:World) (hv:Xv w w.heap.size (.slice A l.length c) l) (hl:l.length<=1073741824) (hn: ∀p∈l,p.name.length<=1073741824) (hs:s.length<=1073741824):
 Calls prog 42 #[.slice A l.length c,Sv s] w fun e w'=>e= .returned (Iv (CF l s))/\Below w.heap.size w w':=by
 have HM:=hid hn;have HV:=hid hv;clear hv hn;go_enter func42,ntmps42;go_wp2
 go_loopw [9] (fun i wr=> ∃k:Nat,k<=l.length/\i=Iv k/\Hid (CF l s=CF.go s k (l.drop k))/\Below w.heap.size w wr) (fun i _=>l.length-(intOf i).toNat);case atStart=>exact ⟨0,by omega,rfl,hid rfl,zB⟩
 case round=>
  obtain ⟨k,hk,rfl,HX,hb⟩:=hrel;have B2:=hb.size;by_cases B3:k<l.length
  ·obtain ⟨b,o,p,u,rfl,A8,hd,hc,A9,hu⟩:=HV.out.at_ B3;have G1:=(hb.cell (p:=(Ad b (o+k*2))) A8).trans hc;have FB:=(hb.cell (p:=(Ad b (o+k*2+1))) A8).trans A9;have DA:=HM.out p (List.mem_of_mem_drop (by rw[hd];simp));have HD:=hid hd;obtain ⟨A2,c2,hf⟩:=hu.form;subst hf;clear hc A9 hd hu;go_wp2_with fail;refine (Bh p.name s _ DA hs).mono ?_;rintro e w1 ⟨rfl,A1⟩;have AB:Below w.heap.size w w1:=(hb.alloc B2 _).trans (A1.mono (by simp;omega));clear A1;cases hm:AF p.name s with
   |true=>
    have HR:=hid (show CF l s=(k:Int) by rw[HX.out,HD.out,CF.go,hm];rfl);go_wp2
    go_ret;exact ⟨by rw[HR.out];rfl,AB⟩
   |false=>
    go_wp2
    go_roundw;case rel=>exact ⟨k+1,by omega,by go_num,hid (by rw[HX.out,HD.out,CF.go,hm];rfl),AB⟩
    case measure=>simp[intOf];omega
  ·obtain rfl:k=l.length:=(by omega);have HR:=hid (show CF l s= -1 by rw[HX.out,List.drop_length];rfl);go_wp2
   go_ret;exact ⟨by rw[HR.out];rfl,hb⟩
theorem Nj (a:Str):AF a a=true:=by unfold AF;simp
theorem Kg: ∀(l:List Pm) (s:Str) (i k:Nat) (p:Pm) (r:List Pm),l.drop k=p::r->AF p.name s=true->decide (CF.go s i l<((i+k:Nat):Int))=(l.take k).any (fun q=>AF q.name s)
 |l,s,i,0,p,r,hd,hp=>by rw[List.drop_zero] at hd;subst hd;rw[CF.go,hp,if_pos rfl];simp
 |[],s,i,k+1,p,r,hd,_=>by simp at hd
 |q::l,s,i,k+1,p,r,hd,hp=>by
  have DD:l.drop k=p::r:=(by simpa using hd);have ih:=Kg l s (i+1) k p r DD hp;rw[List.take_succ_cons,List.any_cons,CF.go];cases hq:AF q.name s with
  |true=>rw[if_pos rfl,Bool.true_or];exact decide_eq_true (by omega)
  |false=>
   rw[if_neg (by simp),Bool.false_or,<-ih]
   congr 2
   omega
theorem TH {l:List Pm} {k:Nat} {p:Pm} (hd:l.drop k=p::l.drop (k+1)):decide (CF l p.name<(k:Int))=(l.take k).any (fun q=>AF q.name p.name):=by have:=Kg l p.name 0 k p _ hd (Nj _);rw[Nat.zero_add] at this;exact this
def Yp (x:It) (pv qv:Value):Value:= .agg (IA x pv qv)
structure Yq (x:It):Prop where
 group:x.group.length<=134217728
 name:x.name.length<=134217728
 ps:Yb x.ps<=134217728
 text:x.val.text.length<=134217728
 parts:YV x.val.parts<=134217728
theorem Pb (s:St):(DI s).length<=1000:=by
 have h4: ∀n:Int,(BG n 4).length=4:=fun _=>rfl;have h2: ∀n:Int,(BG n 2).length=2:=fun _=>rfl;have hz: ∀n:Int,(CL n).length<=10:=fun n=>(by unfold CL;split<;>(try split)<;>simp[Qg]);unfold DI EY Cc;simp only;have:=hz s.zone;rw[List.length_append]
 repeat' split
 all_goals simp only[List.length_append,List.length_cons,List.length_nil,h4,h2]
 all_goals omega
theorem My {v:Vl} (h1:v.text.length<=134217728) (h2:YV v.parts<=134217728):(LE v).length<=268435456:=by
 unfold LE;have a1:=F5 v.text;have a2:=FN v.parts;have a3:=Pb v.st;have a4:(CL v.n).length<=10:=by unfold CL;split<;>(try split)<;>simp[Qg]
 repeat' split
 all_goals omega
theorem JS (x:It) (v:Int) (A:Option Addr) (c:Nat) (A':Option Addr) (c':Nat) (w:World) (hL:LD w) (hx:Yq x) (hl:Xw w w.heap.size (lP A' x c') x.val.parts) (hE:Bl x.val=0):
 Calls prog 82 #[Yp x (pP A x c) (lP A' x c'),Iv v] w fun e w'=>e= .returned (.tuple #[.agg #[Sv x.group,Sv x.name,pP A x c,.string ⟨(LE x.val).toArray⟩],.nilIface])/\Below w.heap.size w w':=by
 obtain ⟨g,n,ps,vl⟩:=x;have hv: ∀W,Below w.heap.size w W->SM W vl A' c':=fun W hW=>⟨hl.keep hW hW.size,hx.text,hx.parts⟩;have HV:=hid hv;have HE:=hid hE;clear hv hl hx hE;obtain ⟨ty,text,parts,⟨y,mo,d,h,mi,sc,zo,zn⟩,nn⟩:=vl;have AL:=hid (show Bl (⟨ty,text,parts,⟨y,mo,d,h,mi,sc,zo,zn⟩,nn⟩:Vl)=0 from HE.out);simp only[Yp];obtain ⟨Wa,A0⟩: ∃Wa,w.alloc (.cells #[Sv g,Sv n,.slice A ps.length c,Iv ty,Sv text,.slice A' parts.length c',Iv y,Iv mo,Iv d,Iv h,Iv mi,Iv sc,.bool zo,Iv zn,Iv nn] 44)=Wa:=⟨_,rfl⟩;have A5:Wa.heap.size=w.heap.size+1:=(by rw[<-A0];simp);have A7:Below w.heap.size w Wa:=(by rw[<-A0];exact zA);have a0:Wa.cell? (Ad w.heap.size 0)=some (Sv g):=(by rw[<-A0];simp);have a1:Wa.cell? (Ad w.heap.size 1)=some (Sv n):=(by rw[<-A0];simp);have a2:Wa.cell? (Ad w.heap.size 2)=some (.slice A ps.length c):=(by rw[<-A0];simp);have a3:Wa.cell? (Ad w.heap.size 3)=some (Iv ty):=(by rw[<-A0];simp);have a4:Wa.cell? (Ad w.heap.size 4)=some (Sv text):=(by rw[<-A0];simp);have a5:Wa.cell? (Ad w.heap.size 5)=some (.slice A' parts.length c'):=(by rw[<-A0];simp);have a6:Wa.cell? (Ad w.heap.size 6)=some (Iv y):=(by rw[<-A0];simp);have a7:Wa.cell? (Ad w.heap.size 7)=some (Iv mo):=(by rw[<-A0];simp);have a8:Wa.cell? (Ad w.heap.size 8)=some (Iv d):=(by rw[<-A0];simp);have a9:Wa.cell? (Ad w.heap.size 9)=some (Iv h):=(by rw[<-A0];simp);have AN:Wa.cell? (Ad w.heap.size 10)=some (Iv mi):=(by rw[<-A0];simp);have AV:Wa.cell? (Ad w.heap.size 11)=some (Iv sc):=(by rw[<-A0];simp);have AW:Wa.cell? (Ad w.heap.size 12)=some (.bool zo):=(by rw[<-A0];simp);have B0:Wa.cell? (Ad w.heap.size 13)=some (Iv zn):=(by rw[<-A0];simp);have B1:Wa.cell? (Ad w.heap.size 14)=some (Iv nn):=(by rw[<-A0];simp);obtain ⟨W0,A4⟩: ∃W0,Wa.alloc (.cells #[.string ⟨#[]⟩,.string ⟨#[]⟩,.slice none 0 0,.string ⟨#[]⟩] 47)=W0:=⟨_,rfl⟩;have DT:W0.heap.size=w.heap.size+2:=(by rw[<-A4];simp[A5]);have A3:Below Wa.heap.size Wa W0:=(by rw[<-A4];exact zA);have A6:Below w.heap.size w W0:=A7.trans (A3.mono A7.size);have b0:=(A3.cell (p:=(Ad w.heap.size 0)) (by simp;omega)).trans a0;have b1:=(A3.cell (p:=(Ad w.heap.size 1)) (by simp;omega)).trans a1;have b2:=(A3.cell (p:=(Ad w.heap.size 2)) (by simp;omega)).trans a2;have b3:=(A3.cell (p:=(Ad w.heap.size 3)) (by simp;omega)).trans a3;have b4:=(A3.cell (p:=(Ad w.heap.size 4)) (by simp;omega)).trans a4;have b5:=(A3.cell (p:=(Ad w.heap.size 5)) (by simp;omega)).trans a5;have b6:=(A3.cell (p:=(Ad w.heap.size 6)) (by simp;omega)).trans a6;have b7:=(A3.cell (p:=(Ad w.heap.size 7)) (by simp;omega)).trans a7;have b8:=(A3.cell (p:=(Ad w.heap.size 8)) (by simp;omega)).trans a8;have b9:=(A3.cell (p:=(Ad w.heap.size 9)) (by simp;omega)).trans a9;have E0:=(A3.cell (p:=(Ad w.heap.size 10)) (by simp;omega)).trans AN;have E1:=(A3.cell (p:=(Ad w.heap.size 11)) (by simp;omega)).trans AV;have E2:=(A3.cell (p:=(Ad w.heap.size 12)) (by simp;omega)).trans AW;have E3:=(A3.cell (p:=(Ad w.heap.size 13)) (by simp;omega)).trans B0;have E9:=(A3.cell (p:=(Ad w.heap.size 14)) (by simp;omega)).trans B1;have p0:W0.cell? (Ad (w.heap.size+1) 0)=some (.string ⟨#[]⟩):=(by rw[<-A4,<-A5];simp);have g0:W0.frozen? (Ad (w.heap.size+1) 0)=false:=(by rw[<-A4,<-A5];simp[World.frozen?,World.alloc, -World.alloc_eq]);have p1:W0.cell? (Ad (w.heap.size+1) 1)=some (.string ⟨#[]⟩):=(by rw[<-A4,<-A5];simp);have g1:W0.frozen? (Ad (w.heap.size+1) 1)=false:=(by rw[<-A4,<-A5];simp[World.frozen?,World.alloc, -World.alloc_eq]);have p2:W0.cell? (Ad (w.heap.size+1) 2)=some (.slice none 0 0):=(by rw[<-A4,<-A5];simp);have g2:W0.frozen? (Ad (w.heap.size+1) 2)=false:=(by rw[<-A4,<-A5];simp[World.frozen?,World.alloc, -World.alloc_eq]);have p3:W0.cell? (Ad (w.heap.size+1) 3)=some (.string ⟨#[]⟩):=(by rw[<-A4,<-A5];simp);have g3:W0.frozen? (Ad (w.heap.size+1) 3)=false:=(by rw[<-A4,<-A5];simp[World.frozen?,World.alloc, -World.alloc_eq]);clear HE A3 A7 a0 a1 a2 a3 a4 a5 a6 a7 a8 a9 AN AV AW B0 B1;go_enter func82,ntmps82;go_wp2_with fail;(try rw[A0]);(try rw[A5]);(try rw[A4]);clear A0 A4 A5;refine (PI (⟨ty,text,parts,⟨y,mo,d,h,mi,sc,zo,zn⟩,nn⟩:Vl) A' c' _ (hL.below A6) (HV.out _ A6) AL.out).mono ?_;rintro e w1 ⟨rfl,A1⟩;have F1:=A1.size;have F2:w.heap.size+1<w1.heap.size:=(by omega);have F3:=A6.trans (A1.mono A6.size);have r0:=(A1.cell (p:=(Ad w.heap.size 0)) (by simp;omega)).trans b0;have r1:=(A1.cell (p:=(Ad w.heap.size 1)) (by simp;omega)).trans b1;have r2:=(A1.cell (p:=(Ad w.heap.size 2)) (by simp;omega)).trans b2;have q0:=(A1.cell (p:=(Ad (w.heap.size+1) 0)) (by simp;omega)).trans p0;have f0:=(A1.frozen (p:=(Ad (w.heap.size+1) 0)) (by simp;omega)).trans g0;have q1:=(A1.cell (p:=(Ad (w.heap.size+1) 1)) (by simp;omega)).trans p1;have f1:=(A1.frozen (p:=(Ad (w.heap.size+1) 1)) (by simp;omega)).trans g1;have q2:=(A1.cell (p:=(Ad (w.heap.size+1) 2)) (by simp;omega)).trans p2;have f2:=(A1.frozen (p:=(Ad (w.heap.size+1) 2)) (by simp;omega)).trans g2;have q3:=(A1.cell (p:=(Ad (w.heap.size+1) 3)) (by simp;omega)).trans p3;have f3:=(A1.frozen (p:=(Ad (w.heap.size+1) 3)) (by simp;omega)).trans g3;clear b0 b1 b2 b3 b4 b5 b6 b7 b8 b9 E0 E1 E2 E3 E9 p0 g0 p1 g1 p2 g2 p3 g3;obtain ⟨T,hT⟩: ∃T,LE (⟨ty,text,parts,⟨y,mo,d,h,mi,sc,zo,zn⟩,nn⟩:Vl)=T:=⟨_,rfl⟩;have F4:=hid hT;rw[hT];clear A1 A6 F1 hT HV AL hL DT;go_wp2;exact bodyPost_ret (v:= .tuple #[.agg #[Sv g,Sv n,.slice A ps.length c,Sv T],.nilIface]) (by simp[results,results82,go_sem,q0,q1,q2,q3,F2]) rfl ⟨by rw[<-F4.out],(((F3.setCell (p:=(Ad (w.heap.size+1) 0)) (by simp) _).setCell (p:=(Ad (w.heap.size+1) 1)) (by simp) _).setCell (p:=(Ad (w.heap.size+1) 2)) (by simp) _).setCell (p:=(Ad (w.heap.size+1) 3)) (by simp) _⟩
structure ItC (w:World) (G:Nat) (x:It) (pv qv:Value):Prop where
 c0:w.cell? (Ad G 0)=some (Sv x.group)
 c1:w.cell? (Ad G 1)=some (Sv x.name)
 c2:w.cell? (Ad G 2)=some (pv)
 c3:w.cell? (Ad G 3)=some (Iv x.val.type)
 c4:w.cell? (Ad G 4)=some (Sv x.val.text)
 c5:w.cell? (Ad G 5)=some (qv)
 c6:w.cell? (Ad G 6)=some (Iv x.val.st.y)
 c7:w.cell? (Ad G 7)=some (Iv x.val.st.mo)
 c8:w.cell? (Ad G 8)=some (Iv x.val.st.d)
 c9:w.cell? (Ad G 9)=some (Iv x.val.st.h)
 c10:w.cell? (Ad G 10)=some (Iv x.val.st.mi)
 c11:w.cell? (Ad G 11)=some (Iv x.val.st.s)
 c12:w.cell? (Ad G 12)=some (.bool x.val.st.zoned)
 c13:w.cell? (Ad G 13)=some (Iv x.val.st.zone)
 c14:w.cell? (Ad G 14)=some (Iv x.val.n)
 lt:G<w.heap.size
theorem ItC.keep {w w':World} {G B:Nat} {x:It} {pv qv:Value} (h:ItC w G x pv qv) (hb:Below B w w') (hB:G<B):ItC w' G x pv qv:=
 ⟨(hb.cell (p:=(Ad G 0)) hB).trans h.c0,(hb.cell (p:=(Ad G 1)) hB).trans h.c1,(hb.cell (p:=(Ad G 2)) hB).trans h.c2,(hb.cell (p:=(Ad G 3)) hB).trans h.c3,(hb.cell (p:=(Ad G 4)) hB).trans h.c4,(hb.cell (p:=(Ad G 5)) hB).trans h.c5,(hb.cell (p:=(Ad G 6)) hB).trans h.c6,(hb.cell (p:=(Ad G 7)) hB).trans h.c7,(hb.cell (p:=(Ad G 8)) hB).trans h.c8,(hb.cell (p:=(Ad G 9)) hB).trans h.c9,(hb.cell (p:=(Ad G 10)) hB).trans h.c10,(hb.cell (p:=(Ad G 11)) hB).trans h.c11,(hb.cell (p:=(Ad G 12)) hB).trans h.c12,(hb.cell (p:=(Ad G 13)) hB).trans h.c13,(hb.cell (p:=(Ad G 14)) hB).trans h.c14,Nat.lt_of_lt_of_le h.lt hb.size⟩
theorem ItC.new (w:World) (x:It) (pv qv:Value):ItC (w.alloc (.cells (IA x pv qv) 44)) w.heap.size x pv qv:=
 ⟨Bc _ _ _ _ rfl,Bc _ _ _ _ rfl,Bc _ _ _ _ rfl,Bc _ _ _ _ rfl,Bc _ _ _ _ rfl,Bc _ _ _ _ rfl,Bc _ _ _ _ rfl,Bc _ _ _ _ rfl,Bc _ _ _ _ rfl,Bc _ _ _ _ rfl,Bc _ _ _ _ rfl,Bc _ _ _ _ rfl,Bc _ _ _ _ rfl,Bc _ _ _ _ rfl,Bc _ _ _ _ rfl,by simp⟩
structure OE (w:World) (x:It) (A:Option Addr) (c:Nat) (A':Option Addr) (c':Nat):Prop where
 pms:Xv w w.heap.size (pP A x c) x.ps
 lls:Xw w w.heap.size (lP A' x c') x.val.parts
 b:Yq x
theorem OE.keep {w w':World} {x:It} {A:Option Addr} {c:Nat} {A':Option Addr} {c':Nat} (h:OE w x A c A' c') (hb:Below w.heap.size w w'):OE w' x A c A' c':=
 ⟨h.pms.keep hb hb.size,h.lls.keep hb hb.size,h.b⟩
theorem OE.vl {w:World} {x:It} {A:Option Addr} {c:Nat} {A':Option Addr} {c':Nat} (h:OE w x A c A' c'):SM w x.val A' c':=⟨h.lls,h.b.text,h.b.parts⟩
theorem Ki {ps:List Pm} (h:Yb ps<=134217728): ∀p∈ps,p.name.length<=1073741824/\ ∀s∈p.vals,s.length<=1073741824:=fun p hp=>by have h1:=Bp hp;have h2:=Bd p;have h3:=DC p;exact ⟨by omega,fun s hs=>by have:=C2 hs;omega⟩
theorem Kj (seen:List Pm) (p:Pm) (r:List Pm) (h:BS p=false):B7 seen (p::r)=3:=by rw[B7,h];rfl
theorem Pf (seen:List Pm) (p:Pm) (r:List Pm) (h:BS p=true) (h1:AF p.name Ae=false) (h2:seen.any (fun q=>AF q.name p.name)=true):B7 seen (p::r)=9:=by rw[B7,h,h1,h2];rfl
theorem Ie (seen:List Pm) (p:Pm) (r:List Pm) (h:BS p=true) (h1:AF p.name Ae=true∨seen.any (fun q=>AF q.name p.name)=false):B7 seen (p::r)=B7 (seen++[p]) r:=by
 rw[B7,h];rcases h1 with h1|h1
 ·rw[h1];rfl
 ·rw[h1,Bool.and_false];rfl
theorem DP {α:Type} {l:List α} {k:Nat} {p:α} (hd:l.drop k=p::l.drop (k+1)):l.take k++[p]=l.take (k+1):=by have hk:k<l.length:=Classical.byContradiction fun hc=>(by rw[List.drop_eq_nil_of_le (by omega)] at hd;cases hd);rw[List.take_succ_eq_append_getElem hk];rw[List.drop_eq_getElem_cons hk] at hd;injection hd with h1 _;rw[h1]
theorem Gx {x:It} {v:Int} {e:Int} (h:(BZ x.group x.name x.ps [] (v==4)).1=e) (he:e≠0):CY x v=e:=by unfold CY;rw[h,if_pos he]
theorem Dg {x:It} {v:Int} (h:(BZ x.group x.name x.ps [] (v==4)).1=0) (h2:Dy x.name=true):CY x v=5:=by unfold CY;rw[h,if_neg (by decide),if_pos h2]
theorem Pg {x:It} {v:Int} (h:(BZ x.group x.name x.ps [] (v==4)).1=0) (h2:Dy x.name=false):
 CY x v=if B7 [] x.ps≠0 then B7 [] x.ps else if Cs x.name x.ps v≠x.val.type then 1 else if Bl x.val≠0 then Bl x.val else if x.val.type=3/\0<(AR x.name v).parts/\(x.val.parts.length:Int)≠(AR x.name v).parts then 2 else if 1500<(Bx x v).length then 4 else 0:=by
 unfold CY;rw[h,if_neg (by decide),if_neg (by rw[h2];decide)]
theorem TJ (w:World) {e:Int} (he:e≠0):Aj w (J2 e) e (-1):= .inr (.inl ⟨he,rfl,by unfold J2;rw[if_neg he]⟩)
theorem Ph {e:Int} (he:e≠0):J2 e= .iface 26 (Iv e):=by unfold J2;rw[if_neg he]
end Go.Proofs.YtjhpdljphchfaaaGreatDoor
