/- A part of the proof of ConvertUps: Plain words for cards (no program in sight): names, texts, code points, parameters, values, items, cards. -/
import Derived.Lib.DecodeN
import Derived.Lib.Hide
import Derived.WalkKit
import Derived.Lib.Bytealg
import Derived.Lib.AtoiAll
import Derived.Lib.ItoaNum
set_option maxHeartbeats 40000000
set_option maxRecDepth 1000000
set_option linter.all false
namespace Go.Proofs.YtjhpdljphchfaaaGreatDoor
open Go.RowKit
abbrev Ad (b o:Nat):Addr:=⟨b,o,none⟩
abbrev Iv (n:Int):Value:= .int .i64 n
abbrev Sv (s:List UInt8):Value:= .string ⟨s.toArray⟩
abbrev Str:=List UInt8
structure Pm where
 name:Str
 vals:List Str
structure St where
 y:Int
 mo:Int
 d:Int
 h:Int
 mi:Int
 s:Int
 zoned:Bool
 zone:Int
structure Vl where
 type:Int
 text:Str
 parts:List (List Str)
 st:St
 n:Int
structure It where
 group:Str
 name:Str
 ps:List Pm
 val:Vl
structure Cd where
 version:Int
 items:List It
instance :Inhabited Pm:=⟨⟨[],[]⟩⟩
instance :Inhabited St:=⟨⟨0,0,0,0,0,0,false,0⟩⟩
instance :Inhabited Vl:=⟨⟨0,[],[],default,0⟩⟩
instance :Inhabited It:=⟨⟨[],[],[],default⟩⟩
instance :Inhabited Cd:=⟨⟨0,[]⟩⟩
def Ab (c:UInt8):Bool:=decide ((97<=c.toNat/\c.toNat<=122)∨(65<=c.toNat/\c.toNat<=90)∨(48<=c.toNat/\c.toNat<=57)∨c.toNat=45)
def AP (l:Str):Bool:=l.all Ab&& !l.isEmpty&&decide (l.length<=40)
def Xq (c:UInt8):UInt8:=if 97<=c.toNat/\c.toNat<=122 then c- 32 else c
def Xr (c:UInt8):UInt8:=if 65<=c.toNat/\c.toNat<=90 then c+32 else c
def Xs (l:Str):Str:=l.map Xq
def loS (l:Str):Str:=l.map Xr
def AF (a b:Str):Bool:=Xs a==Xs b
def nx (l:Str):Nat:=
 if l=[] then 0 else
  let d:=Lib.decodeN l.length (l.getD 0 0).toNat (l.getD 1 0).toNat (l.getD 2 0).toNat (l.getD 3 0).toNat
  if d=(65533,1) then 0 else d.2
def GF:Nat->Str->Bool
 |0,_=>true
 |n+1,l=>l.isEmpty||(nx l != 0&&GF n (l.drop (nx l)))
def B4 (l:Str):Bool:=GF l.length l
def ctl (c:UInt8):Bool:=decide ((c.toNat<32/\c.toNat≠9)∨c.toNat=127)
def Jq (l:Str):Bool:=l.all fun c=> !ctl c
def BB (l:Str):Bool:=Jq l&&B4 l
def Jn (c:UInt8):Str:=if c=94 then [94,94] else if c=10 then [94,110] else if c=34 then [94,39] else [c]
def Fk (l:Str):Str:=l.flatMap Jn
def BI (l:Str) (carets:Bool):Bool:=
 let s:=if carets then Fk l else l
 BB s&& !s.contains 34
def Dj (carets:Bool) (p:Pm):Int:=
 if AP p.name then (if p.vals=[] then 8 else if p.vals.all (BI · carets) then 0 else 3) else 5
def Az (carets:Bool):Nat->List Pm->Option (Int×Int)
 |_,[]=>none
 |i,p::r=>if Dj carets p=0 then Az carets (i+1) r else some (Dj carets p,(i:Int))
def BZ (group name:Str) (ps:List Pm) (value:Str) (carets:Bool):Int×Int:=
 if !AP name||(!group.isEmpty&& !AP group) then (5, -1)
 else if 20<ps.length then (4, -1)
 else match Az carets 0 ps with
  |some f=>f
  |none=>if BB value then (0, -1) else (3, -1)
def OG (v:Str):Str:=if v.any (fun c=>c==44||c==59||c==58) then 34::(v++[34]) else v
def GG (carets:Bool) (v:Str):Str:=OG (if carets then Fk v else v)
def Hk:List Str->Str
 |[]=>[]
 |[v]=>v
 |v::r=>v++44::Hk r
def GH (carets:Bool) (p:Pm):Str:=59::(p.name++61::Hk (p.vals.map (GG carets)))
def OH (group name:Str) (ps:List Pm) (value:Str) (carets:Bool):Str:=
 (if group.isEmpty then [] else group++[46])++name++ps.flatMap (GH carets)++58::value
def DH (group name:Str) (ps:List Pm) (value:Str) (carets:Bool):Str:=
 if (BZ group name ps value carets).1=0 then OH group name ps value carets else []
def CK (first:Bool):Nat->Str->Int
 |n,[]=>if n=0 then 7 else if 8<n then 4 else 0
 |n,c::r=>if c≠45 then (if !Ab c||(first&&decide (c.toNat<=57)) then 3 else CK first (n+1) r) else if n=0 then 7 else if 8<n then 4 else CK false 0 r
def Bf (l:Str):Int:=CK true 0 l
def Av (n:Int):Bool:=decide (-840<=n)&&decide (n<=840)
def Qg (n:Int):Str:=[UInt8.ofNat (48+(n/10).toNat),UInt8.ofNat (48+(n%10).toNat)]
def CL (n:Int):Str:=if n=0 then [90] else if n<0 then 45::(Qg (-n/60)++Qg (-n%60)) else 43::(Qg (n/60)++Qg (n%60))
def BG (n:Int):Nat->Str
 |0=>[]
 |k+1=>BG (n/10) k++[UInt8.ofNat (48+(n%10).toNat)]
def BO (a b c:Int):Str:=[a,b,c].map fun n=>if n= -1 then 45 else 57
def BC (y m:Int):Int:=
 if m<1∨12<m then 0
 else if m=2 then (if y≠ -1/\ ¬(y%4=0/\(y%100≠0∨y%400=0)) then 28 else 29)
 else if m=4∨m=6∨m=9∨m=11 then 30 else 31
def Xt (n lo hi:Int):Bool:=n== -1||(decide (lo<=n)&&decide (n<=hi))
def T0 (d:Str):Bool:=[[57,57,57],[45,57,57],[45,45,57]].contains d
def T1 (d:Str):Bool:=[[57,45,45],[57,57,45],[57,57,57]].contains d
def T2 (d:Str):Bool:=d !=[57,45,57]
def Bk (d t:Str):Bool:=
 if d !=[45,45,45]&&t !=[45,45,45] then T0 d&&T1 t
 else d != t&&T2 d&&T2 t
def B5 (s:St):Int:=
 if !Bk (BO s.y s.mo s.d) (BO s.h s.mi s.s)||(s.zoned&&s.h== -1)||(!s.zoned&&s.zone != 0) then 3
 else if Xt s.y 0 9999&&Xt s.mo 1 12&&Xt s.d 1 (if s.mo= -1 then 31 else BC s.y s.mo)&&Xt s.h 0 23&&Xt s.mi 0 59&&Xt s.s 0 59&&Av s.zone then 0 else 2
def EY (s:St):Str:=
 let d:=BO s.y s.mo s.d
 if d=[57,45,45] then BG s.y 4
 else if d=[57,57,45] then BG s.y 4++45::BG s.mo 2
 else if d=[57,57,57] then BG s.y 4++BG s.mo 2++BG s.d 2
 else if d=[45,57,45] then 45::45::BG s.mo 2
 else if d=[45,57,57] then 45::45::(BG s.mo 2++BG s.d 2)
 else if d=[45,45,57] then 45::45::45::BG s.d 2
 else []
def Cc (s:St):Str:=
 let t:=BO s.h s.mi s.s
 if t=[57,45,45] then BG s.h 2
 else if t=[57,57,45] then BG s.h 2++BG s.mi 2
 else if t=[57,57,57] then BG s.h 2++BG s.mi 2++BG s.s 2
 else if t=[45,57,45] then 45::BG s.mi 2
 else if t=[45,57,57] then 45::(BG s.mi 2++BG s.s 2)
 else if t=[45,45,57] then 45::45::BG s.s 2
 else []
def DI (s:St):Str:=
 EY s++(if BO s.h s.mi s.s=[45,45,45] then [] else 84::(Cc s++if s.zoned then CL s.zone else []))
def LC (c:UInt8):Str:=if c=92∨c=44∨c=59 then [92,c] else if c=10 then [92,110] else [c]
def Cz (l:Str):Str:=l.flatMap LC
def Bt (sep:UInt8):List Str->Str
 |[]=>[]
 |[v]=>v
 |v::r=>v++sep::Bt sep r
def EQ (ps:List (List Str)):Str:=Bt 59 (ps.map fun l=>Bt 44 (l.map Cz))
def Ck (c:UInt8):Bool:=decide ((97<=c.toNat/\c.toNat<=122)∨(65<=c.toNat/\c.toNat<=90))
def GI (c:UInt8):Bool:=decide ((48<=c.toNat/\c.toNat<=57)∨c.toNat=43∨c.toNat=45∨c.toNat=46)
def Aa:Nat->Str->Nat
 |_,[]=>0
 |i,c::r=>if c=58 then i else if Ck c||(decide (0<i)&&GI c) then Aa (i+1) r else 0
def AJ (l:Str):Nat:=Aa 0 l
def Xu (c:UInt8):Bool:=decide (33<=c.toNat/\c.toNat<=126)
def DG (l:Str):Int:=
 if AJ l=0 then 8 else if !l.all Xu then 3 else if AJ l+1=l.length then 7 else 0
def OB (lines:Bool) (c:UInt8):Bool:=decide ((c.toNat<32/\c.toNat≠9/\(c.toNat≠10∨lines=false))∨c.toNat=127)
def AQ (l:Str) (lines:Bool):Bool:=(l.all fun c=> !OB lines c)&&B4 l
def El (s:St):Bool:=s.y==0&&s.mo==0&&s.d==0&&s.h==0&&s.mi==0&&s.s==0&& !s.zoned&&s.zone==0
def Iy (v:Vl):Bool:=
 (v.type==1||v.type==4||v.type==7||v.type==8||v.text.isEmpty)&&(v.type==2||v.type==3||v.parts.isEmpty)&&(v.type==5||El v.st)&&(v.type==6||v.n==0)
def Bl (v:Vl):Int:=
 if v.type<1∨8<v.type∨Iy v=false then 1
 else if v.type=2∨v.type=3 then
  (if v.parts=[]∨(v.type=2/\v.parts.length≠1) then 8 else if v.parts.any (·.isEmpty) then 8 else if v.parts.all (·.all (AQ · true)) then 0 else 3)
 else if v.type=4 then DG v.text
 else if v.type=5 then B5 v.st
 else if v.type=6 then (if Av v.n then 0 else 2)
 else if v.type=7 then Bf v.text
 else if AQ v.text (v.type==1) then 0 else 3
def LE (v:Vl):Str:=
 if v.type=1 then Cz v.text else if v.type=2∨v.type=3 then EQ v.parts else if v.type=5 then DI v.st else if v.type=6 then CL v.n else v.text
structure Ru where
 type:Int
 least:Int
 most:Int
 parts:Int
instance :Inhabited Ru:=⟨⟨0,0,0,0⟩⟩
def CF (l:List Pm) (s:Str):Int:=go 0 l where
 go:Nat->List Pm->Int
 |_,[]=> -1
 |i,p::r=>if AF p.name s then (i:Int) else go (i+1) r
abbrev IA (x:It) (p q:Value):Array Value:= #[.string ⟨x.group.toArray⟩,.string ⟨x.name.toArray⟩,p,.int .i64 x.val.type,.string ⟨x.val.text.toArray⟩,q,.int .i64 x.val.st.y,.int .i64 x.val.st.mo,.int .i64 x.val.st.d,.int .i64 x.val.st.h,.int .i64 x.val.st.mi,.int .i64 x.val.st.s,.bool x.val.st.zoned,.int .i64 x.val.st.zone,.int .i64 x.val.n]
abbrev VA (v:Vl) (q:Value):Array Value:= #[.int .i64 v.type,.string ⟨v.text.toArray⟩,q,.int .i64 v.st.y,.int .i64 v.st.mo,.int .i64 v.st.d,.int .i64 v.st.h,.int .i64 v.st.mi,.int .i64 v.st.s,.bool v.st.zoned,.int .i64 v.st.zone,.int .i64 v.n]
abbrev Z15:Array Value:= #[.string ⟨#[]⟩,.string ⟨#[]⟩,.slice none 0 0,.int .i64 0,.string ⟨#[]⟩,.slice none 0 0,.int .i64 0,.int .i64 0,.int .i64 0,.int .i64 0,.int .i64 0,.int .i64 0,.bool false,.int .i64 0,.int .i64 0]
abbrev pP (A:Option Addr) (x:It) (c:Nat):Value:= .slice A x.ps.length c
abbrev lP (A:Option Addr) (x:It) (c:Nat):Value:= .slice A x.val.parts.length c
abbrev vP (A:Option Addr) (p:Pm) (c:Nat):Value:= .slice A p.vals.length c
abbrev sW (S:Nat->Prop) (w:World):Prop:= ∀k,S k->k<w.heap.size
section
def Sl (w:World) (B size:Nat) (v:Value) (n:Nat) (f:Nat->Nat->Value):Prop:=
 ∃A c,v= .slice A n c/\n<=c/\(0<n-> ∃b o,A=some (Ad b o)/\b<B/\ ∀i,i<n-> ∀j,j<size->w.cell? (Ad b (o+i*size+j))=some (f i j))
section
variable {w w':World} {B B' size n:Nat} {v:Value} {f g:Nat->Nat->Value}
theorem Sl.keep (h:Sl w B size v n f) (hb:Below B w w') (hB:B<=B'):Sl w' B' size v n f:=by obtain ⟨A,c,e,hc,h⟩:=h;refine ⟨A,c,e,hc,fun hn=> ?_⟩;obtain ⟨b,o,e,hl,h⟩:=h hn;exact ⟨b,o,e,by omega,fun i hi j hj=>(hb.cell (p:=(Ad b (o+i*size+j))) hl).trans (h i hi j hj)⟩
theorem Sl.form (h:Sl w B size v n f): ∃A c,v= .slice A n c:=let ⟨A,c,e,_⟩:=h;⟨A,c,e⟩
theorem Sl.congr (h:Sl w B size v n f) (e: ∀i,i<n-> ∀j,j<size->f i j=g i j):Sl w B size v n g:=by obtain ⟨A,c,e1,hc,h⟩:=h;refine ⟨A,c,e1,hc,fun hn=> ?_⟩;obtain ⟨b,o,e2,hl,h⟩:=h hn;exact ⟨b,o,e2,hl,fun i hi j hj=>by rw[h i hi j hj,e i hi j hj]⟩
theorem Sl.nil:Sl w B size (.slice none 0 0) 0 f:=⟨none,0,rfl,Nat.le_refl _,fun h=>absurd h (Nat.lt_irrefl _)⟩
theorem Sl.at_ {A:Option Addr} {c k:Nat} (h:Sl w B size (.slice A n c) n f) (hk:k<n):
 ∃b o,A=some (Ad b o)/\b<B/\ ∀j,j<size->w.cell? (Ad b (o+k*size+j))=some (f k j):=by
 obtain ⟨A',c',e,_,h⟩:=h;obtain ⟨b,o,e2,hl,h⟩:=h (by omega);simp only[Value.slice.injEq] at e;exact ⟨b,o,e.1.trans e2,hl,h k hk⟩
end
def CD (w:World) (B:Nat) (v:Value) (l:List Str):Prop:=Sl w B 1 v l.length fun i _=> .string ⟨(l.getD i []).toArray⟩
def Xv (w:World) (B:Nat) (v:Value) (ps:List Pm):Prop:=
 ∃vs:Nat->Value,(Sl w B 2 v ps.length fun i j=>if j=0 then .string ⟨(ps.getD i default).name.toArray⟩ else vs i)/\ ∀i,i<ps.length->CD w B (vs i) (ps.getD i default).vals
def Xw (w:World) (B:Nat) (v:Value) (l:List (List Str)):Prop:=
 ∃vs:Nat->Value,(Sl w B 1 v l.length fun i _=>vs i)/\ ∀i,i<l.length->CD w B (vs i) (l.getD i [])
def Xx (x:It) (pv qv:Value):List Value:=
 [Sv x.group,Sv x.name,pv,Iv x.val.type,Sv x.val.text,qv,Iv x.val.st.y,Iv x.val.st.mo,Iv x.val.st.d,Iv x.val.st.h,Iv x.val.st.mi,Iv x.val.st.s,.bool x.val.st.zoned,Iv x.val.st.zone,Iv x.val.n]
def Its (w:World) (B:Nat) (v:Value) (l:List It):Prop:=
 ∃pv qv:Nat->Value,(Sl w B 15 v l.length fun i j=>(Xx (l.getD i default) (pv i) (qv i)).getD j undef)/\ ∀i,i<l.length->Xv w B (pv i) (l.getD i default).ps/\Xw w B (qv i) (l.getD i default).val.parts
section
variable {w w':World} {B B':Nat} {v:Value}
theorem CD.keep {l:List Str} (h:CD w B v l) (hb:Below B w w') (hB:B<=B'):CD w' B' v l:=Sl.keep h hb hB
theorem Xv.keep {l:List Pm} (h:Xv w B v l) (hb:Below B w w') (hB:B<=B'):Xv w' B' v l:=
 let ⟨vs,h1,h2⟩:=h;⟨vs,h1.keep hb hB,fun i hi=>(h2 i hi).keep hb hB⟩
theorem Xw.keep {l:List (List Str)} (h:Xw w B v l) (hb:Below B w w') (hB:B<=B'):Xw w' B' v l:=
 let ⟨vs,h1,h2⟩:=h;⟨vs,h1.keep hb hB,fun i hi=>(h2 i hi).keep hb hB⟩
theorem Its.keep {l:List It} (h:Its w B v l) (hb:Below B w w') (hB:B<=B'):Its w' B' v l:=
 let ⟨pv,qv,h1,h2⟩:=h;⟨pv,qv,h1.keep hb hB,fun i hi=>⟨(h2 i hi).1.keep hb hB,(h2 i hi).2.keep hb hB⟩⟩
theorem CD.form {l:List Str} (h:CD w B v l): ∃A c,v= .slice A l.length c:=Sl.form h
theorem Xv.form {l:List Pm} (h:Xv w B v l): ∃A c,v= .slice A l.length c:=let ⟨_,h1,_⟩:=h;h1.form
theorem Xw.form {l:List (List Str)} (h:Xw w B v l): ∃A c,v= .slice A l.length c:=let ⟨_,h1,_⟩:=h;h1.form
theorem Its.form {l:List It} (h:Its w B v l): ∃A c,v= .slice A l.length c:=let ⟨_,_,h1,_⟩:=h;h1.form
theorem CD.nil:CD w B (.slice none 0 0) []:=Sl.nil
theorem Xv.nil:Xv w B (.slice none 0 0) []:=⟨fun _=>undef,Sl.nil,fun _ h=>absurd h (Nat.not_lt_zero _)⟩
theorem Xw.nil:Xw w B (.slice none 0 0) []:=⟨fun _=>undef,Sl.nil,fun _ h=>absurd h (Nat.not_lt_zero _)⟩
theorem Its.nil:Its w B (.slice none 0 0) []:=⟨fun _=>undef,fun _=>undef,Sl.nil,fun _ h=>absurd h (Nat.not_lt_zero _)⟩
theorem CD.at_ {l:List Str} {A:Option Addr} {c k:Nat} (h:CD w B (.slice A l.length c) l) (hk:k<l.length):
 ∃b o s,A=some (Ad b o)/\b<B/\l.drop k=s::l.drop (k+1)/\w.cell? (Ad b (o+k))=some (Sv s):=by
 obtain ⟨b,o,e,hl,hc⟩:=Sl.at_ h hk;have:=hc 0 (by omega);rw[Nat.mul_one,Nat.add_zero] at this;exact ⟨b,o,l[k],e,hl,List.drop_eq_getElem_cons hk,by rw[this];simp[List.getD,List.getElem?_eq_getElem hk]⟩
theorem Xv.at_ {l:List Pm} {A:Option Addr} {c k:Nat} (h:Xv w B (.slice A l.length c) l) (hk:k<l.length):
 ∃b o p u,A=some (Ad b o)/\b<B/\l.drop k=p::l.drop (k+1)/\w.cell? (Ad b (o+k*2))=some (Sv p.name)/\w.cell? (Ad b (o+k*2+1))=some u/\CD w B u p.vals:=by
 obtain ⟨vs,h1,h2⟩:=h;obtain ⟨b,o,e,hl,hc⟩:=h1.at_ hk;have c0:=hc 0 (by omega);have c1:=hc 1 (by omega);have h2:=h2 k hk;have hg:l.getD k default=l[k]:=(by simp[List.getD,List.getElem?_eq_getElem hk]);rw[hg] at c0 h2;exact ⟨b,o,l[k],vs k,e,hl,List.drop_eq_getElem_cons hk,by simpa using c0,by simpa using c1,h2⟩
theorem Xw.at_ {l:List (List Str)} {A:Option Addr} {c k:Nat} (h:Xw w B (.slice A l.length c) l) (hk:k<l.length):
 ∃b o x u,A=some (Ad b o)/\b<B/\l.drop k=x::l.drop (k+1)/\w.cell? (Ad b (o+k))=some u/\CD w B u x:=by
 obtain ⟨vs,h1,h2⟩:=h;obtain ⟨b,o,e,hl,hc⟩:=h1.at_ hk;have c0:=hc 0 (by omega);have h2:=h2 k hk;have hg:l.getD k []=l[k]:=(by simp[List.getD,List.getElem?_eq_getElem hk]);rw[hg] at h2;exact ⟨b,o,l[k],vs k,e,hl,List.drop_eq_getElem_cons hk,by simpa using c0,h2⟩
structure Dn (w:World) (b o:Nat) (x:It) (pv qv:Value):Prop where
 c0:w.cell? (Ad b o)=some (Sv x.group)
 c1:w.cell? (Ad b (o+1))=some (Sv x.name)
 c2:w.cell? (Ad b (o+2))=some pv
 c3:w.cell? (Ad b (o+3))=some (Iv x.val.type)
 c4:w.cell? (Ad b (o+4))=some (Sv x.val.text)
 c5:w.cell? (Ad b (o+5))=some qv
 c6:w.cell? (Ad b (o+6))=some (Iv x.val.st.y)
 c7:w.cell? (Ad b (o+7))=some (Iv x.val.st.mo)
 c8:w.cell? (Ad b (o+8))=some (Iv x.val.st.d)
 c9:w.cell? (Ad b (o+9))=some (Iv x.val.st.h)
 c10:w.cell? (Ad b (o+10))=some (Iv x.val.st.mi)
 c11:w.cell? (Ad b (o+11))=some (Iv x.val.st.s)
 c12:w.cell? (Ad b (o+12))=some (.bool x.val.st.zoned)
 c13:w.cell? (Ad b (o+13))=some (Iv x.val.st.zone)
 c14:w.cell? (Ad b (o+14))=some (Iv x.val.n)
theorem Its.at_ {l:List It} {A:Option Addr} {c k:Nat} (h:Its w B (.slice A l.length c) l) (hk:k<l.length):
 ∃b o x pv qv,A=some (Ad b o)/\b<B/\l.drop k=x::l.drop (k+1)/\Dn w b (o+k*15) x pv qv/\Xv w B pv x.ps/\Xw w B qv x.val.parts:=by
 obtain ⟨pv,qv,h1,h2⟩:=h;obtain ⟨b,o,e,hl,hc⟩:=h1.at_ hk;have h2:=h2 k hk;have hg:l.getD k default=l[k]:=(by simp[List.getD,List.getElem?_eq_getElem hk]);rw[hg] at hc h2;exact ⟨b,o,l[k],pv k,qv k,e,hl,List.drop_eq_getElem_cons hk,
  ⟨hc 0 (by omega),hc 1 (by omega),hc 2 (by omega),hc 3 (by omega),hc 4 (by omega),hc 5 (by omega),hc 6 (by omega),hc 7 (by omega),hc 8 (by omega),hc 9 (by omega),hc 10 (by omega),hc 11 (by omega),hc 12 (by omega),hc 13 (by omega),hc 14 (by omega)⟩,h2.1,h2.2⟩
end
theorem zL {n:Nat}:n<=n:=Nat.le_refl n
theorem zB {k:Nat} {w:World}:Below k w w:=Below.refl _ _
theorem zA {w:World} {o:Obj}:Below w.heap.size w (w.alloc o):=(Below.refl _ _).alloc (Nat.le_refl _) _
end
structure Put (C:Prop) where
 G:Prop
 pf:G->C
structure PG (G:Prop):Prop where
 out:G
theorem Am {w w1:World} {cs:Array Value} {t:Nat} (hb:Below (w.alloc (.cells cs t)).heap.size (w.alloc (.cells cs t)) w1) {j:Nat} {v:Value} (h:cs[j]? =some v):w1.cell? (Ad w.heap.size j)=some v:=by rw[hb.cell (p:=(Ad w.heap.size j)) (by simp)];simp[h]
def rB (f:UInt8->Option Str) (c:UInt8):Str:=(f c).getD [c]
def rS (f:UInt8->Option Str) (l:Str):Str:=l.flatMap (rB f)
def nH (f:UInt8->Option Str) (l:Str):Nat:=l.countP fun c=>(f c).isSome
theorem Sn (f:UInt8->Option Str) (l:Str) (c:UInt8):rS f (l++[c])=rS f l++rB f c:=by simp[rS]
theorem Vy (f:UInt8->Option Str) (l:Str) (c:UInt8):nH f (l++[c])=nH f l+(if (f c).isSome then 1 else 0):=by simp[nH,List.countP_append,List.countP_cons]
theorem Vz (f:UInt8->Option Str) (l:Str):nH f l<=l.length:=List.countP_le_length
theorem UU (f:UInt8->Option Str) (h2: ∀c n,f c=some n->n.length=2): ∀l:Str,(rS f l).length=l.length+nH f l
 |[]=>rfl
 |c::r=>by
  have ih:=UU f h2 r;have e:rS f (c::r)=rB f c++rS f r:=rfl;have e2:nH f (c::r)=nH f r+(if (f c).isSome then 1 else 0):=(by simp[nH,List.countP_cons]);rw[e,e2,List.length_append,ih,List.length_cons];unfold rB;cases hf:f c with
  |none=>simp;omega
  |some n=>simp[h2 c n hf];omega
theorem So (f:UInt8->Option Str) (l:Str) (h:nH f l=0):rS f l=l:=by
 unfold nH at h;rw[List.countP_eq_zero] at h;unfold rS
 induction l with
 |nil=>rfl
 |cons c r ih=>
  rw[List.flatMap_cons,ih (fun x hx=>h x (by simp[hx]))];have:=h c (by simp);unfold rB;cases hf:f c with
  |none=>rfl
  |some n=>simp[hf] at this
theorem Sp (t:Str) (a b:UInt8->Nat):(t.map fun x=>a x+b x).sum=(t.map a).sum+(t.map b).sum:=by
 induction t with
 |nil=>rfl
 |cons x r ih=>simp only[List.map_cons,List.sum_cons,ih];omega
theorem Sq (t:Str) (c:UInt8):(t.map fun x=>if c=x then 1 else 0).sum=t.count c:=by
 induction t with
 |nil=>rfl
 |cons x r ih=>
  simp only[List.map_cons,List.sum_cons,List.count_cons,ih];by_cases h:c=x
  ·subst h;simp;omega
  ·have:(x==c)=false:=(by simpa using fun e=>h e.symm);simp[h,this]
theorem Om (f:UInt8->Option Str) (t:Str) (hn:t.Nodup) (ht: ∀c,c∈t↔(f c).isSome=true): ∀l:Str,(t.map fun x=>Lib.countByte l x).sum=nH f l
 |[]=>by
  have:(t.map fun x=>Lib.countByte [] x)=t.map fun _=>0:=List.map_congr_left fun x _=>rfl;rw[this];clear this hn ht
  induction t with
  |nil=>rfl
  |cons x r ih=>simpa using ih
 |c::r=>by
  have ih:=Om f t hn ht r;have e:(t.map fun x=>Lib.countByte (c::r) x)=t.map fun x=>Lib.countByte r x+(if c=x then 1 else 0):=List.map_congr_left fun x _=>(by unfold Lib.countByte;rw[List.count_cons];by_cases h:c=x<;>simp[h]);rw[e,Sp,ih,Sq];have e2:nH f (c::r)=nH f r+(if (f c).isSome then 1 else 0):=(by simp[nH,List.countP_cons]);rw[e2];by_cases h:c∈t
  ·rw[if_pos ((ht c).1 h),hn.count,if_pos h]
  ·rw[if_neg (fun e=>h ((ht c).2 e)),List.count_eq_zero_of_not_mem h]
namespace B
def alphaL:List UInt8:=[65,66,67,68,69,70,71,72,73,74,75,76,77,78,79,80,81,82,83,84,85,86,87,88,89,90,97,98,99,100,101,102,103,104,105,106,107,108,109,110,111,112,113,114,115,116,117,118,119,120,121,122,48,49,50,51,52,53,54,55,56,57,43,47]
def dgt (c:UInt8):Int:=Lib.indexByte alphaL c
theorem dgt_cases_all: ∀n:Fin 256,dgt (UInt8.ofNat n.val)= -1∨(0<=dgt (UInt8.ofNat n.val)/\dgt (UInt8.ofNat n.val)<64/\n.val≠61):=by decide+kernel
theorem dgt_cases (c:UInt8):dgt c= -1∨(0<=dgt c/\dgt c<64/\c≠61):=by
 have h:=dgt_cases_all ⟨c.toNat,c.toNat_lt⟩;simp only[UInt8.ofNat_toNat] at h;rcases h with h|⟨h1,h2,h3⟩
 ·exact .inl h
 ·exact .inr ⟨h1,h2,fun e=>h3 (by rw[e];rfl)⟩
theorem dgt_eq61:dgt 61= -1:=by decide+kernel
def by0 (n:Nat):UInt8:=UInt8.ofNat (n/65536)
def by1 (n:Nat):UInt8:=UInt8.ofNat (n/256)
def by2 (n:Nat):UInt8:=UInt8.ofNat n
def num (a b c d:Nat):Nat:=((a*64+b)*64+c)*64+d
def decR:Nat->List UInt8->List UInt8->Except Nat (List UInt8)
 |i,acc,c0::c1::c2::c3::r=>
  if dgt c0<0 then .error i else
  if dgt c1<0 then .error (i+1) else
  if r=[]/\c3=61/\c2=61 then
   (if num (dgt c0).toNat (dgt c1).toNat 0 0%65536=0 then .ok (acc++[by0 (num (dgt c0).toNat (dgt c1).toNat 0 0)]) else .error (i+1))
  else if dgt c2<0 then .error (i+2) else
  if r=[]/\c3=61 then
   (if num (dgt c0).toNat (dgt c1).toNat (dgt c2).toNat 0%256=0 then .ok (acc++[by0 (num (dgt c0).toNat (dgt c1).toNat (dgt c2).toNat 0),by1 (num (dgt c0).toNat (dgt c1).toNat (dgt c2).toNat 0)]) else .error (i+2))
  else if dgt c3<0 then .error (i+3) else
  decR (i+4) (acc++[by0 (num (dgt c0).toNat (dgt c1).toNat (dgt c2).toNat (dgt c3).toNat),by1 (num (dgt c0).toNat (dgt c1).toNat (dgt c2).toNat (dgt c3).toNat),by2 (num (dgt c0).toNat (dgt c1).toNat (dgt c2).toNat (dgt c3).toNat)]) r
 |_,acc,_=> .ok acc
def decB (l:List UInt8):Except (Int×Int) (List UInt8):=
 if l.length%4=0 then (match decR 0 [] l with| .ok o=> .ok o| .error i=> .error (3,(i:Int))) else .error (7,(l.length:Int))
theorem wraps_i64 (n:Int) (h₀:0<=n) (h₁:n<2 ^ 63):IntKind.i64.wrap n=n:=by rw[IntKind.wrap_i64];omega
theorem or64 (x y:Int) (h0:0<=x) (h1:x<2 ^ 40) (h2:0<=y) (h3:y<64):bits .or .i64 (x*64) y=x*64+y:=
 bits_join .i64 63 (by decide) wraps_i64 6 (x*64) y (by omega) (by simp) (by omega) (by omega) (by omega) (by omega)
theorem or64z (y:Int) (h2:0<=y) (h3:y<64):bits .or .i64 0 y=y:=by have:=or64 0 y (by omega) (by omega) h2 h3;simpa using this
theorem and65535 (x:Int) (h0:0<=x) (h1:x<2 ^ 63):bits .and .i64 x 65535=x%65536:=
 bits_mask .i64 63 (by decide) wraps_i64 16 (by decide) x h0 h1
theorem and255 (x:Int) (h0:0<=x) (h1:x<2 ^ 63):bits .and .i64 x 255=x%256:=
 bits_mask .i64 63 (by decide) wraps_i64 8 (by decide) x h0 h1
theorem by0_nat (n:Nat):((by0 n).toNat:Int)=(n/65536:Nat)%256:=by simp[by0]
theorem by1_nat (n:Nat):((by1 n).toNat:Int)=(n/256:Nat)%256:=by simp[by1]
theorem by2_nat (n:Nat):((by2 n).toNat:Int)=(n:Int)%256:=by simp[by2]
theorem drop_four {l:List UInt8} {i:Nat} (h:i+4<=l.length): ∃c0 c1 c2 c3,l.drop i=c0::c1::c2::c3::l.drop (i+4)/\(∀h,(⟨l.toArray⟩:ByteArray)[i]'h=c0)/\(∀h,(⟨l.toArray⟩:ByteArray)[i+1]'h=c1)/\(∀h,(⟨l.toArray⟩:ByteArray)[i+2]'h=c2)/\(∀h,(⟨l.toArray⟩:ByteArray)[i+3]'h=c3):=by refine ⟨l[i]'(by omega),l[i+1]'(by omega),l[i+2]'(by omega),l[i+3]'(by omega), ?_,fun _=>rfl,fun _=>rfl,fun _=>rfl,fun _=>rfl⟩;rw[List.drop_eq_getElem_cons (by omega),List.drop_eq_getElem_cons (by omega),List.drop_eq_getElem_cons (by omega),List.drop_eq_getElem_cons (by omega)]
end B
def YW (n:Nat):Str:=if n<10 then [UInt8.ofNat (48+n)] else if n<100 then [UInt8.ofNat (48+n/10),UInt8.ofNat (48+n%10)] else [UInt8.ofNat (48+n/100),UInt8.ofNat (48+n/10%10),UInt8.ofNat (48+n%10)]
def JF:Nat->Nat->Str->Bool
 |_,0,_=>false
 |n,k+1,s=>YW (n+1)==s||JF (n+1) k s
def ET (s:Str) (most:Nat):Bool:=JF 0 most s
theorem Sw (n:Nat) (h:n<1000):Lib.decDigits n=YW n:=by
 by_cases h1:n<10
 ·rw[Lib.decDigits,dif_pos h1,YW,if_pos h1]
 ·by_cases h2:n<100
  ·rw[Lib.decDigits,dif_neg h1,Lib.decDigits,dif_pos (by omega),YW,if_neg h1,if_pos h2];rfl
  ·rw[Lib.decDigits,dif_neg h1,Lib.decDigits,dif_neg (by omega),Lib.decDigits,dif_pos (by omega),YW,if_neg h1,if_neg h2];rw[show n/10/10=n/100 by omega];rfl
theorem Ma (n:Nat) (h:n<1000):Lib.itoa (n:Int)=YW n:=by rw[Lib.itoa,if_neg (by omega),Int.toNat_natCast,Sw n h]
theorem KF: ∀n:Fin 1000,Lib.atoiAll (YW n.val)= .ok (n.val:Int):=by decide+kernel
theorem JG (n:Nat) (h:n<1000):Lib.atoiAll (YW n)= .ok (n:Int):=KF ⟨n,h⟩
theorem V3 (n:Nat):(YW n).length<=3:=by unfold YW;split<;>(try split)<;>simp
theorem JH: ∀n:Fin 1000,∀c∈YW n.val,c≠46:=by decide+kernel
theorem KG (s:Str): ∀(k n:Nat),JF n k s=true↔ ∃i,n<i/\i<=n+k/\YW i=s
 |0,n=>by simp[JF];omega
 |k+1,n=>by
  rw[JF,Bool.or_eq_true,KG s k (n+1),beq_iff_eq];constructor
  ·rintro (h|⟨i,h1,h2,h3⟩)
   ·exact ⟨n+1,by omega,by omega,h⟩
   ·exact ⟨i,by omega,by omega,h3⟩
  ·rintro ⟨i,h1,h2,h3⟩;by_cases h:i=n+1
   ·subst h;exact .inl h3
   ·exact .inr ⟨i,by omega,by omega,h3⟩
theorem F6 (s:Str) (most:Nat):ET s most=true↔ ∃i,0<i/\i<=most/\YW i=s:=by rw[ET,KG,Nat.zero_add]
theorem Sx (s:Str) (most:Nat) (hm:most<1000) (h: ∀n,Lib.atoiAll s≠ .ok n):ET s most=false:=by rw[Bool.eq_false_iff];intro hc;obtain ⟨i,_,h2,rfl⟩:=(F6 s most).1 hc;exact h _ (JG i (by omega))
theorem Mb (s:Str) (most:Nat) (hm:most<1000) (n:Int) (h:Lib.atoiAll s= .ok n) (ho:n<1∨(most:Int)<n):ET s most=false:=by rw[Bool.eq_false_iff];intro hc;obtain ⟨i,h1,h2,rfl⟩:=(F6 s most).1 hc;rw[JG i (by omega)] at h;injection h with h;omega
theorem Sy (s:Str) (most:Nat) (hm:most<1000) (n:Int) (h:Lib.atoiAll s= .ok n) (h1:1<=n) (h2:n<=most):(Lib.itoa n==s)=ET s most:=by
 obtain ⟨k,rfl⟩:=Int.eq_ofNat_of_zero_le (show 0<=n by omega);rw[Ma k (by omega),Bool.eq_iff_iff,beq_iff_eq,F6];constructor
 ·intro e;exact ⟨k,by omega,by omega,e⟩
 ·rintro ⟨i,h3,h4,rfl⟩;rw[JG i (by omega)] at h;injection h with h;rw[show i=k by omega]
theorem RG (s:Str) (most:Nat) (hm:most<1000) (h:(46:UInt8)∈s):ET s most=false:=by rw[Bool.eq_false_iff];intro hc;obtain ⟨i,h1,h2,rfl⟩:=(F6 s most).1 hc;exact JH ⟨i,by omega⟩ _ h rfl
end Go.Proofs.YtjhpdljphchfaaaGreatDoor
