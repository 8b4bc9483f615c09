/- A part of the proof of ConvertUps: Plain words for rules, cards and conversion (no program in sight). -/
import Derived.Test.YtjhpdljphchfaaaGreatDoorA01
import Derived.Test.YtjhpdljphchfaaaGreatDoorA10
import Derived.Test.YtjhpdljphchfaaaGreatDoorA08
import Derived.Test.YtjhpdljphchfaaaGreatDoorA06
import Derived.Lib.Fields
import Derived.Lib.IndexMore
import Derived.Lib.Atoi
set_option maxHeartbeats 40000000
set_option maxRecDepth 1000000
set_option linter.all false
namespace Go.Proofs.YtjhpdljphchfaaaGreatDoor
open Go.RowKit
def Ae:Str:=[84,89,80,69]
def AA:Str:=[86,65,76,85,69]
def CM:Str:=[80,82,69,70]
def CA:Str:=[112,114,101,102]
def AZ:Str:=[76,65,66,69,76]
def O3:Str:=[65,68,82]
def AE:Str:=[69,78,67,79,68,73,78,71]
def BD:Str:=[76,65,78,71,85,65,71,69]
def IH:Str:=[65,76,84,73,68]
def Ci:Str:=[77,69,68,73,65,84,89,80,69]
def Qc:Str:=[80,73,68]
def Ug:Str:=[66,69,71,73,78]
def Xj:Str:=[69,78,68]
def RH:Str:=[86,69,82,83,73,79,78]
def BV:Str:=[80,72,79,84,79]
def CN:Str:=[76,79,71,79]
def Bn:Str:=[83,79,85,78,68]
def K8:Str:=[75,69,89]
def Du:Str:=[65,71,69,78,84]
def Dv:Str:=[67,76,65,83,83]
def Cr:Str:=[77,65,73,76,69,82]
def Gb:Str:=[78,65,77,69]
def Gc:Str:=[83,79,82,84,45,83,84,82,73,78,71]
def II:Str:=[71,69,79]
def YX:Str:=[84,90]
def Ef:Str:=[85,73,68]
def Ca:Str:=[116,101,120,116]
def JI:Str:=[117,114,105]
def AK:Str:=[100,97,116,101,45,97,110,100,45,111,114,45,116,105,109,101]
def Dw:Str:=[100,97,116,101]
def At:Str:=[100,97,116,101,45,116,105,109,101]
def Ag:Str:=[116,105,109,101,115,116,97,109,112]
def Ac:Str:=[117,116,99,45,111,102,102,115,101,116]
def AT:Str:=[108,97,110,103,117,97,103,101,45,116,97,103]
def Mc:Str:=[117,110,107,110,111,119,110]
def O4:Str:=[97,112,112,108,105,99,97,116,105,111,110,47,111,99,116,101,116,45,115,116,114,101,97,109]
def Dx:Str:=[105,109,97,103,101,47]
def Et:Str:=[97,117,100,105,111,47]
def CX:Str:=[97,112,112,108,105,99,97,116,105,111,110,47]
def SJ:Str:=[103,101,111,58]
def YY:Str:=[88,45]
def Tp:List (Str×Ru):=[([70,78],⟨1,1,1,0⟩),
 ([78],⟨3,1,1,5⟩),
 ([78,73,67,75,78,65,77,69],⟨2,0,0,0⟩),
 ([80,72,79,84,79],⟨8,0,0,0⟩),
 ([66,68,65,89],⟨5,0,1,0⟩),
 ([65,68,82],⟨3,0,0,7⟩),
 ([76,65,66,69,76],⟨1,0,0,0⟩),
 ([84,69,76],⟨1,0,0,0⟩),
 ([69,77,65,73,76],⟨1,0,0,0⟩),
 ([77,65,73,76,69,82],⟨1,0,0,0⟩),
 ([84,90],⟨6,0,1,0⟩),
 ([71,69,79],⟨3,0,1,2⟩),
 ([84,73,84,76,69],⟨1,0,0,0⟩),
 ([82,79,76,69],⟨1,0,0,0⟩),
 ([76,79,71,79],⟨8,0,0,0⟩),
 ([65,71,69,78,84],⟨1,0,0,0⟩),
 ([79,82,71],⟨3,0,0,0⟩),
 ([67,65,84,69,71,79,82,73,69,83],⟨2,0,0,0⟩),
 ([78,79,84,69],⟨1,0,0,0⟩),
 ([80,82,79,68,73,68],⟨1,0,1,0⟩),
 ([82,69,86],⟨5,0,1,0⟩),
 ([83,79,82,84,45,83,84,82,73,78,71],⟨1,0,1,0⟩),
 ([83,79,85,78,68],⟨8,0,0,0⟩),
 ([85,73,68],⟨1,0,1,0⟩),
 ([85,82,76],⟨4,0,0,0⟩),
 ([67,76,65,83,83],⟨1,0,1,0⟩),
 ([75,69,89],⟨8,0,0,0⟩),
 ([78,65,77,69],⟨1,0,1,0⟩),
 ([83,79,85,82,67,69],⟨4,0,0,0⟩)]
def Tq:List (Str×Ru):=[([70,78],⟨1,1,0,0⟩),
 ([78],⟨3,0,1,5⟩),
 ([78,73,67,75,78,65,77,69],⟨2,0,0,0⟩),
 ([80,72,79,84,79],⟨4,0,0,0⟩),
 ([66,68,65,89],⟨5,0,1,0⟩),
 ([65,78,78,73,86,69,82,83,65,82,89],⟨5,0,1,0⟩),
 ([71,69,78,68,69,82],⟨3,0,1,2⟩),
 ([65,68,82],⟨3,0,0,7⟩),
 ([84,69,76],⟨1,0,0,0⟩),
 ([69,77,65,73,76],⟨1,0,0,0⟩),
 ([73,77,80,80],⟨4,0,0,0⟩),
 ([76,65,78,71],⟨7,0,0,0⟩),
 ([84,90],⟨1,0,0,0⟩),
 ([71,69,79],⟨4,0,0,0⟩),
 ([84,73,84,76,69],⟨1,0,0,0⟩),
 ([82,79,76,69],⟨1,0,0,0⟩),
 ([76,79,71,79],⟨4,0,0,0⟩),
 ([79,82,71],⟨3,0,0,0⟩),
 ([77,69,77,66,69,82],⟨4,0,0,0⟩),
 ([82,69,76,65,84,69,68],⟨4,0,0,0⟩),
 ([67,65,84,69,71,79,82,73,69,83],⟨2,0,0,0⟩),
 ([78,79,84,69],⟨1,0,0,0⟩),
 ([80,82,79,68,73,68],⟨1,0,1,0⟩),
 ([82,69,86],⟨5,0,1,0⟩),
 ([83,79,85,78,68],⟨4,0,0,0⟩),
 ([85,73,68],⟨4,0,1,0⟩),
 ([85,82,76],⟨4,0,0,0⟩),
 ([75,73,78,68],⟨1,0,1,0⟩),
 ([75,69,89],⟨4,0,0,0⟩),
 ([83,79,85,82,67,69],⟨4,0,0,0⟩)]
def Uh:Str:=[70,78,32,49,32,49,32,49,32,48,124,78,32,51,32,49,32,49,32,53,124,78,73,67,75,78,65,77,69,32,50,32,48,32,48,32,48,124,80,72,79,84,79,32,56,32,48,32,48,32,48,124,66,68,65,89,32,53,32,48,32,49,32,48,124,65,68,82,32,51,32,48,32,48,32,55,124,76,65,66,69,76,32,49,32,48,32,48,32,48,124,84,69,76,32,49,32,48,32,48,32,48,124,69,77,65,73,76,32,49,32,48,32,48,32,48,124,77,65,73,76,69,82,32,49,32,48,32,48,32,48,124,84,90,32,54,32,48,32,49,32,48,124,71,69,79,32,51,32,48,32,49,32,50,124,84,73,84,76,69,32,49,32,48,32,48,32,48,124,82,79,76,69,32,49,32,48,32,48,32,48,124,76,79,71,79,32,56,32,48,32,48,32,48,124,65,71,69,78,84,32,49,32,48,32,48,32,48,124,79,82,71,32,51,32,48,32,48,32,48,124,67,65,84,69,71,79,82,73,69,83,32,50,32,48,32,48,32,48,124,78,79,84,69,32,49,32,48,32,48,32,48,124,80,82,79,68,73,68,32,49,32,48,32,49,32,48,124,82,69,86,32,53,32,48,32,49,32,48,124,83,79,82,84,45,83,84,82,73,78,71,32,49,32,48,32,49,32,48,124,83,79,85,78,68,32,56,32,48,32,48,32,48,124,85,73,68,32,49,32,48,32,49,32,48,124,85,82,76,32,52,32,48,32,48,32,48,124,67,76,65,83,83,32,49,32,48,32,49,32,48,124,75,69,89,32,56,32,48,32,48,32,48,124,78,65,77,69,32,49,32,48,32,49,32,48,124,83,79,85,82,67,69,32,52,32,48,32,48,32,48]
def Sz:Str:=[70,78,32,49,32,49,32,48,32,48,124,78,32,51,32,48,32,49,32,53,124,78,73,67,75,78,65,77,69,32,50,32,48,32,48,32,48,124,80,72,79,84,79,32,52,32,48,32,48,32,48,124,66,68,65,89,32,53,32,48,32,49,32,48,124,65,78,78,73,86,69,82,83,65,82,89,32,53,32,48,32,49,32,48,124,71,69,78,68,69,82,32,51,32,48,32,49,32,50,124,65,68,82,32,51,32,48,32,48,32,55,124,84,69,76,32,49,32,48,32,48,32,48,124,69,77,65,73,76,32,49,32,48,32,48,32,48,124,73,77,80,80,32,52,32,48,32,48,32,48,124,76,65,78,71,32,55,32,48,32,48,32,48,124,84,90,32,49,32,48,32,48,32,48,124,71,69,79,32,52,32,48,32,48,32,48,124,84,73,84,76,69,32,49,32,48,32,48,32,48,124,82,79,76,69,32,49,32,48,32,48,32,48,124,76,79,71,79,32,52,32,48,32,48,32,48,124,79,82,71,32,51,32,48,32,48,32,48,124,77,69,77,66,69,82,32,52,32,48,32,48,32,48,124,82,69,76,65,84,69,68,32,52,32,48,32,48,32,48,124,67,65,84,69,71,79,82,73,69,83,32,50,32,48,32,48,32,48,124,78,79,84,69,32,49,32,48,32,48,32,48,124,80,82,79,68,73,68,32,49,32,48,32,49,32,48,124,82,69,86,32,53,32,48,32,49,32,48,124,83,79,85,78,68,32,52,32,48,32,48,32,48,124,85,73,68,32,52,32,48,32,49,32,48,124,85,82,76,32,52,32,48,32,48,32,48,124,75,73,78,68,32,49,32,48,32,49,32,48,124,75,69,89,32,52,32,48,32,48,32,48,124,83,79,85,82,67,69,32,52,32,48,32,48,32,48]
def EP (v:Int):List (Str×Ru):=if v=3 then Tp else Tq
def DN (t:List (Str×Ru)) (u:Str):Ru:=match t with
 |[]=>⟨8,0,0,0⟩
 |r::t=>if r.1==u then r.2 else DN t u
def AR (prop:Str) (v:Int):Ru:=DN (EP v) (Xs prop)
def BW (rt:Int) (s:Str):Int:=
 if s==Ca then (if rt=2∨rt=3 then rt else 1)
 else if s==JI then 4
 else if s==AK||s==Dw||s==At||s==Ag then 5
 else if s==Ac then 6
 else if s==AT then 7
 else 8
def Cs (prop:Str) (ps:List Pm) (v:Int):Int:=
 match ps.find? (fun p=>AF p.name AA) with
 |none=>(AR prop v).type
 |some p=>match p.vals with
  |[]=>(AR prop v).type
  |s::_=>BW (AR prop v).type (loS s)
def B6 (k:Int):Str:=
 if k=1∨k=2∨k=3 then Ca else if k=4 then JI else if k=5 then AK else if k=6 then Ac else if k=7 then AT else if k=8 then Mc else []
def Fq (s:Str):Bool:=decide ((pcs 46 s).length<=2)&&(pcs 46 s).all (ET · 999)
def BH (u v:Str):Bool:=
 if u==BD then Bf v==0 else if u==CM then ET v 100 else if u==Ae then AP v else if u==Qc then Fq v else true
def CI (u:Str):Bool:=u==AA||u==IH||u==Ci||u==AE||u==BD||u==CM
def BS (p:Pm):Bool:=
 !p.vals.isEmpty&&(!CI (Xs p.name)||p.vals.length==1)&&p.vals.all (BH (Xs p.name))
def Dy (s:Str):Bool:=Xs s==Ug||Xs s==Xj||Xs s==RH
def B7:List Pm->List Pm->Int
 |_,[]=>0
 |seen,p::r=>if !BS p then 3 else if !AF p.name Ae&&seen.any (fun q=>AF q.name p.name) then 9 else B7 (seen++[p]) r
def Bx (x:It) (v:Int):Str:=DH x.group x.name x.ps (LE x.val) (v==4)
def CY (x:It) (v:Int):Int:=
 if (BZ x.group x.name x.ps [] (v==4)).1≠0 then (BZ x.group x.name x.ps [] (v==4)).1
 else if Dy x.name then 5
 else if B7 [] x.ps≠0 then B7 [] x.ps
 else if Cs x.name x.ps v≠x.val.type then 1
 else if Bl x.val≠0 then Bl x.val
 else if x.val.type=3/\0<(AR x.name v).parts/\(x.val.parts.length:Int)≠(AR x.name v).parts then 2
 else if 1500<(Bx x v).length then 4
 else 0
def By (v:Int):Nat->List It->Option (Int×Int)
 |_,[]=>none
 |i,x::r=>if CY x v=0 then By v (i+1) r else some (CY x v,(i:Int))
def cntN (u:Str) (l:List It):Nat:=(l.filter fun x=>Xs x.name==u).length
def Ba (v:Int):List It->List It->Option Nat
 |_,[]=>none
 |seen,x::r=>if 0<(AR x.name v).most/\(AR x.name v).most<=(cntN (Xs x.name) seen:Int) then some seen.length else Ba v (seen++[x]) r
def BM (c:Cd):Int×Int:=
 if c.version≠3/\c.version≠4 then (1, -1)
 else if 60<c.items.length then (4, -1)
 else match By c.version 0 c.items with
  |some f=>f
  |none=>match Ba c.version [] c.items with
   |some i=>(9,(i:Int))
   |none=>if (EP c.version).all (fun r=>decide ((AR r.1 c.version).least<=(cntN r.1 c.items:Int))) then (0, -1) else (7, -1)
def noP (n:Str) (l:List Pm):List Pm:=l.filter fun p=> !AF p.name n
def Gd (l:List Pm) (n v:Str):List Pm:=l++[⟨n,[v]⟩]
def F7 (n:Str) (l:List Pm):Bool:=l.any fun p=>AF p.name n
def Cw (p:Pm):List Str:=if AF p.name Ae then p.vals.filter (fun s=> !AF s CA) else p.vals
def Bo (l:List Pm):List Pm:=(l.map fun p=>(⟨p.name,Cw p⟩:Pm)).filter fun p=> !p.vals.isEmpty
def Fr (l:List Pm):Bool:=l.any fun p=>AF p.name Ae&&p.vals.any (AF · CA)
def Cb (l:List Pm):List Pm:=if Fr l&& !F7 CM (Bo l) then Gd (Bo l) CM [49] else Bo l
def KH (n:Str):Bool:=n==BV||n==CN||n==Bn||n==K8
def Eu (n:Str):Bool:=n==Du||n==Dv||n==Cr||n==Gb||n==Gc||n==AZ
def Bb (n:Str) (l:List Pm):Str:=match l.find? (fun p=>AF p.name Ae) with
 |none=>O4
 |some p=>(if n==BV||n==CN then Dx else if n==Bn then Et else CX)++loS (p.vals.headD [])
def kb:Str:=[98]
def KJ (k b:Str):Str:=[100,97,116,97,58]++k++[59,98,97,115,101,54,52,44]++b
def BX (n:Str) (x:It):Option It:=
 match x.ps.find? (fun p=>AF p.name AE) with
 |none=>if x.val.type=4 then some {x with ps:=noP AA x.ps} else none
 |some p=>
  if AF (p.vals.headD []) kb&&x.val.type==8 then
   match B.unB x.val.text with
   | .error _=>none
   | .ok bytes=>if B.medB (Bb n x.ps) then some {x with ps:=noP AA (noP Ae (noP AE x.ps)),val:=⟨4,KJ (Bb n x.ps) (B.encL bytes),[],default,0⟩} else none
  else none
def Cx (n:Str) (x:It):Option It:=
 if x.val.type=1∨x.val.type=8 then some ⟨x.group,YY++n,noP AA x.ps,⟨8,if x.val.type=1 then Cz x.val.text else x.val.text,[],default,0⟩⟩ else none
def SK:List (List Str)->Option Str
 |[[a],[b]]=>some (SJ++a++[44]++b)
 |_=>none
def DZ (x:It):Option It:=
 if x.val.type=3 then match SK x.val.parts with
  |some s=>if DG s=0 then some {x with ps:=noP AA x.ps,val:=⟨4,s,[],default,0⟩} else none
  |none=>none
 else none
def CO (x:It):It:={x with ps:=Gd (noP AA x.ps) AA (B6 x.val.type)}
def CE (n:Str) (x:It):Option It:=
 if KH n then BX n x
 else if Eu n then Cx n x
 else if n==II then DZ x
 else if n==YX then some (CO x)
 else if n==Ef then some (if x.val.type=1/\DG x.val.text=0 then {x with ps:=noP AA x.ps,val:={x.val with type:=4}} else CO x)
 else some x
def Bi (x:It):Option It:=CE (Xs x.name) {x with ps:=Cb x.ps}
def Cf:Nat->List It->Option Nat
 |_,[]=>none
 |i,x::r=>match Cf (i+1) r with
  |some k=>some k
  |none=>if AF x.name O3 then some i else none
def CP (out:List It) (x:It):Option Nat:=
 if AF x.name AZ&&x.val.type==1 then match Cf 0 out with
  |some k=>if F7 AZ (out.getD k default).ps then none else some k
  |none=>none
 else none
def Ax (out:List It) (x:It):List It:=match CP out x with
 |some k=>out.set k {out.getD k default with ps:=Gd (out.getD k default).ps AZ x.val.text}
 |none=>out++[x]
def BQ (l:List It):List It:=l.foldl Ax []
def Da:Nat->List It->Sum Nat (List It)
 |_,[]=> .inr []
 |i,x::r=>match Bi x with
  |none=> .inl i
  |some y=>match Da (i+1) r with
   | .inl k=> .inl k
   | .inr l=> .inr (y::l)
def noC:Cd:=⟨0,[]⟩
def upC (c:Cd):(Int×Int)×Cd:=
 if (BM c).1≠0 then (BM c,noC)
 else if c.version≠3 then ((6, -1),noC)
 else match Da 0 (BQ c.items) with
  | .inl i=>((13,(i:Int)),noC)
  | .inr l=>if (BM ⟨4,l⟩).1≠0 then ((13, -1),noC) else ((0, -1),⟨4,l⟩)
def DF (n:Int):Str:=YW n.toNat
def Hj (r:Str×Ru):Str:=r.1++32::(DF r.2.type++32::(DF r.2.least++32::(DF r.2.most++32::DF r.2.parts)))
def Dl (v:Int):Str:=if v=3 then Uh else Sz
theorem PP:pcs 124 Uh=Tp.map Hj:=by decide+kernel
theorem PQ:pcs 124 Sz=Tq.map Hj:=by decide+kernel
theorem F8 (v:Int):pcs 124 (Dl v)=(EP v).map Hj:=by
 unfold Dl EP;split
 ·exact PP
 ·exact PQ
def Rd (r:Str×Ru):Bool:=
 Lib.fields (Hj r)==[r.1,DF r.2.type,DF r.2.least,DF r.2.most,DF r.2.parts]&&(Lib.cut (Hj r) [32]).1==r.1&&(Hj r).all (fun c=>decide (c.toNat<128))&&decide ((Hj r).length<=100)&&Xs r.1==r.1&&
 Lib.atoi (DF r.2.type)==some r.2.type&&Lib.atoi (DF r.2.least)==some r.2.least&&Lib.atoi (DF r.2.most)==some r.2.most&&Lib.atoi (DF r.2.parts)==some r.2.parts
theorem TB:Tp.all Rd=true:=by decide+kernel
theorem TC:Tq.all Rd=true:=by decide+kernel
theorem Up (v:Int) (r:Str×Ru) (h:r∈EP v):Rd r=true:=by
 unfold EP at h;split at h
 ·exact List.all_eq_true.1 TB r h
 ·exact List.all_eq_true.1 TC r h
structure V9 (r:Str×Ru):Prop where
 fields:Lib.fields (Hj r)=[r.1,DF r.2.type,DF r.2.least,DF r.2.most,DF r.2.parts]
 cut:(Lib.cut (Hj r) [32]).1=r.1
 ascii: ∀c∈Hj r,c.toNat<128
 len:(Hj r).length<=100
 up:Xs r.1=r.1
 n0:Lib.atoi (DF r.2.type)=some r.2.type
 n1:Lib.atoi (DF r.2.least)=some r.2.least
 n2:Lib.atoi (DF r.2.most)=some r.2.most
 n3:Lib.atoi (DF r.2.parts)=some r.2.parts
theorem PR {v:Int} {r:Str×Ru} (h:r∈EP v):V9 r:=by have:=Up v r h;simp only[Rd,Bool.and_eq_true,beq_iff_eq] at this;obtain ⟨⟨⟨⟨⟨⟨⟨⟨h1,h2⟩,h3⟩,h4⟩,h5⟩,h6⟩,h7⟩,h8⟩,h9⟩:=this;exact ⟨h1,h2,fun c hc=>of_decide_eq_true (List.all_eq_true.1 h3 c hc),of_decide_eq_true h4,h5,h6,h7,h8,h9⟩
theorem PS (v:Int):(EP v).length<=60:=by unfold EP;split<;>decide+kernel
theorem Mr (v:Int):(Dl v).length<=1000:=by unfold Dl;split<;>decide+kernel
end Go.Proofs.YtjhpdljphchfaaaGreatDoor
