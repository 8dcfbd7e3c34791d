import Derived.Test.YtdchbjmbgecejaaGreatDoorMa
set_option linter.unusedVariables false
section
namespace Go.Bk
open Go Go.AM
abbrev LI:Type:=List Int
abbrev LL:Type:=List (List Int)
abbrev LR:Type:=List (Int×List Int×Int)
abbrev Ru:Type:=Int×List Int×Int
abbrev Aa:Type:=LI×Int×LI×LR
abbrev Ab:Type:=Int×LI×LR
abbrev Ac:Type:=Int×Int
abbrev Ad:Type:=Int×Bool
abbrev Ae:Type:=LI×Int×LI×LR×Int×(List (RT Int))
abbrev Af:Type:=LI×Int
abbrev Ag:Type:=Int×LI×LR×Int×LL
abbrev Ah:Type:=Int×LI×LR×Int×LI×LR
abbrev Ai:Type:=LI×(List Bool)
abbrev Aj:Type:=LI×Int×LI×LR×Int×LI×LR×LI×Int×LI×LR×Int×Int
abbrev Al:Type:=Int×LI×Int×Int×LI×Int
abbrev An:Type:=LI×Int×Int
abbrev Ao:Type:=LI×Int×(List (RT Int))
abbrev Ap:Type:=Int×LI×LR×Int×(List (RT Int))
abbrev Aq:Type:=Int×LI×LR×Int
abbrev Au:Type:=LI×LI
abbrev Av:Type:=LI×Int×LI×LR×Int×LI×LR×Int×LL×LI×LI×Int×LI×Int×Int
abbrev Ax:Type:=LI×(List (Int×LI×LR))
abbrev Ay:Type:=LI×LI×Int×Int
abbrev Az:Type:=LI×Int×Int×Int×LL×Int×Int×LI×Int×Int×LL×Int×Int
abbrev AA:Type:=LI×Int×LI×LR×LR×Int×Int
abbrev AB:Type:=Int×(List Bool)
abbrev AC:Type:=Int×(List (RT Int))×Int
abbrev AD:Type:=Int×LI×LR×Int×LI×LR×LL×Int×LI×LR×LI×Int×Int
abbrev AE:Type:=Int×LI×LR×LL×Int
abbrev AF:Type:=Int×LI×LR×(List Bool)
abbrev AG:Type:=Int×LI×LR×(List Bool)×Int×LI×LR×Int×LI×LR×LI
abbrev AH:Type:=(List Bool)×Int×LI×LR×Int×LI×LR×LI×Int×LI×LR
abbrev AI:Type:=LI×Int×Int×Int×LL×LI×Int×Int
abbrev AJ:Type:=Int×LI×LR×(List Bool)×(List Bool)×Bool×LR×Int×Int
abbrev AK:Type:=Int×LI×LR×Int×LI×LR×Int×LI×LR×LI×Int×Int
abbrev AL:Type:=LI×Int×LI×LR×Int×LI×LR×Int×LL×LI×LI×Int×Int×LI×LI×Int×Int×LL×Int×Int×LI×Int×Int
abbrev AN:Type:=Int×LL×Int×LI
abbrev AO:Type:=Int×LI×LR×LL×Int×(List (RT Int))
abbrev AP:Type:=LI×Int×LL×LI×Int×Int
abbrev AQ:Type:=Int×LI×LR×Int×LI×LR×Int×LI×LR×Int×LI×Bool×LI×Int×Int×LL×Int×Int×LR×Int×Int
abbrev AR:Type:=LI×Int×LI×LR×Int×LI×LR×LI×Int×LI×LR
abbrev AS:Type:=(List Bool)×Int×LI×LR×LI×Int×LI×LR×Int×LI×Int×Bool×LI×LR×Int×Int×LI×Int×Int
abbrev AT:Type:=LI×Int×LI×LR×Int×LI×LR×Int×LL×LI×LI×Int×Int×LI×LI×Int×Int×LL×Int×Int
abbrev AU:Type:=LI×(List Bool)×Int×Int
abbrev AV:Type:=LI×Int×LI×LR×LR×Int×Int×LI×Int×Int
abbrev AW:Type:=Bool×Int
abbrev AX:Type:=Int×LI×LR×(List Bool)×(List Bool)×Bool×Int×LI×Int×Bool×LR×Int×Int×LI×Int×Int
abbrev AY:Type:=LI×Int×LI×LR×Int×LI×LR×Int×LL×LI×LI×Int×Int×LI×Int×Int×LL×Int×Int
abbrev AZ:Type:=LI×Int×LI×LR×Int×LI×LR×LI×Int×LI×LR×Int×LI×Int×Int×Int×LI×Int×Int
abbrev A0:Type:=Int×Int×LI×(List (Int×LI×LR))×Int×Int
abbrev A1:Type:=Int×LI×LR×Int×LI×LR×Int×LI×LR×Int×LI×Bool×LI×Int×Int×LL×Int×Int
abbrev A2:Type:=(List Bool)×Int×LI×LR×Int×LI×LR×LI×Int×LI×Int×LR×Int×Int×Int×Int
abbrev A3:Type:=(List Bool)×Int×LI×LR×LI×Int×LI×LR×Int×LI×Int×Bool×LI×LR×Int×Int
abbrev A4:Type:=LI×Int×LI×LR×LL×Int×LI×Int×Int
abbrev A5:Type:=Int×LI×LR×(List Bool)×Bool×Int×LI×Int×Bool×LR×Int×Int×LI×Int×Int
abbrev A6:Type:=Int×LI×LR×(List Bool)×(List Bool)×Bool
abbrev A7:Type:=Int×LI×LR×Int×LI×LR×LL×Int×LI×LR×Int×LI×Int×Int×LL×Int×Int
abbrev A8:Type:=Int×LI×LR×LR×Int×Int
abbrev A9:Type:=LI×Int×(List (RT Int))×Int
abbrev Ba:Type:=Int×LI×LR×(List Bool)×Int×LI×LR×Int×LI×LR×LI×(List Bool)×Int×Int
abbrev Bb:Type:=(List Bool)×Int×LI×LR×Int×LI×LR×LI×Int×LI×LR×(List Bool)×Int×Int
abbrev Bc:Type:=LI×Int×Int×Int×LL×Int×Int×LI×LI×Int×Int×LL×Int×Int×Int×Int
abbrev Be:Type:=Int×LI×LR×(List Bool)×(List Bool)×Bool×Int×LI×Int×Bool×LR×Int×Int
abbrev Bf:Type:=Int×LI×LR×(List Bool)×(List Bool)×Bool×Bool×LR×Int×Int×LI×Int×Int
abbrev Bg:Type:=LI×Int×LI×LR×Int×LI×LR×Int×LI×Int×LR×Int×Int×LI×Int×Int
abbrev Bh:Type:=Int×LI×LR×Int×LI×LR×Int×LI×LR×Int×LI×Int×Int×LL×Int×Int
abbrev Bj:Type:=Int×LI×LR×LI×Int×LI×LR×Int×LI×Int×LR×Int×Int×LI×Int×Int
abbrev Bl:Type:=Int×Int×LI×LR
abbrev Bm:Type:=LI×Int×LI×LR×Int×LI×LR×LI×Int×LI×LR×Int×LI×Int×Int×Int
abbrev Bn:Type:=(List Bool)×Int×LI×LR×Int×LI×LR×LI×Int×LI×Int×LR×Int×Int
abbrev Bo:Type:=Int×LI×LR×(List Bool)×Int×LI×LR×Int×LI×LR×LI×LI×Int×Int
abbrev Bp:Type:=Int×LI×LR×LI×Int×LR×Int×LI×Int×LR×Int×Int×LI×Int×Int
abbrev Bq:Type:=(List Bool)×Int×LI×LR×Int×LI×LR×LI×Int×LI×LR×LI×Int×Int
abbrev Br:Type:=LI×Int×Int×(List (Int×LI×LR))
abbrev Bs:Type:=LL×LI
abbrev Bt:Type:=LI×Int×LI×LR×Int×LL×LI×LI×LI×Int×Int×Int×Int×Int
abbrev Bu:Type:=Int×LI×LR×(List Bool)×Bool×Int×LI×Int×Bool×LR×Int×Int
abbrev Bv:Type:=Int×LI×LR×LI×Int×LR
abbrev Bw:Type:=LI×Int×LI×LR×Int×LI×LR×LL×Int×LI×LR×LL×Int×Int
abbrev Bz:Type:=Int×LI×LR×Int×LI
abbrev BA:Type:=LI×Int×LI×LR×LI×Int×Int
abbrev BB:Type:=Int×LI×LR×LI×Int×LR×LR×Int×Int
abbrev BC:Type:=LI×Int×LI×LR×LL×Int×Int×LI×Int×Int×LL×Int×Int
abbrev BD:Type:=Int×LI×LR×Bool
abbrev BE:Type:=LI×Int×LI×LR×Int×LI×LR×Int×LI×Int×LR×Int×Int
abbrev BF:Type:=LI×Int×LI×LR×Int×LL×LI
abbrev BG:Type:=Int×LI×LR×LI×Int×LI×LR×Int×LI×Int×LR×Int×Int
abbrev BH:Type:=Int×LI×LR×Int×(List (RT Int))×LL×(List (RT Int))×Int×Int
abbrev BI:Type:=LI×Int×LI×LR×Int×LI×LR×Int×LI×LR×LI×Int×Int
abbrev BJ:Type:=Int×LI×LR×Int×LI×LR×LI×LI×Int×LI×LR×Int×Int
abbrev BK:Type:=Int×Int×LI×(List (Int×LI×LR))×Int×Int×LR×Int×Int
abbrev BL:Type:=Int×LI×LR×(List Bool)×Bool
abbrev BM:Type:=(List Bool)×Int×LI×LR×Int×LI×LR×LI×LR×Int×Int
abbrev BN:Type:=Int×LI×LR×Int×LI×Int×LR×Int×Int×LR×Int×Int
abbrev BO:Type:=(List Bool)×Int×LI×LR×LI×Int×LI×LR×LR×Int×Int
abbrev BP:Type:=Int×LI×LR×LI×Int×LR×Int×LI×Int×LR×Int×Int
abbrev BQ:Type:=LI×Int×LI×LR×Int×LL×LI×LI×LI×Int×Int×Int
abbrev BR:Type:=LI×Int×LI×LR×Int×LI×LR×Int×LL×LI×Int×Int
abbrev BS:Type:=Int×LI
abbrev BT:Type:=LI×Int×LI×LR×Int×LI×LR×Int×LL×LI×LI×Int
abbrev BU:Type:=Int×LL×LI×Int×LI×Int×Bool×Int×LR×Int×Int
abbrev BV:Type:=Int×LI×LR×Int×LI×LR×LI×Int×LI×Int×Int
abbrev BW:Type:=LI×Int×LI×LR×Int×LL×LI×LI×LI×Int×Int
abbrev BX:Type:=Int×LI×LR×(List Bool)×(List Bool)×LI×Int×Int
abbrev BY:Type:=LI×Int×LI×LR×Int×LI×LR×LL×Int×LI×LR
abbrev BZ:Type:=LI×Int×LI×LR×Int×LI×LR×Int×LL×LI×LI
abbrev B0:Type:=Int×LL×LI×Int×LI×Int×Bool×LR×Int×Int
abbrev B1:Type:=LI×Int×LI×LR×Int×LI×LR×LR×Int×Int
abbrev B2:Type:=Int×Int×LL×Int×Int
abbrev B3:Type:=Int×LL×LI
abbrev B4:Type:=LI×Int×LI×LR×Int×LL×LI×LI×Int×Int
abbrev B5:Type:=Int×LI×LR×LI×Int×LI×LR×LR×Int×Int
abbrev B6:Type:=LI×Int×LI×LR×Int×LI×LR×Int×LI×LR
abbrev B7:Type:=LI×Int×LI×LR×Int×LI×LR×Int×LL×LI
abbrev B8:Type:=Int×LI×LR×Int×LI×LR×LI×Int×LI×LR
abbrev B9:Type:=Int×LI×LR×(List Bool)×Bool×LR×Int×Int
abbrev A0_:Type:=Int×Int×LL×Int×Int×Int×LL×Int×Int
abbrev A1_:Type:=Int×LI×Int
abbrev A2_:Type:=Int×LI×LR×LI×Int
abbrev A3_:Type:=LR×Int×LI×Int×Int×Int×LR×Int×Int
abbrev A4_:Type:=Int×LI×LR×Int×LI×LR×LR×Int×Int
abbrev A5_:Type:=LR×Int×LI×Int×Int×LR×Int×Int
abbrev A6_:Type:=Int×LI×LR×LI×Int×LR×Int×Int
abbrev A7_:Type:=Int×LI×LR×Int×LI×LR×LI×Int
abbrev A8_:Type:=Int×LI×LR×Int×(List (RT Int))×LL
abbrev A9_:Type:=Int×LI×Int×Int
abbrev ajV:Type:=LI×Int×LI×LR×Int×LL×LI×LI
abbrev ajW:Type:=Int×LI×LR×Int×LI×LR×LI×LI
abbrev ajX:Type:=Int×LI×LR×(List Bool)×(List Bool)
abbrev ajY:Type:=LI×(List (Int×LI×LR))×Int×Int
abbrev ajZ:Type:=Int×Int×(List (RT Int))×Int×Int
abbrev aj0:Type:=Int×LI×(List (RT Int))×Int×Int
abbrev aj1:Type:=Int×LI×LR×Int×LI×LR×LL
abbrev aj2:Type:=Int×LI×LR×LL×Int×LI×LR
abbrev aj3:Type:=LI×Int×LI×LR×Int×LI×LR
abbrev aj6:Type:=LI×Int×LI×Int×Int×Int
abbrev aj7:Type:=Int×LL×Int×LI×Int×Int
abbrev aj8:Type:=Int×LI×LR×LI×Int×Int
abbrev aj9:Type:=Int×LL×LI×LR×Int×Int
abbrev afX:Type:=LL×Bool
abbrev akb:Type:=LI×(List (RT Int))×Int×Int
abbrev akc:Type:=LI×Int×LI×LR×LL×Int
abbrev akd:Type:=(List Bool)×LI×Int×Int
abbrev ake:Type:=LR×Int×Int×Int×Int
abbrev akf:Type:=LI×Int×Int×Int×Int
abbrev akg:Type:=Int×Int×LI×Int×Int
abbrev akh:Type:=LI×LI×LI×Int×Int
abbrev aki:Type:=LL×LL×LI×Int×Int
abbrev akj:Type:=LI×Int×LI×LR×LL
abbrev ahR:Type:=Int×LL
abbrev akk:Type:=Int×Int×Int×Int
def EJ:Nat->Nat->LI
 |0,u=>[((48+u % 10:Nat):Int)]
 |f+1,u=>bif Nat.blt u 10 then[((48+u:Nat):Int)]else EJ f (u/10)++[((48+u % 10:Nat):Int)]
def dig (v:Int):LI:=bif decide (v<0)then 45::EJ 20 v.natAbs else EJ 20 v.toNat
def ins {α:Type} (le:α->α->Bool) (x:α):List α->List α
 | []=>[x]
 |y::l=>bif le x y then x::y::l else y::ins le x l
def He {α:Type} (le:α->α->Bool):List α->List α
 | []=>[]
 |x::l=>ins le x (He le l)
def GK (a b:Int):Int:=bif decide (a<b)then -1 else bif decide (b<a)then 1 else 0
def cmpL:LI->LI->Int
 | [],[]=>0
 | [],_::_=> -1
 |_::_,[]=>1
 |a::l,b::m=>bif decide (a=b)then cmpL l m else GK a b
def vI (x y:Ru):Int:=bif decide (x.1=y.1)then(bif decide (cmpL x.2.1 y.2.1=0)then GK x.2.2 y.2.2 else cmpL x.2.1 y.2.1)else GK x.1 y.1
end Go.Bk
end
noncomputable section
namespace Go.Bk
open Go Go.AM
set_option maxRecDepth 100000
def iV.L1 (d:BK) (e:BK->Option (Sum A0 (Sum LI Bool))):Option (Sum A0 (Sum LI Bool)):=
 bif decide (d.2.2.2.2.2.2.2.2<d.2.2.2.2.2.2.2.1)then
 ((nth? d.2.2.2.2.2.2.1 d.2.2.2.2.2.2.2.2).bind λ f=>
 bif decide ((10:Int)<(List.length f.2.1:Int))then
 (((some false).bind λ r=>some (Sum.inr r)).bind λ r=>some (Sum.inr r))
 else
 (e (d.1,d.2.1,d.2.2.1,d.2.2.2.1,d.2.2.2.2.1,d.2.2.2.2.2.1,d.2.2.2.2.2.2.1,d.2.2.2.2.2.2.2.1,IntKind.wrap .i64 (d.2.2.2.2.2.2.2.2+(1:Int)))))
 else
 (some (Sum.inl (d.1,d.2.1,d.2.2.1,d.2.2.2.1,d.2.2.2.2.1,d.2.2.2.2.2.1)))
def iV.L2 (n:Nat) (d:A0) (i:A0->Option (Sum LI Bool)):Option (Sum LI Bool):=
 bif decide (d.2.2.2.2.2<d.2.2.2.2.1)then
 ((nth? d.2.2.2.1 d.2.2.2.2.2).bind λ e=>
 (bif decide (d.2.1<(List.length e.2.1:Int))then
 (some (d.1,d.2.1,d.2.2.1,e.1,e.2.1,e.2.2,d.2.2.2.1,d.2.2.2.2.1,d.2.2.2.2.2,true))
 else
 (bif decide (d.2.1<(List.length e.2.2:Int))then
 (some (d.1,d.2.1,d.2.2.1,e.1,e.2.1,e.2.2,d.2.2.2.1,d.2.2.2.2.1,d.2.2.2.2.2,true))
 else
 (bif decide (d.1<e.1)then
 (some (d.1,d.2.1,d.2.2.1,e.1,e.2.1,e.2.2,d.2.2.2.1,d.2.2.2.2.1,d.2.2.2.2.2,decide (e.1<=(300:Int))))
 else
 (some (d.1,d.2.1,d.2.2.1,e.1,e.2.1,e.2.2,d.2.2.2.1,d.2.2.2.2.1,d.2.2.2.2.2,false))))).bind λ f=>
 bif f.2.2.2.2.2.2.2.2.2 then
 ((some false).bind λ r=>some (Sum.inr r))
 else
 ((bH (iV.L1) n (f.1,f.2.1,f.2.2.1,f.2.2.2.2.2.2.1,f.2.2.2.2.2.2.2.1,f.2.2.2.2.2.2.2.2.1,f.2.2.2.2.2.1,(List.length f.2.2.2.2.2.1:Int),(0:Int))).bind λ q=>match q with
 |Sum.inl g=>(i (g.1,g.2.1,g.2.2.1,g.2.2.2.1,g.2.2.2.2.1,IntKind.wrap .i64 (g.2.2.2.2.2+(1:Int))))
 |Sum.inr r=>some r))
 else
 (some (Sum.inl d.2.2.1))
def iV.P (n:Nat) (x:Br):Option Bool:=
 (bH (iV.L2 n) n (x.2.1,x.2.2.1,x.1,x.2.2.2,(List.length x.2.2.2:Int),(0:Int))).bind λ q=>match q with
 |Sum.inl d=>(some (decide ((d.length:Int)<=(40:Int))))
 |Sum.inr r=>some r
def L9.P (d:Br->Option Bool) (n:Nat) (x:Ax):Option Bool:=
 match x with
 |(a,b)=>
 (d (a,(8:Int),(40:Int),b)).bind λ e=>
 some e
def O4.P (n:Nat) (x:Unit):Option Ab:=
 some ((2:Int),([(1:Int)]:LI),([((0:Int),([]:LI),(0:Int)),((1:Int),([]:LI),(0:Int)),((1:Int),([]:LI),(1:Int)),((2:Int),([(0:Int),(0:Int)]:LI),(0:Int)),((2:Int),([(1:Int),(0:Int)]:LI),(1:Int)),((2:Int),([(0:Int),(1:Int)]:LI),(1:Int))]:LR))
def jJ.P (n:Nat) (x:Int):Option Bool:=
 (bif decide (x<(0:Int))then
 (some true)
 else
 (some (decide ((3:Int)<x)))).bind λ d=>
 some d
def iI.L1 (d:Int->Option Bool) (f:An) (e:An->Option (Sum Unit Int)):Option (Sum Unit Int):=
 match f with
 |(a,b,c)=>
 bif decide (c<b)then
 ((nth? a c).bind λ g=>
 (d g).bind λ i=>
 bif i then
 ((some c).bind λ r=>some (Sum.inr r))
 else
 (e (a,b,IntKind.wrap .i64 (c+(1:Int)))))
 else
 (some (Sum.inl ()))
def iI.P (d:Int->Option Bool) (n:Nat) (x:LI):Option Int:=
 (bH (iI.L1 d) n (x,(x.length:Int),(0:Int))).bind λ q=>match q with
 |Sum.inl e=>(some (-1:Int))
 |Sum.inr r=>some r
def mg.P (d:LI->Option Int) (n:Nat) (x:LI):Option Bool:=
 (d x).bind λ e=>
 some (decide ((0:Int)<=e))
def lV.P (d:LI->Option Bool) (n:Nat) (x:LI):Option Bool:=
 (bif decide ((x.length:Int)<=(12:Int))then
 ((d x).bind λ e=>
 some (!e))
 else
 (some false)).bind λ f=>
 some f
def vG.P (n:Nat) (x:Bl):Option Bool:=
 match x with
 |(a,b,_)=>
 (bif decide ((0:Int)<=a)then
 (some (decide (a<b)))
 else
 (some false)).bind λ d=>
 some d
def cu.L1 (e:Bl->Option Bool) (q:BA) (f:BA->Option (Sum Aa Bool)):Option (Sum Aa Bool):=
 match q with
 |(a,b,c,d,g,h,i)=>
 bif decide (i<h)then
 ((nth? g i).bind λ m=>
 ((e (m,b,c,d)).bind λ v=>
 bif !v then
 (some (a,b,c,d,g,h,i,true))
 else
 (bif decide ((0:Int)<i)then
 ((nth? c (IntKind.wrap .i64 (i-(1:Int)))).bind λ y=>
 some (a,b,c,d,g,h,i,decide (m<=y)))
 else
 (some (a,b,c,d,g,h,i,false)))).bind λ(j,k,l,o,p,s,t,u)=>
 bif u then
 ((some false).bind λ r=>some (Sum.inr r))
 else
 (f (j,k,l,o,p,s,IntKind.wrap .i64 (t+(1:Int)))))
 else
 (some (Sum.inl (a,b,c,d)))
def cu.L2 (e:Bl->Option Bool) (m:AV) (f:AV->Option (Sum AA (Sum Unit Bool))):Option (Sum AA (Sum Unit Bool)):=
 match m with
 |(a,b,c,d,g,h,i,j,k,l)=>
 bif decide (l<k)then
 ((nth? j l).bind λ p=>
 (e (p,b,c,d)).bind λ q=>
 bif !q then
 (((some false).bind λ r=>some (Sum.inr r)).bind λ r=>some (Sum.inr r))
 else
 (f (a,b,c,d,g,h,i,j,k,IntKind.wrap .i64 (l+(1:Int)))))
 else
 (some (Sum.inl (a,b,c,d,g,h,i)))
def cu.L3 (e:Bl->Option Bool) (n:Nat) (m:AA) (l:AA->Option (Sum Unit Bool)):Option (Sum Unit Bool):=
 match m with
 |(a,b,c,d,g,h,i)=>
 bif decide (i<h)then
 ((nth? g i).bind λ f=>
 (bif decide (f.1<(0:Int))then
 (some (a,b,c,d,f.1,f.2.1,f.2.2,g,h,i,true))
 else
 (bif decide ((a.length:Int)<=f.1)then
 (some (a,b,c,d,f.1,f.2.1,f.2.2,g,h,i,true))
 else
 ((nth? a f.1).bind λ p=>
 bif !decide ((List.length f.2.1:Int)=p)then
 (some (a,b,c,d,f.1,f.2.1,f.2.2,g,h,i,true))
 else
 ((e (f.2.2,b,c,d)).bind λ t=>
 some (a,b,c,d,f.1,f.2.1,f.2.2,g,h,i, !t))))).bind λ(a,b,c,d,_,g,_,h,i,j,k)=>
 bif k then
 ((some false).bind λ r=>some (Sum.inr r))
 else
 ((bH (cu.L2 e) n (a,b,c,d,h,i,j,g,(g.length:Int),(0:Int))).bind λ q=>match q with
 |Sum.inl (a,b,c,d,g,h,i)=>(l (a,b,c,d,g,h,IntKind.wrap .i64 (i+(1:Int))))
 |Sum.inr r=>some r))
 else
 (some (Sum.inl ()))
def cu.P (e:Bl->Option Bool) (f:LI->Option Bool) (n:Nat) (x:Aa):Option Bool:=
 match x with
 |(a,b,c,d)=>
 ((f a).bind λ i=>
 bif !i then
 (some (a,b,c,d,true))
 else
 (bif decide (b<(0:Int))then
 (some (a,b,c,d,true))
 else
 (bif decide ((300:Int)<b)then
 (some (a,b,c,d,true))
 else
 (some (a,b,c,d,decide ((20000:Int)<(d.length:Int))))))).bind λ(a,b,c,d,g)=>
 bif g then
 (some false)
 else
 ((bH (cu.L1 e) n (a,b,c,d,c,(c.length:Int),(0:Int))).bind λ q=>match q with
 |Sum.inl (a,b,c,d)=>((bH (cu.L3 e n) n (a,b,c,d,d,(d.length:Int),(0:Int))).bind λ q=>match q with
 |Sum.inl k=>(some true)
 |Sum.inr r=>some r)
 |Sum.inr r=>some r)
def iK.P (d:An->Option LI) (n:Nat) (x:An):Option LI:=
 match x with
 |(a,b,c)=>
 (bif decide (b<(0:Int))then
 (bif decide (List.length a+List.length ([(45:Int)]:LI)<=ay)then
 some (List.append a ([(45:Int)]:LI),c,IntKind.wrap .u64 (0-(IntKind.wrap .u64 b)))
 else none)
 else
 (some (a,c,IntKind.wrap .u64 b))).bind λ(a,b,c)=>
 (d (a,c,b)).bind λ e=>
 some e
def mV.P (d:An->Option LI) (n:Nat) (x:An):Option LI:=
 match x with
 |(a,b,c)=>
 (d (a,b,c)).bind λ e=>
 some e
def uX.L1 (e:An->Option LI) (g:Ay) (f:Ay->Option LI):Option LI:=
 match g with
 |(a,b,c,d)=>
 bif decide (d<c)then
 ((nth? b d).bind λ i=>
 bif decide (List.length a+List.length ([(44:Int)]:LI)<=ay)then
 (e (List.append a ([(44:Int)]:LI),i,(10:Int))).bind λ k=>
 f (k,b,c,IntKind.wrap .i64 (d+(1:Int)))
 else none)
 else
 (some a)
def uX.P (d:An->Option LI) (n:Nat) (x:BS):Option ByteArray:=
 match x with
 |(a,b)=>
 (d (([]:LI),a,(10:Int))).bind λ e=>
 (bH (uX.L1 d) n (e,b,(b.length:Int),(0:Int))).bind λ f=>
 some (yg f)
def fU.L1 (e:BS->Option ByteArray) (k:(Option (List (ByteArray×Bool)))×LR×Int×Int) (f:((Option (List (ByteArray×Bool)))×LR×Int×Int)->Option (Sum Unit AW)):Option (Sum Unit AW):=
 match k with
 |(a,b,c,d)=>
 bif decide (d<c)then
 ((nth? b d).bind λ g=>
 (e (g.1,g.2.1)).bind λ i=>
 bif Option.getD (oV seq i (mX a)) false then
 ((some (false,(0:Int))).bind λ r=>some (Sum.inr r))
 else
 ((a).bind λ l=>
 f (some (Iw seq i true l),b,c,IntKind.wrap .i64 (d+(1:Int)))))
 else
 (some (Sum.inl ()))
def fU.P (e:Aa->Option Bool) (f:BS->Option ByteArray) (n:Nat) (x:Aa):Option AW:=
 match x with
 |(a,b,c,d)=>
 (e (a,b,c,d)).bind λ g=>
 bif !g then
 (some (false,(1:Int)))
 else
 ((bH (fU.L1 f) n ((some []:Option (List (ByteArray×Bool))),d,(d.length:Int),(0:Int))).bind λ q=>match q with
 |Sum.inl i=>(some (true,(0:Int)))
 |Sum.inr r=>some r)
def sJ.L1 (e:LI->Option LI) (p:A4_) (f:A4_->Option Ah):Option Ah:=
 match p with
 |(a,b,c,d,g,h,i,j,k)=>
 bif decide (k<j)then
 ((nth? i k).bind λ l=>
 (e l.2.1).bind λ m=>
 bif decide (List.length h+List.length ([(l.1,m,l.2.2)]:LR)<=ay)then
 f (a,b,c,d,g,List.append h ([(l.1,m,l.2.2)]:LR),i,j,IntKind.wrap .i64 (k+(1:Int)))
 else none)
 else
 (some (a,b,c,d,g,h))
def sJ.P (d:LI->Option LI) (n:Nat) (x:Ab):Option Ab:=
 match x with
 |(a,b,c)=>
 (d b).bind λ e=>
 (bH (sJ.L1 d) n ((0:Int),([]:LI),([]:LR),a,e,([]:LR),c,(c.length:Int),(0:Int))).bind λ(_,_,_,a,b,c)=>
 some (a,b,c)
def lJ.P (n:Nat) (x:LI×(Option (List Ad))×Int):Option (LI×(Option (List Ad))):=
 match x with
 |(a,b,c)=>
 (bif Option.isNone b then
 (some (a,(some []:Option (List Ad)),c))
 else
 (some (a,b,c))).bind λ(a,b,c)=>
 (bif !(Option.getD (oV ieq c (mX b)) false)then
 ((b).bind λ d=>
 bif decide (List.length a+List.length ([c]:LI)<=ay)then
 some (List.append a ([c]:LI),some (Iw ieq c true d))
 else none)
 else
 (some (a,b))).bind λ(a,b)=>
 some (a,b)
def cO.L1 (q:Int×LI×LR×(List Bool)×LI×(List (Option LI))×LI×(Option (List Ad))×Int×Int×LI×Int×LR×Int×Int×LI×Int×Int) (f:(Int×LI×LR×(List Bool)×LI×(List (Option LI))×LI×(Option (List Ad))×Int×Int×LI×Int×LR×Int×Int×LI×Int×Int)->Option (Int×LI×LR×(List Bool)×LI×(List (Option LI))×LI×(Option (List Ad))×Int×Int×LI×Int×LR×Int×Int)):Option (Int×LI×LR×(List Bool)×LI×(List (Option LI))×LI×(Option (List Ad))×Int×Int×LI×Int×LR×Int×Int):=
 match q with
 |(a,b,c,d,g,h,i,j,k,l,o,p,s,t,u,v,w,y)=>
 bif decide (y<w)then
 ((nth? v y).bind λ e=>
 bif decide (0<=e)&&decide (e<(h.length:Int))then
 (rowAt? h e.toNat).bind λ z=>
 (rowAt? h e.toNat).bind λ m=>
 bif decide (List.length m+List.length ([k]:LI)<=ay)then
 bif decide (0<=e)&&decide (e<(List.length (List.set h e.toNat none):Int))then
 f (a,b,c,d,g,List.set (List.set h e.toNat none) e.toNat (some (List.append m ([k]:LI))),i,j,k,l,o,p,s,t,u,v,w,IntKind.wrap .i64 (y+(1:Int)))
 else none
 else none
 else none)
 else
 (some (a,b,c,d,g,h,i,j,k,l,o,p,s,t,u))
def cO.L2 (n:Nat) (e:(LI×(Option (List Ad))×Int)->Option (LI×(Option (List Ad)))) (I:Int×LI×LR×(List Bool)×LI×(List (Option LI))×LI×(Option (List Ad))×LR×Int×Int) (m:(Int×LI×LR×(List Bool)×LI×(List (Option LI))×LI×(Option (List Ad))×LR×Int×Int)->Option (Int×LI×LR×(List Bool)×LI×(List (Option LI))×LI×(Option (List Ad)))):Option (Int×LI×LR×(List Bool)×LI×(List (Option LI))×LI×(Option (List Ad))):=
 match I with
 |(a,b,c,d,g,h,i,j,k,l,o)=>
 bif decide (o<l)then
 ((nth? k o).bind λ f=>
 bif decide (0<=o)&&decide (o<(g.length:Int))then
 (at? g o.toNat).bind λ K=>
 (bH (cO.L1) n (a,b,c,d,List.set g o.toNat (List.length f.2.1:Int),h,i,j,o,f.1,f.2.1,f.2.2,k,l,o,f.2.1,(List.length f.2.1:Int),(0:Int))).bind λ(p,s,t,u,v,w,y,z,A,_,_,B,C,D,E)=>
 bif decide (0<=A)&&decide (A<(v.length:Int))then
 (at? v A.toNat).bind λ G=>
 (bif decide (G=(0:Int))then
 ((e (y,z,B)).bind λ q=>
 some (p,s,t,u,v,w,q.1,q.2,C,D,E))
 else
 (some (p,s,t,u,v,w,y,z,C,D,E))).bind λ(p,s,t,u,v,w,y,z,A,B,C)=>
 m (p,s,t,u,v,w,y,z,A,B,IntKind.wrap .i64 (C+(1:Int)))
 else none
 else none)
 else
 (some (a,b,c,d,g,h,i,j))
def cO.L3 (e:(LI×(Option (List Ad))×Int)->Option (LI×(Option (List Ad)))) (I:Int×LI×LR×(List Bool)×LI×LL×LI×(Option (List Ad))×Int×LI×Int×Int) (q:(Int×LI×LR×(List Bool)×LI×LL×LI×(Option (List Ad))×Int×LI×Int×Int)->Option (Int×LI×LR×(List Bool)×LI×LL×LI×(Option (List Ad))×Int)):Option (Int×LI×LR×(List Bool)×LI×LL×LI×(Option (List Ad))×Int):=
 match I with
 |(a,b,c,d,g,h,i,j,k,l,o,p)=>
 bif decide (p<o)then
 ((nth? l p).bind λ f=>
 bif decide (0<=f)&&decide (f<(g.length:Int))then
 (at? g f.toNat).bind λ m=>
 bif decide (0<=f)&&decide (f<(g.length:Int))then
 (at? g f.toNat).bind λ M=>
 bif decide (0<=f)&&decide (f<(List.length (List.set g f.toNat (IntKind.wrap .i64 (m-(1:Int)))):Int))then
 (at? (List.set g f.toNat (IntKind.wrap .i64 (m-(1:Int)))) f.toNat).bind λ K=>
 (bif decide (K=(0:Int))then
 ((nth? c f).bind λ L=>
 (e (i,j,L.2.2)).bind λ G=>
 some (a,b,c,d,List.set g f.toNat (IntKind.wrap .i64 (m-(1:Int))),h,G.1,G.2,k,l,o,p))
 else
 (some (a,b,c,d,List.set g f.toNat (IntKind.wrap .i64 (m-(1:Int))),h,i,j,k,l,o,p))).bind λ(s,t,u,v,w,y,z,A,B,C,D,E)=>
 q (s,t,u,v,w,y,z,A,B,C,D,IntKind.wrap .i64 (E+(1:Int)))
 else none
 else none
 else none)
 else
 (some (a,b,c,d,g,h,i,j,k))
def cO.L4 (e:(LI×(Option (List Ad))×Int)->Option (LI×(Option (List Ad)))) (n:Nat) (A:Int×LI×LR×(List Bool)×LI×LL×LI×(Option (List Ad))×Int) (m:(Int×LI×LR×(List Bool)×LI×LL×LI×(Option (List Ad))×Int)->Option (List Bool)):Option (List Bool):=
 match A with
 |(a,b,c,d,g,h,i,j,k)=>
 bif decide (k<(i.length:Int))then
 (bif decide (0<=k)&&decide (k<(i.length:Int))then
 (at? i k.toNat).bind λ f=>
 bif decide (0<=f)&&decide (f<(d.length:Int))then
 (at? d f.toNat).bind λ B=>
 bif decide (0<=k)&&decide (k<(i.length:Int))then
 (at? i k.toNat).bind λ q=>
 bif decide (0<=q)&&decide (q<(h.length:Int))then
 (at? h q.toNat).bind λ z=>
 (bH (cO.L3 e) n (a,b,c,List.set d f.toNat true,g,h,i,j,k,z,(z.length:Int),(0:Int))).bind λ(l,o,p,s,t,u,v,w,y)=>
 m (l,o,p,s,t,u,v,w,IntKind.wrap .i64 (y+(1:Int)))
 else none
 else none
 else none
 else none)
 else
 (some d)
def cO.P (e:(LI×(Option (List Ad))×Int)->Option (LI×(Option (List Ad)))) (n:Nat) (x:Ab):Option (List Bool):=
 match x with
 |(a,b,c)=>
 bif decide (0<=a)&&decide (a<=a)&&decide (a<=(ay:Int))then
 bif decide (0<=(c.length:Int))&&decide ((c.length:Int)<=(c.length:Int))&&decide ((c.length:Int)<=(ay:Int))then
 bif decide (0<=a)&&decide (a<=a)&&decide (a<=(ay:Int))then
 (bH (cO.L2 n e) n (a,b,c,List.replicate a.toNat (false:Bool),List.replicate (Int.toNat (c.length:Int)) ((0:Int):Int),List.replicate a.toNat (some ([]:LI)),([]:LI),(none:Option (List Ad)),c,(c.length:Int),(0:Int))).bind λ(a,b,c,d,g,h,i,j)=>
 (oO h).bind λ f=>
 (bH (cO.L4 e n) n (a,b,c,d,g,f,i,j,(0:Int))).bind λ k=>
 some k
 else none
 else none
 else none
def wO.P (n:Nat) (x:AB):Option Bool:=
 match x with
 |(a,b)=>
 (nth? b a).bind λ d=>
 some (!d)
def dD.L1 (e:AB->Option Bool) (g:AU) (f:AU->Option (Sum Unit Int)):Option (Sum Unit Int):=
 match g with
 |(a,b,c,d)=>
 bif decide (d<c)then
 ((nth? a d).bind λ i=>
 (e (i,b)).bind λ k=>
 bif k then
 ((some d).bind λ r=>some (Sum.inr r))
 else
 (f (a,b,c,IntKind.wrap .i64 (d+(1:Int)))))
 else
 (some (Sum.inl ()))
def dD.P (d:AB->Option Bool) (n:Nat) (x:Ai):Option Int:=
 match x with
 |(a,b)=>
 (bH (dD.L1 d) n (a,b,(a.length:Int),(0:Int))).bind λ q=>match q with
 |Sum.inl e=>(some (-1:Int))
 |Sum.inr r=>some r
def fV.P (d:Ai->Option Int) (n:Nat) (x:Ai):Option Bool:=
 match x with
 |(a,b)=>
 (d (a,b)).bind λ e=>
 some (decide ((0:Int)<=e))
def dJ.L1 (e:Ai->Option Bool) (y:Int×LI×LR×(List Bool)×(List (Option LI))×LR×Int×Int) (m:(Int×LI×LR×(List Bool)×(List (Option LI))×LR×Int×Int)->Option (Int×LI×LR×(List Bool)×(List (Option LI)))):Option (Int×LI×LR×(List Bool)×(List (Option LI))):=
 match y with
 |(a,b,c,d,g,h,i,j)=>
 bif decide (j<i)then
 ((nth? h j).bind λ f=>
 (e (f.2.1,d)).bind λ z=>
 (bif !z then
 (bif decide (0<=f.2.2)&&decide (f.2.2<(g.length:Int))then
 (rowAt? g (Int.toNat f.2.2)).bind λ A=>
 (rowAt? g (Int.toNat f.2.2)).bind λ q=>
 bif decide (List.length q+List.length ([j]:LI)<=ay)then
 bif decide (0<=f.2.2)&&decide (f.2.2<(List.length (List.set g (Int.toNat f.2.2) none):Int))then
 some (a,b,c,d,List.set (List.set g (Int.toNat f.2.2) none) (Int.toNat f.2.2) (some (List.append q ([j]:LI))),h,i,j)
 else none
 else none
 else none)
 else
 (some (a,b,c,d,g,h,i,j))).bind λ(k,l,o,p,s,t,u,v)=>
 m (k,l,o,p,s,t,u,IntKind.wrap .i64 (v+(1:Int))))
 else
 (some (a,b,c,d,g))
def dJ.L2 (e:(LI×(Option (List Ad))×Int)->Option (LI×(Option (List Ad)))) (D:Int×LI×LR×(List Bool)×(List (Option LI))×(List Bool)×LI×(Option (List Ad))×LI×Int×Int) (m:(Int×LI×LR×(List Bool)×(List (Option LI))×(List Bool)×LI×(Option (List Ad))×LI×Int×Int)->Option (Int×LI×LR×(List (Option LI))×(List Bool)×LI×(Option (List Ad)))):Option (Int×LI×LR×(List (Option LI))×(List Bool)×LI×(Option (List Ad))):=
 match D with
 |(a,b,c,d,g,h,i,j,k,l,o)=>
 bif decide (o<l)then
 ((nth? k o).bind λ f=>
 bif decide (0<=f)&&decide (f<(d.length:Int))then
 (at? d f.toNat).bind λ E=>
 (bif E then
 ((e (i,j,f)).bind λ q=>
 some (a,b,c,d,g,h,q.1,q.2,k,l,o))
 else
 (some (a,b,c,d,g,h,i,j,k,l,o))).bind λ(p,s,t,u,v,w,y,z,A,B,C)=>
 m (p,s,t,u,v,w,y,z,A,B,IntKind.wrap .i64 (C+(1:Int)))
 else none)
 else
 (some (a,b,c,g,h,i,j))
def dJ.L3 (e:(LI×(Option (List Ad))×Int)->Option (LI×(Option (List Ad)))) (q:Int×LI×LR×LL×(List Bool)×LI×(Option (List Ad))×Int×LI×Int×Int×LI×Int×Int) (f:(Int×LI×LR×LL×(List Bool)×LI×(Option (List Ad))×Int×LI×Int×Int×LI×Int×Int)->Option (Int×LI×LR×LL×(List Bool)×LI×(Option (List Ad))×Int×LI×Int×Int)):Option (Int×LI×LR×LL×(List Bool)×LI×(Option (List Ad))×Int×LI×Int×Int):=
 match q with
 |(a,b,c,d,g,h,i,j,k,l,o,p,s,t)=>
 bif decide (t<s)then
 ((nth? p t).bind λ u=>
 (e (h,i,u)).bind λ m=>
 f (a,b,c,d,g,m.1,m.2,j,k,l,o,p,s,IntKind.wrap .i64 (t+(1:Int))))
 else
 (some (a,b,c,d,g,h,i,j,k,l,o))
def dJ.L4 (e:(LI×(Option (List Ad))×Int)->Option (LI×(Option (List Ad)))) (n:Nat) (q:Int×LI×LR×LL×(List Bool)×LI×(Option (List Ad))×Int×LI×Int×Int) (f:(Int×LI×LR×LL×(List Bool)×LI×(Option (List Ad))×Int×LI×Int×Int)->Option (Int×LI×LR×LL×(List Bool)×LI×(Option (List Ad))×Int)):Option (Int×LI×LR×LL×(List Bool)×LI×(Option (List Ad))×Int):=
 match q with
 |(a,b,c,d,g,h,i,j,k,l,o)=>
 bif decide (o<l)then
 ((nth? k o).bind λ D=>
 (nth? c D).bind λ m=>
 (bH (dJ.L3 e) n (a,b,c,d,g,h,i,j,k,l,o,m.2.1,(List.length m.2.1:Int),(0:Int))).bind λ(p,s,t,u,v,w,y,z,A,B,C)=>
 f (p,s,t,u,v,w,y,z,A,B,IntKind.wrap .i64 (C+(1:Int))))
 else
 (some (a,b,c,d,g,h,i,j))
def dJ.L5 (e:(LI×(Option (List Ad))×Int)->Option (LI×(Option (List Ad)))) (n:Nat) (z:Int×LI×LR×LL×(List Bool)×LI×(Option (List Ad))×Int) (m:(Int×LI×LR×LL×(List Bool)×LI×(Option (List Ad))×Int)->Option (List Bool)):Option (List Bool):=
 match z with
 |(a,b,c,d,g,h,i,j)=>
 bif decide (j<(h.length:Int))then
 (bif decide (0<=j)&&decide (j<(h.length:Int))then
 (at? h j.toNat).bind λ f=>
 bif decide (0<=f)&&decide (f<(g.length:Int))then
 (at? g f.toNat).bind λ A=>
 bif decide (0<=j)&&decide (j<(h.length:Int))then
 (at? h j.toNat).bind λ q=>
 bif decide (0<=q)&&decide (q<(d.length:Int))then
 (at? d q.toNat).bind λ y=>
 (bH (dJ.L4 e n) n (a,b,c,d,List.set g f.toNat true,h,i,j,y,(y.length:Int),(0:Int))).bind λ(k,l,o,p,s,t,u,v)=>
 m (k,l,o,p,s,t,u,IntKind.wrap .i64 (v+(1:Int)))
 else none
 else none
 else none
 else none)
 else
 (some g)
def dJ.P (f:(LI×(Option (List Ad))×Int)->Option (LI×(Option (List Ad)))) (k:Ab->Option (List Bool)) (e:Ai->Option Bool) (n:Nat) (x:Ab):Option (List Bool):=
 match x with
 |(a,b,c)=>
 (k (a,b,c)).bind λ p=>
 bif decide (0<=a)&&decide (a<=a)&&decide (a<=(ay:Int))then
 (bH (dJ.L1 e) n (a,b,c,p,List.replicate a.toNat (some ([]:LI)),c,(c.length:Int),(0:Int))).bind λ(a,b,c,d,g)=>
 bif decide (0<=a)&&decide (a<=a)&&decide (a<=(ay:Int))then
 (bH (dJ.L2 f) n (a,b,c,d,g,List.replicate a.toNat (false:Bool),([]:LI),(none:Option (List Ad)),b,(b.length:Int),(0:Int))).bind λ(a,b,c,d,g,h,i)=>
 (oO d).bind λ l=>
 (bH (dJ.L5 f n) n (a,b,c,l,g,h,i,(0:Int))).bind λ m=>
 some m
 else none
 else none
def zN.P (n:Nat) (x:AB):Option Bool:=
 match x with
 |(a,b)=>
 (nth? b a).bind λ d=>
 some (!d)
def dG.L1 (e:AB->Option Bool) (g:AU) (f:AU->Option (Sum Unit Int)):Option (Sum Unit Int):=
 match g with
 |(a,b,c,d)=>
 bif decide (d<c)then
 ((nth? a d).bind λ i=>
 (e (i,b)).bind λ k=>
 bif k then
 ((some d).bind λ r=>some (Sum.inr r))
 else
 (f (a,b,c,IntKind.wrap .i64 (d+(1:Int)))))
 else
 (some (Sum.inl ()))
def dG.P (d:AB->Option Bool) (n:Nat) (x:Ai):Option Int:=
 match x with
 |(a,b)=>
 (bH (dG.L1 d) n (a,b,(a.length:Int),(0:Int))).bind λ q=>match q with
 |Sum.inl e=>(some (-1:Int))
 |Sum.inr r=>some r
def gK.P (d:Ai->Option Int) (n:Nat) (x:Ai):Option Bool:=
 match x with
 |(a,b)=>
 (d (a,b)).bind λ e=>
 some (decide ((0:Int)<=e))
def cmp_isNaN_int.P (n:Nat) (x:Int):Option Bool:=
 some (!decide (x=x))
def cmp_Compare_int.P (d:Int->Option Bool) (n:Nat) (x:Ac):Option Int:=
 match x with
 |(a,b)=>
 (d a).bind λ f=>
 (d b).bind λ e=>
 bif f then
 (bif e then
 (some (0:Int))
 else
 (some (-1:Int)))
 else
 (bif e then
 (some (1:Int))
 else
 (bif decide (a<b)then
 (some (-1:Int))
 else
 (bif decide (b<a)then
 (some (1:Int))
 else
 (some (0:Int)))))
def dI.L1 (e:Ac->Option Int) (k:akh) (f:akh->Option (Sum Au Int)):Option (Sum Au Int):=
 match k with
 |(a,b,c,d,g)=>
 bif decide (g<d)then
 ((nth? c g).bind λ l=>
 bif decide ((b.length:Int)<=g)then
 ((some (1:Int)).bind λ r=>some (Sum.inr r))
 else
 ((nth? b g).bind λ m=>
 (e (l,m)).bind λ i=>
 bif !decide (i=(0:Int))then
 ((some i).bind λ r=>some (Sum.inr r))
 else
 (f (a,b,c,d,IntKind.wrap .i64 (g+(1:Int))))))
 else
 (some (Sum.inl (a,b)))
def dI.P (d:Ac->Option Int) (n:Nat) (x:Au):Option Int:=
 match x with
 |(a,b)=>
 (bH (dI.L1 d) n (a,b,a,(a.length:Int),(0:Int))).bind λ q=>match q with
 |Sum.inl (a,b)=>(bif decide ((a.length:Int)<(b.length:Int))then
 (some (-1:Int))
 else
 (some (0:Int)))
 |Sum.inr r=>some r
def oC.L1 (g:A9_) (e:A9_->Option (Sum Int Int)):Option (Sum Int Int):=
 match g with
 |(a,b,c,d)=>
 bif decide (d<c)then
 ((nth? b d).bind λ f=>
 bif !decide (f=a)then
 ((some f).bind λ r=>some (Sum.inr r))
 else
 (e (a,b,c,IntKind.wrap .i64 (d+(1:Int)))))
 else
 (some (Sum.inl a))
def oC.P (n:Nat) (x:LI):Option Int:=
 (bH (oC.L1) n ((0:Int),x,(x.length:Int),(0:Int))).bind λ q=>match q with
 |Sum.inl d=>(some d)
 |Sum.inr r=>some r
def xg.P (e:Ac->Option Int) (i:LI->Option Int) (f:Au->Option Int) (n:Nat) (x:Al):Option Int:=
 match x with
 |(a,b,c,d,g,h)=>
 (e (a,d)).bind λ k=>
 (f (b,g)).bind λ l=>
 (e (c,h)).bind λ m=>
 (i ([k,l,m]:LI)).bind λ p=>
 some p
def sK.P (e:Al->Option Int) (n:Nat) (x:Al):Option Bool:=
 match x with
 |(a,b,c,d,g,h)=>
 (e (a,b,c,d,g,h)).bind λ f=>
 some (decide (f=(0:Int)))
def dM.L1 (e:Al->Option Bool) (u:ake) (m:ake->Option (LR×Int)):Option (LR×Int):=
 match u with
 |(a,b,c,d,g)=>
 bif decide (g<(List.length (List.drop c.toNat (List.take d.toNat a)):Int))then
 (bif decide (0<=g)&&decide (g<((d.toNat-c.toNat:Nat):Int))then
 (at? a (c.toNat+Int.toNat g)).bind λ p=>
 bif decide (0<=(IntKind.wrap .i64 (g-(1:Int))))&&decide ((IntKind.wrap .i64 (g-(1:Int)))<((d.toNat-c.toNat:Nat):Int))then
 (at? a (c.toNat+Int.toNat (IntKind.wrap .i64 (g-(1:Int))))).bind λ q=>
 (e (p.1,p.2.1,p.2.2,q.1,q.2.1,q.2.2)).bind λ t=>
 (bif !t then
 (bif decide (0<=g)&&decide (g<((d.toNat-c.toNat:Nat):Int))then
 (at? a (c.toNat+Int.toNat g)).bind λ f=>
 bif decide (0<=b)&&decide (b<(a.length:Int))then
 (at? a b.toNat).bind λ v=>
 some (List.set a b.toNat (f.1,f.2.1,f.2.2),IntKind.wrap .i64 (b+(1:Int)),(Int.toNat c:Int),(Int.toNat d:Int),g)
 else none
 else none)
 else
 (some (a,b,(Int.toNat c:Int),(Int.toNat d:Int),g))).bind λ(h,i,j,k,l)=>
 m (h,i,(Int.toNat j:Int),(Int.toNat k:Int),IntKind.wrap .i64 (l+(1:Int)))
 else none
 else none)
 else
 (some (a,b))
def dM.L2 (e:Al->Option Bool) (n:Nat) (k:LR×Int) (f:(LR×Int)->Option (Sum LR LR)):Option (Sum LR LR):=
 match k with
 |(a,b)=>
 bif decide (b<(a.length:Int))then
 (bif decide (0<=b)&&decide (b<(a.length:Int))then
 (at? a b.toNat).bind λ g=>
 bif decide (0<=(IntKind.wrap .i64 (b-(1:Int))))&&decide ((IntKind.wrap .i64 (b-(1:Int)))<(a.length:Int))then
 (at? a (Int.toNat (IntKind.wrap .i64 (b-(1:Int))))).bind λ i=>
 (e (g.1,g.2.1,g.2.2,i.1,i.2.1,i.2.2)).bind λ l=>
 bif l then
 (bif decide (0<=b)&&decide (b<=(a.length:Int))&&decide ((a.length:Int)<=(a.length:Int))then
 (bH (dM.L1 e) n (a,b,(Int.toNat b:Int),(Int.toNat (a.length:Int):Int),(1:Int))).bind λ(c,d)=>
 bif decide (0<=d)&&decide (d<=(c.length:Int))&&decide ((c.length:Int)<=(c.length:Int))then
 bif decide (0<=0)&&decide (0<=d)&&decide (d<=(List.length (List.append (List.append (List.take d.toNat c) (List.replicate ((Int.toNat (c.length:Int))-d.toNat) (((0:Int),([]:LI),(0:Int)):A1_))) (List.drop (Int.toNat (c.length:Int)) c)):Int))then
 (some (List.drop (Int.toNat 0) (List.take d.toNat (List.append (List.append (List.take d.toNat c) (List.replicate ((Int.toNat (c.length:Int))-d.toNat) (((0:Int),([]:LI),(0:Int)):A1_))) (List.drop (Int.toNat (c.length:Int)) c))))).bind λ r=>some (Sum.inr r)
 else none
 else none
 else none)
 else
 (f (a,IntKind.wrap .i64 (b+(1:Int))))
 else none
 else none)
 else
 (some (Sum.inl a))
def dM.P (d:Al->Option Bool) (n:Nat) (x:LR):Option LR:=
 bif decide ((x.length:Int)<(2:Int))then
 (some x)
 else
 ((bH (dM.L2 d n) n (x,(1:Int))).bind λ q=>match q with
 |Sum.inl e=>(some e)
 |Sum.inr r=>some r)
def xw.P (d:LR->Option LR) (e:LR->Option LR) (n:Nat) (x:LR):Option LR:=
 (e x).bind λ f=>
 (d f).bind λ g=>
 some g
def iJ.L1 (f:Ba) (e:Ba->Option AG):Option AG:=
 match f with
 |(a,b,c,d,g,h,i,j,k,l,o,p,s,t)=>
 bif decide (t<s)then
 ((nth? p t).bind λ m=>
 (bif m then
 (bif decide (0<=t)&&decide (t<(o.length:Int))then
 (at? o t.toNat).bind λ q=>
 some (a,b,c,d,g,h,i,IntKind.wrap .i64 (j+(1:Int)),k,l,List.set o t.toNat j,p,s,t)
 else none)
 else
 (some (a,b,c,d,g,h,i,j,k,l,o,p,s,t))).bind λ(u,v,w,y,z,A,B,C,D,E,F,G,H,I)=>
 e (u,v,w,y,z,A,B,C,D,E,F,G,H,IntKind.wrap .i64 (I+(1:Int))))
 else
 (some (a,b,c,d,g,h,i,j,k,l,o))
def iJ.L2 (K:Bo) (e:Bo->Option AG):Option AG:=
 match K with
 |(a,b,c,d,g,h,i,j,k,l,o,p,s,t)=>
 bif decide (t<s)then
 ((nth? p t).bind λ m=>
 (nth? d m).bind λ q=>
 (bif q then
 (bif decide (0<=m)&&decide (m<(o.length:Int))then
 (at? o m.toNat).bind λ f=>
 bif decide (List.length k+List.length ([f]:LI)<=ay)then
 some (a,b,c,d,g,h,i,j,List.append k ([f]:LI),l,o,p,s,t)
 else none
 else none)
 else
 (some (a,b,c,d,g,h,i,j,k,l,o,p,s,t))).bind λ(u,v,w,y,z,A,B,C,D,E,F,G,H,I)=>
 e (u,v,w,y,z,A,B,C,D,E,F,G,H,IntKind.wrap .i64 (I+(1:Int))))
 else
 (some (a,b,c,d,g,h,i,j,k,l,o))
def iJ.L3 (m:A2) (e:A2->Option Bn):Option Bn:=
 match m with
 |(a,b,c,d,g,h,i,j,k,l,o,p,s,t,u,v)=>
 bif decide (v<u)then
 (bif decide (0<=v)&&decide (v<(l.length:Int))then
 (at? l v.toNat).bind λ f=>
 bif decide (0<=f)&&decide (f<(j.length:Int))then
 (at? j f.toNat).bind λ q=>
 bif decide (0<=v)&&decide (v<(l.length:Int))then
 (at? l v.toNat).bind λ y=>
 e (a,b,c,d,g,h,i,j,k,List.set l v.toNat q,o,p,s,t,u,IntKind.wrap .i64 (v+(1:Int)))
 else none
 else none
 else none)
 else
 (some (a,b,c,d,g,h,i,j,k,l,o,p,s,t))
def iJ.L4 (e:Ai->Option Bool) (n:Nat) (q:BM) (m:BM->Option Ah):Option Ah:=
 match q with
 |(a,b,c,d,g,h,i,j,k,l,o)=>
 bif decide (o<l)then
 ((nth? k o).bind λ f=>
 ((nth? a f.2.2).bind λ I=>
 bif !I then
 (some (a,b,c,d,g,h,i,j,f.1,f.2.1,f.2.2,k,l,o,true))
 else
 ((e (f.2.1,a)).bind λ K=>
 some (a,b,c,d,g,h,i,j,f.1,f.2.1,f.2.2,k,l,o,K))).bind λ(p,s,t,u,v,w,y,z,A,B,C,D,E,F,G)=>
 bif G then
 (m (p,s,t,u,v,w,y,z,D,E,IntKind.wrap .i64 (F+(1:Int))))
 else
 (bif decide (0<=(B.length:Int))&&decide ((B.length:Int)<=(B.length:Int))&&decide ((B.length:Int)<=(ay:Int))then
 bif decide (0<=C)&&decide (C<(z.length:Int))then
 (at? z C.toNat).bind λ L=>
 (bH (iJ.L3) n (p,s,t,u,v,w,y,z,A,List.append (List.append (List.take 0 (List.replicate (Int.toNat (B.length:Int)) ((0:Int):Int))) (List.take (Nat.min (List.length B) ((List.length (List.replicate (Int.toNat (B.length:Int)) ((0:Int):Int)))-0)) B)) (List.drop (0+(Nat.min (List.length B) ((List.length (List.replicate (Int.toNat (B.length:Int)) ((0:Int):Int)))-0))) (List.replicate (Int.toNat (B.length:Int)) ((0:Int):Int))),L,D,E,F,(List.length (List.append (List.append (List.take 0 (List.replicate (Int.toNat (B.length:Int)) ((0:Int):Int))) (List.take (Nat.min (List.length B) ((List.length (List.replicate (Int.toNat (B.length:Int)) ((0:Int):Int)))-0)) B)) (List.drop (0+(Nat.min (List.length B) ((List.length (List.replicate (Int.toNat (B.length:Int)) ((0:Int):Int)))-0))) (List.replicate (Int.toNat (B.length:Int)) ((0:Int):Int)))):Int),(0:Int))).bind λ(p,s,t,u,v,w,y,z,A,B,C,D,E,F)=>
 bif decide (List.length y+List.length ([(A,B,C)]:LR)<=ay)then
 m (p,s,t,u,v,w,List.append y ([(A,B,C)]:LR),z,D,E,IntKind.wrap .i64 (F+(1:Int)))
 else none
 else none
 else none))
 else
 (some (b,c,d,g,h,i))
def iJ.P (f:LR->Option LR) (e:Ai->Option Bool) (n:Nat) (x:AF):Option Ab:=
 match x with
 |(a,b,c,d)=>
 bif decide (0<=a)&&decide (a<=a)&&decide (a<=(ay:Int))then
 (bH (iJ.L1) n (a,b,c,d,(0:Int),([]:LI),([]:LR),(0:Int),([]:LI),([]:LR),List.replicate a.toNat ((0:Int):Int),d,(d.length:Int),(0:Int))).bind λ(a,b,c,d,g,h,i,j,k,l,o)=>
 (bH (iJ.L2) n (a,b,c,d,g,h,i,j,k,l,o,b,(b.length:Int),(0:Int))).bind λ(_,_,a,b,c,d,g,h,i,j,k)=>
 (bH (iJ.L4 e n) n (b,c,d,g,h,i,j,k,a,(a.length:Int),(0:Int))).bind λ(_,_,_,a,b,c)=>
 (f c).bind λ m=>
 some (a,b,m)
 else none
def DF.P (g:AF->Option Ab) (f:Aa->Option Bool) (e:Ab->Option (List Bool)) (n:Nat) (x:Aa):Option Aq:=
 match x with
 |(a,b,c,d)=>
 (f (a,b,c,d)).bind λ k=>
 bif !k then
 (some ((0:Int),([]:LI),([]:LR),(1:Int)))
 else
 ((e (b,c,d)).bind λ l=>
 (g (b,c,d,l)).bind λ i=>
 some (i.1,i.2.1,i.2.2,(0:Int)))
def zM.L1 (i:(List (Option LI))×LR×Int×Int) (f:((List (Option LI))×LR×Int×Int)->Option (List (Option LI))):Option (List (Option LI)):=
 match i with
 |(a,b,c,d)=>
 bif decide (d<c)then
 ((nth? b d).bind λ e=>
 bif decide (0<=e.1)&&decide (e.1<(a.length:Int))then
 (rowAt? a (Int.toNat e.1)).bind λ k=>
 (rowAt? a (Int.toNat e.1)).bind λ g=>
 bif decide (List.length g+List.length ([d]:LI)<=ay)then
 bif decide (0<=e.1)&&decide (e.1<(List.length (List.set a (Int.toNat e.1) none):Int))then
 f (List.set (List.set a (Int.toNat e.1) none) (Int.toNat e.1) (some (List.append g ([d]:LI))),b,c,IntKind.wrap .i64 (d+(1:Int)))
 else none
 else none
 else none)
 else
 (some a)
def zM.P (n:Nat) (x:Aa):Option LL:=
 match x with
 |(a,_,_,b)=>
 bif decide (0<=(a.length:Int))&&decide ((a.length:Int)<=(a.length:Int))&&decide ((a.length:Int)<=(ay:Int))then
 (bH (zM.L1) n (List.replicate (Int.toNat (a.length:Int)) (some ([]:LI)),b,(b.length:Int),(0:Int))).bind λ d=>
 (oO d).bind λ e=>
 some e
 else none
def gY.L1 (f:aj6) (e:aj6->Option Ay):Option Ay:=
 match f with
 |(a,b,c,d,g,h)=>
 bif decide (h<(8:Int))then
 (bif decide (0<=(IntKind.wrap .i64 ((8:Int)*h)))&&decide ((IntKind.wrap .i64 ((8:Int)*h))<=((IntKind.bits .u64:Nat):Int))then
 bif decide (List.length a+List.length ([IntKind.wrap .u8 (b/2^Int.toNat (IntKind.wrap .i64 ((8:Int)*h)))]:LI)<=ay)then
 e (List.append a ([IntKind.wrap .u8 (b/2^Int.toNat (IntKind.wrap .i64 ((8:Int)*h)))]:LI),b,c,d,g,IntKind.wrap .i64 (h+(1:Int)))
 else none
 else none)
 else
 (some (a,c,d,g))
def gY.L2 (n:Nat) (f:Ay) (e:Ay->Option LI):Option LI:=
 match f with
 |(a,b,c,d)=>
 bif decide (d<c)then
 ((nth? b d).bind λ k=>
 (bH (gY.L1) n (a,k,b,c,d,(0:Int))).bind λ(g,h,i,j)=>
 e (g,h,i,IntKind.wrap .i64 (j+(1:Int))))
 else
 (some a)
def gY.P (n:Nat) (x:LI):Option ByteArray:=
 bif decide (0<=(0:Int))&&decide ((0:Int)<=(IntKind.wrap .i64 ((8:Int)*(x.length:Int))))&&decide ((IntKind.wrap .i64 ((8:Int)*(x.length:Int)))<=(ay:Int))then
 (bH (gY.L2 n) n (List.replicate (Int.toNat (0:Int)) ((0:Int):Int),x,(x.length:Int),(0:Int))).bind λ d=>
 some (yg d)
 else none
def iQ.L1 (m:Int×LI×LR×LL×LL×(Option (List (ByteArray×Int)))×LR×Int×Int×Bool×LI×LI×Int×Int) (f:(Int×LI×LR×LL×LL×(Option (List (ByteArray×Int)))×LR×Int×Int×Bool×LI×LI×Int×Int)->Option (Int×LI×LR×LL×LL×(Option (List (ByteArray×Int)))×LR×Int×Int×Bool×LI)):Option (Int×LI×LR×LL×LL×(Option (List (ByteArray×Int)))×LR×Int×Int×Bool×LI):=
 match m with
 |(a,b,c,d,g,h,i,j,k,l,o,p,s,t)=>
 bif decide (t<s)then
 ((nth? p t).bind λ q=>
 (nth? c q).bind λ e=>
 bif !decide ((64:Int)=0)then
 bif decide (0<=(IntKind.wrap .i64 (Int.tdiv e.2.2 (64:Int))))&&decide ((IntKind.wrap .i64 (Int.tdiv e.2.2 (64:Int)))<(o.length:Int))then
 (at? o (Int.toNat (IntKind.wrap .i64 (Int.tdiv e.2.2 (64:Int))))).bind λ u=>
 bif !decide ((64:Int)=0)then
 bif decide (0<=(Int.tmod e.2.2 (64:Int)))&&decide ((Int.tmod e.2.2 (64:Int))<=((IntKind.bits .u64:Nat):Int))then
 bif decide (0<=(IntKind.wrap .i64 (Int.tdiv e.2.2 (64:Int))))&&decide ((IntKind.wrap .i64 (Int.tdiv e.2.2 (64:Int)))<(o.length:Int))then
 (at? o (Int.toNat (IntKind.wrap .i64 (Int.tdiv e.2.2 (64:Int))))).bind λ v=>
 f (a,b,c,d,g,h,i,j,k,l,List.set o (Int.toNat (IntKind.wrap .i64 (Int.tdiv e.2.2 (64:Int)))) (bits .or .u64 u (IntKind.wrap .u64 ((1:Int)*2^Int.toNat (Int.tmod e.2.2 (64:Int))))),p,s,IntKind.wrap .i64 (t+(1:Int)))
 else none
 else none
 else none
 else none
 else none)
 else
 (some (a,b,c,d,g,h,i,j,k,l,o))
def iQ.P (e:LI->Option ByteArray) (n:Nat) (x:Int×LI×LR×LL×LL×(Option (List (ByteArray×Int)))×LR×Int×Int×Bool×LI):Option (Int×Int×LI×LR×LL×LL×(Option (List (ByteArray×Int)))×LR×Int×Int×Bool):=
 match x with
 |(a,b,c,d,g,h,i,j,k,l,o)=>
 bif decide ((o.length:Int)=(0:Int))then
 (some ((-1:Int),a,b,c,d,g,h,i,j,k,l))
 else
 (bif !decide ((64:Int)=0)then
 bif decide (0<=(IntKind.wrap .i64 (Int.tdiv (IntKind.wrap .i64 (a+(63:Int))) (64:Int))))&&decide ((IntKind.wrap .i64 (Int.tdiv (IntKind.wrap .i64 (a+(63:Int))) (64:Int)))<=(IntKind.wrap .i64 (Int.tdiv (IntKind.wrap .i64 (a+(63:Int))) (64:Int))))&&decide ((IntKind.wrap .i64 (Int.tdiv (IntKind.wrap .i64 (a+(63:Int))) (64:Int)))<=(ay:Int))then
 (bH (iQ.L1) n (a,b,c,d,g,h,i,j,k,l,List.replicate (Int.toNat (IntKind.wrap .i64 (Int.tdiv (IntKind.wrap .i64 (a+(63:Int))) (64:Int)))) ((0:Int):Int),o,(o.length:Int),(0:Int))).bind λ(a,b,c,d,g,h,i,j,k,l,o)=>
 (e o).bind λ f=>
 (bif !(Option.isSome (oV seq f (mX h)))then
 ((h).bind λ m=>
 bif decide (List.length g+List.length ([o]:List LI)<=ay)then
 some (a,b,c,d,List.append g ([o]:List LI),some (Iw seq f (g.length:Int) m),i,j,k,l,(g.length:Int))
 else none)
 else
 (some (a,b,c,d,g,h,i,j,k,l,Option.getD (oV seq f (mX h)) (0:Int)))).bind λ(a,b,c,d,g,h,i,j,k,l,o)=>
 some (o,a,b,c,d,g,h,i,j,k,l)
 else none
 else none)
def oD.P (n:Nat) (x:Af):Option Bool:=
 match x with
 |(a,b)=>
 bif !decide ((64:Int)=0)then
 (nth? a (IntKind.wrap .i64 (Int.tdiv b (64:Int)))).bind λ d=>
 bif !decide ((64:Int)=0)then
 bif decide (0<=(Int.tmod b (64:Int)))&&decide ((Int.tmod b (64:Int))<=((IntKind.bits .u64:Nat):Int))then
 some (decide ((bits .and .u64 (d/2^Int.toNat (Int.tmod b (64:Int))) (1:Int))=(1:Int)))
 else none
 else none
 else none
def bU.L1 (e:Af->Option Bool) (x9:Int×LI×LR×LL×LL×(Option (List (ByteArray×Int)))×LR×Int×Int×Bool×Int×Int×LI×LI×Bool×Int×LI×LI×Int×Int) (f:(Int×LI×LR×LL×LL×(Option (List (ByteArray×Int)))×LR×Int×Int×Bool×Int×Int×LI×LI×Bool×Int×LI×LI×Int×Int)->Option (Int×LI×LR×LL×LL×(Option (List (ByteArray×Int)))×LR×Int×Int×Bool×Int×Int×LI×LI×Bool×Int×LI)):Option (Int×LI×LR×LL×LL×(Option (List (ByteArray×Int)))×LR×Int×Int×Bool×Int×Int×LI×LI×Bool×Int×LI):=
 match x9 with
 |(a,b,c,d,g,h,i,j,k,l,o,p,s,t,u,v,w,y,z,A)=>
 bif decide (A<z)then
 ((nth? y A).bind λ m=>
 bif decide (0<=v)&&decide (v<(g.length:Int))then
 (at? g v.toNat).bind λ q=>
 (nth? c m).bind λ W=>
 (nth? W.2.1 (s.length:Int)).bind λ Y=>
 (e (q,Y)).bind λ Z=>
 (bif Z then
 (bif decide (List.length w+List.length ([m]:LI)<=ay)then
 some (a,b,c,d,g,h,i,j,k,l,o,p,s,t,u,v,List.append w ([m]:LI),y,z,A)
 else none)
 else
 (some (a,b,c,d,g,h,i,j,k,l,o,p,s,t,u,v,w,y,z,A))).bind λ(B,C,D,E,F,G,H,I,J,K,L,M,N,O,P,Q,R,S,T,U)=>
 f (B,C,D,E,F,G,H,I,J,K,L,M,N,O,P,Q,R,S,T,IntKind.wrap .i64 (U+(1:Int)))
 else none)
 else
 (some (a,b,c,d,g,h,i,j,k,l,o,p,s,t,u,v,w))
def bU.L2 (f:Af->Option Bool) (n:Nat) (e:(Int×LI×LR×LL×LL×(Option (List (ByteArray×Int)))×LR×Int×Int×Bool×Int×Int×LI×LI×Bool)->Option (Int×LI×LR×LL×LL×(Option (List (ByteArray×Int)))×LR×Int×Int×Bool×LI)) (Q:Int×LI×LR×LL×LL×(Option (List (ByteArray×Int)))×LR×Int×Int×Bool×Int×Int×LI×LI×Bool×Int) (O:(Int×LI×LR×LL×LL×(Option (List (ByteArray×Int)))×LR×Int×Int×Bool×Int×Int×LI×LI×Bool×Int)->Option (Int×LI×LR×LL×LL×(Option (List (ByteArray×Int)))×LR×Int×Int×Bool×LI)):Option (Int×LI×LR×LL×LL×(Option (List (ByteArray×Int)))×LR×Int×Int×Bool×LI):=
 match Q with
 |(a,b,c,d,g,h,i,j,k,l,o,p,s,t,u,v)=>
 bif decide (v<k)then
 ((bH (bU.L1 f) n (a,b,c,d,g,h,i,j,k,l,o,p,s,t,u,v,([]:LI),t,(t.length:Int),(0:Int))).bind λ(w,y,z,A,B,C,D,E,F,G,H,I,J,K,L,M,N)=>
 (bif decide (List.length J+List.length ([M]:LI)<=ay)then
 bif L then
 ((e (w,y,z,A,B,C,D,E,F,G,H,I,List.append J ([M]:LI),N,true)).bind λ m=>
 bif pre J m.2.2.2.2.2.2.2.2.2.2 then
 some (m.1,m.2.1,m.2.2.1,m.2.2.2.1,m.2.2.2.2.1,m.2.2.2.2.2.1,m.2.2.2.2.2.2.1,m.2.2.2.2.2.2.2.1,m.2.2.2.2.2.2.2.2.1,m.2.2.2.2.2.2.2.2.2.1,H,I,J,K,L,M)
 else none)
 else
 ((e (w,y,z,A,B,C,D,E,F,G,H,I,List.append J ([M]:LI),N,decide (E<=M))).bind λ q=>
 bif pre J q.2.2.2.2.2.2.2.2.2.2 then
 some (q.1,q.2.1,q.2.2.1,q.2.2.2.1,q.2.2.2.2.1,q.2.2.2.2.2.1,q.2.2.2.2.2.2.1,q.2.2.2.2.2.2.2.1,q.2.2.2.2.2.2.2.2.1,q.2.2.2.2.2.2.2.2.2.1,H,I,J,K,L,M)
 else none)
 else none).bind λ(w,y,z,A,B,C,D,E,F,G,H,I,J,K,L,M)=>
 O (w,y,z,A,B,C,D,E,F,G,H,I,J,K,L,IntKind.wrap .i64 (M+(1:Int))))
 else
 (some (a,b,c,d,g,h,i,j,k,l,s))
def bU.P (q:Af->Option Bool) (f:(Int×LI×LR×LL×LL×(Option (List (ByteArray×Int)))×LR×Int×Int×Bool×Int×Int×LI×LI×Bool)->Option (Int×LI×LR×LL×LL×(Option (List (ByteArray×Int)))×LR×Int×Int×Bool×LI)) (m:(Int×LI×LR×LL×LL×(Option (List (ByteArray×Int)))×LR×Int×Int×Bool×LI)->Option (Int×Int×LI×LR×LL×LL×(Option (List (ByteArray×Int)))×LR×Int×Int×Bool)) (e:LI->Option Au) (n:Nat) (x:Int×LI×LR×LL×LL×(Option (List (ByteArray×Int)))×LR×Int×Int×Bool×Int×Int×LI×LI×Bool):Option (Int×LI×LR×LL×LL×(Option (List (ByteArray×Int)))×LR×Int×Int×Bool×LI):=
 match x with
 |(a,b,c,d,g,h,i,j,k,l,o,p,s,t,u)=>
 (bif l then
 (some (a,b,c,d,g,h,i,j,k,l,o,p,s,t,u,true))
 else
 (some (a,b,c,d,g,h,i,j,k,l,o,p,s,t,u,decide ((t.length:Int)=(0:Int))))).bind λ(a,b,c,d,g,h,i,j,k,l,o,p,s,t,u,v)=>
 bif v then
 (some (a,b,c,d,g,h,i,j,k,l,s))
 else
 (bif decide ((s.length:Int)=p)then
 ((e s).bind λ K=>
 (m (a,b,c,d,g,h,i,j,k,l,t)).bind λ I=>
 bif decide (List.length i+List.length ([(o,K.1,I.1)]:LR)<=ay)then
 (bif decide ((20000:Int)<(List.length (List.append i ([(o,K.1,I.1)]:LR)):Int))then
 (some (I.2.1,I.2.2.1,I.2.2.2.1,I.2.2.2.2.1,I.2.2.2.2.2.1,I.2.2.2.2.2.2.1,List.append i ([(o,K.1,I.1)]:LR),I.2.2.2.2.2.2.2.2.1,I.2.2.2.2.2.2.2.2.2.1,true,K.2))
 else
 (some (I.2.1,I.2.2.1,I.2.2.2.1,I.2.2.2.2.1,I.2.2.2.2.2.1,I.2.2.2.2.2.2.1,List.append i ([(o,K.1,I.1)]:LR),I.2.2.2.2.2.2.2.2.1,I.2.2.2.2.2.2.2.2.2.1,decide ((300:Int)<(List.length I.2.2.2.2.2.1:Int)),K.2))).bind λ(w,y,z,A,B,C,D,E,F,G,H)=>
 some (w,y,z,A,B,C,D,E,F,G,H)
 else none)
 else
 ((bif !u then
 (some (a,b,c,d,g,h,i,j,k,l,o,p,s,t,u,(0:Int),decide ((s.length:Int)=(IntKind.wrap .i64 (p-(1:Int))))))
 else
 (some (a,b,c,d,g,h,i,j,k,l,o,p,s,t,u,(0:Int),false))).bind λ(a,b,c,d,g,h,i,j,k,l,o,p,s,t,u,v,w)=>
 (bif w then
 (some (a,b,c,d,g,h,i,j,k,l,o,p,s,t,u,j))
 else
 (some (a,b,c,d,g,h,i,j,k,l,o,p,s,t,u,v))).bind λ(a,b,c,d,g,h,i,j,k,l,o,p,s,t,u,v)=>
 (bH (bU.L2 q n f) n (a,b,c,d,g,h,i,j,k,l,o,p,s,t,u,v)).bind λ(a,b,c,d,g,h,i,j,k,l,o)=>
 some (a,b,c,d,g,h,i,j,k,l,o)))
def oz.L1 (g:akd) (e:akd->Option (List Bool)):Option (List Bool):=
 match g with
 |(a,b,c,d)=>
 bif decide (d<c)then
 ((nth? b d).bind λ f=>
 bif decide (0<=f)&&decide (f<(a.length:Int))then
 (at? a f.toNat).bind λ i=>
 e (List.set a f.toNat true,b,c,IntKind.wrap .i64 (d+(1:Int)))
 else none)
 else
 (some a)
def oz.P (n:Nat) (x:Ab):Option (List Bool):=
 match x with
 |(a,b,_)=>
 bif decide (0<=a)&&decide (a<=a)&&decide (a<=(ay:Int))then
 (bH (oz.L1) n (List.replicate a.toNat (false:Bool),b,(b.length:Int),(0:Int))).bind λ d=>
 some d
 else none
def jA.L1 (e:Af->Option Bool) (k:Ay) (f:Ay->Option LI):Option LI:=
 match k with
 |(a,b,c,d)=>
 bif decide (d<c)then
 ((e (a,d)).bind λ l=>
 (bif l then
 (bif decide (List.length b+List.length ([d]:LI)<=ay)then
 some (a,List.append b ([d]:LI),c,d)
 else none)
 else
 (some (a,b,c,d))).bind λ(g,h,i,j)=>
 f (g,h,i,IntKind.wrap .i64 (j+(1:Int))))
 else
 (some b)
def jA.P (d:Af->Option Bool) (n:Nat) (x:LI):Option LI:=
 (bH (jA.L1 d) n (x,([]:LI),IntKind.wrap .i64 ((64:Int)*(x.length:Int)),(0:Int))).bind λ e=>
 some e
def uZ.P (n:Nat) (x:AB):Option Bool:=
 match x with
 |(a,b)=>
 (nth? b a).bind λ d=>
 some d
def dA.L1 (e:AB->Option Bool) (g:AU) (f:AU->Option (Sum Unit Int)):Option (Sum Unit Int):=
 match g with
 |(a,b,c,d)=>
 bif decide (d<c)then
 ((nth? a d).bind λ i=>
 (e (i,b)).bind λ k=>
 bif k then
 ((some d).bind λ r=>some (Sum.inr r))
 else
 (f (a,b,c,IntKind.wrap .i64 (d+(1:Int)))))
 else
 (some (Sum.inl ()))
def dA.P (d:AB->Option Bool) (n:Nat) (x:Ai):Option Int:=
 match x with
 |(a,b)=>
 (bH (dA.L1 d) n (a,b,(a.length:Int),(0:Int))).bind λ q=>match q with
 |Sum.inl e=>(some (-1:Int))
 |Sum.inr r=>some r
def fQ.P (d:Ai->Option Int) (n:Nat) (x:Ai):Option Bool:=
 match x with
 |(a,b)=>
 (d (a,b)).bind λ e=>
 some (decide ((0:Int)<=e))
def eF.L1 (e:(Int×LI×LR×LL×LL×(Option (List (ByteArray×Int)))×LR×Int×Int×Bool×Int×Int×LI×LI×Bool)->Option (Int×LI×LR×LL×LL×(Option (List (ByteArray×Int)))×LR×Int×Int×Bool×LI)) (Y:LI×Int×LI×LR×Int×LI×LR×Int×Int×LI×LR×LL×LL×(Option (List (ByteArray×Int)))×LR×Int×Int×Bool×LI×Int×Int) (m:(LI×Int×LI×LR×Int×LI×LR×Int×Int×LI×LR×LL×LL×(Option (List (ByteArray×Int)))×LR×Int×Int×Bool×LI×Int×Int)->Option (LI×Int×LI×LR×Int×LI×LR×Int×Int×LI×LR×LL×LL×(Option (List (ByteArray×Int)))×LR×Int×Int×Bool)):Option (LI×Int×LI×LR×Int×LI×LR×Int×Int×LI×LR×LL×LL×(Option (List (ByteArray×Int)))×LR×Int×Int×Bool):=
 match Y with
 |(a,b,c,d,g,h,i,j,k,l,o,p,s,t,u,v,w,y,z,A,B)=>
 bif decide (B<A)then
 ((nth? z B).bind λ q=>
 (bif (decide (q=(0:Int)))==(decide (j=(0:Int)))then
 ((nth? p B).bind λ Z=>
 (e (k,l,o,p,s,t,u,v,w,y,B,q,([]:LI),Z,decide (q=(0:Int)))).bind λ f=>
 some (a,b,c,d,g,h,i,j,f.1,f.2.1,f.2.2.1,f.2.2.2.1,f.2.2.2.2.1,f.2.2.2.2.2.1,f.2.2.2.2.2.2.1,f.2.2.2.2.2.2.2.1,f.2.2.2.2.2.2.2.2.1,f.2.2.2.2.2.2.2.2.2.1,z,A,B))
 else
 (some (a,b,c,d,g,h,i,j,k,l,o,p,s,t,u,v,w,y,z,A,B))).bind λ(C,D,E,F,G,H,I,J,K,L,M,N,O,P,Q,R,S,T,U,V,W)=>
 m (C,D,E,F,G,H,I,J,K,L,M,N,O,P,Q,R,S,T,U,V,IntKind.wrap .i64 (W+(1:Int))))
 else
 (some (a,b,c,d,g,h,i,j,k,l,o,p,s,t,u,v,w,y))
def eF.L2 (e:(Int×LI×LR×LL×LL×(Option (List (ByteArray×Int)))×LR×Int×Int×Bool×Int×Int×LI×LI×Bool)->Option (Int×LI×LR×LL×LL×(Option (List (ByteArray×Int)))×LR×Int×Int×Bool×LI)) (n:Nat) (m:LI×Int×LI×LR×Int×LI×LR×Int×Int×LI×LR×LL×LL×(Option (List (ByteArray×Int)))×LR×Int×Int×Bool) (f:(LI×Int×LI×LR×Int×LI×LR×Int×Int×LI×LR×LL×LL×(Option (List (ByteArray×Int)))×LR×Int×Int×Bool)->Option (Sum (Int×LI×LR×Int×LI×LR×Int×LI×LR×LL×LL×(Option (List (ByteArray×Int)))×LR×Int×Int×Bool) AE)):Option (Sum (Int×LI×LR×Int×LI×LR×Int×LI×LR×LL×LL×(Option (List (ByteArray×Int)))×LR×Int×Int×Bool) AE):=
 match m with
 |(a,b,c,d,g,h,i,j,k,l,o,p,s,t,u,v,w,y)=>
 (bif decide (j=(0:Int))then
 (some (a,b,c,d,g,h,i,j,k,l,o,p,s,t,u,v,w,y,true))
 else
 (some (a,b,c,d,g,h,i,j,k,l,o,p,s,t,u,v,w,y,decide (v<w)))).bind λ(a,b,c,d,g,h,i,j,k,l,o,p,s,t,u,v,w,y,z)=>
 bif z then
 ((bH (eF.L1 e) n (a,b,c,d,g,h,i,j,k,l,o,p,s,t,u,v,w,y,a,(a.length:Int),(0:Int))).bind λ(A,B,C,D,E,F,G,H,I,J,K,L,M,N,O,_,P,Q)=>
 bif Q then
 ((some ((0:Int),([]:LI),([]:LR),([]:List LI),(3:Int))).bind λ r=>some (Sum.inr r))
 else
 (f (A,B,C,D,E,F,G,IntKind.wrap .i64 (H+(1:Int)),I,J,K,L,M,N,O,P,(M.length:Int),Q)))
 else
 (some (Sum.inl (b,c,d,g,h,i,k,l,o,p,s,t,u,v,w,y)))
def eF.L3 (f:LI->Option LI) (e:Ai->Option Bool) (W:Int×LI×LR×Int×LI×LR×(List Bool)×LL×Int×LI×LR×LL×LL×(Option (List (ByteArray×Int)))×LR×Int×Int×Bool×Int×Int) (q:(Int×LI×LR×Int×LI×LR×(List Bool)×LL×Int×LI×LR×LL×LL×(Option (List (ByteArray×Int)))×LR×Int×Int×Bool×Int×Int)->Option aj1):Option aj1:=
 match W with
 |(a,b,c,d,g,h,i,j,k,l,o,p,s,t,u,v,w,y,z,A)=>
 bif decide (A<z)then
 (bif decide (0<=A)&&decide (A<(s.length:Int))then
 (at? s A.toNat).bind λ Y=>
 (f Y).bind λ m=>
 bif decide (List.length j+List.length ([m]:List LI)<=ay)then
 (e (m,i)).bind λ Z=>
 (bif Z then
 (bif decide (List.length g+List.length ([A]:LI)<=ay)then
 some (a,b,c,d,List.append g ([A]:LI),h,i,List.append j ([m]:List LI),k,l,o,p,s,t,u,v,w,y,z,A)
 else none)
 else
 (some (a,b,c,d,g,h,i,List.append j ([m]:List LI),k,l,o,p,s,t,u,v,w,y,z,A))).bind λ(B,C,D,E,F,G,H,I,J,K,L,M,N,O,P,Q,R,S,T,U)=>
 q (B,C,D,E,F,G,H,I,J,K,L,M,N,O,P,Q,R,S,T,IntKind.wrap .i64 (U+(1:Int)))
 else none
 else none)
 else
 (some (a,b,c,d,g,h,j))
def eF.P (B:Aa->Option LL) (z:Ab->Option (List Bool)) (y:LR->Option LR) (A:Aa->Option Bool) (m:LI->Option LI) (f:(Int×LI×LR×LL×LL×(Option (List (ByteArray×Int)))×LR×Int×Int×Bool×Int×Int×LI×LI×Bool)->Option (Int×LI×LR×LL×LL×(Option (List (ByteArray×Int)))×LR×Int×Int×Bool×LI)) (e:Ai->Option Bool) (n:Nat) (x:Aa):Option AE:=
 match x with
 |(a,b,c,d)=>
 (A (a,b,c,d)).bind λ E=>
 bif !E then
 (some ((0:Int),([]:LI),([]:LR),([]:List LI),(1:Int)))
 else
 ((B (a,b,c,d)).bind λ G=>
 (bH (eF.L2 f n) n (a,b,c,d,(0:Int),([]:LI),([]:LR),(0:Int),b,c,d,G,([]:List LI),(some []:Option (List (ByteArray×Int))),([]:LR),(0:Int),(0:Int),false)).bind λ q=>match q with
 |Sum.inl (a,b,c,d,g,h,i,j,k,l,o,p,s,t,u,v)=>((y s).bind λ C=>
 (z (a,b,c)).bind λ D=>
 (bH (eF.L3 m e) n (d,g,h,(o.length:Int),([]:LI),C,D,([]:List LI),i,j,k,l,o,p,s,t,u,v,(o.length:Int),(0:Int))).bind λ(_,_,_,a,b,c,d)=>
 some (a,b,c,d,(0:Int)))
 |Sum.inr r=>some r)
def DN.P (g:Ab->Option Ab) (e:Aa->Option AW) (i:Aa->Option Aq) (f:Aa->Option AE) (n:Nat) (x:Aa):Option Aq:=
 match x with
 |(a,b,c,d)=>
 (e (a,b,c,d)).bind λ m=>
 bif !decide (m.2=(0:Int))then
 (some ((0:Int),([]:LI),([]:LR),m.2))
 else
 (bif m.1 then
 ((g (b,c,d)).bind λ p=>
 some (p.1,p.2.1,p.2.2,(0:Int)))
 else
 ((i (a,b,c,d)).bind λ k=>
 bif !decide (k.2.2.2=(0:Int))then
 (some ((0:Int),([]:LI),([]:LR),k.2.2.2))
 else
 ((f (a,k.1,k.2.1,k.2.2.1)).bind λ l=>
 some (l.1,l.2.1,l.2.2.1,l.2.2.2.2))))
def DC.P (e:AF->Option Ab) (d:Ab->Option (List Bool)) (n:Nat) (x:Ab):Option Ab:=
 match x with
 |(a,b,c)=>
 (d (a,b,c)).bind λ g=>
 (e (a,b,c,g)).bind λ f=>
 some (f.1,f.2.1,f.2.2)
def og.L1 (m:(Option (List AW))×LI×(List Bool)×Int×Int) (e:((Option (List AW))×LI×(List Bool)×Int×Int)->Option ((Option (List AW))×LI)):Option ((Option (List AW))×LI):=
 match m with
 |(a,b,c,d,g)=>
 bif decide (g<d)then
 ((nth? c g).bind λ f=>
 (bif !(Option.isSome (oV ah5 f (mX a)))then
 ((a).bind λ p=>
 some (some (Iw ah5 f (WO a:Int) p),b,(WO a:Int),c,d,g))
 else
 (some (a,b,Option.getD (oV ah5 f (mX a)) (0:Int),c,d,g))).bind λ(h,i,j,k,l,o)=>
 bif decide (List.length i+List.length ([j]:LI)<=ay)then
 e (h,List.append i ([j]:LI),k,l,IntKind.wrap .i64 (o+(1:Int)))
 else none)
 else
 (some (a,b))
def og.P (n:Nat) (x:List Bool):Option Af:=
 (bH (og.L1) n ((some []:Option (List AW)),([]:LI),x,(x.length:Int),(0:Int))).bind λ(a,b)=>
 some (b,(WO a:Int))
def J9.P (d:BS->Option ByteArray) (n:Nat) (x:BS):Option ByteArray:=
 match x with
 |(a,b)=>
 (d (a,b)).bind λ e=>
 some e
def jk.L1 (e:LI->Option LI) (g:BS->Option ByteArray) (f:(Option (List (ByteArray×Int)))×(List (Option (List Ac)))×Int×LI×Int×LR×Int×Int×LI×Int×Int) (i:((Option (List (ByteArray×Int)))×(List (Option (List Ac)))×Int×LI×Int×LR×Int×Int×LI×Int×Int)->Option ((Option (List (ByteArray×Int)))×(List (Option (List Ac)))×LR×Int×Int)):Option ((Option (List (ByteArray×Int)))×(List (Option (List Ac)))×LR×Int×Int):=
 bif decide (f.2.2.2.2.2.2.2.2.2.2<f.2.2.2.2.2.2.2.2.2.1)then
 ((nth? f.2.2.2.2.2.2.2.2.1 f.2.2.2.2.2.2.2.2.2.2).bind λ q=>
 (e f.2.2.2.1).bind λ l=>
 bif decide (0<=f.2.2.2.2.2.2.2.2.2.2)&&decide (f.2.2.2.2.2.2.2.2.2.2<(l.length:Int))then
 (at? l (Int.toNat f.2.2.2.2.2.2.2.2.2.2)).bind λ u=>
 (g (f.2.2.1,List.set l (Int.toNat f.2.2.2.2.2.2.2.2.2.2) (-1:Int))).bind λ m=>
 (bif !(Option.isSome (oV seq m (mX f.1)))then
 ((f.1).bind λ p=>
 some (some (Iw seq m (WO f.1:Int) p),f.2.1,f.2.2.1,f.2.2.2.1,f.2.2.2.2.1,q,(WO f.1:Int),f.2.2.2.2.2.1,f.2.2.2.2.2.2.1,f.2.2.2.2.2.2.2.1,f.2.2.2.2.2.2.2.2.1,f.2.2.2.2.2.2.2.2.2.1,f.2.2.2.2.2.2.2.2.2.2))
 else
 (some (f.1,f.2.1,f.2.2.1,f.2.2.2.1,f.2.2.2.2.1,q,Option.getD (oV seq m (mX f.1)) (0:Int),f.2.2.2.2.2.1,f.2.2.2.2.2.2.1,f.2.2.2.2.2.2.2.1,f.2.2.2.2.2.2.2.2.1,f.2.2.2.2.2.2.2.2.2.1,f.2.2.2.2.2.2.2.2.2.2))).bind λ d=>
 bif decide (0<=d.2.2.2.2.2.1)&&decide (d.2.2.2.2.2.1<(List.length d.2.1:Int))then
 (rowAt? d.2.1 (Int.toNat d.2.2.2.2.2.1)).bind λ t=>
 (rowAt? d.2.1 (Int.toNat d.2.2.2.2.2.1)).bind λ k=>
 bif decide (List.length k+List.length ([(d.2.2.2.2.2.2.1,d.2.2.2.2.1)]:List Ac)<=ay)then
 bif decide (0<=d.2.2.2.2.2.1)&&decide (d.2.2.2.2.2.1<(List.length (List.set d.2.1 (Int.toNat d.2.2.2.2.2.1) none):Int))then
 i (d.1,List.set (List.set d.2.1 (Int.toNat d.2.2.2.2.2.1) none) (Int.toNat d.2.2.2.2.2.1) (some (List.append k ([(d.2.2.2.2.2.2.1,d.2.2.2.2.1)]:List Ac))),d.2.2.1,d.2.2.2.1,d.2.2.2.2.1,d.2.2.2.2.2.2.2.1,d.2.2.2.2.2.2.2.2.1,d.2.2.2.2.2.2.2.2.2.1,d.2.2.2.2.2.2.2.2.2.2.1,d.2.2.2.2.2.2.2.2.2.2.2.1,IntKind.wrap .i64 (d.2.2.2.2.2.2.2.2.2.2.2.2+(1:Int)))
 else none
 else none
 else none
 else none)
 else
 (some (f.1,f.2.1,f.2.2.2.2.2.1,f.2.2.2.2.2.2.1,f.2.2.2.2.2.2.2.1))
def jk.L2 (d:LI->Option LI) (e:BS->Option ByteArray) (n:Nat) (g:(Option (List (ByteArray×Int)))×(List (Option (List Ac)))×LR×Int×Int) (i:((Option (List (ByteArray×Int)))×(List (Option (List Ac)))×LR×Int×Int)->Option (List (Option (List Ac)))):Option (List (Option (List Ac))):=
 bif decide (g.2.2.2.2<g.2.2.2.1)then
 ((nth? g.2.2.1 g.2.2.2.2).bind λ k=>
 (bH (jk.L1 d e) n (g.1,g.2.1,k.1,k.2.1,k.2.2,g.2.2.1,g.2.2.2.1,g.2.2.2.2,k.2.1,(List.length k.2.1:Int),(0:Int))).bind λ f=>
 i (f.1,f.2.1,f.2.2.1,f.2.2.2.1,IntKind.wrap .i64 (f.2.2.2.2+(1:Int))))
 else
 (some g.2.1)
def jk.L3 (d:List Ac->Option (List Ac)) (e:(List (Option (List Ac)))×Int×Int) (f:((List (Option (List Ac)))×Int×Int)->Option (List (Option (List Ac)))):Option (List (Option (List Ac))):=
 bif decide (e.2.2<e.2.1)then
 (bif decide (0<=e.2.2)&&decide (e.2.2<(List.length e.1:Int))then
 (rowAt? e.1 (Int.toNat e.2.2)).bind λ k=>
 (rowAt? e.1 (Int.toNat e.2.2)).bind λ g=>
 (d g).bind λ i=>
 f (List.set (List.set e.1 (Int.toNat e.2.2) none) (Int.toNat e.2.2) (some i),e.2.1,IntKind.wrap .i64 (e.2.2+(1:Int)))
 else none)
 else
 (some e.1)
def jk.P (f:BS->Option ByteArray) (e:LI->Option LI) (d:List Ac->Option (List Ac)) (n:Nat) (x:Ab):Option (List (Option (List Ac))):=
 bif decide (0<=x.1)&&decide (x.1<=x.1)&&decide (x.1<=(ay:Int))then
 (bH (jk.L2 e f n) n ((some []:Option (List (ByteArray×Int))),List.replicate (Int.toNat x.1) (some ([]:List Ac)),x.2.2,(List.length x.2.2:Int),(0:Int))).bind λ g=>
 (bH (jk.L3 d) n (g,(g.length:Int),(0:Int))).bind λ i=>
 some i
 else none
def lT.L1 (m:(Option (List (ByteArray×Int)))×LI×(List ByteArray)×Int×Int) (e:((Option (List (ByteArray×Int)))×LI×(List ByteArray)×Int×Int)->Option ((Option (List (ByteArray×Int)))×LI)):Option ((Option (List (ByteArray×Int)))×LI):=
 match m with
 |(a,b,c,d,g)=>
 bif decide (g<d)then
 ((nth? c g).bind λ f=>
 (bif !(Option.isSome (oV seq f (mX a)))then
 ((a).bind λ p=>
 some (some (Iw seq f (WO a:Int) p),b,(WO a:Int),c,d,g))
 else
 (some (a,b,Option.getD (oV seq f (mX a)) (0:Int),c,d,g))).bind λ(h,i,j,k,l,o)=>
 bif decide (List.length i+List.length ([j]:LI)<=ay)then
 e (h,List.append i ([j]:LI),k,l,IntKind.wrap .i64 (o+(1:Int)))
 else none)
 else
 (some (a,b))
def lT.P (n:Nat) (x:List ByteArray):Option Af:=
 (bH (lT.L1) n ((some []:Option (List (ByteArray×Int))),([]:LI),x,(x.length:Int),(0:Int))).bind λ(a,b)=>
 some (b,(WO a:Int))
def fB.L1 (e:An->Option LI) (u:Int×LI×LR×LI×Int×(List (List Ac))×(List ByteArray)×Int×LI×Int×Int×(List Ac)×Int×Int) (f:(Int×LI×LR×LI×Int×(List (List Ac))×(List ByteArray)×Int×LI×Int×Int×(List Ac)×Int×Int)->Option (Int×LI×LR×LI×Int×(List (List Ac))×(List ByteArray)×Int×LI×Int×Int)):Option (Int×LI×LR×LI×Int×(List (List Ac))×(List ByteArray)×Int×LI×Int×Int):=
 match u with
 |(a,b,c,d,g,h,i,j,k,l,o,p,s,t)=>
 bif decide (t<s)then
 ((nth? p t).bind λ m=>
 bif decide (List.length k+List.length ([(32:Int)]:LI)<=ay)then
 (e (List.append k ([(32:Int)]:LI),m.1,(10:Int))).bind λ q=>
 bif decide (List.length q+List.length ([(58:Int)]:LI)<=ay)then
 (nth? d m.2).bind λ v=>
 (e (List.append q ([(58:Int)]:LI),v,(10:Int))).bind λ y=>
 f (a,b,c,d,g,h,i,j,y,l,o,p,s,IntKind.wrap .i64 (t+(1:Int)))
 else none
 else none)
 else
 (some (a,b,c,d,g,h,i,j,k,l,o))
def fB.L2 (e:An->Option LI) (n:Nat) (B:Int×LI×LR×LI×Int×(List (List Ac))×(List ByteArray)×Int×Int) (f:(Int×LI×LR×LI×Int×(List (List Ac))×(List ByteArray)×Int×Int)->Option (Int×LI×LR×Int×(List (List Ac))×(List ByteArray))):Option (Int×LI×LR×Int×(List (List Ac))×(List ByteArray)):=
 match B with
 |(a,b,c,d,g,h,i,j,k)=>
 bif decide (k<j)then
 ((nth? d k).bind λ C=>
 (e (([]:LI),C,(10:Int))).bind λ q=>
 bif decide (0<=k)&&decide (k<(h.length:Int))then
 (at? h k.toNat).bind λ m=>
 (bH (fB.L1 e) n (a,b,c,d,g,h,i,k,q,j,k,m,(m.length:Int),(0:Int))).bind λ(l,o,p,s,t,u,v,w,y,z,A)=>
 bif decide (0<=w)&&decide (w<(v.length:Int))then
 (at? v w.toNat).bind λ D=>
 f (l,o,p,s,t,u,List.set v w.toNat (yg y),z,IntKind.wrap .i64 (A+(1:Int)))
 else none
 else none)
 else
 (some (a,b,c,g,h,i))
def fB.L3 (f:An->Option LI) (n:Nat) (e:List ByteArray->Option Af) (l:Int×LI×LR×LI×Int×(List (List Ac))) (k:(Int×LI×LR×LI×Int×(List (List Ac)))->Option (Sum Unit LI)):Option (Sum Unit LI):=
 match l with
 |(a,b,c,d,g,h)=>
 bif decide (0<=a)&&decide (a<=a)&&decide (a<=(ay:Int))then
 (bH (fB.L2 f n) n (a,b,c,d,g,h,List.replicate a.toNat (ByteArray.empty:ByteArray),(List.length (List.replicate a.toNat (ByteArray.empty:ByteArray)):Int),(0:Int))).bind λ(a,b,c,d,g,h)=>
 (e h).bind λ i=>
 bif decide (i.2=d)then
 ((some i.1).bind λ r=>some (Sum.inr r))
 else
 (k (a,b,c,i.1,i.2,g))
 else none
def fB.P (g:Ab->Option (List Bool)) (f:List Bool->Option Af) (d:List ByteArray->Option Af) (i:Ab->Option (List (Option (List Ac)))) (e:An->Option LI) (n:Nat) (x:Ab):Option LI:=
 match x with
 |(a,b,c)=>
 (g (a,b,c)).bind λ l=>
 (f l).bind λ k=>
 (i (a,b,c)).bind λ m=>
 (oO m).bind λ p=>
 (bH (fB.L3 e n d) n (a,b,c,k.1,k.2,p)).bind λ q=>match q with
 |Sum.inl (_:Unit)=>none
 |Sum.inr r=>some r
def bY.L1 (f:akf) (e:akf->Option Af):Option Af:=
 match f with
 |(a,b,c,d,g)=>
 bif decide (g<(List.length (List.drop c.toNat (List.take d.toNat a)):Int))then
 (bif decide (0<=g)&&decide (g<((d.toNat-c.toNat:Nat):Int))then
 (at? a (c.toNat+Int.toNat g)).bind λ m=>
 bif decide (0<=(IntKind.wrap .i64 (g-(1:Int))))&&decide ((IntKind.wrap .i64 (g-(1:Int)))<((d.toNat-c.toNat:Nat):Int))then
 (at? a (c.toNat+Int.toNat (IntKind.wrap .i64 (g-(1:Int))))).bind λ p=>
 (bif !decide (m=p)then
 (bif decide (0<=g)&&decide (g<((d.toNat-c.toNat:Nat):Int))then
 (at? a (c.toNat+Int.toNat g)).bind λ q=>
 bif decide (0<=b)&&decide (b<(a.length:Int))then
 (at? a b.toNat).bind λ t=>
 some (List.set a b.toNat q,IntKind.wrap .i64 (b+(1:Int)),(Int.toNat c:Int),(Int.toNat d:Int),g)
 else none
 else none)
 else
 (some (a,b,(Int.toNat c:Int),(Int.toNat d:Int),g))).bind λ(h,i,j,k,l)=>
 e (h,i,(Int.toNat j:Int),(Int.toNat k:Int),IntKind.wrap .i64 (l+(1:Int)))
 else none
 else none)
 else
 (some (a,b))
def bY.L2 (n:Nat) (f:Af) (e:Af->Option (Sum LI LI)):Option (Sum LI LI):=
 match f with
 |(a,b)=>
 bif decide (b<(a.length:Int))then
 (bif decide (0<=b)&&decide (b<(a.length:Int))then
 (at? a b.toNat).bind λ g=>
 bif decide (0<=(IntKind.wrap .i64 (b-(1:Int))))&&decide ((IntKind.wrap .i64 (b-(1:Int)))<(a.length:Int))then
 (at? a (Int.toNat (IntKind.wrap .i64 (b-(1:Int))))).bind λ i=>
 bif decide (g=i)then
 (bif decide (0<=b)&&decide (b<=(a.length:Int))&&decide ((a.length:Int)<=(a.length:Int))then
 (bH (bY.L1) n (a,b,(Int.toNat b:Int),(Int.toNat (a.length:Int):Int),(1:Int))).bind λ(c,d)=>
 bif decide (0<=d)&&decide (d<=(c.length:Int))&&decide ((c.length:Int)<=(c.length:Int))then
 bif decide (0<=0)&&decide (0<=d)&&decide (d<=(List.length (List.append (List.append (List.take d.toNat c) (List.replicate ((Int.toNat (c.length:Int))-d.toNat) ((0:Int):Int))) (List.drop (Int.toNat (c.length:Int)) c)):Int))then
 (some (List.drop (Int.toNat 0) (List.take d.toNat (List.append (List.append (List.take d.toNat c) (List.replicate ((Int.toNat (c.length:Int))-d.toNat) ((0:Int):Int))) (List.drop (Int.toNat (c.length:Int)) c))))).bind λ r=>some (Sum.inr r)
 else none
 else none
 else none)
 else
 (e (a,IntKind.wrap .i64 (b+(1:Int))))
 else none
 else none)
 else
 (some (Sum.inl a))
def bY.P (n:Nat) (x:LI):Option LI:=
 bif decide ((x.length:Int)<(2:Int))then
 (some x)
 else
 ((bH (bY.L2 n) n (x,(1:Int))).bind λ q=>match q with
 |Sum.inl d=>(some d)
 |Sum.inr r=>some r)
def fO.L1 (m:BI) (e:BI->Option B6):Option B6:=
 match m with
 |(a,b,c,d,g,h,i,j,k,l,o,p,s)=>
 bif decide (s<p)then
 ((nth? o s).bind λ q=>
 (nth? a q).bind λ f=>
 bif decide (List.length k+List.length ([f]:LI)<=ay)then
 e (a,b,c,d,g,h,i,j,List.append k ([f]:LI),l,o,p,IntKind.wrap .i64 (s+(1:Int)))
 else none)
 else
 (some (a,b,c,d,g,h,i,j,k,l))
def fO.L2 (m:Bg) (e:Bg->Option BE):Option BE:=
 match m with
 |(a,b,c,d,g,h,i,j,k,l,o,p,s,t,u,v)=>
 bif decide (v<u)then
 ((nth? t v).bind λ q=>
 (nth? a q).bind λ f=>
 bif decide (List.length k+List.length ([f]:LI)<=ay)then
 e (a,b,c,d,g,h,i,j,List.append k ([f]:LI),l,o,p,s,t,u,IntKind.wrap .i64 (v+(1:Int)))
 else none)
 else
 (some (a,b,c,d,g,h,i,j,k,l,o,p,s))
def fO.L3 (n:Nat) (q:B1) (f:B1->Option Ah):Option Ah:=
 match q with
 |(a,b,c,d,g,h,i,j,k,l)=>
 bif decide (l<k)then
 ((nth? j l).bind λ e=>
 (nth? a e.2.2).bind λ m=>
 (bH (fO.L2) n (a,b,c,d,g,h,i,e.1,([]:LI),m,j,k,l,e.2.1,(List.length e.2.1:Int),(0:Int))).bind λ(o,p,s,t,u,v,w,y,z,A,B,C,D)=>
 bif decide (List.length w+List.length ([(y,z,A)]:LR)<=ay)then
 f (o,p,s,t,u,v,List.append w ([(y,z,A)]:LR),B,C,IntKind.wrap .i64 (D+(1:Int)))
 else none)
 else
 (some (b,c,d,g,h,i))
def fO.P (k:LR->Option LR) (e:LI->Option LI) (f:LI->Option LI) (n:Nat) (x:Bz):Option Ab:=
 match x with
 |(a,b,c,d,g)=>
 (bH (fO.L1) n (g,a,b,c,(0:Int),([]:LI),([]:LR),d,([]:LI),([]:LR),b,(b.length:Int),(0:Int))).bind λ(a,_,_,b,c,d,g,h,i,j)=>
 (f i).bind λ m=>
 (e m).bind λ p=>
 (bH (fO.L3 n) n (a,c,d,g,h,p,j,b,(b.length:Int),(0:Int))).bind λ(_,_,_,a,b,c)=>
 (k c).bind λ l=>
 some (a,b,l)
def bP.L1 (f:aj8) (e:aj8->Option (Int×LI×LR×LI)):Option (Int×LI×LR×LI):=
 match f with
 |(a,b,c,d,g,h)=>
 bif decide (h<g)then
 (bif decide (0<=h)&&decide (h<(d.length:Int))then
 (at? d h.toNat).bind λ i=>
 e (a,b,c,List.set d h.toNat (-1:Int),g,IntKind.wrap .i64 (h+(1:Int)))
 else none)
 else
 (some (a,b,c,d))
def bP.L2 (m:BB->Option Bv) (v:Bp) (f:Bp->Option (Sum BP Bv)):Option (Sum BP Bv):=
 match v with
 |(a,b,c,d,g,h,i,j,k,l,o,p,s,t,u)=>
 bif decide (u<t)then
 ((nth? s u).bind λ e=>
 bif decide (0<=e)&&decide (e<(d.length:Int))then
 (at? d e.toNat).bind λ y=>
 bif decide (y<(0:Int))then
 ((m (a,b,c,d,g,h,l,o,IntKind.wrap .i64 (p+(1:Int)))).bind λ r=>some (Sum.inr r))
 else
 (bif decide (0<=e)&&decide (e<(d.length:Int))then
 (at? d e.toNat).bind λ q=>
 bif decide (List.length j+List.length ([q]:LI)<=ay)then
 f (a,b,c,d,g,h,i,List.append j ([q]:LI),k,l,o,p,s,t,IntKind.wrap .i64 (u+(1:Int)))
 else none
 else none)
 else none)
 else
 (some (Sum.inl (a,b,c,d,g,h,i,j,k,l,o,p)))
def bP.L3 (n:Nat) (C:BB) (e:BB->Option Bv):Option Bv:=
 match C with
 |(a,b,c,d,g,h,i,j,k)=>
 bif decide (k<j)then
 ((nth? i k).bind λ f=>
 bif decide (0<=f.2.2)&&decide (f.2.2<(d.length:Int))then
 (at? d (Int.toNat f.2.2)).bind λ m=>
 bif decide ((0:Int)<=m)then
 (e (a,b,c,d,g,h,i,j,IntKind.wrap .i64 (k+(1:Int))))
 else
 ((bH (bP.L2 e) n (a,b,c,d,g,h,f.1,([]:LI),f.2.2,i,j,k,f.2.1,(List.length f.2.1:Int),(0:Int))).bind λ q=>match q with
 |Sum.inl (l,o,p,s,t,u,v,w,y,z,A,B)=>(bif decide (List.length u+List.length ([(v,w,y)]:LR)<=ay)then
 e (l,o,p,s,t,List.append u ([(v,w,y)]:LR),z,A,IntKind.wrap .i64 (B+(1:Int)))
 else none)
 |Sum.inr r=>some r)
 else none)
 else
 (some (a,b,c,d,g,h))
def bP.L4 (m:A6_) (f:A6_->Option A2_):Option A2_:=
 match m with
 |(a,b,c,d,g,h,i,j)=>
 bif decide (j<i)then
 (bif decide (0<=j)&&decide (j<(h.length:Int))then
 (at? h j.toNat).bind λ e=>
 bif decide (0<=e.2.2)&&decide (e.2.2<(d.length:Int))then
 (at? d (Int.toNat e.2.2)).bind λ q=>
 (bif decide (q<(0:Int))then
 (bif decide (0<=e.2.2)&&decide (e.2.2<(d.length:Int))then
 (at? d (Int.toNat e.2.2)).bind λ y=>
 some (a,b,c,List.set d (Int.toNat e.2.2) g,IntKind.wrap .i64 (g+(1:Int)),h,i,j)
 else none)
 else
 (some (a,b,c,d,g,h,i,j))).bind λ(k,l,o,p,s,t,u,v)=>
 f (k,l,o,p,s,t,u,IntKind.wrap .i64 (v+(1:Int)))
 else none
 else none)
 else
 (some (a,b,c,d,g))
def bP.L5 (n:Nat) (e:LR->Option LR) (p:A2_) (f:A2_->Option LI):Option LI:=
 match p with
 |(a,b,c,d,g)=>
 bif decide (g<a)then
 ((bH (bP.L3 n) n (a,b,c,d,g,([]:LR),c,(c.length:Int),(0:Int))).bind λ(h,i,j,k,l,o)=>
 bif decide ((o.length:Int)=(0:Int))then
 (some k)
 else
 ((e o).bind λ m=>
 (bH (bP.L4) n (h,i,j,k,l,m,(m.length:Int),(0:Int))).bind λ(h,i,j,k,l)=>
 f (h,i,j,k,l)))
 else
 (some d)
def bP.P (e:LR->Option LR) (n:Nat) (x:Ab):Option LI:=
 match x with
 |(a,b,c)=>
 bif decide (0<=a)&&decide (a<=a)&&decide (a<=(ay:Int))then
 (bH (bP.L1) n (a,b,c,List.replicate a.toNat ((0:Int):Int),(List.length (List.replicate a.toNat ((0:Int):Int)):Int),(0:Int))).bind λ(a,b,c,d)=>
 (bH (bP.L5 n e) n (a,b,c,d,(0:Int))).bind λ f=>
 some f
 else none
def kW.L1 (f:BV) (e:BV->Option A7_):Option A7_:=
 match f with
 |(a,b,c,d,g,h,i,j,k,l,o)=>
 bif decide (o<l)then
 ((nth? k o).bind λ m=>
 e (a,b,c,d,g,h,i,max j (IntKind.wrap .i64 (m+(1:Int))),k,l,IntKind.wrap .i64 (o+(1:Int))))
 else
 (some (a,b,c,d,g,h,i,j))
def kW.P (k:Ab->Option Ab) (l:Aa->Option Aq) (f:Ab->Option LI) (i:Ab->Option LI) (e:Bz->Option Ab) (n:Nat) (x:Aa):Option Aq:=
 match x with
 |(a,b,c,d)=>
 (l (a,b,c,d)).bind λ t=>
 bif !decide (t.2.2.2=(0:Int))then
 (some ((0:Int),([]:LI),([]:LR),t.2.2.2))
 else
 ((k (t.1,t.2.1,t.2.2.1)).bind λ p=>
 (i (p.1,p.2.1,p.2.2)).bind λ u=>
 (bH (kW.L1) n ((0:Int),([]:LI),([]:LR),p.1,p.2.1,p.2.2,u,(0:Int),u,(u.length:Int),(0:Int))).bind λ(_,_,_,a,b,c,d,g)=>
 (e (a,b,c,g,d)).bind λ q=>
 (f (q.1,q.2.1,q.2.2)).bind λ v=>
 (e (q.1,q.2.1,q.2.2,g,v)).bind λ m=>
 some (m.1,m.2.1,m.2.2,(0:Int)))
def qB.L1 (f:Ay) (e:Ay->Option (Sum Unit Bool)):Option (Sum Unit Bool):=
 match f with
 |(a,b,c,d)=>
 bif decide (d<c)then
 ((nth? a d).bind λ g=>
 (nth? b d).bind λ i=>
 bif !decide (g=i)then
 ((some false).bind λ r=>some (Sum.inr r))
 else
 (e (a,b,c,IntKind.wrap .i64 (d+(1:Int)))))
 else
 (some (Sum.inl ()))
def qB.P (n:Nat) (x:Au):Option Bool:=
 match x with
 |(a,b)=>
 bif !decide ((a.length:Int)=(b.length:Int))then
 (some false)
 else
 ((bH (qB.L1) n (a,b,(a.length:Int),(0:Int))).bind λ q=>match q with
 |Sum.inl d=>(some true)
 |Sum.inr r=>some r)
def EU.L1 (e:Au->Option Bool) (l:A8) (f:A8->Option (Sum Unit Bool)):Option (Sum Unit Bool):=
 match l with
 |(a,b,c,d,g,h)=>
 bif decide (h<g)then
 ((nth? d h).bind λ k=>
 ((nth? c h).bind λ m=>
 bif !decide (k.1=m.1)then
 (some (a,b,c,d,g,h,true))
 else
 ((nth? c h).bind λ p=>
 bif !decide (k.2.2=p.2.2)then
 (some (a,b,c,d,g,h,true))
 else
 ((nth? c h).bind λ q=>
 (e (k.2.1,q.2.1)).bind λ t=>
 some (a,b,c,d,g,h, !t)))).bind λ(a,b,c,d,g,h,i)=>
 bif i then
 ((some false).bind λ r=>some (Sum.inr r))
 else
 (f (a,b,c,d,g,IntKind.wrap .i64 (h+(1:Int)))))
 else
 (some (Sum.inl ()))
def EU.P (e:Au->Option Bool) (n:Nat) (x:Ah):Option Bool:=
 match x with
 |(a,b,c,d,g,h)=>
 (bif !decide (a=d)then
 (some (a,b,c,d,g,h,true))
 else
 ((e (b,g)).bind λ f=>
 bif !f then
 (some (a,b,c,d,g,h,true))
 else
 (some (a,b,c,d,g,h, !decide ((c.length:Int)=(h.length:Int)))))).bind λ(_,_,a,b,c,d,g)=>
 bif g then
 (some false)
 else
 ((bH (EU.L1 e) n (b,c,d,a,(a.length:Int),(0:Int))).bind λ q=>match q with
 |Sum.inl i=>(some true)
 |Sum.inr r=>some r)
def LZ.P (e:Unit->Option Ab) (d:Aa->Option Aq) (f:Ah->Option Bool) (n:Nat) (x:Unit):Option Bool:=
 (e ()).bind λ i=>
 (d (([0,0,2]:LI),i.1,i.2.1,i.2.2)).bind λ g=>
 (bif decide (g.2.2.2=(0:Int))then
 ((f (g.1,g.2.1,g.2.2.1,(2:Int),([(1:Int)]:LI),([((0:Int),([]:LI),(0:Int)),((1:Int),([]:LI),(1:Int)),((2:Int),([(0:Int),(0:Int)]:LI),(0:Int)),((2:Int),([(0:Int),(1:Int)]:LI),(1:Int)),((2:Int),([(1:Int),(0:Int)]:LI),(1:Int)),((2:Int),([(1:Int),(1:Int)]:LI),(1:Int))]:LR))).bind λ k=>
 some k)
 else
 (some false)).bind λ l=>
 some l
def dL.L1 (g:An) (e:An->Option (Sum Unit Bool)):Option (Sum Unit Bool):=
 match g with
 |(a,b,c)=>
 bif decide (c<b)then
 ((nth? a c).bind λ f=>
 (bif decide (f<(0:Int))then
 (some (a,b,c,true))
 else
 (some (a,b,c,decide ((3:Int)<f)))).bind λ(a,b,c,d)=>
 bif d then
 ((some false).bind λ r=>some (Sum.inr r))
 else
 (e (a,b,IntKind.wrap .i64 (c+(1:Int)))))
 else
 (some (Sum.inl ()))
def dL.P (n:Nat) (x:LI):Option Bool:=
 bif decide ((12:Int)<(x.length:Int))then
 (some false)
 else
 ((bH (dL.L1) n (x,(x.length:Int),(0:Int))).bind λ q=>match q with
 |Sum.inl d=>(some true)
 |Sum.inr r=>some r)
def gJ.L1 (m:BA) (e:BA->Option (Sum Aa Bool)):Option (Sum Aa Bool):=
 match m with
 |(a,b,c,d,g,h,i)=>
 bif decide (i<h)then
 ((nth? g i).bind λ f=>
 (bif decide (f<(0:Int))then
 (some (a,b,c,d,g,h,i,true))
 else
 (bif decide (b<=f)then
 (some (a,b,c,d,g,h,i,true))
 else
 (bif decide ((0:Int)<i)then
 ((nth? c (IntKind.wrap .i64 (i-(1:Int)))).bind λ q=>
 some (a,b,c,d,g,h,i,decide (f<=q)))
 else
 (some (a,b,c,d,g,h,i,false))))).bind λ(j,k,l,o,p,s,t,u)=>
 bif u then
 ((some false).bind λ r=>some (Sum.inr r))
 else
 (e (j,k,l,o,p,s,IntKind.wrap .i64 (t+(1:Int)))))
 else
 (some (Sum.inl (a,b,c,d)))
def gJ.L2 (m:AV) (e:AV->Option (Sum AA (Sum Unit Bool))):Option (Sum AA (Sum Unit Bool)):=
 match m with
 |(a,b,c,d,g,h,i,j,k,l)=>
 bif decide (l<k)then
 ((nth? j l).bind λ f=>
 (bif decide (f<(0:Int))then
 (some (a,b,c,d,g,h,i,j,k,l,true))
 else
 (some (a,b,c,d,g,h,i,j,k,l,decide (b<=f)))).bind λ(o,p,s,t,u,v,w,y,z,A,B)=>
 bif B then
 (((some false).bind λ r=>some (Sum.inr r)).bind λ r=>some (Sum.inr r))
 else
 (e (o,p,s,t,u,v,w,y,z,IntKind.wrap .i64 (A+(1:Int)))))
 else
 (some (Sum.inl (a,b,c,d,g,h,i)))
def gJ.L3 (n:Nat) (m:AA) (f:AA->Option (Sum Unit Bool)):Option (Sum Unit Bool):=
 match m with
 |(a,b,c,d,g,h,i)=>
 bif decide (i<h)then
 ((nth? g i).bind λ e=>
 (bif decide (e.1<(0:Int))then
 (some (a,b,c,d,e.1,e.2.1,e.2.2,g,h,i,true))
 else
 (bif decide ((a.length:Int)<=e.1)then
 (some (a,b,c,d,e.1,e.2.1,e.2.2,g,h,i,true))
 else
 ((nth? a e.1).bind λ l=>
 bif !decide ((List.length e.2.1:Int)=l)then
 (some (a,b,c,d,e.1,e.2.1,e.2.2,g,h,i,true))
 else
 (bif decide (e.2.2<(0:Int))then
 (some (a,b,c,d,e.1,e.2.1,e.2.2,g,h,i,true))
 else
 (some (a,b,c,d,e.1,e.2.1,e.2.2,g,h,i,decide (b<=e.2.2))))))).bind λ(a,b,c,d,_,g,_,h,i,j,k)=>
 bif k then
 ((some false).bind λ r=>some (Sum.inr r))
 else
 ((bH (gJ.L2) n (a,b,c,d,h,i,j,g,(g.length:Int),(0:Int))).bind λ q=>match q with
 |Sum.inl (a,b,c,d,g,h,i)=>(f (a,b,c,d,g,h,IntKind.wrap .i64 (i+(1:Int))))
 |Sum.inr r=>some r))
 else
 (some (Sum.inl ()))
def gJ.P (e:LI->Option Bool) (n:Nat) (x:Aa):Option Bool:=
 match x with
 |(a,b,c,d)=>
 ((e a).bind λ f=>
 bif !f then
 (some (a,b,c,d,true))
 else
 (bif decide (b<(0:Int))then
 (some (a,b,c,d,true))
 else
 (bif decide ((300:Int)<b)then
 (some (a,b,c,d,true))
 else
 (some (a,b,c,d,decide ((20000:Int)<(d.length:Int))))))).bind λ(a,b,c,d,g)=>
 bif g then
 (some false)
 else
 ((bH (gJ.L1) n (a,b,c,d,c,(c.length:Int),(0:Int))).bind λ q=>match q with
 |Sum.inl (a,b,c,d)=>((bH (gJ.L3 n) n (a,b,c,d,d,(d.length:Int),(0:Int))).bind λ q=>match q with
 |Sum.inl i=>(some true)
 |Sum.inr r=>some r)
 |Sum.inr r=>some r)
def oq.L1 (e:Au->Option Bool) (q:BN) (f:BN->Option (Sum A8 (Sum Unit Bool))):Option (Sum A8 (Sum Unit Bool)):=
 match q with
 |(a,b,c,d,g,h,i,j,k,l,o,p)=>
 bif decide (p<o)then
 ((nth? l p).bind λ m=>
 (bif decide (d=m.1)then
 ((e (g,m.2.1)).bind λ G=>
 some (a,b,c,d,g,h,i,j,k,l,o,p,G))
 else
 (some (a,b,c,d,g,h,i,j,k,l,o,p,false))).bind λ(s,t,u,v,w,y,z,A,B,C,D,E,F)=>
 bif F then
 (((some false).bind λ r=>some (Sum.inr r)).bind λ r=>some (Sum.inr r))
 else
 (f (s,t,u,v,w,y,z,A,B,C,D,IntKind.wrap .i64 (E+(1:Int)))))
 else
 (some (Sum.inl (a,b,c,i,j,k)))
def oq.L2 (e:Au->Option Bool) (n:Nat) (k:A8) (f:A8->Option (Sum Unit Bool)):Option (Sum Unit Bool):=
 match k with
 |(a,b,c,d,g,h)=>
 bif decide (h<g)then
 ((nth? d h).bind λ i=>
 bif decide (0<=0)&&decide (0<=h)&&decide (h<=(c.length:Int))then
 (bH (oq.L1 e) n (a,b,c,i.1,i.2.1,i.2.2,d,g,h,List.drop (Int.toNat 0) (List.take h.toNat c),(List.length (List.drop (Int.toNat 0) (List.take h.toNat c)):Int),(0:Int))).bind λ q=>match q with
 |Sum.inl (a,b,c,d,g,h)=>(f (a,b,c,d,g,IntKind.wrap .i64 (h+(1:Int))))
 |Sum.inr r=>some r
 else none)
 else
 (some (Sum.inl ()))
def oq.P (d:Au->Option Bool) (n:Nat) (x:Ab):Option Bool:=
 match x with
 |(a,b,c)=>
 (bH (oq.L2 d n) n (a,b,c,c,(c.length:Int),(0:Int))).bind λ q=>match q with
 |Sum.inl e=>(some true)
 |Sum.inr r=>some r
def gI.L1 (m:A5) (e:A5->Option Bu):Option Bu:=
 match m with
 |(a,b,c,d,g,h,i,j,k,l,o,p,s,t,u)=>
 bif decide (u<t)then
 ((nth? s u).bind λ f=>
 (bif k then
 (bif decide (0<=f)&&decide (f<(d.length:Int))then
 (at? d f.toNat).bind λ q=>
 some (a,b,c,d,g,h,i,j,q,l,o,p,s,t,u)
 else none)
 else
 (some (a,b,c,d,g,h,i,j,false,l,o,p,s,t,u))).bind λ(v,w,y,z,A,B,C,D,E,F,G,H,I,J,K)=>
 e (v,w,y,z,A,B,C,D,E,F,G,H,I,J,IntKind.wrap .i64 (K+(1:Int))))
 else
 (some (a,b,c,d,g,h,i,j,k,l,o,p))
def gI.L2 (n:Nat) (q:B9) (e:B9->Option BL):Option BL:=
 match q with
 |(a,b,c,d,g,h,i,j)=>
 bif decide (j<i)then
 ((nth? h j).bind λ f=>
 (bH (gI.L1) n (a,b,c,d,g,f.1,f.2.1,f.2.2,true,h,i,j,f.2.1,(List.length f.2.1:Int),(0:Int))).bind λ(k,l,o,p,s,t,u,v,w,y,z,A)=>
 (bif w then
 (bif decide (0<=v)&&decide (v<(p.length:Int))then
 (at? p v.toNat).bind λ m=>
 some (k,l,o,p,s,t,u,v,y,z,A, !m)
 else none)
 else
 (some (k,l,o,p,s,t,u,v,y,z,A,false))).bind λ(k,l,o,p,s,_,_,t,u,v,w,y)=>
 (bif y then
 (bif decide (0<=t)&&decide (t<(p.length:Int))then
 (at? p t.toNat).bind λ B=>
 some (k,l,o,List.set p t.toNat true,true,u,v,w)
 else none)
 else
 (some (k,l,o,p,s,u,v,w))).bind λ(k,l,o,p,s,t,u,v)=>
 e (k,l,o,p,s,t,u,IntKind.wrap .i64 (v+(1:Int))))
 else
 (some (a,b,c,d,g))
def gI.L3 (n:Nat) (f:BL) (e:BL->Option (List Bool)):Option (List Bool):=
 match f with
 |(a,b,c,d,g)=>
 bif g then
 ((bH (gI.L2 n) n (a,b,c,d,false,c,(c.length:Int),(0:Int))).bind λ(h,i,j,k,l)=>
 e (h,i,j,k,l))
 else
 (some d)
def gI.P (n:Nat) (x:Ab):Option (List Bool):=
 match x with
 |(a,b,c)=>
 bif decide (0<=a)&&decide (a<=a)&&decide (a<=(ay:Int))then
 (bH (gI.L3 n) n (a,b,c,List.replicate a.toNat (false:Bool),true)).bind λ d=>
 some d
 else none
def fP.L1 (k:BX) (f:BX->Option ajX):Option ajX:=
 match k with
 |(a,b,c,d,g,h,i,j)=>
 bif decide (j<i)then
 ((nth? h j).bind λ e=>
 bif decide (0<=e)&&decide (e<(d.length:Int))then
 (at? d e.toNat).bind λ l=>
 bif decide (0<=e)&&decide (e<(g.length:Int))then
 (at? g e.toNat).bind λ m=>
 f (a,b,c,d,List.set g e.toNat l,h,i,IntKind.wrap .i64 (j+(1:Int)))
 else none
 else none)
 else
 (some (a,b,c,d,g))
def fP.L2 (m:AX) (e:AX->Option Be):Option Be:=
 match m with
 |(a,b,c,d,g,h,i,j,k,l,o,p,s,t,u,v)=>
 bif decide (v<u)then
 ((nth? t v).bind λ f=>
 (bif l then
 (bif decide (0<=f)&&decide (f<(d.length:Int))then
 (at? d f.toNat).bind λ q=>
 some (a,b,c,d,g,h,i,j,k,q,o,p,s,t,u,v)
 else none)
 else
 (some (a,b,c,d,g,h,i,j,k,false,o,p,s,t,u,v))).bind λ(w,y,z,A,B,C,D,E,F,G,H,I,J,K,L,M)=>
 e (w,y,z,A,B,C,D,E,F,G,H,I,J,K,L,IntKind.wrap .i64 (M+(1:Int))))
 else
 (some (a,b,c,d,g,h,i,j,k,l,o,p,s))
def fP.L3 (m:Bf) (f:Bf->Option AJ):Option AJ:=
 match m with
 |(a,b,c,d,g,h,i,j,k,l,o,p,s)=>
 bif decide (s<p)then
 ((nth? o s).bind λ e=>
 (bif i then
 (bif decide (0<=e)&&decide (e<(g.length:Int))then
 (at? g e.toNat).bind λ q=>
 some (a,b,c,d,g,h,i,e,j,k,l,o,p,s, !q)
 else none)
 else
 (some (a,b,c,d,g,h,i,e,j,k,l,o,p,s,false))).bind λ(t,u,v,w,y,z,A,B,C,D,E,F,G,H,I)=>
 (bif I then
 (bif decide (0<=B)&&decide (B<(y.length:Int))then
 (at? y B.toNat).bind λ K=>
 some (t,u,v,w,List.set y B.toNat true,true,A,C,D,E,F,G,H)
 else none)
 else
 (some (t,u,v,w,y,z,A,C,D,E,F,G,H))).bind λ(t,u,v,w,y,z,A,B,C,D,E,F,G)=>
 f (t,u,v,w,y,z,A,B,C,D,E,F,IntKind.wrap .i64 (G+(1:Int))))
 else
 (some (a,b,c,d,g,h,j,k,l))
def fP.L4 (n:Nat) (m:AJ) (f:AJ->Option A6):Option A6:=
 match m with
 |(a,b,c,d,g,h,i,j,k)=>
 bif decide (k<j)then
 ((nth? i k).bind λ e=>
 bif decide (0<=e.2.2)&&decide (e.2.2<(g.length:Int))then
 (at? g (Int.toNat e.2.2)).bind λ q=>
 (bH (fP.L2) n (a,b,c,d,g,h,e.1,e.2.1,e.2.2,q,i,j,k,e.2.1,(List.length e.2.1:Int),(0:Int))).bind λ(l,o,p,s,t,u,_,v,_,w,y,z,A)=>
 (bH (fP.L3) n (l,o,p,s,t,u,w,y,z,A,v,(v.length:Int),(0:Int))).bind λ(l,o,p,s,t,u,v,w,y)=>
 f (l,o,p,s,t,u,v,w,IntKind.wrap .i64 (y+(1:Int)))
 else none)
 else
 (some (a,b,c,d,g,h))
def fP.L5 (n:Nat) (f:A6) (e:A6->Option (List Bool)):Option (List Bool):=
 match f with
 |(a,b,c,d,g,h)=>
 bif h then
 ((bH (fP.L4 n) n (a,b,c,d,g,false,c,(c.length:Int),(0:Int))).bind λ(i,j,k,l,o,p)=>
 e (i,j,k,l,o,p))
 else
 (some g)
def fP.P (e:Ab->Option (List Bool)) (n:Nat) (x:Ab):Option (List Bool):=
 match x with
 |(a,b,c)=>
 (e (a,b,c)).bind λ i=>
 bif decide (0<=a)&&decide (a<=a)&&decide (a<=(ay:Int))then
 (bH (fP.L1) n (a,b,c,i,List.replicate a.toNat (false:Bool),b,(b.length:Int),(0:Int))).bind λ(a,b,c,d,g)=>
 (bH (fP.L5 n) n (a,b,c,d,g,true)).bind λ f=>
 some f
 else none
def H6.P (n:Nat) (x:A1_):Option LI:=
 match x with
 |(a,b,c)=>
 bif decide (List.length ([a]:LI)+List.length b<=ay)then
 bif decide (List.length (List.append ([a]:LI) b)+List.length ([c]:LI)<=ay)then
 some (List.append (List.append ([a]:LI) b) ([c]:LI))
 else none
 else none
def rW.L1 (f:Ay) (e:Ay->Option (Sum Au Int)):Option (Sum Au Int):=
 match f with
 |(a,b,c,d)=>
 bif decide (d<c)then
 ((nth? a d).bind λ g=>
 (nth? b d).bind λ i=>
 bif decide (g<i)then
 ((some (-1:Int)).bind λ r=>some (Sum.inr r))
 else
 ((nth? a d).bind λ k=>
 (nth? b d).bind λ l=>
 bif decide (l<k)then
 ((some (1:Int)).bind λ r=>some (Sum.inr r))
 else
 (e (a,b,c,IntKind.wrap .i64 (d+(1:Int))))))
 else
 (some (Sum.inl (a,b)))
def rW.P (n:Nat) (x:Au):Option Int:=
 match x with
 |(a,b)=>
 (bH (rW.L1) n (a,b,min (a.length:Int) (b.length:Int),(0:Int))).bind λ q=>match q with
 |Sum.inl (a,b)=>(bif decide ((a.length:Int)<(b.length:Int))then
 (some (-1:Int))
 else
 (bif decide ((b.length:Int)<(a.length:Int))then
 (some (1:Int))
 else
 (some (0:Int))))
 |Sum.inr r=>some r
def mQ.L1 (e:Ru->Option LI) (f:Au->Option Int) (z:A3_) (m:A3_->Option A5_):Option A5_:=
 match z with
 |(a,b,c,d,g,h,i,j,k)=>
 bif decide (g<h)then
 (bif !decide ((2:Int)=0)then
 bif decide (0<=(IntKind.wrap .i64 (Int.tdiv (IntKind.wrap .i64 (g+h)) (2:Int))))&&decide ((IntKind.wrap .i64 (Int.tdiv (IntKind.wrap .i64 (g+h)) (2:Int)))<(a.length:Int))then
 (at? a (Int.toNat (IntKind.wrap .i64 (Int.tdiv (IntKind.wrap .i64 (g+h)) (2:Int))))).bind λ q=>
 (e (q.1,q.2.1,q.2.2)).bind λ A=>
 (e (b,c,d)).bind λ B=>
 (f (A,B)).bind λ C=>
 (bif decide (C<(0:Int))then
 (some (a,b,c,d,IntKind.wrap .i64 ((IntKind.wrap .i64 (Int.tdiv (IntKind.wrap .i64 (g+h)) (2:Int)))+(1:Int)),h,i,j,k))
 else
 (some (a,b,c,d,g,IntKind.wrap .i64 (Int.tdiv (IntKind.wrap .i64 (g+h)) (2:Int)),i,j,k))).bind λ(l,o,p,s,t,u,v,w,y)=>
 m (l,o,p,s,t,u,v,w,y)
 else none
 else none)
 else
 (some (a,b,c,d,g,i,j,k))
def mQ.L2 (e:Ru->Option LI) (f:Au->Option Int) (n:Nat) (z:LR×LR×Int×Int) (q:(LR×LR×Int×Int)->Option LR):Option LR:=
 match z with
 |(a,b,c,d)=>
 bif decide (d<c)then
 ((nth? b d).bind λ t=>
 (bH (mQ.L1 e f) n (a,t.1,t.2.1,t.2.2,(0:Int),(a.length:Int),b,c,d)).bind λ(g,h,i,j,k,l,o,p)=>
 (bif decide (k=(g.length:Int))then
 (some (g,h,i,j,k,l,o,p,true))
 else
 (bif decide (0<=k)&&decide (k<(g.length:Int))then
 (at? g k.toNat).bind λ m=>
 (e (m.1,m.2.1,m.2.2)).bind λ u=>
 (e (h,i,j)).bind λ v=>
 (f (u,v)).bind λ y=>
 some (g,h,i,j,k,l,o,p, !decide (y=(0:Int)))
 else none)).bind λ(g,h,i,j,k,l,o,p,s)=>
 (bif s then
 (bif decide (List.length g+List.length ([((0:Int),([]:LI),(0:Int))]:LR)<=ay)then
 bif decide (0<=(IntKind.wrap .i64 (k+(1:Int))))&&decide ((IntKind.wrap .i64 (k+(1:Int)))<=(List.length (List.append g ([((0:Int),([]:LI),(0:Int))]:LR)):Int))&&decide ((List.length (List.append g ([((0:Int),([]:LI),(0:Int))]:LR)):Int)<=(List.length (List.append g ([((0:Int),([]:LI),(0:Int))]:LR)):Int))then
 bif decide (0<=k)&&decide (k<=(List.length (List.append g ([((0:Int),([]:LI),(0:Int))]:LR)):Int))&&decide ((List.length (List.append g ([((0:Int),([]:LI),(0:Int))]:LR)):Int)<=(List.length (List.append g ([((0:Int),([]:LI),(0:Int))]:LR)):Int))then
 bif decide (0<=k)&&decide (k<(List.length (List.append (List.append (List.take (Int.toNat (IntKind.wrap .i64 (k+(1:Int)))) (List.append g ([((0:Int),([]:LI),(0:Int))]:LR))) (List.take (Nat.min (List.length (List.drop k.toNat (List.take (Int.toNat (List.length (List.append g ([((0:Int),([]:LI),(0:Int))]:LR)):Int)) (List.append g ([((0:Int),([]:LI),(0:Int))]:LR))))) ((Int.toNat (List.length (List.append g ([((0:Int),([]:LI),(0:Int))]:LR)):Int))-(Int.toNat (IntKind.wrap .i64 (k+(1:Int)))))) (List.drop k.toNat (List.take (Int.toNat (List.length (List.append g ([((0:Int),([]:LI),(0:Int))]:LR)):Int)) (List.append g ([((0:Int),([]:LI),(0:Int))]:LR)))))) (List.drop ((Int.toNat (IntKind.wrap .i64 (k+(1:Int))))+(Nat.min (List.length (List.drop k.toNat (List.take (Int.toNat (List.length (List.append g ([((0:Int),([]:LI),(0:Int))]:LR)):Int)) (List.append g ([((0:Int),([]:LI),(0:Int))]:LR))))) ((Int.toNat (List.length (List.append g ([((0:Int),([]:LI),(0:Int))]:LR)):Int))-(Int.toNat (IntKind.wrap .i64 (k+(1:Int))))))) (List.append g ([((0:Int),([]:LI),(0:Int))]:LR)))):Int))then
 (at? (List.append (List.append (List.take (Int.toNat (IntKind.wrap .i64 (k+(1:Int)))) (List.append g ([((0:Int),([]:LI),(0:Int))]:LR))) (List.take (Nat.min (List.length (List.drop k.toNat (List.take (Int.toNat (List.length (List.append g ([((0:Int),([]:LI),(0:Int))]:LR)):Int)) (List.append g ([((0:Int),([]:LI),(0:Int))]:LR))))) ((Int.toNat (List.length (List.append g ([((0:Int),([]:LI),(0:Int))]:LR)):Int))-(Int.toNat (IntKind.wrap .i64 (k+(1:Int)))))) (List.drop k.toNat (List.take (Int.toNat (List.length (List.append g ([((0:Int),([]:LI),(0:Int))]:LR)):Int)) (List.append g ([((0:Int),([]:LI),(0:Int))]:LR)))))) (List.drop ((Int.toNat (IntKind.wrap .i64 (k+(1:Int))))+(Nat.min (List.length (List.drop k.toNat (List.take (Int.toNat (List.length (List.append g ([((0:Int),([]:LI),(0:Int))]:LR)):Int)) (List.append g ([((0:Int),([]:LI),(0:Int))]:LR))))) ((Int.toNat (List.length (List.append g ([((0:Int),([]:LI),(0:Int))]:LR)):Int))-(Int.toNat (IntKind.wrap .i64 (k+(1:Int))))))) (List.append g ([((0:Int),([]:LI),(0:Int))]:LR)))) k.toNat).bind λ A=>
 some (List.set (List.append (List.append (List.take (Int.toNat (IntKind.wrap .i64 (k+(1:Int)))) (List.append g ([((0:Int),([]:LI),(0:Int))]:LR))) (List.take (Nat.min (List.length (List.drop k.toNat (List.take (Int.toNat (List.length (List.append g ([((0:Int),([]:LI),(0:Int))]:LR)):Int)) (List.append g ([((0:Int),([]:LI),(0:Int))]:LR))))) ((Int.toNat (List.length (List.append g ([((0:Int),([]:LI),(0:Int))]:LR)):Int))-(Int.toNat (IntKind.wrap .i64 (k+(1:Int)))))) (List.drop k.toNat (List.take (Int.toNat (List.length (List.append g ([((0:Int),([]:LI),(0:Int))]:LR)):Int)) (List.append g ([((0:Int),([]:LI),(0:Int))]:LR)))))) (List.drop ((Int.toNat (IntKind.wrap .i64 (k+(1:Int))))+(Nat.min (List.length (List.drop k.toNat (List.take (Int.toNat (List.length (List.append g ([((0:Int),([]:LI),(0:Int))]:LR)):Int)) (List.append g ([((0:Int),([]:LI),(0:Int))]:LR))))) ((Int.toNat (List.length (List.append g ([((0:Int),([]:LI),(0:Int))]:LR)):Int))-(Int.toNat (IntKind.wrap .i64 (k+(1:Int))))))) (List.append g ([((0:Int),([]:LI),(0:Int))]:LR)))) k.toNat (h,i,j),l,o,p)
 else none
 else none
 else none
 else none)
 else
 (some (g,l,o,p))).bind λ(g,h,i,j)=>
 q (g,h,i,IntKind.wrap .i64 (j+(1:Int))))
 else
 (some a)
def mQ.P (d:Au->Option Int) (e:Ru->Option LI) (n:Nat) (x:LR):Option LR:=
 (bH (mQ.L2 e d n) n (([]:LR),x,(x.length:Int),(0:Int))).bind λ f=>
 some f
def iC.L1 (f:Bb) (e:Bb->Option AH):Option AH:=
 match f with
 |(a,b,c,d,g,h,i,j,k,l,o,p,s,t)=>
 bif decide (t<s)then
 ((nth? p t).bind λ m=>
 (bif m then
 (bif decide (0<=t)&&decide (t<(j.length:Int))then
 (at? j t.toNat).bind λ q=>
 some (a,b,c,d,g,h,i,List.set j t.toNat k,IntKind.wrap .i64 (k+(1:Int)),l,o,p,s,t)
 else none)
 else
 (some (a,b,c,d,g,h,i,j,k,l,o,p,s,t))).bind λ(u,v,w,y,z,A,B,C,D,E,F,G,H,I)=>
 e (u,v,w,y,z,A,B,C,D,E,F,G,H,IntKind.wrap .i64 (I+(1:Int))))
 else
 (some (a,b,c,d,g,h,i,j,k,l,o))
def iC.L2 (K:Bq) (e:Bq->Option AH):Option AH:=
 match K with
 |(a,b,c,d,g,h,i,j,k,l,o,p,s,t)=>
 bif decide (t<s)then
 ((nth? p t).bind λ m=>
 (nth? a m).bind λ q=>
 (bif q then
 (bif decide (0<=m)&&decide (m<(j.length:Int))then
 (at? j m.toNat).bind λ f=>
 bif decide (List.length l+List.length ([f]:LI)<=ay)then
 some (a,b,c,d,g,h,i,j,k,List.append l ([f]:LI),o,p,s,t)
 else none
 else none)
 else
 (some (a,b,c,d,g,h,i,j,k,l,o,p,s,t))).bind λ(u,v,w,y,z,A,B,C,D,E,F,G,H,I)=>
 e (u,v,w,y,z,A,B,C,D,E,F,G,H,IntKind.wrap .i64 (I+(1:Int))))
 else
 (some (a,b,c,d,g,h,i,j,k,l,o))
def iC.L3 (q:AS) (e:AS->Option A3):Option A3:=
 match q with
 |(a,b,c,d,g,h,i,j,k,l,o,p,s,t,u,v,w,y,z)=>
 bif decide (z<y)then
 ((nth? w z).bind λ f=>
 (bif p then
 ((nth? a f).bind λ U=>
 some (a,b,c,d,g,h,i,j,k,l,o,U,s,f,t,u,v,w,y,z))
 else
 (some (a,b,c,d,g,h,i,j,k,l,o,false,s,f,t,u,v,w,y,z))).bind λ(A,B,C,D,E,F,G,H,I,J,K,L,M,N,O,P,Q,R,S,T)=>
 bif decide (0<=N)&&decide (N<(E.length:Int))then
 (at? E N.toNat).bind λ m=>
 bif decide (List.length M+List.length ([m]:LI)<=ay)then
 e (A,B,C,D,E,F,G,H,I,J,K,L,List.append M ([m]:LI),O,P,Q,R,S,IntKind.wrap .i64 (T+(1:Int)))
 else none
 else none)
 else
 (some (a,b,c,d,g,h,i,j,k,l,o,p,s,t,u,v))
def iC.L4 (n:Nat) (q:BO) (f:BO->Option Ah):Option Ah:=
 match q with
 |(a,b,c,d,g,h,i,j,k,l,o)=>
 bif decide (o<l)then
 ((nth? k o).bind λ e=>
 (nth? a e.2.2).bind λ I=>
 (bH (iC.L3) n (a,b,c,d,g,h,i,j,e.1,e.2.1,e.2.2,I,([]:LI),k,l,o,e.2.1,(List.length e.2.1:Int),(0:Int))).bind λ(p,s,t,u,v,w,y,z,A,_,B,C,D,E,F,G)=>
 (bif C then
 (bif decide (0<=B)&&decide (B<(v.length:Int))then
 (at? v B.toNat).bind λ m=>
 bif decide (List.length z+List.length ([(A,D,m)]:LR)<=ay)then
 some (p,s,t,u,v,w,y,List.append z ([(A,D,m)]:LR),E,F,G)
 else none
 else none)
 else
 (some (p,s,t,u,v,w,y,z,E,F,G))).bind λ(p,s,t,u,v,w,y,z,A,B,C)=>
 f (p,s,t,u,v,w,y,z,A,B,IntKind.wrap .i64 (C+(1:Int))))
 else
 (some (b,c,d,h,i,j))
def iC.P (e:LR->Option LR) (n:Nat) (x:AF):Option Ab:=
 match x with
 |(a,b,c,d)=>
 bif decide (0<=a)&&decide (a<=a)&&decide (a<=(ay:Int))then
 (bH (iC.L1) n (d,a,b,c,(0:Int),([]:LI),([]:LR),List.replicate a.toNat ((0:Int):Int),(0:Int),([]:LI),([]:LR),d,(d.length:Int),(0:Int))).bind λ(a,b,c,d,g,h,i,j,k,l,o)=>
 (bH (iC.L2) n (a,b,c,d,g,h,i,j,k,l,o,c,(c.length:Int),(0:Int))).bind λ(a,_,_,b,c,d,g,h,i,j,k)=>
 (bH (iC.L4 n) n (a,c,d,g,h,i,j,k,b,(b.length:Int),(0:Int))).bind λ(_,_,_,a,b,c)=>
 (e c).bind λ f=>
 some (a,b,f)
 else none
def wW.P (d:AF->Option Ab) (e:Ab->Option (List Bool)) (n:Nat) (x:Ab):Option Ab:=
 match x with
 |(a,b,c)=>
 (e (a,b,c)).bind λ g=>
 (d (a,b,c,g)).bind λ f=>
 some (f.1,f.2.1,f.2.2)
def lZ.L1 (f:akk) (e:akk->Option Int):Option Int:=
 match f with
 |(a,b,c,d)=>
 bif decide (d<c)then
 (e (a,min (IntKind.wrap .i64 (b*a)) (1099511627776:Int),c,IntKind.wrap .i64 (d+(1:Int))))
 else
 (some b)
def lZ.P (n:Nat) (x:Ac):Option Int:=
 match x with
 |(a,b)=>
 (bH (lZ.L1) n (a,(1:Int),b,(0:Int))).bind λ d=>
 some d
def EW.P (e:Ac->Option Int) (d:Ab->Option Ab) (n:Nat) (x:Ab):Option Int:=
 match x with
 |(a,b,c)=>
 (d (a,b,c)).bind λ f=>
 (e ((2:Int),f.1)).bind λ g=>
 some g
def rV.L1 (e:Ac->Option Int) (i:akg) (f:akg->Option Int):Option Int:=
 match i with
 |(a,b,c,d,g)=>
 bif decide (g<d)then
 ((nth? c g).bind λ k=>
 (e (a,k)).bind λ l=>
 f (a,IntKind.wrap .i64 (b+l),c,d,IntKind.wrap .i64 (g+(1:Int))))
 else
 (some b)
def rV.P (d:Ac->Option Int) (n:Nat) (x:Af):Option Int:=
 match x with
 |(a,b)=>
 (bH (rV.L1 d) n (b,(0:Int),a,(a.length:Int),(0:Int))).bind λ e=>
 some e
def EX.P (d:Af->Option Int) (n:Nat) (x:Af):Option Bool:=
 match x with
 |(a,b)=>
 (bif decide ((300:Int)<b)then
 (some true)
 else
 ((d (a,b)).bind λ e=>
 some (decide ((20000:Int)<e)))).bind λ f=>
 some f
def wX.P (g:Ab->Option Bool) (e:Ab->Option Int) (f:Af->Option Bool) (n:Nat) (x:Aa):Option Bool:=
 match x with
 |(a,b,c,d)=>
 ((g (b,c,d)).bind λ i=>
 bif i then
 (some true)
 else
 ((e (b,c,d)).bind λ k=>
 (f (a,k)).bind λ l=>
 some (!l))).bind λ m=>
 some m
def qh.L1 (f:Ab->Option Int) (l:Ab->Option Bool) (e:Ab->Option Ab) (k:Af->Option Int) (q:ajY) (p:ajY->Option (Sum Unit Bool)):Option (Sum Unit Bool):=
 match q with
 |(a,b,c,d)=>
 bif decide (d<c)then
 ((nth? b d).bind λ m=>
 (bif decide ((300:Int)<(List.length m.2.2:Int))then
 (some (a,m.1,m.2.1,m.2.2,b,c,d,true))
 else
 (some (a,m.1,m.2.1,m.2.2,b,c,d,decide ((100:Int)<m.1)))).bind λ(a,b,c,d,g,h,i,j)=>
 bif j then
 ((some false).bind λ r=>some (Sum.inr r))
 else
 ((f (b,c,d)).bind λ t=>
 (l (b,c,d)).bind λ u=>
 (bif u then
 ((e (b,c,d)).bind λ v=>
 some (a,v.1,g,h,i))
 else
 (some (a,t,g,h,i))).bind λ(a,b,c,d,g)=>
 (k (a,IntKind.wrap .i64 (b+(1:Int)))).bind λ y=>
 bif decide ((1500:Int)<y)then
 ((some false).bind λ r=>some (Sum.inr r))
 else
 (p (a,c,d,IntKind.wrap .i64 (g+(1:Int))))))
 else
 (some (Sum.inl ()))
def qh.P (e:Af->Option Int) (g:Ab->Option Bool) (d:Ab->Option Ab) (f:Ab->Option Int) (n:Nat) (x:Ax):Option Bool:=
 match x with
 |(a,b)=>
 (bH (qh.L1 f g d e) n (a,b,(b.length:Int),(0:Int))).bind λ q=>match q with
 |Sum.inl i=>(some true)
 |Sum.inr r=>some r
def CU.P (d:Ax->Option Bool) (n:Nat) (x:Ax):Option Bool:=
 match x with
 |(a,b)=>
 (d (a,b)).bind λ e=>
 some e
def iM.L1 (l:A0_) (e:A0_->Option B2):Option B2:=
 match l with
 |(a,b,c,d,g,h,i,j,k)=>
 bif decide (k<j)then
 (bif decide (0<=k)&&decide (k<(i.length:Int))then
 (at? i k.toNat).bind λ f=>
 bif decide (List.length ([d]:LI)+List.length f<=ay)then
 bif decide (List.length c+List.length ([List.append ([d]:LI) f]:List LI)<=ay)then
 e (a,b,List.append c ([List.append ([d]:LI) f]:List LI),d,g,h,i,j,IntKind.wrap .i64 (k+(1:Int)))
 else none
 else none
 else none)
 else
 (some (a,b,c,g,h))
def iM.L2 (e:Ac->Option LL) (n:Nat) (p:B2) (f:B2->Option LL):Option LL:=
 match p with
 |(a,b,c,d,g)=>
 bif decide (g<d)then
 ((e (a,IntKind.wrap .i64 (b-(1:Int)))).bind λ m=>
 (bH (iM.L1) n (a,b,c,g,d,g,m,(m.length:Int),(0:Int))).bind λ(h,i,j,k,l)=>
 f (h,i,j,k,IntKind.wrap .i64 (l+(1:Int))))
 else
 (some c)
def iM.P (d:Ac->Option LL) (n:Nat) (x:Ac):Option LL:=
 match x with
 |(a,b)=>
 bif decide (b=(0:Int))then
 (some ([([]:LI)]:List LI))
 else
 ((bH (iM.L2 d n) n (a,b,([]:List LI),a,(0:Int))).bind λ e=>
 some e)
def rZ.L1 (i:aki) (e:aki->Option LL):Option LL:=
 match i with
 |(a,b,c,d,g)=>
 bif decide (g<d)then
 ((nth? c g).bind λ k=>
 (nth? a k).bind λ f=>
 bif decide (List.length b+List.length ([f]:List LI)<=ay)then
 e (a,List.append b ([f]:List LI),c,d,IntKind.wrap .i64 (g+(1:Int)))
 else none)
 else
 (some b)
def rZ.P (n:Nat) (x:Bs):Option LL:=
 match x with
 |(a,b)=>
 (bH (rZ.L1) n (a,([]:List LI),b,(b.length:Int),(0:Int))).bind λ d=>
 some d
def yL.L1 (f:A9_) (e:A9_->Option (Sum Unit Bool)):Option (Sum Unit Bool):=
 match f with
 |(a,b,c,d)=>
 bif decide (d<c)then
 ((nth? b d).bind λ g=>
 bif decide (g=a)then
 ((some true).bind λ r=>some (Sum.inr r))
 else
 (e (a,b,c,IntKind.wrap .i64 (d+(1:Int)))))
 else
 (some (Sum.inl ()))
def yL.P (n:Nat) (x:Af):Option Bool:=
 match x with
 |(a,b)=>
 (bH (yL.L1) n (b,a,(a.length:Int),(0:Int))).bind λ q=>match q with
 |Sum.inl d=>(some false)
 |Sum.inr r=>some r
def kH.L1 (f:An) (e:An->Option An):Option An:=
 match f with
 |(a,b,c)=>
 (bif decide (c<(a.length:Int))then
 ((nth? a c).bind λ g=>
 some (a,b,c,decide (g<b)))
 else
 (some (a,b,c,false))).bind λ(a,b,c,d)=>
 bif d then
 (e (a,b,IntKind.wrap .i64 (c+(1:Int))))
 else
 (some (a,b,c))
def kH.P (n:Nat) (x:Af):Option LI:=
 match x with
 |(a,b)=>
 (bH (kH.L1) n (a,b,(0:Int))).bind λ(a,b,c)=>
 (bif decide (c<(a.length:Int))then
 ((nth? a c).bind λ e=>
 some (a,b,c,decide (e=b)))
 else
 (some (a,b,c,false))).bind λ(a,b,c,d)=>
 bif d then
 (some a)
 else
 (bif decide (0<=0)&&decide (0<=c)&&decide (c<=(a.length:Int))then
 bif decide (List.length ([]:LI)+List.length (List.drop (Int.toNat 0) (List.take c.toNat a))<=ay)then
 bif decide (List.length (List.append ([]:LI) (List.drop (Int.toNat 0) (List.take c.toNat a)))+List.length ([b]:LI)<=ay)then
 bif decide (0<=c)&&decide (c<=(a.length:Int))&&decide ((a.length:Int)<=(a.length:Int))then
 bif decide (List.length (List.append (List.append ([]:LI) (List.drop (Int.toNat 0) (List.take c.toNat a))) ([b]:LI))+List.length (List.drop c.toNat (List.take (Int.toNat (a.length:Int)) a))<=ay)then
 some (List.append (List.append (List.append ([]:LI) (List.drop (Int.toNat 0) (List.take c.toNat a))) ([b]:LI)) (List.drop c.toNat (List.take (Int.toNat (a.length:Int)) a)))
 else none
 else none
 else none
 else none
 else none)
def jU.L1 (e:Af->Option Bool) (m:BU) (f:BU->Option B0):Option B0:=
 match m with
 |(a,b,c,d,g,h,i,j,k,l,o)=>
 (bif i then
 (some (a,b,c,d,g,h,i,j,k,l,o,decide (j<(b.length:Int))))
 else
 (some (a,b,c,d,g,h,i,j,k,l,o,false))).bind λ(a,b,c,d,g,h,i,j,k,l,o,p)=>
 bif p then
 ((nth? b j).bind λ q=>
 (nth? g j).bind λ t=>
 (e (q,t)).bind λ u=>
 f (a,b,c,d,g,h,u,IntKind.wrap .i64 (j+(1:Int)),k,l,o))
 else
 (some (a,b,c,d,g,h,i,k,l,o))
def jU.L2 (f:Af->Option Bool) (n:Nat) (e:Af->Option LI) (v:aj9) (m:aj9->Option LI):Option LI:=
 match v with
 |(a,b,c,d,g,h)=>
 bif decide (h<g)then
 ((nth? d h).bind λ q=>
 (bH (jU.L1 f) n (a,b,c,q.1,q.2.1,q.2.2,decide (q.1=a),(0:Int),d,g,h)).bind λ(i,j,k,_,_,l,o,p,s,t)=>
 (bif o then
 ((e (k,l)).bind λ u=>
 some (i,j,u,p,s,t))
 else
 (some (i,j,k,p,s,t))).bind λ(i,j,k,l,o,p)=>
 m (i,j,k,l,o,IntKind.wrap .i64 (p+(1:Int))))
 else
 (some c)
def jU.P (e:Af->Option Bool) (d:Af->Option LI) (n:Nat) (x:Ag):Option LI:=
 match x with
 |(_,_,a,b,c)=>
 (bH (jU.L2 e n d) n (b,c,([]:LI),a,(a.length:Int),(0:Int))).bind λ f=>
 some f
def qj.L1 (e:Au->Option Bool) (g:LI×LL×Int×Int) (f:(LI×LL×Int×Int)->Option (Sum Unit Int)):Option (Sum Unit Int):=
 match g with
 |(a,b,c,d)=>
 bif decide (d<c)then
 ((nth? b d).bind λ i=>
 (e (a,i)).bind λ k=>
 bif k then
 ((some d).bind λ r=>some (Sum.inr r))
 else
 (f (a,b,c,IntKind.wrap .i64 (d+(1:Int)))))
 else
 (some (Sum.inl ()))
def qj.P (d:Au->Option Bool) (n:Nat) (x:Bs):Option Int:=
 match x with
 |(a,b)=>
 (bH (qj.L1 d) n (b,a,(a.length:Int),(0:Int))).bind λ q=>match q with
 |Sum.inl e=>(some (-1:Int))
 |Sum.inr r=>some r
def jV.L1 (f:Bs->Option LL) (m:Ag->Option LI) (e:Bs->Option Int) (N:BC) (K:BC->Option A4):Option A4:=
 match N with
 |(a,b,c,d,g,h,i,j,k,l,o,p,s)=>
 bif decide (s<p)then
 (bif decide (0<=s)&&decide (s<(o.length:Int))then
 (at? o s.toNat).bind λ O=>
 bif decide (0<=0)&&decide (0<=h)&&decide (h<=(g.length:Int))then
 (f (List.drop (Int.toNat 0) (List.take h.toNat g),O)).bind λ L=>
 (m (b,c,d,i,L)).bind λ q=>
 (bif decide ((0:Int)<(q.length:Int))then
 ((e (g,q)).bind λ M=>
 some (a,b,c,d,g,h,i,q,j,k,l,o,p,s,decide (M<(0:Int))))
 else
 (some (a,b,c,d,g,h,i,q,j,k,l,o,p,s,false))).bind λ(t,u,v,w,y,z,A,B,C,D,E,F,G,H,I)=>
 (bif I then
 (bif decide (List.length y+List.length ([B]:List LI)<=ay)then
 some (t,u,v,w,List.append y ([B]:List LI),z,A,C,D,E,F,G,H)
 else none)
 else
 (some (t,u,v,w,y,z,A,C,D,E,F,G,H))).bind λ(t,u,v,w,y,z,A,B,C,D,E,F,G)=>
 K (t,u,v,w,y,z,A,B,C,D,E,F,IntKind.wrap .i64 (G+(1:Int)))
 else none
 else none)
 else
 (some (a,b,c,d,g,h,j,k,l))
def jV.L2 (e:Ac->Option LL) (m:Bs->Option LL) (q:Ag->Option LI) (f:Bs->Option Int) (n:Nat) (B:A4) (z:A4->Option akc):Option akc:=
 match B with
 |(a,b,c,d,g,h,i,j,k)=>
 bif decide (k<j)then
 ((nth? i k).bind λ C=>
 (e (h,C)).bind λ A=>
 (bH (jV.L1 m q f) n (a,b,c,d,g,h,k,i,j,k,A,(A.length:Int),(0:Int))).bind λ(l,o,p,s,t,u,v,w,y)=>
 z (l,o,p,s,t,u,v,w,IntKind.wrap .i64 (y+(1:Int))))
 else
 (some (a,b,c,d,g,h))
def jV.L3 (e:Ac->Option LL) (i:Bs->Option LL) (k:Ag->Option LI) (f:Bs->Option Int) (n:Nat) (m:akj) (l:akj->Option (Sum Unit afX)):Option (Sum Unit afX):=
 match m with
 |(a,b,c,d,g)=>
 (bH (jV.L2 e i k f n) n (a,b,c,d,g,(g.length:Int),a,(a.length:Int),(0:Int))).bind λ(a,b,c,d,g,h)=>
 bif decide ((300:Int)<(g.length:Int))then
 ((some (([]:List LI),false)).bind λ r=>some (Sum.inr r))
 else
 (bif decide ((g.length:Int)=h)then
 ((some (g,true)).bind λ r=>some (Sum.inr r))
 else
 (l (a,b,c,d,g)))
def jV.P (g:Ag->Option LI) (e:Ac->Option LL) (i:Bs->Option LL) (f:Bs->Option Int) (n:Nat) (x:Aa):Option afX:=
 match x with
 |(a,b,c,d)=>
 (bH (jV.L3 e i g f n) n (a,b,c,d,([]:List LI))).bind λ q=>match q with
 |Sum.inl (_:Unit)=>none
 |Sum.inr r=>some r
def rX.L1 (e:Af->Option Bool) (g:Ay) (f:Ay->Option (Sum Unit Bool)):Option (Sum Unit Bool):=
 match g with
 |(a,b,c,d)=>
 bif decide (d<c)then
 ((nth? b d).bind λ i=>
 (e (a,i)).bind λ k=>
 bif k then
 ((some true).bind λ r=>some (Sum.inr r))
 else
 (f (a,b,c,IntKind.wrap .i64 (d+(1:Int)))))
 else
 (some (Sum.inl ()))
def rX.P (d:Af->Option Bool) (n:Nat) (x:Au):Option Bool:=
 match x with
 |(a,b)=>
 (bH (rX.L1 d) n (b,a,(a.length:Int),(0:Int))).bind λ q=>match q with
 |Sum.inl e=>(some false)
 |Sum.inr r=>some r
def gW.L1 (e:Au->Option Bool) (m:Bw) (f:Bw->Option BY):Option BY:=
 match m with
 |(a,b,c,d,g,h,i,j,k,l,o,p,s,t)=>
 bif decide (t<s)then
 ((nth? p t).bind λ q=>
 (e (q,c)).bind λ K=>
 (bif K then
 (bif decide (List.length l+List.length ([t]:LI)<=ay)then
 some (a,b,c,d,g,h,i,j,k,List.append l ([t]:LI),o,p,s,t)
 else none)
 else
 (some (a,b,c,d,g,h,i,j,k,l,o,p,s,t))).bind λ(u,v,w,y,z,A,B,C,D,E,F,G,H,I)=>
 f (u,v,w,y,z,A,B,C,D,E,F,G,H,IntKind.wrap .i64 (I+(1:Int))))
 else
 (some (a,b,c,d,g,h,i,j,k,l,o))
def gW.L2 (f:Bs->Option LL) (m:Ag->Option LI) (e:Bs->Option Int) (U:A7) (q:A7->Option AD):Option AD:=
 match U with
 |(a,b,c,d,g,h,i,j,k,l,o,p,s,t,u,v,w)=>
 bif decide (w<v)then
 (bif decide (0<=w)&&decide (w<(u.length:Int))then
 (at? u w.toNat).bind λ Q=>
 (f (i,Q)).bind λ W=>
 (m (a,b,c,o,W)).bind λ R=>
 (bif decide ((0:Int)<(R.length:Int))then
 ((e (i,R)).bind λ S=>
 bif decide (List.length l+List.length ([(o,Q,S)]:LR)<=ay)then
 some (a,b,c,d,g,h,i,j,k,List.append l ([(o,Q,S)]:LR),o,p,s,t,u,v,w)
 else none)
 else
 (some (a,b,c,d,g,h,i,j,k,l,o,p,s,t,u,v,w))).bind λ(y,z,A,B,C,D,E,F,G,H,I,J,K,L,M,N,O)=>
 q (y,z,A,B,C,D,E,F,G,H,I,J,K,L,M,N,IntKind.wrap .i64 (O+(1:Int)))
 else none)
 else
 (some (a,b,c,d,g,h,i,j,k,l,p,s,t))
def gW.L3 (e:Ac->Option LL) (m:Bs->Option LL) (q:Ag->Option LI) (f:Bs->Option Int) (n:Nat) (M:AD) (I:AD->Option aj2):Option aj2:=
 match M with
 |(a,b,c,d,g,h,i,j,k,l,o,p,s)=>
 bif decide (s<p)then
 ((nth? o s).bind λ L=>
 (e ((i.length:Int),L)).bind λ K=>
 (bH (gW.L2 m q f) n (a,b,c,d,g,h,i,j,k,l,s,o,p,s,K,(K.length:Int),(0:Int))).bind λ(t,u,v,w,y,z,A,B,C,D,E,F,G)=>
 I (t,u,v,w,y,z,A,B,C,D,E,F,IntKind.wrap .i64 (G+(1:Int))))
 else
 (some (d,g,h,i,j,k,l))
def gW.P (p:Au->Option Bool) (q:Ag->Option LI) (e:Aa->Option Bool) (f:Ac->Option LL) (t:Aa->Option afX) (u:Bs->Option LL) (m:Bs->Option Int) (n:Nat) (x:Aa):Option AE:=
 match x with
 |(a,b,c,d)=>
 (e (a,b,c,d)).bind λ y=>
 bif !y then
 (some ((0:Int),([]:LI),([]:LR),([]:List LI),(1:Int)))
 else
 ((t (a,b,c,d)).bind λ v=>
 bif !v.2 then
 (some ((0:Int),([]:LI),([]:LR),([]:List LI),(3:Int)))
 else
 ((bH (gW.L1 p) n (a,b,c,d,(0:Int),([]:LI),([]:LR),v.1,(List.length v.1:Int),([]:LI),([]:LR),v.1,(List.length v.1:Int),(0:Int))).bind λ(a,b,c,d,g,h,i,j,k,l,o)=>
 (bH (gW.L3 f u q m n) n (b,c,d,g,h,i,j,k,l,o,a,(a.length:Int),(0:Int))).bind λ(_,_,_,a,b,c,d)=>
 bif decide ((20000:Int)<(d.length:Int))then
 (some ((0:Int),([]:LI),([]:LR),([]:List LI),(3:Int)))
 else
 (some (b,c,d,a,(0:Int)))))
def gV.L1 (e:Au->Option Bool) (Y:AQ) (f:AQ->Option A1):Option A1:=
 match Y with
 |(a,b,c,d,g,h,i,j,k,l,o,p,s,t,u,v,w,y,z,A,B)=>
 bif decide (B<A)then
 ((nth? z B).bind λ m=>
 (bif p then
 (bif decide (m.1=l)then
 ((e (m.2.1,o)).bind λ q=>
 some (a,b,c,d,g,h,i,j,k,l,o, !q,s,t,u,v,w,y,z,A,B))
 else
 (some (a,b,c,d,g,h,i,j,k,l,o, !false,s,t,u,v,w,y,z,A,B)))
 else
 (some (a,b,c,d,g,h,i,j,k,l,o,false,s,t,u,v,w,y,z,A,B))).bind λ(C,D,E,F,G,H,I,J,K,L,M,N,O,P,Q,R,S,T,U,V,W)=>
 f (C,D,E,F,G,H,I,J,K,L,M,N,O,P,Q,R,S,T,U,V,IntKind.wrap .i64 (W+(1:Int))))
 else
 (some (a,b,c,d,g,h,i,j,k,l,o,p,s,t,u,v,w,y))
def gV.L2 (e:Au->Option Bool) (n:Nat) (m:Bh) (f:Bh->Option AK):Option AK:=
 match m with
 |(a,b,c,d,g,h,i,j,k,l,o,p,s,t,u,v)=>
 bif decide (v<u)then
 (bif decide (0<=v)&&decide (v<(t.length:Int))then
 (at? t v.toNat).bind λ q=>
 (bH (gV.L1 e) n (a,b,c,d,g,h,i,j,k,l,q,true,o,p,s,t,u,v,c,(c.length:Int),(0:Int))).bind λ(w,y,z,A,B,C,D,E,F,G,H,I,J,K,L,M,N,O)=>
 (bif I then
 (bif decide (List.length F+List.length ([(G,H,w)]:LR)<=ay)then
 some (w,y,z,A,B,C,D,E,List.append F ([(G,H,w)]:LR),G,J,K,L,M,N,O)
 else none)
 else
 (some (w,y,z,A,B,C,D,E,F,G,J,K,L,M,N,O))).bind λ(w,y,z,A,B,C,D,E,F,G,H,I,J,K,L,M)=>
 f (w,y,z,A,B,C,D,E,F,G,H,I,J,K,L,IntKind.wrap .i64 (M+(1:Int)))
 else none)
 else
 (some (a,b,c,d,g,h,i,j,k,o,p,s))
def gV.L3 (e:Ac->Option LL) (f:Au->Option Bool) (n:Nat) (G:AK) (m:AK->Option Ah):Option Ah:=
 match G with
 |(a,b,c,d,g,h,i,j,k,l,o,p)=>
 bif decide (p<o)then
 ((nth? l p).bind λ I=>
 (e (IntKind.wrap .i64 (a+(1:Int)),I)).bind λ q=>
 (bH (gV.L2 f n) n (a,b,c,d,g,h,i,j,k,p,l,o,p,q,(q.length:Int),(0:Int))).bind λ(s,t,u,v,w,y,z,A,B,C,D,E)=>
 m (s,t,u,v,w,y,z,A,B,C,D,IntKind.wrap .i64 (E+(1:Int))))
 else
 (some (d,g,h,i,j,k))
def gV.P (f:Au->Option Bool) (e:Ac->Option LL) (n:Nat) (x:Aa):Option Ab:=
 match x with
 |(a,b,c,d)=>
 bif decide (List.length ([]:LI)+List.length c<=ay)then
 bif decide (List.length ([]:LR)+List.length d<=ay)then
 (bH (gV.L3 e f n) n (b,c,d,(0:Int),([]:LI),([]:LR),IntKind.wrap .i64 (b+(1:Int)),List.append ([]:LI) c,List.append ([]:LR) d,a,(a.length:Int),(0:Int))).bind λ(_,_,_,a,b,c)=>
 some (a,b,c)
 else none
 else none
def jl.L1 (f:aj7) (e:aj7->Option Int):Option Int:=
 match f with
 |(a,b,c,d,g,h)=>
 bif decide (h<g)then
 ((nth? d h).bind λ i=>
 e (a,b,IntKind.wrap .i64 ((IntKind.wrap .i64 (c*a))+i),d,g,IntKind.wrap .i64 (h+(1:Int))))
 else
 (some c)
def jl.P (n:Nat) (x:B3):Option Int:=
 match x with
 |(a,b,c)=>
 (bH (jl.L1) n (a,b,(0:Int),c,(c.length:Int),(0:Int))).bind λ d=>
 some d
def jI.L1 (f:Int×LI×LR×Int×LL×Int×(List (Option LI))×LI×LI×Int×Int×Int×Int) (e:(Int×LI×LR×Int×LL×Int×(List (Option LI))×LI×LI×Int×Int×Int×Int)->Option (Int×LI×LR×Int×LL×Int×(List (Option LI))×LI×LI×Int×Int)):Option (Int×LI×LR×Int×LL×Int×(List (Option LI))×LI×LI×Int×Int):=
 match f with
 |(a,b,c,d,g,h,i,j,k,l,o,p,s)=>
 bif decide (s<p)then
 (bif decide (0<=s)&&decide (s<(j.length:Int))then
 (at? j s.toNat).bind λ m=>
 e (a,b,c,d,g,h,i,List.set j s.toNat (-1:Int),k,l,o,p,IntKind.wrap .i64 (s+(1:Int)))
 else none)
 else
 (some (a,b,c,d,g,h,i,j,k,l,o))
def jI.L2 (e:Ac->Option Int) (n:Nat) (q:Int×LI×LR×Int×LL×Int×(List (Option LI))×LI×Int×Int) (m:(Int×LI×LR×Int×LL×Int×(List (Option LI))×LI×Int×Int)->Option (Int×LI×LR×Int×LL×Int×(List (Option LI)))):Option (Int×LI×LR×Int×LL×Int×(List (Option LI))):=
 match q with
 |(a,b,c,d,g,h,i,j,k,l)=>
 bif decide (l<k)then
 ((nth? j l).bind λ C=>
 (e (a,C)).bind λ f=>
 bif decide (0<=f)&&decide (f<=f)&&decide (f<=(ay:Int))then
 (bH (jI.L1) n (a,b,c,d,g,h,i,List.replicate f.toNat ((0:Int):Int),j,k,l,(List.length (List.replicate f.toNat ((0:Int):Int)):Int),(0:Int))).bind λ(o,p,s,t,u,v,w,y,z,A,B)=>
 bif decide (List.length w+List.length (List.map some ([y]:List LI))<=ay)then
 m (o,p,s,t,u,v,List.append w (List.map some ([y]:List LI)),z,A,IntKind.wrap .i64 (B+(1:Int)))
 else none
 else none)
 else
 (some (a,b,c,d,g,h,i))
def jI.L3 (e:B3->Option Int) (p:Int×LL×Int×(List (Option LI))×LR×Int×Int) (l:(Int×LL×Int×(List (Option LI))×LR×Int×Int)->Option (Int×LL×Int×(List (Option LI)))):Option (Int×LL×Int×(List (Option LI))):=
 match p with
 |(a,b,c,d,g,h,i)=>
 bif decide (i<h)then
 ((nth? g i).bind λ f=>
 bif decide (0<=f.1)&&decide (f.1<(d.length:Int))then
 (rowAt? d (Int.toNat f.1)).bind λ u=>
 (oO d).bind λ q=>
 (e (c,q,f.2.1)).bind λ k=>
 (rowAt? d (Int.toNat f.1)).bind λ t=>
 bif decide (0<=k)&&decide (k<(t.length:Int))then
 (rowAt? d (Int.toNat f.1)).bind λ m=>
 (at? m k.toNat).bind λ v=>
 l (a,b,c,List.set d (Int.toNat f.1) (some (List.set m k.toNat f.2.2)),g,h,IntKind.wrap .i64 (i+(1:Int)))
 else none
 else none)
 else
 (some (a,b,c,d))
def jI.P (f:Ac->Option Int) (e:B3->Option Int) (n:Nat) (x:Aa):Option ahR:=
 match x with
 |(a,b,c,d)=>
 (bH (jI.L2 f n) n (b,c,d,(0:Int),([]:List LI),b,([]:List (Option LI)),a,(a.length:Int),(0:Int))).bind λ(_,_,a,b,c,d,g)=>
 (bH (jI.L3 e) n (b,c,d,g,a,(a.length:Int),(0:Int))).bind λ(_,_,a,b)=>
 (oO b).bind λ i=>
 some (a,i)
def qZ.P (e:B3->Option Int) (n:Nat) (x:AN):Option Int:=
 match x with
 |(a,b,c,d)=>
 (nth? b c).bind λ f=>
 (e (a,b,d)).bind λ g=>
 (nth? f g).bind λ i=>
 some i
def iP.L1 (e:AN->Option Int) (A:Bc) (f:Bc->Option (Sum Az (Sum AI (Sum Unit Bool)))):Option (Sum Az (Sum AI (Sum Unit Bool))):=
 match A with
 |(a,b,c,d,g,h,i,j,k,l,o,p,s,t,u,v)=>
 bif decide (v<u)then
 (bif decide (0<=0)&&decide (0<=v)&&decide (v<=(j.length:Int))then
 bif decide (List.length ([]:LI)+List.length (List.drop (Int.toNat 0) (List.take v.toNat j))<=ay)then
 bif decide (List.length (List.append ([]:LI) (List.drop (Int.toNat 0) (List.take v.toNat j)))+List.length ([b]:LI)<=ay)then
 bif decide (0<=v)&&decide (v<=(j.length:Int))&&decide ((j.length:Int)<=(j.length:Int))then
 bif decide (List.length (List.append (List.append ([]:LI) (List.drop (Int.toNat 0) (List.take v.toNat j))) ([b]:LI))+List.length (List.drop v.toNat (List.take (Int.toNat (j.length:Int)) j))<=ay)then
 bif decide (0<=0)&&decide (0<=v)&&decide (v<=(j.length:Int))then
 bif decide (List.length ([]:LI)+List.length (List.drop (Int.toNat 0) (List.take v.toNat j))<=ay)then
 bif decide (List.length (List.append ([]:LI) (List.drop (Int.toNat 0) (List.take v.toNat j)))+List.length ([c]:LI)<=ay)then
 bif decide (0<=v)&&decide (v<=(j.length:Int))&&decide ((j.length:Int)<=(j.length:Int))then
 bif decide (List.length (List.append (List.append ([]:LI) (List.drop (Int.toNat 0) (List.take v.toNat j))) ([c]:LI))+List.length (List.drop v.toNat (List.take (Int.toNat (j.length:Int)) j))<=ay)then
 (e (d,g,h,List.append (List.append (List.append ([]:LI) (List.drop (Int.toNat 0) (List.take v.toNat j))) ([b]:LI)) (List.drop v.toNat (List.take (Int.toNat (j.length:Int)) j)))).bind λ m=>
 (nth? a m).bind λ q=>
 (e (d,g,h,List.append (List.append (List.append ([]:LI) (List.drop (Int.toNat 0) (List.take v.toNat j))) ([c]:LI)) (List.drop v.toNat (List.take (Int.toNat (j.length:Int)) j)))).bind λ y=>
 (nth? a y).bind λ z=>
 bif !decide (q=z)then
 ((((some false).bind λ r=>some (Sum.inr r)).bind λ r=>some (Sum.inr r)).bind λ r=>some (Sum.inr r))
 else
 (f (a,b,c,d,g,h,i,j,k,l,o,p,s,t,u,IntKind.wrap .i64 (v+(1:Int))))
 else none
 else none
 else none
 else none
 else none
 else none
 else none
 else none
 else none
 else none)
 else
 (some (Sum.inl (a,b,c,d,g,h,i,k,l,o,p,s,t)))
def iP.L2 (e:AN->Option Int) (n:Nat) (m:Az) (f:Az->Option (Sum AI (Sum Unit Bool))):Option (Sum AI (Sum Unit Bool)):=
 match m with
 |(a,b,c,d,g,h,i,j,k,l,o,p,s)=>
 bif decide (s<p)then
 (bif decide (0<=s)&&decide (s<(o.length:Int))then
 (at? o s.toNat).bind λ I=>
 (bH (iP.L1 e) n (a,b,c,d,g,h,i,I,j,k,l,o,p,s,i,(0:Int))).bind λ q=>match q with
 |Sum.inl (t,u,v,w,y,z,A,B,C,D,E,F,G)=>(f (t,u,v,w,y,z,A,B,C,D,E,F,IntKind.wrap .i64 (G+(1:Int))))
 |Sum.inr r=>some r
 else none)
 else
 (some (Sum.inl (a,b,c,d,g,j,k,l)))
def iP.L3 (f:Ac->Option LL) (e:AN->Option Int) (n:Nat) (p:AI) (k:AI->Option (Sum Unit Bool)):Option (Sum Unit Bool):=
 match p with
 |(a,b,c,d,g,h,i,j)=>
 bif decide (j<i)then
 ((nth? h j).bind λ l=>
 bif decide (l=(0:Int))then
 (k (a,b,c,d,g,h,i,IntKind.wrap .i64 (j+(1:Int))))
 else
 ((f (d,IntKind.wrap .i64 (l-(1:Int)))).bind λ m=>
 (bH (iP.L2 e n) n (a,b,c,d,g,j,l,h,i,j,m,(m.length:Int),(0:Int))).bind λ q=>match q with
 |Sum.inl (a,b,c,d,g,h,i,j)=>(k (a,b,c,d,g,h,i,IntKind.wrap .i64 (j+(1:Int))))
 |Sum.inr r=>some r))
 else
 (some (Sum.inl ()))
def iP.P (f:Ac->Option LL) (e:AN->Option Int) (n:Nat) (x:AP):Option Bool:=
 match x with
 |(a,b,c,d,g,h)=>
 (bH (iP.L3 f e n) n (d,g,h,b,c,a,(a.length:Int),(0:Int))).bind λ q=>match q with
 |Sum.inl i=>(some true)
 |Sum.inr r=>some r
def rY.L1 (e:Af->Option LI) (g:Ay) (f:Ay->Option LI):Option LI:=
 match g with
 |(a,b,c,d)=>
 bif decide (d<c)then
 ((nth? b d).bind λ i=>
 (e (a,i)).bind λ k=>
 f (k,b,c,IntKind.wrap .i64 (d+(1:Int))))
 else
 (some a)
def rY.P (d:Af->Option LI) (n:Nat) (x:LI):Option Int:=
 (bH (rY.L1 d) n (([]:LI),x,(x.length:Int),(0:Int))).bind λ e=>
 some (e.length:Int)
def dQ.L1 (m:B4) (e:B4->Option BF):Option BF:=
 match m with
 |(a,b,c,d,g,h,i,j,k,l)=>
 bif decide (l<k)then
 ((nth? j l).bind λ f=>
 bif decide (0<=f)&&decide (f<(i.length:Int))then
 (at? i f.toNat).bind λ p=>
 e (a,b,c,d,g,h,List.set i f.toNat (1:Int),j,k,IntKind.wrap .i64 (l+(1:Int)))
 else none)
 else
 (some (a,b,c,d,g,h,i))
def dQ.L2 (e:AP->Option Bool) (q:Bt) (m:Bt->Option BQ):Option BQ:=
 match q with
 |(a,b,c,d,g,h,i,j,k,l,o,p,s,t)=>
 bif decide (t<s)then
 (bif decide (0<=t)&&decide (t<(j.length:Int))then
 (at? j t.toNat).bind λ f=>
 (bif decide (0<=l)&&decide (l<(i.length:Int))then
 (at? i l.toNat).bind λ L=>
 bif decide (0<=f)&&decide (f<(i.length:Int))then
 (at? i f.toNat).bind λ M=>
 bif decide (L=M)then
 ((e (a,g,h,i,l,f)).bind λ N=>
 some (a,b,c,d,g,h,i,j,k,l,t,o,p,s,t,N))
 else
 (some (a,b,c,d,g,h,i,j,k,l,t,o,p,s,t,false))
 else none
 else none).bind λ(u,v,w,y,z,A,B,C,D,E,F,G,H,I,J,K)=>
 bif K then
 (bif decide (0<=E)&&decide (E<(D.length:Int))then
 (at? D E.toNat).bind λ O=>
 some (u,v,w,y,z,A,B,C,List.set D E.toNat F,E,G,H)
 else none)
 else
 (m (u,v,w,y,z,A,B,C,D,E,G,H,I,IntKind.wrap .i64 (J+(1:Int))))
 else none)
 else
 (some (a,b,c,d,g,h,i,j,k,l,o,p))
def dQ.L3 (e:AP->Option Bool) (n:Nat) (q:BW) (f:BW->Option ajV):Option ajV:=
 match q with
 |(a,b,c,d,g,h,i,j,k,l,o)=>
 bif decide (o<l)then
 (bif decide (0<=o)&&decide (o<(k.length:Int))then
 (at? k o.toNat).bind λ E=>
 (bH (dQ.L2 e) n (a,b,c,d,g,h,i,j,List.set k o.toNat (j.length:Int),o,l,o,(j.length:Int),(0:Int))).bind λ(p,s,t,u,v,w,y,z,A,B,C,D)=>
 bif decide (0<=B)&&decide (B<(A.length:Int))then
 (at? A B.toNat).bind λ m=>
 (bif decide (m=(z.length:Int))then
 (bif decide (List.length z+List.length ([B]:LI)<=ay)then
 some (p,s,t,u,v,w,y,List.append z ([B]:LI),A,C,D)
 else none)
 else
 (some (p,s,t,u,v,w,y,z,A,C,D))).bind λ(p,s,t,u,v,w,y,z,A,B,C)=>
 f (p,s,t,u,v,w,y,z,A,B,IntKind.wrap .i64 (C+(1:Int)))
 else none
 else none)
 else
 (some (a,b,c,d,g,h,i,k))
def dQ.L4 (f:AP->Option Bool) (n:Nat) (e:LI->Option Int) (p:BF) (k:BF->Option (Sum Unit LI)):Option (Sum Unit LI):=
 match p with
 |(a,b,c,d,g,h,i)=>
 bif decide (0<=b)&&decide (b<=b)&&decide (b<=(ay:Int))then
 (bH (dQ.L3 f n) n (a,b,c,d,g,h,i,([]:LI),List.replicate b.toNat ((0:Int):Int),(List.length (List.replicate b.toNat ((0:Int):Int)):Int),(0:Int))).bind λ(a,b,c,d,g,h,i,j)=>
 (e j).bind λ l=>
 (e i).bind λ m=>
 bif decide (l=m)then
 ((some j).bind λ r=>some (Sum.inr r))
 else
 (k (a,b,c,d,g,h,j))
 else none
def dQ.P (f:Aa->Option ahR) (e:AP->Option Bool) (k:LI->Option Int) (n:Nat) (x:Aa):Option LI:=
 match x with
 |(a,b,c,d)=>
 (f (a,b,c,d)).bind λ l=>
 bif decide (0<=b)&&decide (b<=b)&&decide (b<=(ay:Int))then
 (bH (dQ.L1) n (a,b,c,d,l.1,l.2,List.replicate b.toNat ((0:Int):Int),c,(c.length:Int),(0:Int))).bind λ(a,b,c,d,g,h,i)=>
 (bH (dQ.L4 e n k) n (a,b,c,d,g,h,i)).bind λ q=>match q with
 |Sum.inl (_:Unit)=>none
 |Sum.inr r=>some r
 else none
def aO.L1 (f:BR) (e:BR->Option B7):Option B7:=
 match f with
 |(a,b,c,d,g,h,i,j,k,l,o,p)=>
 bif decide (p<o)then
 (bif decide (0<=p)&&decide (p<(l.length:Int))then
 (at? l p.toNat).bind λ m=>
 e (a,b,c,d,g,h,i,j,k,List.set l p.toNat (-1:Int),o,IntKind.wrap .i64 (p+(1:Int)))
 else none)
 else
 (some (a,b,c,d,g,h,i,j,k,l))
def aO.L2 (q:AL) (e:AL->Option AT):Option AT:=
 match q with
 |(a,b,c,d,g,h,i,j,k,l,o,p,s,t,u,v,w,y,z,A,B,C,D)=>
 bif decide (D<C)then
 ((nth? B D).bind λ f=>
 bif decide (0<=f)&&decide (f<(o.length:Int))then
 (at? o f.toNat).bind λ m=>
 bif decide (List.length t+List.length ([m]:LI)<=ay)then
 e (a,b,c,d,g,h,i,j,k,l,o,p,s,List.append t ([m]:LI),u,v,w,y,z,A,B,C,IntKind.wrap .i64 (D+(1:Int)))
 else none
 else none)
 else
 (some (a,b,c,d,g,h,i,j,k,l,o,p,s,t,u,v,w,y,z,A))
def aO.L3 (n:Nat) (e:AN->Option Int) (W:AY) (m:AY->Option Av):Option Av:=
 match W with
 |(a,b,c,d,g,h,i,j,k,l,o,p,s,t,u,v,w,y,z)=>
 bif decide (z<y)then
 (bif decide (0<=z)&&decide (z<(w.length:Int))then
 (at? w z.toNat).bind λ q=>
 (bH (aO.L2) n (a,b,c,d,g,h,i,j,k,l,o,p,s,([]:LI),t,u,v,w,y,z,q,(q.length:Int),(0:Int))).bind λ(A,B,C,D,E,F,G,H,I,J,K,L,M,N,O,P,Q,R,S,T)=>
 (e (H,I,M,N)).bind λ f=>
 (bif decide ((0:Int)<=f)then
 (bif decide (0<=f)&&decide (f<(J.length:Int))then
 (at? J f.toNat).bind λ Y=>
 some (A,B,C,D,E,F,G,H,I,J,K,L,M,f,O,P,Q,R,S,T,decide (Y<(0:Int)))
 else none)
 else
 (some (A,B,C,D,E,F,G,H,I,J,K,L,M,f,O,P,Q,R,S,T,false))).bind λ(A,B,C,D,E,F,G,H,I,J,K,L,M,N,O,P,Q,R,S,T,U)=>
 (bif U then
 (bif decide (0<=N)&&decide (N<(J.length:Int))then
 (at? J N.toNat).bind λ Z=>
 bif decide (List.length K+List.length ([N]:LI)<=ay)then
 some (A,B,C,D,E,F,G,H,I,List.set J N.toNat (K.length:Int),List.append K ([N]:LI),L,M,O,P,Q,R,S,T)
 else none
 else none)
 else
 (some (A,B,C,D,E,F,G,H,I,J,K,L,M,O,P,Q,R,S,T))).bind λ(A,B,C,D,E,F,G,H,I,J,K,L,M,N,O,P,Q,R,S)=>
 m (A,B,C,D,E,F,G,H,I,J,K,L,M,N,O,P,Q,R,IntKind.wrap .i64 (S+(1:Int)))
 else none)
 else
 (some (a,b,c,d,g,h,i,j,k,l,o,p,t,u,v))
def aO.L4 (f:Ac->Option LL) (n:Nat) (e:AN->Option Int) (M:Av) (m:Av->Option BT):Option BT:=
 match M with
 |(a,b,c,d,g,h,i,j,k,l,o,p,s,t,u)=>
 bif decide (u<t)then
 ((nth? s u).bind λ L=>
 (f (p,L)).bind λ q=>
 (bH (aO.L3 n e) n (a,b,c,d,g,h,i,j,k,l,o,p,u,s,t,u,q,(q.length:Int),(0:Int))).bind λ(v,w,y,z,A,B,C,D,E,F,G,H,I,J,K)=>
 m (v,w,y,z,A,B,C,D,E,F,G,H,I,J,IntKind.wrap .i64 (K+(1:Int))))
 else
 (some (a,b,c,d,g,h,i,j,k,l,o,p))
def aO.L5 (f:Ac->Option LL) (n:Nat) (e:AN->Option Int) (q:BZ) (m:BZ->Option ajW):Option ajW:=
 match q with
 |(a,b,c,d,g,h,i,j,k,l,o)=>
 (bH (aO.L4 f n e) n (a,b,c,d,g,h,i,j,k,l,o,(o.length:Int),a,(a.length:Int),(0:Int))).bind λ(a,b,c,d,g,h,i,j,k,l,o,p)=>
 bif decide ((o.length:Int)=p)then
 (some (b,c,d,g,h,i,l,o))
 else
 (m (a,b,c,d,g,h,i,j,k,l,o))
def aO.L6 (e:Af->Option Bool) (m:BJ) (f:BJ->Option B8):Option B8:=
 match m with
 |(a,b,c,d,g,h,i,j,k,l,o,p,s)=>
 bif decide (s<p)then
 (bif decide (0<=s)&&decide (s<(j.length:Int))then
 (at? j s.toNat).bind λ q=>
 (e (b,q)).bind λ I=>
 (bif I then
 (bif decide (List.length l+List.length ([s]:LI)<=ay)then
 some (a,b,c,d,g,h,i,j,k,List.append l ([s]:LI),o,p,s)
 else none)
 else
 (some (a,b,c,d,g,h,i,j,k,l,o,p,s))).bind λ(t,u,v,w,y,z,A,B,C,D,E,F,G)=>
 f (t,u,v,w,y,z,A,B,C,D,E,F,IntKind.wrap .i64 (G+(1:Int)))
 else none)
 else
 (some (a,b,c,d,g,h,i,k,l,o))
def aO.L7 (q:Bj) (e:Bj->Option BG):Option BG:=
 match q with
 |(a,b,c,d,g,h,i,j,k,l,o,p,s,t,u,v)=>
 bif decide (v<u)then
 ((nth? t v).bind λ f=>
 bif decide (0<=f)&&decide (f<(d.length:Int))then
 (at? d f.toNat).bind λ m=>
 bif decide (List.length k+List.length ([m]:LI)<=ay)then
 e (a,b,c,d,g,h,i,j,List.append k ([m]:LI),l,o,p,s,t,u,IntKind.wrap .i64 (v+(1:Int)))
 else none
 else none)
 else
 (some (a,b,c,d,g,h,i,j,k,l,o,p,s))
def aO.L8 (n:Nat) (m:B5) (f:B5->Option Ah):Option Ah:=
 match m with
 |(a,b,c,d,g,h,i,j,k,l)=>
 bif decide (l<k)then
 ((nth? j l).bind λ e=>
 bif decide (0<=e.2.2)&&decide (e.2.2<(d.length:Int))then
 (at? d (Int.toNat e.2.2)).bind λ q=>
 (bH (aO.L7) n (a,b,c,d,g,h,i,e.1,([]:LI),q,j,k,l,e.2.1,(List.length e.2.1:Int),(0:Int))).bind λ(o,p,s,t,u,v,w,y,z,A,B,C,D)=>
 bif decide (List.length w+List.length ([(y,z,A)]:LR)<=ay)then
 f (o,p,s,t,u,v,List.append w ([(y,z,A)]:LR),B,C,IntKind.wrap .i64 (D+(1:Int)))
 else none
 else none)
 else
 (some (a,b,c,g,h,i))
def aO.P (q:Af->Option Bool) (m:LR->Option LR) (f:Ac->Option LL) (p:Aa->Option ahR) (e:AN->Option Int) (n:Nat) (x:Aa):Option Ab:=
 match x with
 |(a,b,c,d)=>
 (p (a,b,c,d)).bind λ u=>
 bif decide (0<=b)&&decide (b<=b)&&decide (b<=(ay:Int))then
 (bH (aO.L1) n (a,b,c,d,(0:Int),([]:LI),([]:LR),u.1,u.2,List.replicate b.toNat ((0:Int):Int),(List.length (List.replicate b.toNat ((0:Int):Int)):Int),(0:Int))).bind λ(a,b,c,d,g,h,i,j,k,l)=>
 (bH (aO.L5 f n e) n (a,b,c,d,g,h,i,j,k,l,([]:LI))).bind λ(a,b,c,d,g,h,i,j)=>
 (bH (aO.L6 q) n (a,b,c,d,g,h,i,j,(j.length:Int),([]:LI),([]:LR),(j.length:Int),(0:Int))).bind λ(_,_,a,b,c,d,g,h,i,j)=>
 (bH (aO.L8 n) n (b,c,d,g,h,i,j,a,(a.length:Int),(0:Int))).bind λ(_,_,_,a,b,c)=>
 (m c).bind λ t=>
 some (a,b,t)
 else none
def dH.L1 (f:Aj) (e:Aj->Option AR):Option AR:=
 match f with
 |(a,b,c,d,g,h,i,j,k,l,o,p,s)=>
 bif decide (s<p)then
 (bif decide (0<=s)&&decide (s<(j.length:Int))then
 (at? j s.toNat).bind λ m=>
 e (a,b,c,d,g,h,i,j,max k (IntKind.wrap .i64 (m+(1:Int))),l,o,p,IntKind.wrap .i64 (s+(1:Int)))
 else none)
 else
 (some (a,b,c,d,g,h,i,j,k,l,o))
def dH.L2 (f:Af->Option Bool) (e:Af->Option LI) (q:Aj) (m:Aj->Option AR):Option AR:=
 match q with
 |(a,b,c,d,g,h,i,j,k,l,o,p,s)=>
 bif decide (s<p)then
 (bif decide (0<=s)&&decide (s<(j.length:Int))then
 (at? j s.toNat).bind λ I=>
 (f (h,s)).bind λ K=>
 (bif K then
 ((e (l,I)).bind λ L=>
 some (a,b,c,d,g,h,i,j,k,L,o,p,s))
 else
 (some (a,b,c,d,g,h,i,j,k,l,o,p,s))).bind λ(t,u,v,w,y,z,A,B,C,D,E,F,G)=>
 m (t,u,v,w,y,z,A,B,C,D,E,F,IntKind.wrap .i64 (G+(1:Int)))
 else none)
 else
 (some (a,b,c,d,g,h,i,j,k,l,o))
def dH.L3 (q:AZ) (e:AZ->Option Bm):Option Bm:=
 match q with
 |(a,b,c,d,g,h,i,j,k,l,o,p,s,t,u,v,w,y,z)=>
 bif decide (z<y)then
 ((nth? w z).bind λ f=>
 bif decide (0<=f)&&decide (f<(j.length:Int))then
 (at? j f.toNat).bind λ m=>
 bif decide (List.length s+List.length ([m]:LI)<=ay)then
 e (a,b,c,d,g,h,i,j,k,l,o,p,List.append s ([m]:LI),t,u,v,w,y,IntKind.wrap .i64 (z+(1:Int)))
 else none
 else none)
 else
 (some (a,b,c,d,g,h,i,j,k,l,o,p,s,t,u,v))
def dH.L4 (n:Nat) (m:Aj) (f:Aj->Option aj3):Option aj3:=
 match m with
 |(a,b,c,d,g,h,i,j,k,l,o,p,s)=>
 bif decide (s<p)then
 ((nth? i s).bind λ e=>
 bif decide (0<=e.2.2)&&decide (e.2.2<(j.length:Int))then
 (at? j (Int.toNat e.2.2)).bind λ q=>
 (bH (dH.L3) n (a,b,c,d,g,h,i,j,k,l,o,e.1,([]:LI),q,p,s,e.2.1,(List.length e.2.1:Int),(0:Int))).bind λ(t,u,v,w,y,z,A,B,C,D,E,F,G,H,I,J)=>
 bif decide (List.length E+List.length ([(F,G,H)]:LR)<=ay)then
 f (t,u,v,w,y,z,A,B,C,D,List.append E ([(F,G,H)]:LR),I,IntKind.wrap .i64 (J+(1:Int)))
 else none
 else none)
 else
 (some (a,b,c,d,k,l,o))
def dH.P (v:Af->Option Bool) (p:Af->Option LI) (e:Ab->Option Ab) (q:Aa->Option Ab) (u:Af->Option Bool) (f:Aa->Option Ab) (t:Aa->Option AE) (m:Aa->Option LI) (n:Nat) (x:Aa):Option BD:=
 match x with
 |(a,b,c,d)=>
 (e (b,c,d)).bind λ C=>
 (t (a,C.1,C.2.1,C.2.2)).bind λ y=>
 (bif !decide (y.2.2.2.2=(0:Int))then
 (some (a,(0:Int),([]:LI),([]:LR),y.1,y.2.1,y.2.2.1,true))
 else
 ((u (a,IntKind.wrap .i64 (y.1+(1:Int)))).bind λ E=>
 some (a,(0:Int),([]:LI),([]:LR),y.1,y.2.1,y.2.2.1,E))).bind λ(a,b,c,d,g,h,i,j)=>
 bif j then
 (some ((0:Int),([]:LI),([]:LR),false))
 else
 ((q (a,g,h,i)).bind λ B=>
 (m (a,B.1,B.2.1,B.2.2)).bind λ D=>
 (bH (dH.L1) n (a,b,c,d,B.1,B.2.1,B.2.2,D,(0:Int),([]:LI),([]:LR),(D.length:Int),(0:Int))).bind λ(a,b,c,d,g,h,i,j,k,l,o)=>
 (bH (dH.L2 v p) n (a,b,c,d,g,h,i,j,k,l,o,(j.length:Int),(0:Int))).bind λ(a,b,c,d,g,h,i,j,k,l,o)=>
 (bH (dH.L4 n) n (a,b,c,d,g,h,i,j,k,l,o,(i.length:Int),(0:Int))).bind λ(a,_,_,_,b,c,d)=>
 (e (b,c,d)).bind λ z=>
 (f (a,z.1,z.2.1,z.2.2)).bind λ A=>
 some (A.1,A.2.1,A.2.2,true))
def Kz.P (e:Aa->Option BD) (n:Nat) (x:Aa):Option BD:=
 match x with
 |(a,b,c,d)=>
 (e (a,b,c,d)).bind λ f=>
 some (f.1,f.2.1,f.2.2.1,f.2.2.2)
def nP.L1 (e:AC->Option Int) (p:ajZ) (f:ajZ->Option Int):Option Int:=
 match p with
 |(a,b,c,d,g)=>
 bif decide (g<d)then
 ((nth? c g).bind λ m=>
 (bif decide (b<=a)then
 ((e (RT.a m,RT.kids m,IntKind.wrap .i64 (a-b))).bind λ q=>
 some (a,IntKind.wrap .i64 (b+q),c,d,g))
 else
 (some (a,b,c,d,g))).bind λ(h,i,j,k,l)=>
 f (h,i,j,k,IntKind.wrap .i64 (l+(1:Int))))
 else
 (some b)
def nP.P (d:AC->Option Int) (n:Nat) (x:AC):Option Int:=
 match x with
 |(_,a,b)=>
 (bH (nP.L1 d) n (b,(1:Int),a,(a.length:Int),(0:Int))).bind λ e=>
 some e
def HY.P (d:AC->Option Int) (n:Nat) (x:AC):Option Bool:=
 match x with
 |(a,b,c)=>
 (d (a,b,c)).bind λ e=>
 some (decide (e<=c))
def iE.L1 (e:Ao->Option Bool) (i:akb) (f:akb->Option (Sum Unit Bool)):Option (Sum Unit Bool):=
 match i with
 |(a,b,c,d)=>
 bif decide (d<c)then
 ((nth? b d).bind λ g=>
 (e (a,RT.a g,RT.kids g)).bind λ k=>
 bif !k then
 ((some false).bind λ r=>some (Sum.inr r))
 else
 (f (a,b,c,IntKind.wrap .i64 (d+(1:Int)))))
 else
 (some (Sum.inl ()))
def iE.P (d:Ao->Option Bool) (n:Nat) (x:Ao):Option Bool:=
 match x with
 |(a,b,c)=>
 (bif decide (b<(0:Int))then
 (some (a,b,c,true))
 else
 (bif decide ((a.length:Int)<=b)then
 (some (a,b,c,true))
 else
 ((nth? a b).bind λ e=>
 some (a,b,c, !decide ((c.length:Int)=e))))).bind λ(a,_,b,c)=>
 bif c then
 (some false)
 else
 ((bH (iE.L1 d) n (a,b,(b.length:Int),(0:Int))).bind λ q=>match q with
 |Sum.inl f=>(some true)
 |Sum.inr r=>some r)
def CS.P (f:AC->Option Bool) (d:LI->Option Bool) (e:Ao->Option Bool) (n:Nat) (x:Ao):Option Bool:=
 match x with
 |(a,b,c)=>
 ((d a).bind λ g=>
 bif g then
 ((f (b,c,(300:Int))).bind λ i=>
 bif i then
 ((e (a,b,c)).bind λ k=>
 some k)
 else
 (some false))
 else
 (some false)).bind λ l=>
 some l
def wV.L1 (e:Ap->Option LI) (p:BH) (f:BH->Option A8_):Option A8_:=
 match p with
 |(a,b,c,d,g,h,i,j,k)=>
 bif decide (k<j)then
 ((nth? i k).bind λ l=>
 (e (a,b,c,RT.a l,RT.kids l)).bind λ m=>
 bif decide (List.length h+List.length ([m]:List LI)<=ay)then
 f (a,b,c,d,g,List.append h ([m]:List LI),i,j,IntKind.wrap .i64 (k+(1:Int)))
 else none)
 else
 (some (a,b,c,d,g,h))
def wV.P (f:Ap->Option LI) (e:Ag->Option LI) (n:Nat) (x:Ap):Option LI:=
 match x with
 |(a,b,c,d,g)=>
 (bH (wV.L1 f) n (a,b,c,d,g,([]:List LI),g,(g.length:Int),(0:Int))).bind λ(a,b,c,d,_,g)=>
 (e (a,b,c,d,g)).bind λ i=>
 some i
def nT.L1 (e:A9->Option AW) (l:aj0) (f:aj0->Option (Sum Int AW)):Option (Sum Int AW):=
 match l with
 |(a,b,c,d,g)=>
 bif decide (g<d)then
 ((nth? c g).bind λ k=>
 (e (b,RT.a k,RT.kids k,a)).bind λ i=>
 bif !i.1 then
 ((some (false,i.2)).bind λ r=>some (Sum.inr r))
 else
 (f (i.2,b,c,d,IntKind.wrap .i64 (g+(1:Int)))))
 else
 (some (Sum.inl a))
def nT.P (e:A9->Option AW) (n:Nat) (x:A9):Option AW:=
 match x with
 |(a,b,c,d)=>
 (bif decide ((IntKind.wrap .i64 (d-(1:Int)))<(0:Int))then
 (some (IntKind.wrap .i64 (d-(1:Int)),a,b,c,true))
 else
 (bif decide (b<(0:Int))then
 (some (IntKind.wrap .i64 (d-(1:Int)),a,b,c,true))
 else
 (bif decide ((a.length:Int)<=b)then
 (some (IntKind.wrap .i64 (d-(1:Int)),a,b,c,true))
 else
 ((nth? a b).bind λ f=>
 some (IntKind.wrap .i64 (d-(1:Int)),a,b,c, !decide ((c.length:Int)=f)))))).bind λ(a,b,_,c,d)=>
 bif d then
 (some (false,a))
 else
 ((bH (nT.L1 e) n (a,b,c,(c.length:Int),(0:Int))).bind λ q=>match q with
 |Sum.inl g=>(some (true,g))
 |Sum.inr r=>some r)
def EZ.P (d:LI->Option Bool) (e:A9->Option AW) (n:Nat) (x:Ao):Option Bool:=
 match x with
 |(a,b,c)=>
 ((d a).bind λ f=>
 bif f then
 ((e (a,b,c,(300:Int))).bind λ g=>
 some g.1)
 else
 (some false)).bind λ i=>
 some i
def EH.P (e:Aa->Option Bool) (f:Ao->Option Bool) (n:Nat) (x:Ae):Option Int:=
 match x with
 |(a,b,c,d,g,h)=>
 ((e (a,b,c,d)).bind λ i=>
 bif !i then
 (some true)
 else
 ((f (a,g,h)).bind λ k=>
 some (!k))).bind λ l=>
 bif l then
 (some (1:Int))
 else
 (some (0:Int))
def jg.L1 (e:AO->Option (List (Option (List Bool)))) (t:LL×Int×LI×LR×Int×(List (RT Int))×(List (Option (List Bool)))×(List (List Bool))×(List (RT Int))×Int×Int) (f:(LL×Int×LI×LR×Int×(List (RT Int))×(List (Option (List Bool)))×(List (List Bool))×(List (RT Int))×Int×Int)->Option (LL×Int×LI×LR×Int×(List (RT Int))×(List (Option (List Bool)))×(List (List Bool)))):Option (LL×Int×LI×LR×Int×(List (RT Int))×(List (Option (List Bool)))×(List (List Bool))):=
 match t with
 |(a,b,c,d,g,h,i,j,k,l,o)=>
 bif decide (o<l)then
 ((nth? k o).bind λ p=>
 (e (b,c,d,a,RT.a p,RT.kids p)).bind λ m=>
 bif decide (0<=(0:Int))&&decide ((0:Int)<(m.length:Int))then
 (rowAt? m (Int.toNat (0:Int))).bind λ u=>
 (rowAt? m (Int.toNat (0:Int))).bind λ q=>
 bif decide (List.length j+List.length ([q]:List (List Bool))<=ay)then
 bif decide (List.length i+List.length (List.set m (Int.toNat (0:Int)) none)<=ay)then
 f (a,b,c,d,g,h,List.append i (List.set m (Int.toNat (0:Int)) none),List.append j ([q]:List (List Bool)),k,l,IntKind.wrap .i64 (o+(1:Int)))
 else none
 else none
 else none)
 else
 (some (a,b,c,d,g,h,i,j))
def jg.L2 (e:(Int×LI×LR×(List (Option (List Bool)))×(List (List Bool))×LI×Int×Int)->Option (List (Option (List Bool)))) (m:Int×LI×LR×(List (Option (List Bool)))×(List (List Bool))×Int×LI×Int×LI×Int×Int×LI×Int×Int) (f:(Int×LI×LR×(List (Option (List Bool)))×(List (List Bool))×Int×LI×Int×LI×Int×Int×LI×Int×Int)->Option (Sum (Int×LI×LR×(List (Option (List Bool)))×(List (List Bool))×Int×LI×Int×LI×Int×Int) (List (Option (List Bool))))):Option (Sum (Int×LI×LR×(List (Option (List Bool)))×(List (List Bool))×Int×LI×Int×LI×Int×Int) (List (Option (List Bool)))):=
 match m with
 |(a,b,c,d,g,h,i,j,k,l,o,p,s,t)=>
 bif decide (t<s)then
 ((nth? p t).bind λ q=>
 bif decide (0<=t)&&decide (t<(g.length:Int))then
 (at? g t.toNat).bind λ u=>
 (nth? u q).bind λ v=>
 bif !v then
 ((e (a,b,c,d,g,k,l,IntKind.wrap .i64 (o+(1:Int)))).bind λ r=>some (Sum.inr r))
 else
 (f (a,b,c,d,g,h,i,j,k,l,o,p,s,IntKind.wrap .i64 (t+(1:Int))))
 else none)
 else
 (some (Sum.inl (a,b,c,d,g,h,i,j,k,l,o)))
def jg.L3 (n:Nat) (A:Int×LI×LR×(List (Option (List Bool)))×(List (List Bool))×LI×Int×Int) (e:(Int×LI×LR×(List (Option (List Bool)))×(List (List Bool))×LI×Int×Int)->Option (List (Option (List Bool)))):Option (List (Option (List Bool))):=
 match A with
 |(a,b,c,d,g,h,i,j)=>
 bif decide (j<i)then
 ((nth? h j).bind λ y=>
 (nth? c y).bind λ f=>
 (bH (jg.L2 e) n (a,b,c,d,g,f.1,f.2.1,f.2.2,h,i,j,f.2.1,(List.length f.2.1:Int),(0:Int))).bind λ q=>match q with
 |Sum.inl (k,l,o,p,s,_,_,t,u,v,w)=>(bif decide (0<=(0:Int))&&decide ((0:Int)<(p.length:Int))then
 (rowAt? p (Int.toNat (0:Int))).bind λ B=>
 (rowAt? p (Int.toNat (0:Int))).bind λ z=>
 bif decide (0<=t)&&decide (t<(z.length:Int))then
 (rowAt? p (Int.toNat (0:Int))).bind λ m=>
 (at? m t.toNat).bind λ C=>
 e (k,l,o,List.set p (Int.toNat (0:Int)) (some (List.set m t.toNat true)),s,u,v,IntKind.wrap .i64 (w+(1:Int)))
 else none
 else none)
 |Sum.inr r=>some r)
 else
 (some d)
def jg.P (e:AO->Option (List (Option (List Bool)))) (n:Nat) (x:AO):Option (List (Option (List Bool))):=
 match x with
 |(a,b,c,d,g,h)=>
 bif decide (0<=a)&&decide (a<=a)&&decide (a<=(ay:Int))then
 (bH (jg.L1 e) n (d,a,b,c,g,h,List.map some ([List.replicate a.toNat (false:Bool)]:List (List Bool)),([]:List (List Bool)),h,(h.length:Int),(0:Int))).bind λ(a,b,c,d,g,_,h,i)=>
 (nth? a g).bind λ k=>
 (bH (jg.L3 n) n (b,c,d,h,i,k,(k.length:Int),(0:Int))).bind λ f=>
 some f
 else none
def ny.L1 (f:AU) (e:AU->Option LI):Option LI:=
 match f with
 |(a,b,c,d)=>
 bif decide (d<c)then
 (bif decide (0<=d)&&decide (d<(b.length:Int))then
 (at? b d.toNat).bind λ k=>
 (bif k then
 (bif decide (List.length a+List.length ([d]:LI)<=ay)then
 some (List.append a ([d]:LI),b,c,d)
 else none)
 else
 (some (a,b,c,d))).bind λ(g,h,i,j)=>
 e (g,h,i,IntKind.wrap .i64 (j+(1:Int)))
 else none)
 else
 (some a)
def ny.P (i:Aa->Option LL) (e:Ae->Option Int) (f:AO->Option (List (Option (List Bool)))) (n:Nat) (x:Ae):Option Af:=
 match x with
 |(a,b,c,d,g,h)=>
 (e (a,b,c,d,g,h)).bind λ k=>
 bif !decide (k=(0:Int))then
 (some (([]:LI),k))
 else
 ((i (a,b,c,d)).bind λ p=>
 (f (b,c,d,p,g,h)).bind λ l=>
 bif decide (0<=(0:Int))&&decide ((0:Int)<(l.length:Int))then
 (rowAt? l (Int.toNat (0:Int))).bind λ m=>
 (bH (ny.L1) n (([]:LI),m,(m.length:Int),(0:Int))).bind λ q=>
 some (q,(0:Int))
 else none)
def EO.P (f:Ae->Option Af) (k:Aa->Option Bool) (e:Aa->Option Aq) (l:Ao->Option Bool) (n:Nat) (x:Ae):Option Ac:=
 match x with
 |(a,b,c,d,g,h)=>
 ((k (a,b,c,d)).bind λ q=>
 bif !q then
 (some (a,b,c,d,g,h,true))
 else
 ((l (a,g,h)).bind λ t=>
 some (a,b,c,d,g,h, !t))).bind λ(a,b,c,d,g,h,i)=>
 bif i then
 (some ((0:Int),(1:Int)))
 else
 ((e (a,b,c,d)).bind λ m=>
 bif !decide (m.2.2.2=(0:Int))then
 (some ((0:Int),m.2.2.2))
 else
 ((f (a,m.1,m.2.1,m.2.2.1,g,h)).bind λ p=>
 bif !decide (p.2=(0:Int))then
 (some ((0:Int),p.2))
 else
 (bif decide ((List.length p.1:Int)=(0:Int))then
 (some ((-1:Int),(0:Int)))
 else
 ((nth? p.1 (0:Int)).bind λ u=>
 some (u,(0:Int))))))
def H7.P (e:Ap->Option LI) (n:Nat) (x:Ap):Option Int:=
 match x with
 |(a,b,c,d,g)=>
 (e (a,b,c,d,g)).bind λ f=>
 bif decide ((f.length:Int)=(0:Int))then
 (some (-1:Int))
 else
 ((nth? f (0:Int)).bind λ i=>
 some i)
def tK.P (e:Unit->Option Bool) (t:Ax->Option Bool) (q:Ae->Option Ac) (u:AC->Option Bool) (l:Ao->Option Bool) (m:Aa->Option Bool) (f:Aa->Option Bool) (p:Ax->Option Bool) (y:Aa->Option BD) (v:Ap->Option Int) (n:Nat) (x:Ae):Option Bool:=
 match x with
 |(a,b,c,d,g,h)=>
 ((t (a,([(b,c,d)]:List Ab))).bind λ O=>
 bif !O then
 (some (a,b,c,d,g,h,true))
 else
 ((u (g,h,(400:Int))).bind λ Q=>
 some (a,b,c,d,g,h, !Q))).bind λ(a,b,c,d,g,h,i)=>
 bif i then
 ((e ()).bind λ R=>
 some R)
 else
 ((q (a,b,c,d,g,h)).bind λ A=>
 ((m (a,b,c,d)).bind λ S=>
 bif !S then
 (some (a,b,c,d,g,h,A.1,A.2,true))
 else
 ((l (a,g,h)).bind λ U=>
 some (a,b,c,d,g,h,A.1,A.2, !U))).bind λ(a,b,c,d,g,h,i,j,k)=>
 bif k then
 ((bif decide (j=(1:Int))then
 ((e ()).bind λ W=>
 some W)
 else
 (some false)).bind λ B=>
 some B)
 else
 (bif decide (j=(3:Int))then
 (((f (a,b,c,d)).bind λ C=>
 bif !C then
 ((e ()).bind λ D=>
 some D)
 else
 (some false)).bind λ E=>
 some E)
 else
 (bif !decide (j=(0:Int))then
 (some false)
 else
 ((p (a,([(b,c,d)]:List Ab))).bind λ G=>
 bif !G then
 ((e ()).bind λ I=>
 some I)
 else
 ((y (a,b,c,d)).bind λ z=>
 (bif !z.2.2.2 then
 ((e ()).bind λ K=>
 some K)
 else
 ((v (z.1,z.2.1,z.2.2.1,g,h)).bind λ L=>
 bif decide (i=L)then
 ((e ()).bind λ M=>
 some M)
 else
 (some false))).bind λ N=>
 some N)))))
end Go.Bk
end
