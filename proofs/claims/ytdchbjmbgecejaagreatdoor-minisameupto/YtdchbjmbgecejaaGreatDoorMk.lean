import Derived.Test.YtdchbjmbgecejaaGreatDoorMa
set_option linter.unusedVariables false
section
namespace Go.Bk
open Go Go.AM
abbrev LI:Type:=List Int
abbrev LL:Type:=List (List Int)
abbrev LR:Type:=List (Int×List Int×Int)
abbrev Ru:Type:=Int×List Int×Int
abbrev Aa:Type:=LI×Int×LI×LR
abbrev Ab:Type:=Int×LI×LR
abbrev Ac:Type:=Int×Int
abbrev Ad:Type:=Int×Bool
abbrev Ae:Type:=Int×LI×LR×Int×LI×LR
abbrev Af:Type:=LI×Int×LI×LR×Int×LI×LR
abbrev Ag:Type:=Int×LI×Int×Int×LI×Int
abbrev Ah:Type:=LI×Int
abbrev Ai:Type:=LI×(List Bool)
abbrev Aj:Type:=Int×LI×LR×Int×LL
abbrev Al:Type:=LI×Int×LI×LR×Int×LI×LR×LI×Int×LI×LR×Int×Int
abbrev An:Type:=LI×Int×Int
abbrev Ao:Type:=LI×LI
abbrev Ap:Type:=LI×LI×Int×Int
abbrev Aq:Type:=Int×LI×LR×Int
abbrev As:Type:=LI×Int×LI×LR×Int×LI×LR×Int×LL×LI×LI×Int×LI×Int×Int
abbrev Au:Type:=LI×(List (Int×LI×LR))
abbrev Av:Type:=LI×Int×Int×Int×LL×Int×Int×LI×Int×Int×LL×Int×Int
abbrev Ax:Type:=LI×Int×LI×LR×LR×Int×Int
abbrev Ay:Type:=Int×(List Bool)
abbrev Az:Type:=Int×LI×LR×Int×LI×LR×LL×Int×LI×LR×LI×Int×Int
abbrev AA:Type:=Int×LI×LR×LL×Int
abbrev AB:Type:=Int×LI×LR×(List Bool)
abbrev AC:Type:=Int×LI×LR×(List Bool)×Int×LI×LR×Int×LI×LR×LI
abbrev AD:Type:=(List Bool)×Int×LI×LR×Int×LI×LR×LI×Int×LI×LR
abbrev AE:Type:=LI×Int×Int×Int×LL×LI×Int×Int
abbrev AF:Type:=Int×LI×LR×(List Bool)×(List Bool)×Bool×LR×Int×Int
abbrev AG:Type:=Int×LI×LR×Int×LI×LR×Int×LI×LR×LI×Int×Int
abbrev AH:Type:=LI×Int×LI×LR×Int×LI×LR×Int×LL×LI×LI×Int×Int×LI×LI×Int×Int×LL×Int×Int×LI×Int×Int
abbrev AI:Type:=Int×LL×Int×LI
abbrev AJ:Type:=LI×Int×LL×LI×Int×Int
abbrev AK:Type:=Int×LI×LR×Int×LI×LR×Int×LI×LR×Int×LI×Bool×LI×Int×Int×LL×Int×Int×LR×Int×Int
abbrev AL:Type:=LI×Int×LI×LR×Int×LI×LR×LI×Int×LI×LR
abbrev AN:Type:=(List Bool)×Int×LI×LR×LI×Int×LI×LR×Int×LI×Int×Bool×LI×LR×Int×Int×LI×Int×Int
abbrev AO:Type:=LI×Int×LI×LR×Int×LI×LR×Int×LL×LI×LI×Int×Int×LI×LI×Int×Int×LL×Int×Int
abbrev AP:Type:=LI×Int×LI×LR×LR×Int×Int×LI×Int×Int
abbrev AQ:Type:=Int×LI×LR×(List Bool)×(List Bool)×Bool×Int×LI×Int×Bool×LR×Int×Int×LI×Int×Int
abbrev AR:Type:=LI×Int×LI×LR×Int×LI×LR×Int×LL×LI×LI×Int×Int×LI×Int×Int×LL×Int×Int
abbrev AS:Type:=LI×Int×LI×LR×Int×LI×LR×LI×Int×LI×LR×Int×LI×Int×Int×Int×LI×Int×Int
abbrev AT:Type:=Int×Int×LI×(List (Int×LI×LR))×Int×Int
abbrev AU:Type:=Int×LI×LR×Int×LI×LR×Int×LI×LR×Int×LI×Bool×LI×Int×Int×LL×Int×Int
abbrev AV:Type:=(List Bool)×Int×LI×LR×Int×LI×LR×LI×Int×LI×Int×LR×Int×Int×Int×Int
abbrev AW:Type:=(List Bool)×Int×LI×LR×LI×Int×LI×LR×Int×LI×Int×Bool×LI×LR×Int×Int
abbrev AX:Type:=LI×Int×LI×LR×LL×Int×LI×Int×Int
abbrev AY:Type:=Int×LI×LR×(List Bool)×Bool×Int×LI×Int×Bool×LR×Int×Int×LI×Int×Int
abbrev AZ:Type:=Int×LI×LR×(List Bool)×(List Bool)×Bool
abbrev A0:Type:=Int×LI×LR×Int×LI×LR×LL×Int×LI×LR×Int×LI×Int×Int×LL×Int×Int
abbrev A1:Type:=Int×LI×LR×LR×Int×Int
abbrev A2:Type:=Int×LI×LR×(List Bool)×Int×LI×LR×Int×LI×LR×LI×(List Bool)×Int×Int
abbrev A3:Type:=(List Bool)×Int×LI×LR×Int×LI×LR×LI×Int×LI×LR×(List Bool)×Int×Int
abbrev A4:Type:=LI×Int×Int×Int×LL×Int×Int×LI×LI×Int×Int×LL×Int×Int×Int×Int
abbrev A5:Type:=Int×LI×LR×(List Bool)×(List Bool)×Bool×Int×LI×Int×Bool×LR×Int×Int
abbrev A6:Type:=Int×LI×LR×(List Bool)×(List Bool)×Bool×Bool×LR×Int×Int×LI×Int×Int
abbrev A7:Type:=LI×Int×LI×LR×Int×LI×LR×Int×LI×Int×LR×Int×Int×LI×Int×Int
abbrev A8:Type:=Int×LI×LR×Int×LI×LR×Int×LI×LR×Int×LI×Int×Int×LL×Int×Int
abbrev A9:Type:=Int×LI×LR×LI×Int×LI×LR×Int×LI×Int×LR×Int×Int×LI×Int×Int
abbrev Ba:Type:=Int×Int×LI×LR
abbrev Bb:Type:=LI×Int×LI×LR×Int×LI×LR×LI×Int×LI×LR×Int×LI×Int×Int×Int
abbrev Bc:Type:=(List Bool)×Int×LI×LR×Int×LI×LR×LI×Int×LI×Int×LR×Int×Int
abbrev Be:Type:=Int×LI×LR×(List Bool)×Int×LI×LR×Int×LI×LR×LI×LI×Int×Int
abbrev Bf:Type:=Int×LI×LR×LI×Int×LR×Int×LI×Int×LR×Int×Int×LI×Int×Int
abbrev Bg:Type:=(List Bool)×Int×LI×LR×Int×LI×LR×LI×Int×LI×LR×LI×Int×Int
abbrev Bh:Type:=Bool×Int
abbrev Bj:Type:=LI×(List Bool)×Int×Int
abbrev Bl:Type:=LI×Int×Int×(List (Int×LI×LR))
abbrev Bm:Type:=LL×LI
abbrev Bn:Type:=LI×Int×LI×LR×Int×LL×LI×LI×LI×Int×Int×Int×Int×Int
abbrev Bo:Type:=Int×LI×LR×(List Bool)×Bool×Int×LI×Int×Bool×LR×Int×Int
abbrev Bp:Type:=Int×LI×LR×LI×Int×LR
abbrev Bq:Type:=LI×Int×LI×LR×Int×LI×LR×LL×Int×LI×LR×LL×Int×Int
abbrev Br:Type:=Int×LI×LR×Int×LI
abbrev Bs:Type:=LI×Int×LI×LR×LI×Int×Int
abbrev Bt:Type:=Int×LI×LR×LI×Int×LR×LR×Int×Int
abbrev Bu:Type:=LI×Int×LI×LR×LL×Int×Int×LI×Int×Int×LL×Int×Int
abbrev Bv:Type:=LI×Int×LI×LR×Int×LI×LR×Int×LI×Int×LR×Int×Int
abbrev Bw:Type:=LI×Int×LI×LR×Int×LL×LI
abbrev Bz:Type:=Int×LI×LR×LI×Int×LI×LR×Int×LI×Int×LR×Int×Int
abbrev BA:Type:=LI×Int×LI×LR×Int×LI×LR×Int×LI×LR×LI×Int×Int
abbrev BB:Type:=Int×LI×LR×Int×LI×LR×LI×LI×Int×LI×LR×Int×Int
abbrev BC:Type:=Int×Int×LI×(List (Int×LI×LR))×Int×Int×LR×Int×Int
abbrev BD:Type:=Int×LI×LR×(List Bool)×Bool
abbrev BE:Type:=(List Bool)×Int×LI×LR×Int×LI×LR×LI×LR×Int×Int
abbrev BF:Type:=Int×LI×LR×Int×LI×Int×LR×Int×Int×LR×Int×Int
abbrev BG:Type:=(List Bool)×Int×LI×LR×LI×Int×LI×LR×LR×Int×Int
abbrev BH:Type:=Int×LI×LR×LI×Int×LR×Int×LI×Int×LR×Int×Int
abbrev BI:Type:=LI×Int×LI×LR×Int×LL×LI×LI×LI×Int×Int×Int
abbrev BJ:Type:=LI×Int×LI×LR×Int×LI×LR×Int×LL×LI×Int×Int
abbrev BK:Type:=Int×LI
abbrev BL:Type:=LI×Int×LI×LR×Int×LI×LR×Int×LL×LI×LI×Int
abbrev BM:Type:=Int×LL×LI×Int×LI×Int×Bool×Int×LR×Int×Int
abbrev BN:Type:=Int×LI×LR×Int×LI×LR×LI×Int×LI×Int×Int
abbrev BO:Type:=LI×Int×LI×LR×Int×LL×LI×LI×LI×Int×Int
abbrev BP:Type:=Int×LI×LR×(List Bool)×(List Bool)×LI×Int×Int
abbrev BQ:Type:=LI×Int×LI×LR×Int×LI×LR×LL×Int×LI×LR
abbrev BR:Type:=LI×Int×LI×LR×Int×LI×LR×Int×LL×LI×LI
abbrev BS:Type:=Int×LL×LI×Int×LI×Int×Bool×LR×Int×Int
abbrev BT:Type:=LI×Int×LI×LR×Int×LI×LR×LR×Int×Int
abbrev BU:Type:=Int×Int×LL×Int×Int
abbrev BV:Type:=Int×LL×LI
abbrev BW:Type:=LI×Int×LI×LR×Int×LL×LI×LI×Int×Int
abbrev BX:Type:=Int×LI×LR×LI×Int×LI×LR×LR×Int×Int
abbrev BY:Type:=LI×Int×LI×LR×Int×LI×LR×Int×LI×LR
abbrev BZ:Type:=LI×Int×LI×LR×Int×LI×LR×Int×LL×LI
abbrev B0:Type:=Int×LI×LR×Int×LI×LR×LI×Int×LI×LR
abbrev B1:Type:=Int×LI×LR×(List Bool)×Bool×LR×Int×Int
abbrev B2:Type:=Int×Int×LL×Int×Int×Int×LL×Int×Int
abbrev B3:Type:=Int×LI×Int
abbrev B4:Type:=Int×LI×LR×LI×Int
abbrev B5:Type:=LR×Int×LI×Int×Int×Int×LR×Int×Int
abbrev B6:Type:=Int×LI×LR×Int×LI×LR×LR×Int×Int
abbrev B7:Type:=LR×Int×LI×Int×Int×LR×Int×Int
abbrev B8:Type:=Int×LI×LR×LI×Int×LR×Int×Int
abbrev B9:Type:=Int×LI×LR×Int×LI×LR×LI×Int
abbrev A0_:Type:=Int×LI×Int×Int
abbrev A1_:Type:=LI×Int×LI×LR×Int×LL×LI×LI
abbrev A2_:Type:=Int×LI×LR×Int×LI×LR×LI×LI
abbrev A3_:Type:=Int×LI×LR×Bool
abbrev A4_:Type:=Int×LI×LR×(List Bool)×(List Bool)
abbrev A5_:Type:=LR×LR×Int×Int
abbrev A6_:Type:=LI×(List (Int×LI×LR))×Int×Int
abbrev A7_:Type:=Bool×Bool
abbrev A8_:Type:=Int×LI×LR×Int×LI×LR×LL
abbrev A9_:Type:=Int×LI×LR×LL×Int×LI×LR
abbrev ajf:Type:=LI×Int×LI×Int×Int×Int
abbrev ajg:Type:=Int×LL×Int×LI×Int×Int
abbrev ajh:Type:=Int×LI×LR×LI×Int×Int
abbrev aji:Type:=Int×LL×LI×LR×Int×Int
abbrev afj:Type:=LL×Bool
abbrev ajj:Type:=LI×Int×LI×LR×LL×Int
abbrev ajk:Type:=(List Bool)×LI×Int×Int
abbrev ajl:Type:=LR×Int×Int×Int×Int
abbrev ajm:Type:=LI×Int×Int×Int×Int
abbrev ajn:Type:=Int×Int×LI×Int×Int
abbrev ajo:Type:=LI×LI×LI×Int×Int
abbrev ajp:Type:=LL×LL×LI×Int×Int
abbrev ajq:Type:=LI×Int×LI×LR×LL
abbrev ahb:Type:=Int×LL
abbrev ajr:Type:=Int×Int×Int×Int
abbrev ahe:Type:=LR×LR
def Ep:Nat->Nat->LI
 |0,u=>[((48+u % 10:Nat):Int)]
 |f+1,u=>bif Nat.blt u 10 then[((48+u:Nat):Int)]else Ep f (u/10)++[((48+u % 10:Nat):Int)]
def dig (v:Int):LI:=bif decide (v<0)then 45::Ep 20 v.natAbs else Ep 20 v.toNat
def ins {α:Type} (le:α->α->Bool) (x:α):List α->List α
 | []=>[x]
 |y::l=>bif le x y then x::y::l else y::ins le x l
def GL {α:Type} (le:α->α->Bool):List α->List α
 | []=>[]
 |x::l=>ins le x (GL le l)
def Gm (a b:Int):Int:=bif decide (a<b)then -1 else bif decide (b<a)then 1 else 0
def cmpL:LI->LI->Int
 | [],[]=>0
 | [],_::_=> -1
 |_::_,[]=>1
 |a::l,b::m=>bif decide (a=b)then cmpL l m else Gm a b
def uY (x y:Ru):Int:=bif decide (x.1=y.1)then(bif decide (cmpL x.2.1 y.2.1=0)then Gm x.2.2 y.2.2 else cmpL x.2.1 y.2.1)else Gm x.1 y.1
end Go.Bk
end
noncomputable section
namespace Go.Bk
open Go Go.AM
set_option maxRecDepth 100000
def iY.L1 (d:BC) (e:BC->Option (Sum AT (Sum LI Bool))):Option (Sum AT (Sum LI Bool)):=
 bif decide (d.2.2.2.2.2.2.2.2<d.2.2.2.2.2.2.2.1)then
 ((nth? d.2.2.2.2.2.2.1 d.2.2.2.2.2.2.2.2).bind λ f=>
 bif decide ((10:Int)<(List.length f.2.1:Int))then
 (((some false).bind λ r=>some (Sum.inr r)).bind λ r=>some (Sum.inr r))
 else
 (e (d.1,d.2.1,d.2.2.1,d.2.2.2.1,d.2.2.2.2.1,d.2.2.2.2.2.1,d.2.2.2.2.2.2.1,d.2.2.2.2.2.2.2.1,IntKind.wrap .i64 (d.2.2.2.2.2.2.2.2+(1:Int)))))
 else
 (some (Sum.inl (d.1,d.2.1,d.2.2.1,d.2.2.2.1,d.2.2.2.2.1,d.2.2.2.2.2.1)))
def iY.L2 (n:Nat) (d:AT) (i:AT->Option (Sum LI Bool)):Option (Sum LI Bool):=
 bif decide (d.2.2.2.2.2<d.2.2.2.2.1)then
 ((nth? d.2.2.2.1 d.2.2.2.2.2).bind λ e=>
 (bif decide (d.2.1<(List.length e.2.1:Int))then
 (some (d.1,d.2.1,d.2.2.1,e.1,e.2.1,e.2.2,d.2.2.2.1,d.2.2.2.2.1,d.2.2.2.2.2,true))
 else
 (bif decide (d.2.1<(List.length e.2.2:Int))then
 (some (d.1,d.2.1,d.2.2.1,e.1,e.2.1,e.2.2,d.2.2.2.1,d.2.2.2.2.1,d.2.2.2.2.2,true))
 else
 (bif decide (d.1<e.1)then
 (some (d.1,d.2.1,d.2.2.1,e.1,e.2.1,e.2.2,d.2.2.2.1,d.2.2.2.2.1,d.2.2.2.2.2,decide (e.1<=(300:Int))))
 else
 (some (d.1,d.2.1,d.2.2.1,e.1,e.2.1,e.2.2,d.2.2.2.1,d.2.2.2.2.1,d.2.2.2.2.2,false))))).bind λ f=>
 bif f.2.2.2.2.2.2.2.2.2 then
 ((some false).bind λ r=>some (Sum.inr r))
 else
 ((bK (iY.L1) n (f.1,f.2.1,f.2.2.1,f.2.2.2.2.2.2.1,f.2.2.2.2.2.2.2.1,f.2.2.2.2.2.2.2.2.1,f.2.2.2.2.2.1,(List.length f.2.2.2.2.2.1:Int),(0:Int))).bind λ q=>match q with
 |Sum.inl g=>(i (g.1,g.2.1,g.2.2.1,g.2.2.2.1,g.2.2.2.2.1,IntKind.wrap .i64 (g.2.2.2.2.2+(1:Int))))
 |Sum.inr r=>some r))
 else
 (some (Sum.inl d.2.2.1))
def iY.P (n:Nat) (x:Bl):Option Bool:=
 (bK (iY.L2 n) n (x.2.1,x.2.2.1,x.1,x.2.2.2,(List.length x.2.2.2:Int),(0:Int))).bind λ q=>match q with
 |Sum.inl d=>(some (decide ((d.length:Int)<=(40:Int))))
 |Sum.inr r=>some r
def Lh.P (d:Bl->Option Bool) (n:Nat) (x:Au):Option Bool:=
 match x with
 |(a,b)=>
 (d (a,(8:Int),(40:Int),b)).bind λ e=>
 some e
def OB.P (n:Nat) (x:Unit):Option Ab:=
 some ((2:Int),([(1:Int)]:LI),([((0:Int),([]:LI),(0:Int)),((1:Int),([]:LI),(0:Int)),((1:Int),([]:LI),(1:Int)),((2:Int),([(0:Int),(0:Int)]:LI),(0:Int)),((2:Int),([(1:Int),(0:Int)]:LI),(1:Int)),((2:Int),([(0:Int),(1:Int)]:LI),(1:Int))]:LR))
def jJ.P (n:Nat) (x:Int):Option Bool:=
 (bif decide (x<(0:Int))then
 (some true)
 else
 (some (decide ((3:Int)<x)))).bind λ d=>
 some d
def iI.L1 (d:Int->Option Bool) (f:An) (e:An->Option (Sum Unit Int)):Option (Sum Unit Int):=
 match f with
 |(a,b,c)=>
 bif decide (c<b)then
 ((nth? a c).bind λ g=>
 (d g).bind λ i=>
 bif i then
 ((some c).bind λ r=>some (Sum.inr r))
 else
 (e (a,b,IntKind.wrap .i64 (c+(1:Int)))))
 else
 (some (Sum.inl ()))
def iI.P (d:Int->Option Bool) (n:Nat) (x:LI):Option Int:=
 (bK (iI.L1 d) n (x,(x.length:Int),(0:Int))).bind λ q=>match q with
 |Sum.inl e=>(some (-1:Int))
 |Sum.inr r=>some r
def mD.P (d:LI->Option Int) (n:Nat) (x:LI):Option Bool:=
 (d x).bind λ e=>
 some (decide ((0:Int)<=e))
def lW.P (d:LI->Option Bool) (n:Nat) (x:LI):Option Bool:=
 (bif decide ((x.length:Int)<=(12:Int))then
 ((d x).bind λ e=>
 some (!e))
 else
 (some false)).bind λ f=>
 some f
def uV.P (n:Nat) (x:Ba):Option Bool:=
 match x with
 |(a,b,_)=>
 (bif decide ((0:Int)<=a)then
 (some (decide (a<b)))
 else
 (some false)).bind λ d=>
 some d
def cZ.L1 (e:Ba->Option Bool) (q:Bs) (f:Bs->Option (Sum Aa Bool)):Option (Sum Aa Bool):=
 match q with
 |(a,b,c,d,g,h,i)=>
 bif decide (i<h)then
 ((nth? g i).bind λ m=>
 ((e (m,b,c,d)).bind λ v=>
 bif !v then
 (some (a,b,c,d,g,h,i,true))
 else
 (bif decide ((0:Int)<i)then
 ((nth? c (IntKind.wrap .i64 (i-(1:Int)))).bind λ y=>
 some (a,b,c,d,g,h,i,decide (m<=y)))
 else
 (some (a,b,c,d,g,h,i,false)))).bind λ(j,k,l,o,p,s,t,u)=>
 bif u then
 ((some false).bind λ r=>some (Sum.inr r))
 else
 (f (j,k,l,o,p,s,IntKind.wrap .i64 (t+(1:Int)))))
 else
 (some (Sum.inl (a,b,c,d)))
def cZ.L2 (e:Ba->Option Bool) (m:AP) (f:AP->Option (Sum Ax (Sum Unit Bool))):Option (Sum Ax (Sum Unit Bool)):=
 match m with
 |(a,b,c,d,g,h,i,j,k,l)=>
 bif decide (l<k)then
 ((nth? j l).bind λ p=>
 (e (p,b,c,d)).bind λ q=>
 bif !q then
 (((some false).bind λ r=>some (Sum.inr r)).bind λ r=>some (Sum.inr r))
 else
 (f (a,b,c,d,g,h,i,j,k,IntKind.wrap .i64 (l+(1:Int)))))
 else
 (some (Sum.inl (a,b,c,d,g,h,i)))
def cZ.L3 (e:Ba->Option Bool) (n:Nat) (m:Ax) (l:Ax->Option (Sum Unit Bool)):Option (Sum Unit Bool):=
 match m with
 |(a,b,c,d,g,h,i)=>
 bif decide (i<h)then
 ((nth? g i).bind λ f=>
 (bif decide (f.1<(0:Int))then
 (some (a,b,c,d,f.1,f.2.1,f.2.2,g,h,i,true))
 else
 (bif decide ((a.length:Int)<=f.1)then
 (some (a,b,c,d,f.1,f.2.1,f.2.2,g,h,i,true))
 else
 ((nth? a f.1).bind λ p=>
 bif !decide ((List.length f.2.1:Int)=p)then
 (some (a,b,c,d,f.1,f.2.1,f.2.2,g,h,i,true))
 else
 ((e (f.2.2,b,c,d)).bind λ t=>
 some (a,b,c,d,f.1,f.2.1,f.2.2,g,h,i, !t))))).bind λ(a,b,c,d,_,g,_,h,i,j,k)=>
 bif k then
 ((some false).bind λ r=>some (Sum.inr r))
 else
 ((bK (cZ.L2 e) n (a,b,c,d,h,i,j,g,(g.length:Int),(0:Int))).bind λ q=>match q with
 |Sum.inl (a,b,c,d,g,h,i)=>(l (a,b,c,d,g,h,IntKind.wrap .i64 (i+(1:Int))))
 |Sum.inr r=>some r))
 else
 (some (Sum.inl ()))
def cZ.P (e:Ba->Option Bool) (f:LI->Option Bool) (n:Nat) (x:Aa):Option Bool:=
 match x with
 |(a,b,c,d)=>
 ((f a).bind λ i=>
 bif !i then
 (some (a,b,c,d,true))
 else
 (bif decide (b<(0:Int))then
 (some (a,b,c,d,true))
 else
 (bif decide ((300:Int)<b)then
 (some (a,b,c,d,true))
 else
 (some (a,b,c,d,decide ((20000:Int)<(d.length:Int))))))).bind λ(a,b,c,d,g)=>
 bif g then
 (some false)
 else
 ((bK (cZ.L1 e) n (a,b,c,d,c,(c.length:Int),(0:Int))).bind λ q=>match q with
 |Sum.inl (a,b,c,d)=>((bK (cZ.L3 e n) n (a,b,c,d,d,(d.length:Int),(0:Int))).bind λ q=>match q with
 |Sum.inl k=>(some true)
 |Sum.inr r=>some r)
 |Sum.inr r=>some r)
def iK.P (d:An->Option LI) (n:Nat) (x:An):Option LI:=
 match x with
 |(a,b,c)=>
 (bif decide (b<(0:Int))then
 (bif decide (List.length a+List.length ([(45:Int)]:LI)<=ay)then
 some (List.append a ([(45:Int)]:LI),c,IntKind.wrap .u64 (0-(IntKind.wrap .u64 b)))
 else none)
 else
 (some (a,c,IntKind.wrap .u64 b))).bind λ(a,b,c)=>
 (d (a,c,b)).bind λ e=>
 some e
def mY.P (d:An->Option LI) (n:Nat) (x:An):Option LI:=
 match x with
 |(a,b,c)=>
 (d (a,b,c)).bind λ e=>
 some e
def uM.L1 (e:An->Option LI) (g:Ap) (f:Ap->Option LI):Option LI:=
 match g with
 |(a,b,c,d)=>
 bif decide (d<c)then
 ((nth? b d).bind λ i=>
 bif decide (List.length a+List.length ([(44:Int)]:LI)<=ay)then
 (e (List.append a ([(44:Int)]:LI),i,(10:Int))).bind λ k=>
 f (k,b,c,IntKind.wrap .i64 (d+(1:Int)))
 else none)
 else
 (some a)
def uM.P (d:An->Option LI) (n:Nat) (x:BK):Option ByteArray:=
 match x with
 |(a,b)=>
 (d (([]:LI),a,(10:Int))).bind λ e=>
 (bK (uM.L1 d) n (e,b,(b.length:Int),(0:Int))).bind λ f=>
 some (xO f)
def fQ.L1 (e:BK->Option ByteArray) (k:(Option (List (ByteArray×Bool)))×LR×Int×Int) (f:((Option (List (ByteArray×Bool)))×LR×Int×Int)->Option (Sum Unit Bh)):Option (Sum Unit Bh):=
 match k with
 |(a,b,c,d)=>
 bif decide (d<c)then
 ((nth? b d).bind λ g=>
 (e (g.1,g.2.1)).bind λ i=>
 bif Option.getD (oU seq i (ng a)) false then
 ((some (false,(0:Int))).bind λ r=>some (Sum.inr r))
 else
 ((a).bind λ l=>
 f (some (Ie seq i true l),b,c,IntKind.wrap .i64 (d+(1:Int)))))
 else
 (some (Sum.inl ()))
def fQ.P (e:Aa->Option Bool) (f:BK->Option ByteArray) (n:Nat) (x:Aa):Option Bh:=
 match x with
 |(a,b,c,d)=>
 (e (a,b,c,d)).bind λ g=>
 bif !g then
 (some (false,(1:Int)))
 else
 ((bK (fQ.L1 f) n ((some []:Option (List (ByteArray×Bool))),d,(d.length:Int),(0:Int))).bind λ q=>match q with
 |Sum.inl i=>(some (true,(0:Int)))
 |Sum.inr r=>some r)
def sD.L1 (e:LI->Option LI) (p:B6) (f:B6->Option Ae):Option Ae:=
 match p with
 |(a,b,c,d,g,h,i,j,k)=>
 bif decide (k<j)then
 ((nth? i k).bind λ l=>
 (e l.2.1).bind λ m=>
 bif decide (List.length h+List.length ([(l.1,m,l.2.2)]:LR)<=ay)then
 f (a,b,c,d,g,List.append h ([(l.1,m,l.2.2)]:LR),i,j,IntKind.wrap .i64 (k+(1:Int)))
 else none)
 else
 (some (a,b,c,d,g,h))
def sD.P (d:LI->Option LI) (n:Nat) (x:Ab):Option Ab:=
 match x with
 |(a,b,c)=>
 (d b).bind λ e=>
 (bK (sD.L1 d) n ((0:Int),([]:LI),([]:LR),a,e,([]:LR),c,(c.length:Int),(0:Int))).bind λ(_,_,_,a,b,c)=>
 some (a,b,c)
def lJ.P (n:Nat) (x:LI×(Option (List Ad))×Int):Option (LI×(Option (List Ad))):=
 match x with
 |(a,b,c)=>
 (bif Option.isNone b then
 (some (a,(some []:Option (List Ad)),c))
 else
 (some (a,b,c))).bind λ(a,b,c)=>
 (bif !(Option.getD (oU ieq c (ng b)) false)then
 ((b).bind λ d=>
 bif decide (List.length a+List.length ([c]:LI)<=ay)then
 some (List.append a ([c]:LI),some (Ie ieq c true d))
 else none)
 else
 (some (a,b))).bind λ(a,b)=>
 some (a,b)
def dh.L1 (q:Int×LI×LR×(List Bool)×LI×(List (Option LI))×LI×(Option (List Ad))×Int×Int×LI×Int×LR×Int×Int×LI×Int×Int) (f:(Int×LI×LR×(List Bool)×LI×(List (Option LI))×LI×(Option (List Ad))×Int×Int×LI×Int×LR×Int×Int×LI×Int×Int)->Option (Int×LI×LR×(List Bool)×LI×(List (Option LI))×LI×(Option (List Ad))×Int×Int×LI×Int×LR×Int×Int)):Option (Int×LI×LR×(List Bool)×LI×(List (Option LI))×LI×(Option (List Ad))×Int×Int×LI×Int×LR×Int×Int):=
 match q with
 |(a,b,c,d,g,h,i,j,k,l,o,p,s,t,u,v,w,y)=>
 bif decide (y<w)then
 ((nth? v y).bind λ e=>
 bif decide (0<=e)&&decide (e<(h.length:Int))then
 (rowAt? h e.toNat).bind λ z=>
 (rowAt? h e.toNat).bind λ m=>
 bif decide (List.length m+List.length ([k]:LI)<=ay)then
 bif decide (0<=e)&&decide (e<(List.length (List.set h e.toNat none):Int))then
 f (a,b,c,d,g,List.set (List.set h e.toNat none) e.toNat (some (List.append m ([k]:LI))),i,j,k,l,o,p,s,t,u,v,w,IntKind.wrap .i64 (y+(1:Int)))
 else none
 else none
 else none)
 else
 (some (a,b,c,d,g,h,i,j,k,l,o,p,s,t,u))
def dh.L2 (n:Nat) (e:(LI×(Option (List Ad))×Int)->Option (LI×(Option (List Ad)))) (I:Int×LI×LR×(List Bool)×LI×(List (Option LI))×LI×(Option (List Ad))×LR×Int×Int) (m:(Int×LI×LR×(List Bool)×LI×(List (Option LI))×LI×(Option (List Ad))×LR×Int×Int)->Option (Int×LI×LR×(List Bool)×LI×(List (Option LI))×LI×(Option (List Ad)))):Option (Int×LI×LR×(List Bool)×LI×(List (Option LI))×LI×(Option (List Ad))):=
 match I with
 |(a,b,c,d,g,h,i,j,k,l,o)=>
 bif decide (o<l)then
 ((nth? k o).bind λ f=>
 bif decide (0<=o)&&decide (o<(g.length:Int))then
 (at? g o.toNat).bind λ K=>
 (bK (dh.L1) n (a,b,c,d,List.set g o.toNat (List.length f.2.1:Int),h,i,j,o,f.1,f.2.1,f.2.2,k,l,o,f.2.1,(List.length f.2.1:Int),(0:Int))).bind λ(p,s,t,u,v,w,y,z,A,_,_,B,C,D,E)=>
 bif decide (0<=A)&&decide (A<(v.length:Int))then
 (at? v A.toNat).bind λ G=>
 (bif decide (G=(0:Int))then
 ((e (y,z,B)).bind λ q=>
 some (p,s,t,u,v,w,q.1,q.2,C,D,E))
 else
 (some (p,s,t,u,v,w,y,z,C,D,E))).bind λ(p,s,t,u,v,w,y,z,A,B,C)=>
 m (p,s,t,u,v,w,y,z,A,B,IntKind.wrap .i64 (C+(1:Int)))
 else none
 else none)
 else
 (some (a,b,c,d,g,h,i,j))
def dh.L3 (e:(LI×(Option (List Ad))×Int)->Option (LI×(Option (List Ad)))) (I:Int×LI×LR×(List Bool)×LI×LL×LI×(Option (List Ad))×Int×LI×Int×Int) (q:(Int×LI×LR×(List Bool)×LI×LL×LI×(Option (List Ad))×Int×LI×Int×Int)->Option (Int×LI×LR×(List Bool)×LI×LL×LI×(Option (List Ad))×Int)):Option (Int×LI×LR×(List Bool)×LI×LL×LI×(Option (List Ad))×Int):=
 match I with
 |(a,b,c,d,g,h,i,j,k,l,o,p)=>
 bif decide (p<o)then
 ((nth? l p).bind λ f=>
 bif decide (0<=f)&&decide (f<(g.length:Int))then
 (at? g f.toNat).bind λ m=>
 bif decide (0<=f)&&decide (f<(g.length:Int))then
 (at? g f.toNat).bind λ M=>
 bif decide (0<=f)&&decide (f<(List.length (List.set g f.toNat (IntKind.wrap .i64 (m-(1:Int)))):Int))then
 (at? (List.set g f.toNat (IntKind.wrap .i64 (m-(1:Int)))) f.toNat).bind λ K=>
 (bif decide (K=(0:Int))then
 ((nth? c f).bind λ L=>
 (e (i,j,L.2.2)).bind λ G=>
 some (a,b,c,d,List.set g f.toNat (IntKind.wrap .i64 (m-(1:Int))),h,G.1,G.2,k,l,o,p))
 else
 (some (a,b,c,d,List.set g f.toNat (IntKind.wrap .i64 (m-(1:Int))),h,i,j,k,l,o,p))).bind λ(s,t,u,v,w,y,z,A,B,C,D,E)=>
 q (s,t,u,v,w,y,z,A,B,C,D,IntKind.wrap .i64 (E+(1:Int)))
 else none
 else none
 else none)
 else
 (some (a,b,c,d,g,h,i,j,k))
def dh.L4 (e:(LI×(Option (List Ad))×Int)->Option (LI×(Option (List Ad)))) (n:Nat) (A:Int×LI×LR×(List Bool)×LI×LL×LI×(Option (List Ad))×Int) (m:(Int×LI×LR×(List Bool)×LI×LL×LI×(Option (List Ad))×Int)->Option (List Bool)):Option (List Bool):=
 match A with
 |(a,b,c,d,g,h,i,j,k)=>
 bif decide (k<(i.length:Int))then
 (bif decide (0<=k)&&decide (k<(i.length:Int))then
 (at? i k.toNat).bind λ f=>
 bif decide (0<=f)&&decide (f<(d.length:Int))then
 (at? d f.toNat).bind λ B=>
 bif decide (0<=k)&&decide (k<(i.length:Int))then
 (at? i k.toNat).bind λ q=>
 bif decide (0<=q)&&decide (q<(h.length:Int))then
 (at? h q.toNat).bind λ z=>
 (bK (dh.L3 e) n (a,b,c,List.set d f.toNat true,g,h,i,j,k,z,(z.length:Int),(0:Int))).bind λ(l,o,p,s,t,u,v,w,y)=>
 m (l,o,p,s,t,u,v,w,IntKind.wrap .i64 (y+(1:Int)))
 else none
 else none
 else none
 else none)
 else
 (some d)
def dh.P (e:(LI×(Option (List Ad))×Int)->Option (LI×(Option (List Ad)))) (n:Nat) (x:Ab):Option (List Bool):=
 match x with
 |(a,b,c)=>
 bif decide (0<=a)&&decide (a<=a)&&decide (a<=(ay:Int))then
 bif decide (0<=(c.length:Int))&&decide ((c.length:Int)<=(c.length:Int))&&decide ((c.length:Int)<=(ay:Int))then
 bif decide (0<=a)&&decide (a<=a)&&decide (a<=(ay:Int))then
 (bK (dh.L2 n e) n (a,b,c,List.replicate a.toNat (false:Bool),List.replicate (Int.toNat (c.length:Int)) ((0:Int):Int),List.replicate a.toNat (some ([]:LI)),([]:LI),(none:Option (List Ad)),c,(c.length:Int),(0:Int))).bind λ(a,b,c,d,g,h,i,j)=>
 (oN h).bind λ f=>
 (bK (dh.L4 e n) n (a,b,c,d,g,f,i,j,(0:Int))).bind λ k=>
 some k
 else none
 else none
 else none
def wC.P (n:Nat) (x:Ay):Option Bool:=
 match x with
 |(a,b)=>
 (nth? b a).bind λ d=>
 some (!d)
def dH.L1 (e:Ay->Option Bool) (g:Bj) (f:Bj->Option (Sum Unit Int)):Option (Sum Unit Int):=
 match g with
 |(a,b,c,d)=>
 bif decide (d<c)then
 ((nth? a d).bind λ i=>
 (e (i,b)).bind λ k=>
 bif k then
 ((some d).bind λ r=>some (Sum.inr r))
 else
 (f (a,b,c,IntKind.wrap .i64 (d+(1:Int)))))
 else
 (some (Sum.inl ()))
def dH.P (d:Ay->Option Bool) (n:Nat) (x:Ai):Option Int:=
 match x with
 |(a,b)=>
 (bK (dH.L1 d) n (a,b,(a.length:Int),(0:Int))).bind λ q=>match q with
 |Sum.inl e=>(some (-1:Int))
 |Sum.inr r=>some r
def fU.P (d:Ai->Option Int) (n:Nat) (x:Ai):Option Bool:=
 match x with
 |(a,b)=>
 (d (a,b)).bind λ e=>
 some (decide ((0:Int)<=e))
def dL.L1 (e:Ai->Option Bool) (y:Int×LI×LR×(List Bool)×(List (Option LI))×LR×Int×Int) (m:(Int×LI×LR×(List Bool)×(List (Option LI))×LR×Int×Int)->Option (Int×LI×LR×(List Bool)×(List (Option LI)))):Option (Int×LI×LR×(List Bool)×(List (Option LI))):=
 match y with
 |(a,b,c,d,g,h,i,j)=>
 bif decide (j<i)then
 ((nth? h j).bind λ f=>
 (e (f.2.1,d)).bind λ z=>
 (bif !z then
 (bif decide (0<=f.2.2)&&decide (f.2.2<(g.length:Int))then
 (rowAt? g (Int.toNat f.2.2)).bind λ A=>
 (rowAt? g (Int.toNat f.2.2)).bind λ q=>
 bif decide (List.length q+List.length ([j]:LI)<=ay)then
 bif decide (0<=f.2.2)&&decide (f.2.2<(List.length (List.set g (Int.toNat f.2.2) none):Int))then
 some (a,b,c,d,List.set (List.set g (Int.toNat f.2.2) none) (Int.toNat f.2.2) (some (List.append q ([j]:LI))),h,i,j)
 else none
 else none
 else none)
 else
 (some (a,b,c,d,g,h,i,j))).bind λ(k,l,o,p,s,t,u,v)=>
 m (k,l,o,p,s,t,u,IntKind.wrap .i64 (v+(1:Int))))
 else
 (some (a,b,c,d,g))
def dL.L2 (e:(LI×(Option (List Ad))×Int)->Option (LI×(Option (List Ad)))) (D:Int×LI×LR×(List Bool)×(List (Option LI))×(List Bool)×LI×(Option (List Ad))×LI×Int×Int) (m:(Int×LI×LR×(List Bool)×(List (Option LI))×(List Bool)×LI×(Option (List Ad))×LI×Int×Int)->Option (Int×LI×LR×(List (Option LI))×(List Bool)×LI×(Option (List Ad)))):Option (Int×LI×LR×(List (Option LI))×(List Bool)×LI×(Option (List Ad))):=
 match D with
 |(a,b,c,d,g,h,i,j,k,l,o)=>
 bif decide (o<l)then
 ((nth? k o).bind λ f=>
 bif decide (0<=f)&&decide (f<(d.length:Int))then
 (at? d f.toNat).bind λ E=>
 (bif E then
 ((e (i,j,f)).bind λ q=>
 some (a,b,c,d,g,h,q.1,q.2,k,l,o))
 else
 (some (a,b,c,d,g,h,i,j,k,l,o))).bind λ(p,s,t,u,v,w,y,z,A,B,C)=>
 m (p,s,t,u,v,w,y,z,A,B,IntKind.wrap .i64 (C+(1:Int)))
 else none)
 else
 (some (a,b,c,g,h,i,j))
def dL.L3 (e:(LI×(Option (List Ad))×Int)->Option (LI×(Option (List Ad)))) (q:Int×LI×LR×LL×(List Bool)×LI×(Option (List Ad))×Int×LI×Int×Int×LI×Int×Int) (f:(Int×LI×LR×LL×(List Bool)×LI×(Option (List Ad))×Int×LI×Int×Int×LI×Int×Int)->Option (Int×LI×LR×LL×(List Bool)×LI×(Option (List Ad))×Int×LI×Int×Int)):Option (Int×LI×LR×LL×(List Bool)×LI×(Option (List Ad))×Int×LI×Int×Int):=
 match q with
 |(a,b,c,d,g,h,i,j,k,l,o,p,s,t)=>
 bif decide (t<s)then
 ((nth? p t).bind λ u=>
 (e (h,i,u)).bind λ m=>
 f (a,b,c,d,g,m.1,m.2,j,k,l,o,p,s,IntKind.wrap .i64 (t+(1:Int))))
 else
 (some (a,b,c,d,g,h,i,j,k,l,o))
def dL.L4 (e:(LI×(Option (List Ad))×Int)->Option (LI×(Option (List Ad)))) (n:Nat) (q:Int×LI×LR×LL×(List Bool)×LI×(Option (List Ad))×Int×LI×Int×Int) (f:(Int×LI×LR×LL×(List Bool)×LI×(Option (List Ad))×Int×LI×Int×Int)->Option (Int×LI×LR×LL×(List Bool)×LI×(Option (List Ad))×Int)):Option (Int×LI×LR×LL×(List Bool)×LI×(Option (List Ad))×Int):=
 match q with
 |(a,b,c,d,g,h,i,j,k,l,o)=>
 bif decide (o<l)then
 ((nth? k o).bind λ D=>
 (nth? c D).bind λ m=>
 (bK (dL.L3 e) n (a,b,c,d,g,h,i,j,k,l,o,m.2.1,(List.length m.2.1:Int),(0:Int))).bind λ(p,s,t,u,v,w,y,z,A,B,C)=>
 f (p,s,t,u,v,w,y,z,A,B,IntKind.wrap .i64 (C+(1:Int))))
 else
 (some (a,b,c,d,g,h,i,j))
def dL.L5 (e:(LI×(Option (List Ad))×Int)->Option (LI×(Option (List Ad)))) (n:Nat) (z:Int×LI×LR×LL×(List Bool)×LI×(Option (List Ad))×Int) (m:(Int×LI×LR×LL×(List Bool)×LI×(Option (List Ad))×Int)->Option (List Bool)):Option (List Bool):=
 match z with
 |(a,b,c,d,g,h,i,j)=>
 bif decide (j<(h.length:Int))then
 (bif decide (0<=j)&&decide (j<(h.length:Int))then
 (at? h j.toNat).bind λ f=>
 bif decide (0<=f)&&decide (f<(g.length:Int))then
 (at? g f.toNat).bind λ A=>
 bif decide (0<=j)&&decide (j<(h.length:Int))then
 (at? h j.toNat).bind λ q=>
 bif decide (0<=q)&&decide (q<(d.length:Int))then
 (at? d q.toNat).bind λ y=>
 (bK (dL.L4 e n) n (a,b,c,d,List.set g f.toNat true,h,i,j,y,(y.length:Int),(0:Int))).bind λ(k,l,o,p,s,t,u,v)=>
 m (k,l,o,p,s,t,u,IntKind.wrap .i64 (v+(1:Int)))
 else none
 else none
 else none
 else none)
 else
 (some g)
def dL.P (f:(LI×(Option (List Ad))×Int)->Option (LI×(Option (List Ad)))) (k:Ab->Option (List Bool)) (e:Ai->Option Bool) (n:Nat) (x:Ab):Option (List Bool):=
 match x with
 |(a,b,c)=>
 (k (a,b,c)).bind λ p=>
 bif decide (0<=a)&&decide (a<=a)&&decide (a<=(ay:Int))then
 (bK (dL.L1 e) n (a,b,c,p,List.replicate a.toNat (some ([]:LI)),c,(c.length:Int),(0:Int))).bind λ(a,b,c,d,g)=>
 bif decide (0<=a)&&decide (a<=a)&&decide (a<=(ay:Int))then
 (bK (dL.L2 f) n (a,b,c,d,g,List.replicate a.toNat (false:Bool),([]:LI),(none:Option (List Ad)),b,(b.length:Int),(0:Int))).bind λ(a,b,c,d,g,h,i)=>
 (oN d).bind λ l=>
 (bK (dL.L5 f n) n (a,b,c,l,g,h,i,(0:Int))).bind λ m=>
 some m
 else none
 else none
def zy.P (n:Nat) (x:Ay):Option Bool:=
 match x with
 |(a,b)=>
 (nth? b a).bind λ d=>
 some (!d)
def dI.L1 (e:Ay->Option Bool) (g:Bj) (f:Bj->Option (Sum Unit Int)):Option (Sum Unit Int):=
 match g with
 |(a,b,c,d)=>
 bif decide (d<c)then
 ((nth? a d).bind λ i=>
 (e (i,b)).bind λ k=>
 bif k then
 ((some d).bind λ r=>some (Sum.inr r))
 else
 (f (a,b,c,IntKind.wrap .i64 (d+(1:Int)))))
 else
 (some (Sum.inl ()))
def dI.P (d:Ay->Option Bool) (n:Nat) (x:Ai):Option Int:=
 match x with
 |(a,b)=>
 (bK (dI.L1 d) n (a,b,(a.length:Int),(0:Int))).bind λ q=>match q with
 |Sum.inl e=>(some (-1:Int))
 |Sum.inr r=>some r
def gI.P (d:Ai->Option Int) (n:Nat) (x:Ai):Option Bool:=
 match x with
 |(a,b)=>
 (d (a,b)).bind λ e=>
 some (decide ((0:Int)<=e))
def cmp_isNaN_int.P (n:Nat) (x:Int):Option Bool:=
 some (!decide (x=x))
def cmp_Compare_int.P (d:Int->Option Bool) (n:Nat) (x:Ac):Option Int:=
 match x with
 |(a,b)=>
 (d a).bind λ f=>
 (d b).bind λ e=>
 bif f then
 (bif e then
 (some (0:Int))
 else
 (some (-1:Int)))
 else
 (bif e then
 (some (1:Int))
 else
 (bif decide (a<b)then
 (some (-1:Int))
 else
 (bif decide (b<a)then
 (some (1:Int))
 else
 (some (0:Int)))))
def dK.L1 (e:Ac->Option Int) (k:ajo) (f:ajo->Option (Sum Ao Int)):Option (Sum Ao Int):=
 match k with
 |(a,b,c,d,g)=>
 bif decide (g<d)then
 ((nth? c g).bind λ l=>
 bif decide ((b.length:Int)<=g)then
 ((some (1:Int)).bind λ r=>some (Sum.inr r))
 else
 ((nth? b g).bind λ m=>
 (e (l,m)).bind λ i=>
 bif !decide (i=(0:Int))then
 ((some i).bind λ r=>some (Sum.inr r))
 else
 (f (a,b,c,d,IntKind.wrap .i64 (g+(1:Int))))))
 else
 (some (Sum.inl (a,b)))
def dK.P (d:Ac->Option Int) (n:Nat) (x:Ao):Option Int:=
 match x with
 |(a,b)=>
 (bK (dK.L1 d) n (a,b,a,(a.length:Int),(0:Int))).bind λ q=>match q with
 |Sum.inl (a,b)=>(bif decide ((a.length:Int)<(b.length:Int))then
 (some (-1:Int))
 else
 (some (0:Int)))
 |Sum.inr r=>some r
def ou.L1 (g:A0_) (e:A0_->Option (Sum Int Int)):Option (Sum Int Int):=
 match g with
 |(a,b,c,d)=>
 bif decide (d<c)then
 ((nth? b d).bind λ f=>
 bif !decide (f=a)then
 ((some f).bind λ r=>some (Sum.inr r))
 else
 (e (a,b,c,IntKind.wrap .i64 (d+(1:Int)))))
 else
 (some (Sum.inl a))
def ou.P (n:Nat) (x:LI):Option Int:=
 (bK (ou.L1) n ((0:Int),x,(x.length:Int),(0:Int))).bind λ q=>match q with
 |Sum.inl d=>(some d)
 |Sum.inr r=>some r
def wP.P (e:Ac->Option Int) (i:LI->Option Int) (f:Ao->Option Int) (n:Nat) (x:Ag):Option Int:=
 match x with
 |(a,b,c,d,g,h)=>
 (e (a,d)).bind λ k=>
 (f (b,g)).bind λ l=>
 (e (c,h)).bind λ m=>
 (i ([k,l,m]:LI)).bind λ p=>
 some p
def sF.P (e:Ag->Option Int) (n:Nat) (x:Ag):Option Bool:=
 match x with
 |(a,b,c,d,g,h)=>
 (e (a,b,c,d,g,h)).bind λ f=>
 some (decide (f=(0:Int)))
def dO.L1 (e:Ag->Option Bool) (u:ajl) (m:ajl->Option (LR×Int)):Option (LR×Int):=
 match u with
 |(a,b,c,d,g)=>
 bif decide (g<(List.length (List.drop c.toNat (List.take d.toNat a)):Int))then
 (bif decide (0<=g)&&decide (g<((d.toNat-c.toNat:Nat):Int))then
 (at? a (c.toNat+Int.toNat g)).bind λ p=>
 bif decide (0<=(IntKind.wrap .i64 (g-(1:Int))))&&decide ((IntKind.wrap .i64 (g-(1:Int)))<((d.toNat-c.toNat:Nat):Int))then
 (at? a (c.toNat+Int.toNat (IntKind.wrap .i64 (g-(1:Int))))).bind λ q=>
 (e (p.1,p.2.1,p.2.2,q.1,q.2.1,q.2.2)).bind λ t=>
 (bif !t then
 (bif decide (0<=g)&&decide (g<((d.toNat-c.toNat:Nat):Int))then
 (at? a (c.toNat+Int.toNat g)).bind λ f=>
 bif decide (0<=b)&&decide (b<(a.length:Int))then
 (at? a b.toNat).bind λ v=>
 some (List.set a b.toNat (f.1,f.2.1,f.2.2),IntKind.wrap .i64 (b+(1:Int)),(Int.toNat c:Int),(Int.toNat d:Int),g)
 else none
 else none)
 else
 (some (a,b,(Int.toNat c:Int),(Int.toNat d:Int),g))).bind λ(h,i,j,k,l)=>
 m (h,i,(Int.toNat j:Int),(Int.toNat k:Int),IntKind.wrap .i64 (l+(1:Int)))
 else none
 else none)
 else
 (some (a,b))
def dO.L2 (e:Ag->Option Bool) (n:Nat) (k:LR×Int) (f:(LR×Int)->Option (Sum LR LR)):Option (Sum LR LR):=
 match k with
 |(a,b)=>
 bif decide (b<(a.length:Int))then
 (bif decide (0<=b)&&decide (b<(a.length:Int))then
 (at? a b.toNat).bind λ g=>
 bif decide (0<=(IntKind.wrap .i64 (b-(1:Int))))&&decide ((IntKind.wrap .i64 (b-(1:Int)))<(a.length:Int))then
 (at? a (Int.toNat (IntKind.wrap .i64 (b-(1:Int))))).bind λ i=>
 (e (g.1,g.2.1,g.2.2,i.1,i.2.1,i.2.2)).bind λ l=>
 bif l then
 (bif decide (0<=b)&&decide (b<=(a.length:Int))&&decide ((a.length:Int)<=(a.length:Int))then
 (bK (dO.L1 e) n (a,b,(Int.toNat b:Int),(Int.toNat (a.length:Int):Int),(1:Int))).bind λ(c,d)=>
 bif decide (0<=d)&&decide (d<=(c.length:Int))&&decide ((c.length:Int)<=(c.length:Int))then
 bif decide (0<=0)&&decide (0<=d)&&decide (d<=(List.length (List.append (List.append (List.take d.toNat c) (List.replicate ((Int.toNat (c.length:Int))-d.toNat) (((0:Int),([]:LI),(0:Int)):B3))) (List.drop (Int.toNat (c.length:Int)) c)):Int))then
 (some (List.drop (Int.toNat 0) (List.take d.toNat (List.append (List.append (List.take d.toNat c) (List.replicate ((Int.toNat (c.length:Int))-d.toNat) (((0:Int),([]:LI),(0:Int)):B3))) (List.drop (Int.toNat (c.length:Int)) c))))).bind λ r=>some (Sum.inr r)
 else none
 else none
 else none)
 else
 (f (a,IntKind.wrap .i64 (b+(1:Int))))
 else none
 else none)
 else
 (some (Sum.inl a))
def dO.P (d:Ag->Option Bool) (n:Nat) (x:LR):Option LR:=
 bif decide ((x.length:Int)<(2:Int))then
 (some x)
 else
 ((bK (dO.L2 d n) n (x,(1:Int))).bind λ q=>match q with
 |Sum.inl e=>(some e)
 |Sum.inr r=>some r)
def wU.P (d:LR->Option LR) (e:LR->Option LR) (n:Nat) (x:LR):Option LR:=
 (e x).bind λ f=>
 (d f).bind λ g=>
 some g
def iJ.L1 (f:A2) (e:A2->Option AC):Option AC:=
 match f with
 |(a,b,c,d,g,h,i,j,k,l,o,p,s,t)=>
 bif decide (t<s)then
 ((nth? p t).bind λ m=>
 (bif m then
 (bif decide (0<=t)&&decide (t<(o.length:Int))then
 (at? o t.toNat).bind λ q=>
 some (a,b,c,d,g,h,i,IntKind.wrap .i64 (j+(1:Int)),k,l,List.set o t.toNat j,p,s,t)
 else none)
 else
 (some (a,b,c,d,g,h,i,j,k,l,o,p,s,t))).bind λ(u,v,w,y,z,A,B,C,D,E,F,G,H,I)=>
 e (u,v,w,y,z,A,B,C,D,E,F,G,H,IntKind.wrap .i64 (I+(1:Int))))
 else
 (some (a,b,c,d,g,h,i,j,k,l,o))
def iJ.L2 (K:Be) (e:Be->Option AC):Option AC:=
 match K with
 |(a,b,c,d,g,h,i,j,k,l,o,p,s,t)=>
 bif decide (t<s)then
 ((nth? p t).bind λ m=>
 (nth? d m).bind λ q=>
 (bif q then
 (bif decide (0<=m)&&decide (m<(o.length:Int))then
 (at? o m.toNat).bind λ f=>
 bif decide (List.length k+List.length ([f]:LI)<=ay)then
 some (a,b,c,d,g,h,i,j,List.append k ([f]:LI),l,o,p,s,t)
 else none
 else none)
 else
 (some (a,b,c,d,g,h,i,j,k,l,o,p,s,t))).bind λ(u,v,w,y,z,A,B,C,D,E,F,G,H,I)=>
 e (u,v,w,y,z,A,B,C,D,E,F,G,H,IntKind.wrap .i64 (I+(1:Int))))
 else
 (some (a,b,c,d,g,h,i,j,k,l,o))
def iJ.L3 (m:AV) (e:AV->Option Bc):Option Bc:=
 match m with
 |(a,b,c,d,g,h,i,j,k,l,o,p,s,t,u,v)=>
 bif decide (v<u)then
 (bif decide (0<=v)&&decide (v<(l.length:Int))then
 (at? l v.toNat).bind λ f=>
 bif decide (0<=f)&&decide (f<(j.length:Int))then
 (at? j f.toNat).bind λ q=>
 bif decide (0<=v)&&decide (v<(l.length:Int))then
 (at? l v.toNat).bind λ y=>
 e (a,b,c,d,g,h,i,j,k,List.set l v.toNat q,o,p,s,t,u,IntKind.wrap .i64 (v+(1:Int)))
 else none
 else none
 else none)
 else
 (some (a,b,c,d,g,h,i,j,k,l,o,p,s,t))
def iJ.L4 (e:Ai->Option Bool) (n:Nat) (q:BE) (m:BE->Option Ae):Option Ae:=
 match q with
 |(a,b,c,d,g,h,i,j,k,l,o)=>
 bif decide (o<l)then
 ((nth? k o).bind λ f=>
 ((nth? a f.2.2).bind λ I=>
 bif !I then
 (some (a,b,c,d,g,h,i,j,f.1,f.2.1,f.2.2,k,l,o,true))
 else
 ((e (f.2.1,a)).bind λ K=>
 some (a,b,c,d,g,h,i,j,f.1,f.2.1,f.2.2,k,l,o,K))).bind λ(p,s,t,u,v,w,y,z,A,B,C,D,E,F,G)=>
 bif G then
 (m (p,s,t,u,v,w,y,z,D,E,IntKind.wrap .i64 (F+(1:Int))))
 else
 (bif decide (0<=(B.length:Int))&&decide ((B.length:Int)<=(B.length:Int))&&decide ((B.length:Int)<=(ay:Int))then
 bif decide (0<=C)&&decide (C<(z.length:Int))then
 (at? z C.toNat).bind λ L=>
 (bK (iJ.L3) n (p,s,t,u,v,w,y,z,A,List.append (List.append (List.take 0 (List.replicate (Int.toNat (B.length:Int)) ((0:Int):Int))) (List.take (Nat.min (List.length B) ((List.length (List.replicate (Int.toNat (B.length:Int)) ((0:Int):Int)))-0)) B)) (List.drop (0+(Nat.min (List.length B) ((List.length (List.replicate (Int.toNat (B.length:Int)) ((0:Int):Int)))-0))) (List.replicate (Int.toNat (B.length:Int)) ((0:Int):Int))),L,D,E,F,(List.length (List.append (List.append (List.take 0 (List.replicate (Int.toNat (B.length:Int)) ((0:Int):Int))) (List.take (Nat.min (List.length B) ((List.length (List.replicate (Int.toNat (B.length:Int)) ((0:Int):Int)))-0)) B)) (List.drop (0+(Nat.min (List.length B) ((List.length (List.replicate (Int.toNat (B.length:Int)) ((0:Int):Int)))-0))) (List.replicate (Int.toNat (B.length:Int)) ((0:Int):Int)))):Int),(0:Int))).bind λ(p,s,t,u,v,w,y,z,A,B,C,D,E,F)=>
 bif decide (List.length y+List.length ([(A,B,C)]:LR)<=ay)then
 m (p,s,t,u,v,w,List.append y ([(A,B,C)]:LR),z,D,E,IntKind.wrap .i64 (F+(1:Int)))
 else none
 else none
 else none))
 else
 (some (b,c,d,g,h,i))
def iJ.P (f:LR->Option LR) (e:Ai->Option Bool) (n:Nat) (x:AB):Option Ab:=
 match x with
 |(a,b,c,d)=>
 bif decide (0<=a)&&decide (a<=a)&&decide (a<=(ay:Int))then
 (bK (iJ.L1) n (a,b,c,d,(0:Int),([]:LI),([]:LR),(0:Int),([]:LI),([]:LR),List.replicate a.toNat ((0:Int):Int),d,(d.length:Int),(0:Int))).bind λ(a,b,c,d,g,h,i,j,k,l,o)=>
 (bK (iJ.L2) n (a,b,c,d,g,h,i,j,k,l,o,b,(b.length:Int),(0:Int))).bind λ(_,_,a,b,c,d,g,h,i,j,k)=>
 (bK (iJ.L4 e n) n (b,c,d,g,h,i,j,k,a,(a.length:Int),(0:Int))).bind λ(_,_,_,a,b,c)=>
 (f c).bind λ m=>
 some (a,b,m)
 else none
def Dl.P (g:AB->Option Ab) (f:Aa->Option Bool) (e:Ab->Option (List Bool)) (n:Nat) (x:Aa):Option Aq:=
 match x with
 |(a,b,c,d)=>
 (f (a,b,c,d)).bind λ k=>
 bif !k then
 (some ((0:Int),([]:LI),([]:LR),(1:Int)))
 else
 ((e (b,c,d)).bind λ l=>
 (g (b,c,d,l)).bind λ i=>
 some (i.1,i.2.1,i.2.2,(0:Int)))
def zx.L1 (i:(List (Option LI))×LR×Int×Int) (f:((List (Option LI))×LR×Int×Int)->Option (List (Option LI))):Option (List (Option LI)):=
 match i with
 |(a,b,c,d)=>
 bif decide (d<c)then
 ((nth? b d).bind λ e=>
 bif decide (0<=e.1)&&decide (e.1<(a.length:Int))then
 (rowAt? a (Int.toNat e.1)).bind λ k=>
 (rowAt? a (Int.toNat e.1)).bind λ g=>
 bif decide (List.length g+List.length ([d]:LI)<=ay)then
 bif decide (0<=e.1)&&decide (e.1<(List.length (List.set a (Int.toNat e.1) none):Int))then
 f (List.set (List.set a (Int.toNat e.1) none) (Int.toNat e.1) (some (List.append g ([d]:LI))),b,c,IntKind.wrap .i64 (d+(1:Int)))
 else none
 else none
 else none)
 else
 (some a)
def zx.P (n:Nat) (x:Aa):Option LL:=
 match x with
 |(a,_,_,b)=>
 bif decide (0<=(a.length:Int))&&decide ((a.length:Int)<=(a.length:Int))&&decide ((a.length:Int)<=(ay:Int))then
 (bK (zx.L1) n (List.replicate (Int.toNat (a.length:Int)) (some ([]:LI)),b,(b.length:Int),(0:Int))).bind λ d=>
 (oN d).bind λ e=>
 some e
 else none
def gY.L1 (f:ajf) (e:ajf->Option Ap):Option Ap:=
 match f with
 |(a,b,c,d,g,h)=>
 bif decide (h<(8:Int))then
 (bif decide (0<=(IntKind.wrap .i64 ((8:Int)*h)))&&decide ((IntKind.wrap .i64 ((8:Int)*h))<=((IntKind.bits .u64:Nat):Int))then
 bif decide (List.length a+List.length ([IntKind.wrap .u8 (b/2^Int.toNat (IntKind.wrap .i64 ((8:Int)*h)))]:LI)<=ay)then
 e (List.append a ([IntKind.wrap .u8 (b/2^Int.toNat (IntKind.wrap .i64 ((8:Int)*h)))]:LI),b,c,d,g,IntKind.wrap .i64 (h+(1:Int)))
 else none
 else none)
 else
 (some (a,c,d,g))
def gY.L2 (n:Nat) (f:Ap) (e:Ap->Option LI):Option LI:=
 match f with
 |(a,b,c,d)=>
 bif decide (d<c)then
 ((nth? b d).bind λ k=>
 (bK (gY.L1) n (a,k,b,c,d,(0:Int))).bind λ(g,h,i,j)=>
 e (g,h,i,IntKind.wrap .i64 (j+(1:Int))))
 else
 (some a)
def gY.P (n:Nat) (x:LI):Option ByteArray:=
 bif decide (0<=(0:Int))&&decide ((0:Int)<=(IntKind.wrap .i64 ((8:Int)*(x.length:Int))))&&decide ((IntKind.wrap .i64 ((8:Int)*(x.length:Int)))<=(ay:Int))then
 (bK (gY.L2 n) n (List.replicate (Int.toNat (0:Int)) ((0:Int):Int),x,(x.length:Int),(0:Int))).bind λ d=>
 some (xO d)
 else none
def iR.L1 (m:Int×LI×LR×LL×LL×(Option (List (ByteArray×Int)))×LR×Int×Int×Bool×LI×LI×Int×Int) (f:(Int×LI×LR×LL×LL×(Option (List (ByteArray×Int)))×LR×Int×Int×Bool×LI×LI×Int×Int)->Option (Int×LI×LR×LL×LL×(Option (List (ByteArray×Int)))×LR×Int×Int×Bool×LI)):Option (Int×LI×LR×LL×LL×(Option (List (ByteArray×Int)))×LR×Int×Int×Bool×LI):=
 match m with
 |(a,b,c,d,g,h,i,j,k,l,o,p,s,t)=>
 bif decide (t<s)then
 ((nth? p t).bind λ q=>
 (nth? c q).bind λ e=>
 bif !decide ((64:Int)=0)then
 bif decide (0<=(IntKind.wrap .i64 (Int.tdiv e.2.2 (64:Int))))&&decide ((IntKind.wrap .i64 (Int.tdiv e.2.2 (64:Int)))<(o.length:Int))then
 (at? o (Int.toNat (IntKind.wrap .i64 (Int.tdiv e.2.2 (64:Int))))).bind λ u=>
 bif !decide ((64:Int)=0)then
 bif decide (0<=(Int.tmod e.2.2 (64:Int)))&&decide ((Int.tmod e.2.2 (64:Int))<=((IntKind.bits .u64:Nat):Int))then
 bif decide (0<=(IntKind.wrap .i64 (Int.tdiv e.2.2 (64:Int))))&&decide ((IntKind.wrap .i64 (Int.tdiv e.2.2 (64:Int)))<(o.length:Int))then
 (at? o (Int.toNat (IntKind.wrap .i64 (Int.tdiv e.2.2 (64:Int))))).bind λ v=>
 f (a,b,c,d,g,h,i,j,k,l,List.set o (Int.toNat (IntKind.wrap .i64 (Int.tdiv e.2.2 (64:Int)))) (bits .or .u64 u (IntKind.wrap .u64 ((1:Int)*2^Int.toNat (Int.tmod e.2.2 (64:Int))))),p,s,IntKind.wrap .i64 (t+(1:Int)))
 else none
 else none
 else none
 else none
 else none)
 else
 (some (a,b,c,d,g,h,i,j,k,l,o))
def iR.P (e:LI->Option ByteArray) (n:Nat) (x:Int×LI×LR×LL×LL×(Option (List (ByteArray×Int)))×LR×Int×Int×Bool×LI):Option (Int×Int×LI×LR×LL×LL×(Option (List (ByteArray×Int)))×LR×Int×Int×Bool):=
 match x with
 |(a,b,c,d,g,h,i,j,k,l,o)=>
 bif decide ((o.length:Int)=(0:Int))then
 (some ((-1:Int),a,b,c,d,g,h,i,j,k,l))
 else
 (bif !decide ((64:Int)=0)then
 bif decide (0<=(IntKind.wrap .i64 (Int.tdiv (IntKind.wrap .i64 (a+(63:Int))) (64:Int))))&&decide ((IntKind.wrap .i64 (Int.tdiv (IntKind.wrap .i64 (a+(63:Int))) (64:Int)))<=(IntKind.wrap .i64 (Int.tdiv (IntKind.wrap .i64 (a+(63:Int))) (64:Int))))&&decide ((IntKind.wrap .i64 (Int.tdiv (IntKind.wrap .i64 (a+(63:Int))) (64:Int)))<=(ay:Int))then
 (bK (iR.L1) n (a,b,c,d,g,h,i,j,k,l,List.replicate (Int.toNat (IntKind.wrap .i64 (Int.tdiv (IntKind.wrap .i64 (a+(63:Int))) (64:Int)))) ((0:Int):Int),o,(o.length:Int),(0:Int))).bind λ(a,b,c,d,g,h,i,j,k,l,o)=>
 (e o).bind λ f=>
 (bif !(Option.isSome (oU seq f (ng h)))then
 ((h).bind λ m=>
 bif decide (List.length g+List.length ([o]:List LI)<=ay)then
 some (a,b,c,d,List.append g ([o]:List LI),some (Ie seq f (g.length:Int) m),i,j,k,l,(g.length:Int))
 else none)
 else
 (some (a,b,c,d,g,h,i,j,k,l,Option.getD (oU seq f (ng h)) (0:Int)))).bind λ(a,b,c,d,g,h,i,j,k,l,o)=>
 some (o,a,b,c,d,g,h,i,j,k,l)
 else none
 else none)
def oz.P (n:Nat) (x:Ah):Option Bool:=
 match x with
 |(a,b)=>
 bif !decide ((64:Int)=0)then
 (nth? a (IntKind.wrap .i64 (Int.tdiv b (64:Int)))).bind λ d=>
 bif !decide ((64:Int)=0)then
 bif decide (0<=(Int.tmod b (64:Int)))&&decide ((Int.tmod b (64:Int))<=((IntKind.bits .u64:Nat):Int))then
 some (decide ((bits .and .u64 (d/2^Int.toNat (Int.tmod b (64:Int))) (1:Int))=(1:Int)))
 else none
 else none
 else none
def bW.L1 (e:Ah->Option Bool) (x9:Int×LI×LR×LL×LL×(Option (List (ByteArray×Int)))×LR×Int×Int×Bool×Int×Int×LI×LI×Bool×Int×LI×LI×Int×Int) (f:(Int×LI×LR×LL×LL×(Option (List (ByteArray×Int)))×LR×Int×Int×Bool×Int×Int×LI×LI×Bool×Int×LI×LI×Int×Int)->Option (Int×LI×LR×LL×LL×(Option (List (ByteArray×Int)))×LR×Int×Int×Bool×Int×Int×LI×LI×Bool×Int×LI)):Option (Int×LI×LR×LL×LL×(Option (List (ByteArray×Int)))×LR×Int×Int×Bool×Int×Int×LI×LI×Bool×Int×LI):=
 match x9 with
 |(a,b,c,d,g,h,i,j,k,l,o,p,s,t,u,v,w,y,z,A)=>
 bif decide (A<z)then
 ((nth? y A).bind λ m=>
 bif decide (0<=v)&&decide (v<(g.length:Int))then
 (at? g v.toNat).bind λ q=>
 (nth? c m).bind λ W=>
 (nth? W.2.1 (s.length:Int)).bind λ Y=>
 (e (q,Y)).bind λ Z=>
 (bif Z then
 (bif decide (List.length w+List.length ([m]:LI)<=ay)then
 some (a,b,c,d,g,h,i,j,k,l,o,p,s,t,u,v,List.append w ([m]:LI),y,z,A)
 else none)
 else
 (some (a,b,c,d,g,h,i,j,k,l,o,p,s,t,u,v,w,y,z,A))).bind λ(B,C,D,E,F,G,H,I,J,K,L,M,N,O,P,Q,R,S,T,U)=>
 f (B,C,D,E,F,G,H,I,J,K,L,M,N,O,P,Q,R,S,T,IntKind.wrap .i64 (U+(1:Int)))
 else none)
 else
 (some (a,b,c,d,g,h,i,j,k,l,o,p,s,t,u,v,w))
def bW.L2 (f:Ah->Option Bool) (n:Nat) (e:(Int×LI×LR×LL×LL×(Option (List (ByteArray×Int)))×LR×Int×Int×Bool×Int×Int×LI×LI×Bool)->Option (Int×LI×LR×LL×LL×(Option (List (ByteArray×Int)))×LR×Int×Int×Bool×LI)) (Q:Int×LI×LR×LL×LL×(Option (List (ByteArray×Int)))×LR×Int×Int×Bool×Int×Int×LI×LI×Bool×Int) (O:(Int×LI×LR×LL×LL×(Option (List (ByteArray×Int)))×LR×Int×Int×Bool×Int×Int×LI×LI×Bool×Int)->Option (Int×LI×LR×LL×LL×(Option (List (ByteArray×Int)))×LR×Int×Int×Bool×LI)):Option (Int×LI×LR×LL×LL×(Option (List (ByteArray×Int)))×LR×Int×Int×Bool×LI):=
 match Q with
 |(a,b,c,d,g,h,i,j,k,l,o,p,s,t,u,v)=>
 bif decide (v<k)then
 ((bK (bW.L1 f) n (a,b,c,d,g,h,i,j,k,l,o,p,s,t,u,v,([]:LI),t,(t.length:Int),(0:Int))).bind λ(w,y,z,A,B,C,D,E,F,G,H,I,J,K,L,M,N)=>
 (bif decide (List.length J+List.length ([M]:LI)<=ay)then
 bif L then
 ((e (w,y,z,A,B,C,D,E,F,G,H,I,List.append J ([M]:LI),N,true)).bind λ m=>
 bif pre J m.2.2.2.2.2.2.2.2.2.2 then
 some (m.1,m.2.1,m.2.2.1,m.2.2.2.1,m.2.2.2.2.1,m.2.2.2.2.2.1,m.2.2.2.2.2.2.1,m.2.2.2.2.2.2.2.1,m.2.2.2.2.2.2.2.2.1,m.2.2.2.2.2.2.2.2.2.1,H,I,J,K,L,M)
 else none)
 else
 ((e (w,y,z,A,B,C,D,E,F,G,H,I,List.append J ([M]:LI),N,decide (E<=M))).bind λ q=>
 bif pre J q.2.2.2.2.2.2.2.2.2.2 then
 some (q.1,q.2.1,q.2.2.1,q.2.2.2.1,q.2.2.2.2.1,q.2.2.2.2.2.1,q.2.2.2.2.2.2.1,q.2.2.2.2.2.2.2.1,q.2.2.2.2.2.2.2.2.1,q.2.2.2.2.2.2.2.2.2.1,H,I,J,K,L,M)
 else none)
 else none).bind λ(w,y,z,A,B,C,D,E,F,G,H,I,J,K,L,M)=>
 O (w,y,z,A,B,C,D,E,F,G,H,I,J,K,L,IntKind.wrap .i64 (M+(1:Int))))
 else
 (some (a,b,c,d,g,h,i,j,k,l,s))
def bW.P (q:Ah->Option Bool) (f:(Int×LI×LR×LL×LL×(Option (List (ByteArray×Int)))×LR×Int×Int×Bool×Int×Int×LI×LI×Bool)->Option (Int×LI×LR×LL×LL×(Option (List (ByteArray×Int)))×LR×Int×Int×Bool×LI)) (m:(Int×LI×LR×LL×LL×(Option (List (ByteArray×Int)))×LR×Int×Int×Bool×LI)->Option (Int×Int×LI×LR×LL×LL×(Option (List (ByteArray×Int)))×LR×Int×Int×Bool)) (e:LI->Option Ao) (n:Nat) (x:Int×LI×LR×LL×LL×(Option (List (ByteArray×Int)))×LR×Int×Int×Bool×Int×Int×LI×LI×Bool):Option (Int×LI×LR×LL×LL×(Option (List (ByteArray×Int)))×LR×Int×Int×Bool×LI):=
 match x with
 |(a,b,c,d,g,h,i,j,k,l,o,p,s,t,u)=>
 (bif l then
 (some (a,b,c,d,g,h,i,j,k,l,o,p,s,t,u,true))
 else
 (some (a,b,c,d,g,h,i,j,k,l,o,p,s,t,u,decide ((t.length:Int)=(0:Int))))).bind λ(a,b,c,d,g,h,i,j,k,l,o,p,s,t,u,v)=>
 bif v then
 (some (a,b,c,d,g,h,i,j,k,l,s))
 else
 (bif decide ((s.length:Int)=p)then
 ((e s).bind λ K=>
 (m (a,b,c,d,g,h,i,j,k,l,t)).bind λ I=>
 bif decide (List.length i+List.length ([(o,K.1,I.1)]:LR)<=ay)then
 (bif decide ((20000:Int)<(List.length (List.append i ([(o,K.1,I.1)]:LR)):Int))then
 (some (I.2.1,I.2.2.1,I.2.2.2.1,I.2.2.2.2.1,I.2.2.2.2.2.1,I.2.2.2.2.2.2.1,List.append i ([(o,K.1,I.1)]:LR),I.2.2.2.2.2.2.2.2.1,I.2.2.2.2.2.2.2.2.2.1,true,K.2))
 else
 (some (I.2.1,I.2.2.1,I.2.2.2.1,I.2.2.2.2.1,I.2.2.2.2.2.1,I.2.2.2.2.2.2.1,List.append i ([(o,K.1,I.1)]:LR),I.2.2.2.2.2.2.2.2.1,I.2.2.2.2.2.2.2.2.2.1,decide ((300:Int)<(List.length I.2.2.2.2.2.1:Int)),K.2))).bind λ(w,y,z,A,B,C,D,E,F,G,H)=>
 some (w,y,z,A,B,C,D,E,F,G,H)
 else none)
 else
 ((bif !u then
 (some (a,b,c,d,g,h,i,j,k,l,o,p,s,t,u,(0:Int),decide ((s.length:Int)=(IntKind.wrap .i64 (p-(1:Int))))))
 else
 (some (a,b,c,d,g,h,i,j,k,l,o,p,s,t,u,(0:Int),false))).bind λ(a,b,c,d,g,h,i,j,k,l,o,p,s,t,u,v,w)=>
 (bif w then
 (some (a,b,c,d,g,h,i,j,k,l,o,p,s,t,u,j))
 else
 (some (a,b,c,d,g,h,i,j,k,l,o,p,s,t,u,v))).bind λ(a,b,c,d,g,h,i,j,k,l,o,p,s,t,u,v)=>
 (bK (bW.L2 q n f) n (a,b,c,d,g,h,i,j,k,l,o,p,s,t,u,v)).bind λ(a,b,c,d,g,h,i,j,k,l,o)=>
 some (a,b,c,d,g,h,i,j,k,l,o)))
def oq.L1 (g:ajk) (e:ajk->Option (List Bool)):Option (List Bool):=
 match g with
 |(a,b,c,d)=>
 bif decide (d<c)then
 ((nth? b d).bind λ f=>
 bif decide (0<=f)&&decide (f<(a.length:Int))then
 (at? a f.toNat).bind λ i=>
 e (List.set a f.toNat true,b,c,IntKind.wrap .i64 (d+(1:Int)))
 else none)
 else
 (some a)
def oq.P (n:Nat) (x:Ab):Option (List Bool):=
 match x with
 |(a,b,_)=>
 bif decide (0<=a)&&decide (a<=a)&&decide (a<=(ay:Int))then
 (bK (oq.L1) n (List.replicate a.toNat (false:Bool),b,(b.length:Int),(0:Int))).bind λ d=>
 some d
 else none
def jB.L1 (e:Ah->Option Bool) (k:Ap) (f:Ap->Option LI):Option LI:=
 match k with
 |(a,b,c,d)=>
 bif decide (d<c)then
 ((e (a,d)).bind λ l=>
 (bif l then
 (bif decide (List.length b+List.length ([d]:LI)<=ay)then
 some (a,List.append b ([d]:LI),c,d)
 else none)
 else
 (some (a,b,c,d))).bind λ(g,h,i,j)=>
 f (g,h,i,IntKind.wrap .i64 (j+(1:Int))))
 else
 (some b)
def jB.P (d:Ah->Option Bool) (n:Nat) (x:LI):Option LI:=
 (bK (jB.L1 d) n (x,([]:LI),IntKind.wrap .i64 ((64:Int)*(x.length:Int)),(0:Int))).bind λ e=>
 some e
def uO.P (n:Nat) (x:Ay):Option Bool:=
 match x with
 |(a,b)=>
 (nth? b a).bind λ d=>
 some d
def dD.L1 (e:Ay->Option Bool) (g:Bj) (f:Bj->Option (Sum Unit Int)):Option (Sum Unit Int):=
 match g with
 |(a,b,c,d)=>
 bif decide (d<c)then
 ((nth? a d).bind λ i=>
 (e (i,b)).bind λ k=>
 bif k then
 ((some d).bind λ r=>some (Sum.inr r))
 else
 (f (a,b,c,IntKind.wrap .i64 (d+(1:Int)))))
 else
 (some (Sum.inl ()))
def dD.P (d:Ay->Option Bool) (n:Nat) (x:Ai):Option Int:=
 match x with
 |(a,b)=>
 (bK (dD.L1 d) n (a,b,(a.length:Int),(0:Int))).bind λ q=>match q with
 |Sum.inl e=>(some (-1:Int))
 |Sum.inr r=>some r
def fP.P (d:Ai->Option Int) (n:Nat) (x:Ai):Option Bool:=
 match x with
 |(a,b)=>
 (d (a,b)).bind λ e=>
 some (decide ((0:Int)<=e))
def eF.L1 (e:(Int×LI×LR×LL×LL×(Option (List (ByteArray×Int)))×LR×Int×Int×Bool×Int×Int×LI×LI×Bool)->Option (Int×LI×LR×LL×LL×(Option (List (ByteArray×Int)))×LR×Int×Int×Bool×LI)) (Y:LI×Int×LI×LR×Int×LI×LR×Int×Int×LI×LR×LL×LL×(Option (List (ByteArray×Int)))×LR×Int×Int×Bool×LI×Int×Int) (m:(LI×Int×LI×LR×Int×LI×LR×Int×Int×LI×LR×LL×LL×(Option (List (ByteArray×Int)))×LR×Int×Int×Bool×LI×Int×Int)->Option (LI×Int×LI×LR×Int×LI×LR×Int×Int×LI×LR×LL×LL×(Option (List (ByteArray×Int)))×LR×Int×Int×Bool)):Option (LI×Int×LI×LR×Int×LI×LR×Int×Int×LI×LR×LL×LL×(Option (List (ByteArray×Int)))×LR×Int×Int×Bool):=
 match Y with
 |(a,b,c,d,g,h,i,j,k,l,o,p,s,t,u,v,w,y,z,A,B)=>
 bif decide (B<A)then
 ((nth? z B).bind λ q=>
 (bif (decide (q=(0:Int)))==(decide (j=(0:Int)))then
 ((nth? p B).bind λ Z=>
 (e (k,l,o,p,s,t,u,v,w,y,B,q,([]:LI),Z,decide (q=(0:Int)))).bind λ f=>
 some (a,b,c,d,g,h,i,j,f.1,f.2.1,f.2.2.1,f.2.2.2.1,f.2.2.2.2.1,f.2.2.2.2.2.1,f.2.2.2.2.2.2.1,f.2.2.2.2.2.2.2.1,f.2.2.2.2.2.2.2.2.1,f.2.2.2.2.2.2.2.2.2.1,z,A,B))
 else
 (some (a,b,c,d,g,h,i,j,k,l,o,p,s,t,u,v,w,y,z,A,B))).bind λ(C,D,E,F,G,H,I,J,K,L,M,N,O,P,Q,R,S,T,U,V,W)=>
 m (C,D,E,F,G,H,I,J,K,L,M,N,O,P,Q,R,S,T,U,V,IntKind.wrap .i64 (W+(1:Int))))
 else
 (some (a,b,c,d,g,h,i,j,k,l,o,p,s,t,u,v,w,y))
def eF.L2 (e:(Int×LI×LR×LL×LL×(Option (List (ByteArray×Int)))×LR×Int×Int×Bool×Int×Int×LI×LI×Bool)->Option (Int×LI×LR×LL×LL×(Option (List (ByteArray×Int)))×LR×Int×Int×Bool×LI)) (n:Nat) (m:LI×Int×LI×LR×Int×LI×LR×Int×Int×LI×LR×LL×LL×(Option (List (ByteArray×Int)))×LR×Int×Int×Bool) (f:(LI×Int×LI×LR×Int×LI×LR×Int×Int×LI×LR×LL×LL×(Option (List (ByteArray×Int)))×LR×Int×Int×Bool)->Option (Sum (Int×LI×LR×Int×LI×LR×Int×LI×LR×LL×LL×(Option (List (ByteArray×Int)))×LR×Int×Int×Bool) AA)):Option (Sum (Int×LI×LR×Int×LI×LR×Int×LI×LR×LL×LL×(Option (List (ByteArray×Int)))×LR×Int×Int×Bool) AA):=
 match m with
 |(a,b,c,d,g,h,i,j,k,l,o,p,s,t,u,v,w,y)=>
 (bif decide (j=(0:Int))then
 (some (a,b,c,d,g,h,i,j,k,l,o,p,s,t,u,v,w,y,true))
 else
 (some (a,b,c,d,g,h,i,j,k,l,o,p,s,t,u,v,w,y,decide (v<w)))).bind λ(a,b,c,d,g,h,i,j,k,l,o,p,s,t,u,v,w,y,z)=>
 bif z then
 ((bK (eF.L1 e) n (a,b,c,d,g,h,i,j,k,l,o,p,s,t,u,v,w,y,a,(a.length:Int),(0:Int))).bind λ(A,B,C,D,E,F,G,H,I,J,K,L,M,N,O,_,P,Q)=>
 bif Q then
 ((some ((0:Int),([]:LI),([]:LR),([]:List LI),(3:Int))).bind λ r=>some (Sum.inr r))
 else
 (f (A,B,C,D,E,F,G,IntKind.wrap .i64 (H+(1:Int)),I,J,K,L,M,N,O,P,(M.length:Int),Q)))
 else
 (some (Sum.inl (b,c,d,g,h,i,k,l,o,p,s,t,u,v,w,y)))
def eF.L3 (f:LI->Option LI) (e:Ai->Option Bool) (W:Int×LI×LR×Int×LI×LR×(List Bool)×LL×Int×LI×LR×LL×LL×(Option (List (ByteArray×Int)))×LR×Int×Int×Bool×Int×Int) (q:(Int×LI×LR×Int×LI×LR×(List Bool)×LL×Int×LI×LR×LL×LL×(Option (List (ByteArray×Int)))×LR×Int×Int×Bool×Int×Int)->Option A8_):Option A8_:=
 match W with
 |(a,b,c,d,g,h,i,j,k,l,o,p,s,t,u,v,w,y,z,A)=>
 bif decide (A<z)then
 (bif decide (0<=A)&&decide (A<(s.length:Int))then
 (at? s A.toNat).bind λ Y=>
 (f Y).bind λ m=>
 bif decide (List.length j+List.length ([m]:List LI)<=ay)then
 (e (m,i)).bind λ Z=>
 (bif Z then
 (bif decide (List.length g+List.length ([A]:LI)<=ay)then
 some (a,b,c,d,List.append g ([A]:LI),h,i,List.append j ([m]:List LI),k,l,o,p,s,t,u,v,w,y,z,A)
 else none)
 else
 (some (a,b,c,d,g,h,i,List.append j ([m]:List LI),k,l,o,p,s,t,u,v,w,y,z,A))).bind λ(B,C,D,E,F,G,H,I,J,K,L,M,N,O,P,Q,R,S,T,U)=>
 q (B,C,D,E,F,G,H,I,J,K,L,M,N,O,P,Q,R,S,T,IntKind.wrap .i64 (U+(1:Int)))
 else none
 else none)
 else
 (some (a,b,c,d,g,h,j))
def eF.P (B:Aa->Option LL) (z:Ab->Option (List Bool)) (y:LR->Option LR) (A:Aa->Option Bool) (m:LI->Option LI) (f:(Int×LI×LR×LL×LL×(Option (List (ByteArray×Int)))×LR×Int×Int×Bool×Int×Int×LI×LI×Bool)->Option (Int×LI×LR×LL×LL×(Option (List (ByteArray×Int)))×LR×Int×Int×Bool×LI)) (e:Ai->Option Bool) (n:Nat) (x:Aa):Option AA:=
 match x with
 |(a,b,c,d)=>
 (A (a,b,c,d)).bind λ E=>
 bif !E then
 (some ((0:Int),([]:LI),([]:LR),([]:List LI),(1:Int)))
 else
 ((B (a,b,c,d)).bind λ G=>
 (bK (eF.L2 f n) n (a,b,c,d,(0:Int),([]:LI),([]:LR),(0:Int),b,c,d,G,([]:List LI),(some []:Option (List (ByteArray×Int))),([]:LR),(0:Int),(0:Int),false)).bind λ q=>match q with
 |Sum.inl (a,b,c,d,g,h,i,j,k,l,o,p,s,t,u,v)=>((y s).bind λ C=>
 (z (a,b,c)).bind λ D=>
 (bK (eF.L3 m e) n (d,g,h,(o.length:Int),([]:LI),C,D,([]:List LI),i,j,k,l,o,p,s,t,u,v,(o.length:Int),(0:Int))).bind λ(_,_,_,a,b,c,d)=>
 some (a,b,c,d,(0:Int)))
 |Sum.inr r=>some r)
def Du.P (g:Ab->Option Ab) (e:Aa->Option Bh) (i:Aa->Option Aq) (f:Aa->Option AA) (n:Nat) (x:Aa):Option Aq:=
 match x with
 |(a,b,c,d)=>
 (e (a,b,c,d)).bind λ m=>
 bif !decide (m.2=(0:Int))then
 (some ((0:Int),([]:LI),([]:LR),m.2))
 else
 (bif m.1 then
 ((g (b,c,d)).bind λ p=>
 some (p.1,p.2.1,p.2.2,(0:Int)))
 else
 ((i (a,b,c,d)).bind λ k=>
 bif !decide (k.2.2.2=(0:Int))then
 (some ((0:Int),([]:LI),([]:LR),k.2.2.2))
 else
 ((f (a,k.1,k.2.1,k.2.2.1)).bind λ l=>
 some (l.1,l.2.1,l.2.2.1,l.2.2.2.2))))
def Dk.P (e:AB->Option Ab) (d:Ab->Option (List Bool)) (n:Nat) (x:Ab):Option Ab:=
 match x with
 |(a,b,c)=>
 (d (a,b,c)).bind λ g=>
 (e (a,b,c,g)).bind λ f=>
 some (f.1,f.2.1,f.2.2)
def nX.L1 (m:(Option (List Bh))×LI×(List Bool)×Int×Int) (e:((Option (List Bh))×LI×(List Bool)×Int×Int)->Option ((Option (List Bh))×LI)):Option ((Option (List Bh))×LI):=
 match m with
 |(a,b,c,d,g)=>
 bif decide (g<d)then
 ((nth? c g).bind λ f=>
 (bif !(Option.isSome (oU ahs f (ng a)))then
 ((a).bind λ p=>
 some (some (Ie ahs f (V5 a:Int) p),b,(V5 a:Int),c,d,g))
 else
 (some (a,b,Option.getD (oU ahs f (ng a)) (0:Int),c,d,g))).bind λ(h,i,j,k,l,o)=>
 bif decide (List.length i+List.length ([j]:LI)<=ay)then
 e (h,List.append i ([j]:LI),k,l,IntKind.wrap .i64 (o+(1:Int)))
 else none)
 else
 (some (a,b))
def nX.P (n:Nat) (x:List Bool):Option Ah:=
 (bK (nX.L1) n ((some []:Option (List Bh)),([]:LI),x,(x.length:Int),(0:Int))).bind λ(a,b)=>
 some (b,(V5 a:Int))
def JM.P (d:BK->Option ByteArray) (n:Nat) (x:BK):Option ByteArray:=
 match x with
 |(a,b)=>
 (d (a,b)).bind λ e=>
 some e
def jm.L1 (e:LI->Option LI) (g:BK->Option ByteArray) (f:(Option (List (ByteArray×Int)))×(List (Option (List Ac)))×Int×LI×Int×LR×Int×Int×LI×Int×Int) (i:((Option (List (ByteArray×Int)))×(List (Option (List Ac)))×Int×LI×Int×LR×Int×Int×LI×Int×Int)->Option ((Option (List (ByteArray×Int)))×(List (Option (List Ac)))×LR×Int×Int)):Option ((Option (List (ByteArray×Int)))×(List (Option (List Ac)))×LR×Int×Int):=
 bif decide (f.2.2.2.2.2.2.2.2.2.2<f.2.2.2.2.2.2.2.2.2.1)then
 ((nth? f.2.2.2.2.2.2.2.2.1 f.2.2.2.2.2.2.2.2.2.2).bind λ q=>
 (e f.2.2.2.1).bind λ l=>
 bif decide (0<=f.2.2.2.2.2.2.2.2.2.2)&&decide (f.2.2.2.2.2.2.2.2.2.2<(l.length:Int))then
 (at? l (Int.toNat f.2.2.2.2.2.2.2.2.2.2)).bind λ u=>
 (g (f.2.2.1,List.set l (Int.toNat f.2.2.2.2.2.2.2.2.2.2) (-1:Int))).bind λ m=>
 (bif !(Option.isSome (oU seq m (ng f.1)))then
 ((f.1).bind λ p=>
 some (some (Ie seq m (V5 f.1:Int) p),f.2.1,f.2.2.1,f.2.2.2.1,f.2.2.2.2.1,q,(V5 f.1:Int),f.2.2.2.2.2.1,f.2.2.2.2.2.2.1,f.2.2.2.2.2.2.2.1,f.2.2.2.2.2.2.2.2.1,f.2.2.2.2.2.2.2.2.2.1,f.2.2.2.2.2.2.2.2.2.2))
 else
 (some (f.1,f.2.1,f.2.2.1,f.2.2.2.1,f.2.2.2.2.1,q,Option.getD (oU seq m (ng f.1)) (0:Int),f.2.2.2.2.2.1,f.2.2.2.2.2.2.1,f.2.2.2.2.2.2.2.1,f.2.2.2.2.2.2.2.2.1,f.2.2.2.2.2.2.2.2.2.1,f.2.2.2.2.2.2.2.2.2.2))).bind λ d=>
 bif decide (0<=d.2.2.2.2.2.1)&&decide (d.2.2.2.2.2.1<(List.length d.2.1:Int))then
 (rowAt? d.2.1 (Int.toNat d.2.2.2.2.2.1)).bind λ t=>
 (rowAt? d.2.1 (Int.toNat d.2.2.2.2.2.1)).bind λ k=>
 bif decide (List.length k+List.length ([(d.2.2.2.2.2.2.1,d.2.2.2.2.1)]:List Ac)<=ay)then
 bif decide (0<=d.2.2.2.2.2.1)&&decide (d.2.2.2.2.2.1<(List.length (List.set d.2.1 (Int.toNat d.2.2.2.2.2.1) none):Int))then
 i (d.1,List.set (List.set d.2.1 (Int.toNat d.2.2.2.2.2.1) none) (Int.toNat d.2.2.2.2.2.1) (some (List.append k ([(d.2.2.2.2.2.2.1,d.2.2.2.2.1)]:List Ac))),d.2.2.1,d.2.2.2.1,d.2.2.2.2.1,d.2.2.2.2.2.2.2.1,d.2.2.2.2.2.2.2.2.1,d.2.2.2.2.2.2.2.2.2.1,d.2.2.2.2.2.2.2.2.2.2.1,d.2.2.2.2.2.2.2.2.2.2.2.1,IntKind.wrap .i64 (d.2.2.2.2.2.2.2.2.2.2.2.2+(1:Int)))
 else none
 else none
 else none
 else none)
 else
 (some (f.1,f.2.1,f.2.2.2.2.2.1,f.2.2.2.2.2.2.1,f.2.2.2.2.2.2.2.1))
def jm.L2 (d:LI->Option LI) (e:BK->Option ByteArray) (n:Nat) (g:(Option (List (ByteArray×Int)))×(List (Option (List Ac)))×LR×Int×Int) (i:((Option (List (ByteArray×Int)))×(List (Option (List Ac)))×LR×Int×Int)->Option (List (Option (List Ac)))):Option (List (Option (List Ac))):=
 bif decide (g.2.2.2.2<g.2.2.2.1)then
 ((nth? g.2.2.1 g.2.2.2.2).bind λ k=>
 (bK (jm.L1 d e) n (g.1,g.2.1,k.1,k.2.1,k.2.2,g.2.2.1,g.2.2.2.1,g.2.2.2.2,k.2.1,(List.length k.2.1:Int),(0:Int))).bind λ f=>
 i (f.1,f.2.1,f.2.2.1,f.2.2.2.1,IntKind.wrap .i64 (f.2.2.2.2+(1:Int))))
 else
 (some g.2.1)
def jm.L3 (d:List Ac->Option (List Ac)) (e:(List (Option (List Ac)))×Int×Int) (f:((List (Option (List Ac)))×Int×Int)->Option (List (Option (List Ac)))):Option (List (Option (List Ac))):=
 bif decide (e.2.2<e.2.1)then
 (bif decide (0<=e.2.2)&&decide (e.2.2<(List.length e.1:Int))then
 (rowAt? e.1 (Int.toNat e.2.2)).bind λ k=>
 (rowAt? e.1 (Int.toNat e.2.2)).bind λ g=>
 (d g).bind λ i=>
 f (List.set (List.set e.1 (Int.toNat e.2.2) none) (Int.toNat e.2.2) (some i),e.2.1,IntKind.wrap .i64 (e.2.2+(1:Int)))
 else none)
 else
 (some e.1)
def jm.P (f:BK->Option ByteArray) (e:LI->Option LI) (d:List Ac->Option (List Ac)) (n:Nat) (x:Ab):Option (List (Option (List Ac))):=
 bif decide (0<=x.1)&&decide (x.1<=x.1)&&decide (x.1<=(ay:Int))then
 (bK (jm.L2 e f n) n ((some []:Option (List (ByteArray×Int))),List.replicate (Int.toNat x.1) (some ([]:List Ac)),x.2.2,(List.length x.2.2:Int),(0:Int))).bind λ g=>
 (bK (jm.L3 d) n (g,(g.length:Int),(0:Int))).bind λ i=>
 some i
 else none
def lU.L1 (m:(Option (List (ByteArray×Int)))×LI×(List ByteArray)×Int×Int) (e:((Option (List (ByteArray×Int)))×LI×(List ByteArray)×Int×Int)->Option ((Option (List (ByteArray×Int)))×LI)):Option ((Option (List (ByteArray×Int)))×LI):=
 match m with
 |(a,b,c,d,g)=>
 bif decide (g<d)then
 ((nth? c g).bind λ f=>
 (bif !(Option.isSome (oU seq f (ng a)))then
 ((a).bind λ p=>
 some (some (Ie seq f (V5 a:Int) p),b,(V5 a:Int),c,d,g))
 else
 (some (a,b,Option.getD (oU seq f (ng a)) (0:Int),c,d,g))).bind λ(h,i,j,k,l,o)=>
 bif decide (List.length i+List.length ([j]:LI)<=ay)then
 e (h,List.append i ([j]:LI),k,l,IntKind.wrap .i64 (o+(1:Int)))
 else none)
 else
 (some (a,b))
def lU.P (n:Nat) (x:List ByteArray):Option Ah:=
 (bK (lU.L1) n ((some []:Option (List (ByteArray×Int))),([]:LI),x,(x.length:Int),(0:Int))).bind λ(a,b)=>
 some (b,(V5 a:Int))
def eY.L1 (e:An->Option LI) (u:Int×LI×LR×LI×Int×(List (List Ac))×(List ByteArray)×Int×LI×Int×Int×(List Ac)×Int×Int) (f:(Int×LI×LR×LI×Int×(List (List Ac))×(List ByteArray)×Int×LI×Int×Int×(List Ac)×Int×Int)->Option (Int×LI×LR×LI×Int×(List (List Ac))×(List ByteArray)×Int×LI×Int×Int)):Option (Int×LI×LR×LI×Int×(List (List Ac))×(List ByteArray)×Int×LI×Int×Int):=
 match u with
 |(a,b,c,d,g,h,i,j,k,l,o,p,s,t)=>
 bif decide (t<s)then
 ((nth? p t).bind λ m=>
 bif decide (List.length k+List.length ([(32:Int)]:LI)<=ay)then
 (e (List.append k ([(32:Int)]:LI),m.1,(10:Int))).bind λ q=>
 bif decide (List.length q+List.length ([(58:Int)]:LI)<=ay)then
 (nth? d m.2).bind λ v=>
 (e (List.append q ([(58:Int)]:LI),v,(10:Int))).bind λ y=>
 f (a,b,c,d,g,h,i,j,y,l,o,p,s,IntKind.wrap .i64 (t+(1:Int)))
 else none
 else none)
 else
 (some (a,b,c,d,g,h,i,j,k,l,o))
def eY.L2 (e:An->Option LI) (n:Nat) (B:Int×LI×LR×LI×Int×(List (List Ac))×(List ByteArray)×Int×Int) (f:(Int×LI×LR×LI×Int×(List (List Ac))×(List ByteArray)×Int×Int)->Option (Int×LI×LR×Int×(List (List Ac))×(List ByteArray))):Option (Int×LI×LR×Int×(List (List Ac))×(List ByteArray)):=
 match B with
 |(a,b,c,d,g,h,i,j,k)=>
 bif decide (k<j)then
 ((nth? d k).bind λ C=>
 (e (([]:LI),C,(10:Int))).bind λ q=>
 bif decide (0<=k)&&decide (k<(h.length:Int))then
 (at? h k.toNat).bind λ m=>
 (bK (eY.L1 e) n (a,b,c,d,g,h,i,k,q,j,k,m,(m.length:Int),(0:Int))).bind λ(l,o,p,s,t,u,v,w,y,z,A)=>
 bif decide (0<=w)&&decide (w<(v.length:Int))then
 (at? v w.toNat).bind λ D=>
 f (l,o,p,s,t,u,List.set v w.toNat (xO y),z,IntKind.wrap .i64 (A+(1:Int)))
 else none
 else none)
 else
 (some (a,b,c,g,h,i))
def eY.L3 (f:An->Option LI) (n:Nat) (e:List ByteArray->Option Ah) (l:Int×LI×LR×LI×Int×(List (List Ac))) (k:(Int×LI×LR×LI×Int×(List (List Ac)))->Option (Sum Unit LI)):Option (Sum Unit LI):=
 match l with
 |(a,b,c,d,g,h)=>
 bif decide (0<=a)&&decide (a<=a)&&decide (a<=(ay:Int))then
 (bK (eY.L2 f n) n (a,b,c,d,g,h,List.replicate a.toNat (ByteArray.empty:ByteArray),(List.length (List.replicate a.toNat (ByteArray.empty:ByteArray)):Int),(0:Int))).bind λ(a,b,c,d,g,h)=>
 (e h).bind λ i=>
 bif decide (i.2=d)then
 ((some i.1).bind λ r=>some (Sum.inr r))
 else
 (k (a,b,c,i.1,i.2,g))
 else none
def eY.P (g:Ab->Option (List Bool)) (f:List Bool->Option Ah) (d:List ByteArray->Option Ah) (i:Ab->Option (List (Option (List Ac)))) (e:An->Option LI) (n:Nat) (x:Ab):Option LI:=
 match x with
 |(a,b,c)=>
 (g (a,b,c)).bind λ l=>
 (f l).bind λ k=>
 (i (a,b,c)).bind λ m=>
 (oN m).bind λ p=>
 (bK (eY.L3 e n d) n (a,b,c,k.1,k.2,p)).bind λ q=>match q with
 |Sum.inl (_:Unit)=>none
 |Sum.inr r=>some r
def bZ.L1 (f:ajm) (e:ajm->Option Ah):Option Ah:=
 match f with
 |(a,b,c,d,g)=>
 bif decide (g<(List.length (List.drop c.toNat (List.take d.toNat a)):Int))then
 (bif decide (0<=g)&&decide (g<((d.toNat-c.toNat:Nat):Int))then
 (at? a (c.toNat+Int.toNat g)).bind λ m=>
 bif decide (0<=(IntKind.wrap .i64 (g-(1:Int))))&&decide ((IntKind.wrap .i64 (g-(1:Int)))<((d.toNat-c.toNat:Nat):Int))then
 (at? a (c.toNat+Int.toNat (IntKind.wrap .i64 (g-(1:Int))))).bind λ p=>
 (bif !decide (m=p)then
 (bif decide (0<=g)&&decide (g<((d.toNat-c.toNat:Nat):Int))then
 (at? a (c.toNat+Int.toNat g)).bind λ q=>
 bif decide (0<=b)&&decide (b<(a.length:Int))then
 (at? a b.toNat).bind λ t=>
 some (List.set a b.toNat q,IntKind.wrap .i64 (b+(1:Int)),(Int.toNat c:Int),(Int.toNat d:Int),g)
 else none
 else none)
 else
 (some (a,b,(Int.toNat c:Int),(Int.toNat d:Int),g))).bind λ(h,i,j,k,l)=>
 e (h,i,(Int.toNat j:Int),(Int.toNat k:Int),IntKind.wrap .i64 (l+(1:Int)))
 else none
 else none)
 else
 (some (a,b))
def bZ.L2 (n:Nat) (f:Ah) (e:Ah->Option (Sum LI LI)):Option (Sum LI LI):=
 match f with
 |(a,b)=>
 bif decide (b<(a.length:Int))then
 (bif decide (0<=b)&&decide (b<(a.length:Int))then
 (at? a b.toNat).bind λ g=>
 bif decide (0<=(IntKind.wrap .i64 (b-(1:Int))))&&decide ((IntKind.wrap .i64 (b-(1:Int)))<(a.length:Int))then
 (at? a (Int.toNat (IntKind.wrap .i64 (b-(1:Int))))).bind λ i=>
 bif decide (g=i)then
 (bif decide (0<=b)&&decide (b<=(a.length:Int))&&decide ((a.length:Int)<=(a.length:Int))then
 (bK (bZ.L1) n (a,b,(Int.toNat b:Int),(Int.toNat (a.length:Int):Int),(1:Int))).bind λ(c,d)=>
 bif decide (0<=d)&&decide (d<=(c.length:Int))&&decide ((c.length:Int)<=(c.length:Int))then
 bif decide (0<=0)&&decide (0<=d)&&decide (d<=(List.length (List.append (List.append (List.take d.toNat c) (List.replicate ((Int.toNat (c.length:Int))-d.toNat) ((0:Int):Int))) (List.drop (Int.toNat (c.length:Int)) c)):Int))then
 (some (List.drop (Int.toNat 0) (List.take d.toNat (List.append (List.append (List.take d.toNat c) (List.replicate ((Int.toNat (c.length:Int))-d.toNat) ((0:Int):Int))) (List.drop (Int.toNat (c.length:Int)) c))))).bind λ r=>some (Sum.inr r)
 else none
 else none
 else none)
 else
 (e (a,IntKind.wrap .i64 (b+(1:Int))))
 else none
 else none)
 else
 (some (Sum.inl a))
def bZ.P (n:Nat) (x:LI):Option LI:=
 bif decide ((x.length:Int)<(2:Int))then
 (some x)
 else
 ((bK (bZ.L2 n) n (x,(1:Int))).bind λ q=>match q with
 |Sum.inl d=>(some d)
 |Sum.inr r=>some r)
def fM.L1 (m:BA) (e:BA->Option BY):Option BY:=
 match m with
 |(a,b,c,d,g,h,i,j,k,l,o,p,s)=>
 bif decide (s<p)then
 ((nth? o s).bind λ q=>
 (nth? a q).bind λ f=>
 bif decide (List.length k+List.length ([f]:LI)<=ay)then
 e (a,b,c,d,g,h,i,j,List.append k ([f]:LI),l,o,p,IntKind.wrap .i64 (s+(1:Int)))
 else none)
 else
 (some (a,b,c,d,g,h,i,j,k,l))
def fM.L2 (m:A7) (e:A7->Option Bv):Option Bv:=
 match m with
 |(a,b,c,d,g,h,i,j,k,l,o,p,s,t,u,v)=>
 bif decide (v<u)then
 ((nth? t v).bind λ q=>
 (nth? a q).bind λ f=>
 bif decide (List.length k+List.length ([f]:LI)<=ay)then
 e (a,b,c,d,g,h,i,j,List.append k ([f]:LI),l,o,p,s,t,u,IntKind.wrap .i64 (v+(1:Int)))
 else none)
 else
 (some (a,b,c,d,g,h,i,j,k,l,o,p,s))
def fM.L3 (n:Nat) (q:BT) (f:BT->Option Ae):Option Ae:=
 match q with
 |(a,b,c,d,g,h,i,j,k,l)=>
 bif decide (l<k)then
 ((nth? j l).bind λ e=>
 (nth? a e.2.2).bind λ m=>
 (bK (fM.L2) n (a,b,c,d,g,h,i,e.1,([]:LI),m,j,k,l,e.2.1,(List.length e.2.1:Int),(0:Int))).bind λ(o,p,s,t,u,v,w,y,z,A,B,C,D)=>
 bif decide (List.length w+List.length ([(y,z,A)]:LR)<=ay)then
 f (o,p,s,t,u,v,List.append w ([(y,z,A)]:LR),B,C,IntKind.wrap .i64 (D+(1:Int)))
 else none)
 else
 (some (b,c,d,g,h,i))
def fM.P (k:LR->Option LR) (e:LI->Option LI) (f:LI->Option LI) (n:Nat) (x:Br):Option Ab:=
 match x with
 |(a,b,c,d,g)=>
 (bK (fM.L1) n (g,a,b,c,(0:Int),([]:LI),([]:LR),d,([]:LI),([]:LR),b,(b.length:Int),(0:Int))).bind λ(a,_,_,b,c,d,g,h,i,j)=>
 (f i).bind λ m=>
 (e m).bind λ p=>
 (bK (fM.L3 n) n (a,c,d,g,h,p,j,b,(b.length:Int),(0:Int))).bind λ(_,_,_,a,b,c)=>
 (k c).bind λ l=>
 some (a,b,l)
def bT.L1 (f:ajh) (e:ajh->Option (Int×LI×LR×LI)):Option (Int×LI×LR×LI):=
 match f with
 |(a,b,c,d,g,h)=>
 bif decide (h<g)then
 (bif decide (0<=h)&&decide (h<(d.length:Int))then
 (at? d h.toNat).bind λ i=>
 e (a,b,c,List.set d h.toNat (-1:Int),g,IntKind.wrap .i64 (h+(1:Int)))
 else none)
 else
 (some (a,b,c,d))
def bT.L2 (m:Bt->Option Bp) (v:Bf) (f:Bf->Option (Sum BH Bp)):Option (Sum BH Bp):=
 match v with
 |(a,b,c,d,g,h,i,j,k,l,o,p,s,t,u)=>
 bif decide (u<t)then
 ((nth? s u).bind λ e=>
 bif decide (0<=e)&&decide (e<(d.length:Int))then
 (at? d e.toNat).bind λ y=>
 bif decide (y<(0:Int))then
 ((m (a,b,c,d,g,h,l,o,IntKind.wrap .i64 (p+(1:Int)))).bind λ r=>some (Sum.inr r))
 else
 (bif decide (0<=e)&&decide (e<(d.length:Int))then
 (at? d e.toNat).bind λ q=>
 bif decide (List.length j+List.length ([q]:LI)<=ay)then
 f (a,b,c,d,g,h,i,List.append j ([q]:LI),k,l,o,p,s,t,IntKind.wrap .i64 (u+(1:Int)))
 else none
 else none)
 else none)
 else
 (some (Sum.inl (a,b,c,d,g,h,i,j,k,l,o,p)))
def bT.L3 (n:Nat) (C:Bt) (e:Bt->Option Bp):Option Bp:=
 match C with
 |(a,b,c,d,g,h,i,j,k)=>
 bif decide (k<j)then
 ((nth? i k).bind λ f=>
 bif decide (0<=f.2.2)&&decide (f.2.2<(d.length:Int))then
 (at? d (Int.toNat f.2.2)).bind λ m=>
 bif decide ((0:Int)<=m)then
 (e (a,b,c,d,g,h,i,j,IntKind.wrap .i64 (k+(1:Int))))
 else
 ((bK (bT.L2 e) n (a,b,c,d,g,h,f.1,([]:LI),f.2.2,i,j,k,f.2.1,(List.length f.2.1:Int),(0:Int))).bind λ q=>match q with
 |Sum.inl (l,o,p,s,t,u,v,w,y,z,A,B)=>(bif decide (List.length u+List.length ([(v,w,y)]:LR)<=ay)then
 e (l,o,p,s,t,List.append u ([(v,w,y)]:LR),z,A,IntKind.wrap .i64 (B+(1:Int)))
 else none)
 |Sum.inr r=>some r)
 else none)
 else
 (some (a,b,c,d,g,h))
def bT.L4 (m:B8) (f:B8->Option B4):Option B4:=
 match m with
 |(a,b,c,d,g,h,i,j)=>
 bif decide (j<i)then
 (bif decide (0<=j)&&decide (j<(h.length:Int))then
 (at? h j.toNat).bind λ e=>
 bif decide (0<=e.2.2)&&decide (e.2.2<(d.length:Int))then
 (at? d (Int.toNat e.2.2)).bind λ q=>
 (bif decide (q<(0:Int))then
 (bif decide (0<=e.2.2)&&decide (e.2.2<(d.length:Int))then
 (at? d (Int.toNat e.2.2)).bind λ y=>
 some (a,b,c,List.set d (Int.toNat e.2.2) g,IntKind.wrap .i64 (g+(1:Int)),h,i,j)
 else none)
 else
 (some (a,b,c,d,g,h,i,j))).bind λ(k,l,o,p,s,t,u,v)=>
 f (k,l,o,p,s,t,u,IntKind.wrap .i64 (v+(1:Int)))
 else none
 else none)
 else
 (some (a,b,c,d,g))
def bT.L5 (n:Nat) (e:LR->Option LR) (p:B4) (f:B4->Option LI):Option LI:=
 match p with
 |(a,b,c,d,g)=>
 bif decide (g<a)then
 ((bK (bT.L3 n) n (a,b,c,d,g,([]:LR),c,(c.length:Int),(0:Int))).bind λ(h,i,j,k,l,o)=>
 bif decide ((o.length:Int)=(0:Int))then
 (some k)
 else
 ((e o).bind λ m=>
 (bK (bT.L4) n (h,i,j,k,l,m,(m.length:Int),(0:Int))).bind λ(h,i,j,k,l)=>
 f (h,i,j,k,l)))
 else
 (some d)
def bT.P (e:LR->Option LR) (n:Nat) (x:Ab):Option LI:=
 match x with
 |(a,b,c)=>
 bif decide (0<=a)&&decide (a<=a)&&decide (a<=(ay:Int))then
 (bK (bT.L1) n (a,b,c,List.replicate a.toNat ((0:Int):Int),(List.length (List.replicate a.toNat ((0:Int):Int)):Int),(0:Int))).bind λ(a,b,c,d)=>
 (bK (bT.L5 n e) n (a,b,c,d,(0:Int))).bind λ f=>
 some f
 else none
def kW.L1 (f:BN) (e:BN->Option B9):Option B9:=
 match f with
 |(a,b,c,d,g,h,i,j,k,l,o)=>
 bif decide (o<l)then
 ((nth? k o).bind λ m=>
 e (a,b,c,d,g,h,i,max j (IntKind.wrap .i64 (m+(1:Int))),k,l,IntKind.wrap .i64 (o+(1:Int))))
 else
 (some (a,b,c,d,g,h,i,j))
def kW.P (k:Ab->Option Ab) (l:Aa->Option Aq) (f:Ab->Option LI) (i:Ab->Option LI) (e:Br->Option Ab) (n:Nat) (x:Aa):Option Aq:=
 match x with
 |(a,b,c,d)=>
 (l (a,b,c,d)).bind λ t=>
 bif !decide (t.2.2.2=(0:Int))then
 (some ((0:Int),([]:LI),([]:LR),t.2.2.2))
 else
 ((k (t.1,t.2.1,t.2.2.1)).bind λ p=>
 (i (p.1,p.2.1,p.2.2)).bind λ u=>
 (bK (kW.L1) n ((0:Int),([]:LI),([]:LR),p.1,p.2.1,p.2.2,u,(0:Int),u,(u.length:Int),(0:Int))).bind λ(_,_,_,a,b,c,d,g)=>
 (e (a,b,c,g,d)).bind λ q=>
 (f (q.1,q.2.1,q.2.2)).bind λ v=>
 (e (q.1,q.2.1,q.2.2,g,v)).bind λ m=>
 some (m.1,m.2.1,m.2.2,(0:Int)))
def qw.L1 (f:Ap) (e:Ap->Option (Sum Unit Bool)):Option (Sum Unit Bool):=
 match f with
 |(a,b,c,d)=>
 bif decide (d<c)then
 ((nth? a d).bind λ g=>
 (nth? b d).bind λ i=>
 bif !decide (g=i)then
 ((some false).bind λ r=>some (Sum.inr r))
 else
 (e (a,b,c,IntKind.wrap .i64 (d+(1:Int)))))
 else
 (some (Sum.inl ()))
def qw.P (n:Nat) (x:Ao):Option Bool:=
 match x with
 |(a,b)=>
 bif !decide ((a.length:Int)=(b.length:Int))then
 (some false)
 else
 ((bK (qw.L1) n (a,b,(a.length:Int),(0:Int))).bind λ q=>match q with
 |Sum.inl d=>(some true)
 |Sum.inr r=>some r)
def qy.L1 (e:Ao->Option Bool) (l:A1) (f:A1->Option (Sum Unit Bool)):Option (Sum Unit Bool):=
 match l with
 |(a,b,c,d,g,h)=>
 bif decide (h<g)then
 ((nth? d h).bind λ k=>
 ((nth? c h).bind λ m=>
 bif !decide (k.1=m.1)then
 (some (a,b,c,d,g,h,true))
 else
 ((nth? c h).bind λ p=>
 bif !decide (k.2.2=p.2.2)then
 (some (a,b,c,d,g,h,true))
 else
 ((nth? c h).bind λ q=>
 (e (k.2.1,q.2.1)).bind λ t=>
 some (a,b,c,d,g,h, !t)))).bind λ(a,b,c,d,g,h,i)=>
 bif i then
 ((some false).bind λ r=>some (Sum.inr r))
 else
 (f (a,b,c,d,g,IntKind.wrap .i64 (h+(1:Int)))))
 else
 (some (Sum.inl ()))
def qy.P (e:Ao->Option Bool) (n:Nat) (x:Ae):Option Bool:=
 match x with
 |(a,b,c,d,g,h)=>
 (bif !decide (a=d)then
 (some (a,b,c,d,g,h,true))
 else
 ((e (b,g)).bind λ f=>
 bif !f then
 (some (a,b,c,d,g,h,true))
 else
 (some (a,b,c,d,g,h, !decide ((c.length:Int)=(h.length:Int)))))).bind λ(_,_,a,b,c,d,g)=>
 bif g then
 (some false)
 else
 ((bK (qy.L1 e) n (b,c,d,a,(a.length:Int),(0:Int))).bind λ q=>match q with
 |Sum.inl i=>(some true)
 |Sum.inr r=>some r)
def Ld.P (e:Unit->Option Ab) (d:Aa->Option Aq) (f:Ae->Option Bool) (n:Nat) (x:Unit):Option Bool:=
 (e ()).bind λ i=>
 (d (([0,0,2]:LI),i.1,i.2.1,i.2.2)).bind λ g=>
 (bif decide (g.2.2.2=(0:Int))then
 ((f (g.1,g.2.1,g.2.2.1,(2:Int),([(1:Int)]:LI),([((0:Int),([]:LI),(0:Int)),((1:Int),([]:LI),(1:Int)),((2:Int),([(0:Int),(0:Int)]:LI),(0:Int)),((2:Int),([(0:Int),(1:Int)]:LI),(1:Int)),((2:Int),([(1:Int),(0:Int)]:LI),(1:Int)),((2:Int),([(1:Int),(1:Int)]:LI),(1:Int))]:LR))).bind λ k=>
 some k)
 else
 (some false)).bind λ l=>
 some l
def gW.L1 (f:Ap) (e:Ap->Option (Sum Unit Bool)):Option (Sum Unit Bool):=
 match f with
 |(a,b,c,d)=>
 bif decide (d<c)then
 ((nth? a d).bind λ g=>
 (nth? b d).bind λ i=>
 bif !decide (g=i)then
 ((some false).bind λ r=>some (Sum.inr r))
 else
 (e (a,b,c,IntKind.wrap .i64 (d+(1:Int)))))
 else
 (some (Sum.inl ()))
def gW.P (n:Nat) (x:Ao):Option Bool:=
 match x with
 |(a,b)=>
 bif !decide ((a.length:Int)=(b.length:Int))then
 (some false)
 else
 ((bK (gW.L1) n (a,b,(a.length:Int),(0:Int))).bind λ q=>match q with
 |Sum.inl d=>(some true)
 |Sum.inr r=>some r)
def yj.P (e:Ag->Option Int) (n:Nat) (x:Ag):Option Bool:=
 match x with
 |(a,b,c,d,g,h)=>
 (e (a,b,c,d,g,h)).bind λ f=>
 some (decide (f=(0:Int)))
def aA.L1 (e:Ag->Option Bool) (k:A5_) (f:A5_->Option (Sum Unit Bool)):Option (Sum Unit Bool):=
 match k with
 |(a,b,c,d)=>
 bif decide (d<c)then
 ((nth? b d).bind λ g=>
 (nth? a d).bind λ i=>
 (e (g.1,g.2.1,g.2.2,i.1,i.2.1,i.2.2)).bind λ l=>
 bif !l then
 ((some false).bind λ r=>some (Sum.inr r))
 else
 (f (a,b,c,IntKind.wrap .i64 (d+(1:Int)))))
 else
 (some (Sum.inl ()))
def aA.P (d:Ag->Option Bool) (n:Nat) (x:ahe):Option Bool:=
 match x with
 |(a,b)=>
 bif !decide ((a.length:Int)=(b.length:Int))then
 (some false)
 else
 ((bK (aA.L1 d) n (b,a,(a.length:Int),(0:Int))).bind λ q=>match q with
 |Sum.inl e=>(some true)
 |Sum.inr r=>some r)
def Ey.P (e:ahe->Option Bool) (f:Ao->Option Bool) (n:Nat) (x:Ae):Option Bool:=
 match x with
 |(a,b,c,d,g,h)=>
 (bif decide (a=d)then
 ((f (b,g)).bind λ i=>
 bif i then
 ((e (c,h)).bind λ k=>
 some k)
 else
 (some false))
 else
 (some false)).bind λ l=>
 some l
def dN.L1 (g:An) (e:An->Option (Sum Unit Bool)):Option (Sum Unit Bool):=
 match g with
 |(a,b,c)=>
 bif decide (c<b)then
 ((nth? a c).bind λ f=>
 (bif decide (f<(0:Int))then
 (some (a,b,c,true))
 else
 (some (a,b,c,decide ((3:Int)<f)))).bind λ(a,b,c,d)=>
 bif d then
 ((some false).bind λ r=>some (Sum.inr r))
 else
 (e (a,b,IntKind.wrap .i64 (c+(1:Int)))))
 else
 (some (Sum.inl ()))
def dN.P (n:Nat) (x:LI):Option Bool:=
 bif decide ((12:Int)<(x.length:Int))then
 (some false)
 else
 ((bK (dN.L1) n (x,(x.length:Int),(0:Int))).bind λ q=>match q with
 |Sum.inl d=>(some true)
 |Sum.inr r=>some r)
def gB.L1 (m:Bs) (e:Bs->Option (Sum Aa Bool)):Option (Sum Aa Bool):=
 match m with
 |(a,b,c,d,g,h,i)=>
 bif decide (i<h)then
 ((nth? g i).bind λ f=>
 (bif decide (f<(0:Int))then
 (some (a,b,c,d,g,h,i,true))
 else
 (bif decide (b<=f)then
 (some (a,b,c,d,g,h,i,true))
 else
 (bif decide ((0:Int)<i)then
 ((nth? c (IntKind.wrap .i64 (i-(1:Int)))).bind λ q=>
 some (a,b,c,d,g,h,i,decide (f<=q)))
 else
 (some (a,b,c,d,g,h,i,false))))).bind λ(j,k,l,o,p,s,t,u)=>
 bif u then
 ((some false).bind λ r=>some (Sum.inr r))
 else
 (e (j,k,l,o,p,s,IntKind.wrap .i64 (t+(1:Int)))))
 else
 (some (Sum.inl (a,b,c,d)))
def gB.L2 (m:AP) (e:AP->Option (Sum Ax (Sum Unit Bool))):Option (Sum Ax (Sum Unit Bool)):=
 match m with
 |(a,b,c,d,g,h,i,j,k,l)=>
 bif decide (l<k)then
 ((nth? j l).bind λ f=>
 (bif decide (f<(0:Int))then
 (some (a,b,c,d,g,h,i,j,k,l,true))
 else
 (some (a,b,c,d,g,h,i,j,k,l,decide (b<=f)))).bind λ(o,p,s,t,u,v,w,y,z,A,B)=>
 bif B then
 (((some false).bind λ r=>some (Sum.inr r)).bind λ r=>some (Sum.inr r))
 else
 (e (o,p,s,t,u,v,w,y,z,IntKind.wrap .i64 (A+(1:Int)))))
 else
 (some (Sum.inl (a,b,c,d,g,h,i)))
def gB.L3 (n:Nat) (m:Ax) (f:Ax->Option (Sum Unit Bool)):Option (Sum Unit Bool):=
 match m with
 |(a,b,c,d,g,h,i)=>
 bif decide (i<h)then
 ((nth? g i).bind λ e=>
 (bif decide (e.1<(0:Int))then
 (some (a,b,c,d,e.1,e.2.1,e.2.2,g,h,i,true))
 else
 (bif decide ((a.length:Int)<=e.1)then
 (some (a,b,c,d,e.1,e.2.1,e.2.2,g,h,i,true))
 else
 ((nth? a e.1).bind λ l=>
 bif !decide ((List.length e.2.1:Int)=l)then
 (some (a,b,c,d,e.1,e.2.1,e.2.2,g,h,i,true))
 else
 (bif decide (e.2.2<(0:Int))then
 (some (a,b,c,d,e.1,e.2.1,e.2.2,g,h,i,true))
 else
 (some (a,b,c,d,e.1,e.2.1,e.2.2,g,h,i,decide (b<=e.2.2))))))).bind λ(a,b,c,d,_,g,_,h,i,j,k)=>
 bif k then
 ((some false).bind λ r=>some (Sum.inr r))
 else
 ((bK (gB.L2) n (a,b,c,d,h,i,j,g,(g.length:Int),(0:Int))).bind λ q=>match q with
 |Sum.inl (a,b,c,d,g,h,i)=>(f (a,b,c,d,g,h,IntKind.wrap .i64 (i+(1:Int))))
 |Sum.inr r=>some r))
 else
 (some (Sum.inl ()))
def gB.P (e:LI->Option Bool) (n:Nat) (x:Aa):Option Bool:=
 match x with
 |(a,b,c,d)=>
 ((e a).bind λ f=>
 bif !f then
 (some (a,b,c,d,true))
 else
 (bif decide (b<(0:Int))then
 (some (a,b,c,d,true))
 else
 (bif decide ((300:Int)<b)then
 (some (a,b,c,d,true))
 else
 (some (a,b,c,d,decide ((20000:Int)<(d.length:Int))))))).bind λ(a,b,c,d,g)=>
 bif g then
 (some false)
 else
 ((bK (gB.L1) n (a,b,c,d,c,(c.length:Int),(0:Int))).bind λ q=>match q with
 |Sum.inl (a,b,c,d)=>((bK (gB.L3 n) n (a,b,c,d,d,(d.length:Int),(0:Int))).bind λ q=>match q with
 |Sum.inl i=>(some true)
 |Sum.inr r=>some r)
 |Sum.inr r=>some r)
def og.L1 (e:Ao->Option Bool) (q:BF) (f:BF->Option (Sum A1 (Sum Unit Bool))):Option (Sum A1 (Sum Unit Bool)):=
 match q with
 |(a,b,c,d,g,h,i,j,k,l,o,p)=>
 bif decide (p<o)then
 ((nth? l p).bind λ m=>
 (bif decide (d=m.1)then
 ((e (g,m.2.1)).bind λ G=>
 some (a,b,c,d,g,h,i,j,k,l,o,p,G))
 else
 (some (a,b,c,d,g,h,i,j,k,l,o,p,false))).bind λ(s,t,u,v,w,y,z,A,B,C,D,E,F)=>
 bif F then
 (((some false).bind λ r=>some (Sum.inr r)).bind λ r=>some (Sum.inr r))
 else
 (f (s,t,u,v,w,y,z,A,B,C,D,IntKind.wrap .i64 (E+(1:Int)))))
 else
 (some (Sum.inl (a,b,c,i,j,k)))
def og.L2 (e:Ao->Option Bool) (n:Nat) (k:A1) (f:A1->Option (Sum Unit Bool)):Option (Sum Unit Bool):=
 match k with
 |(a,b,c,d,g,h)=>
 bif decide (h<g)then
 ((nth? d h).bind λ i=>
 bif decide (0<=0)&&decide (0<=h)&&decide (h<=(c.length:Int))then
 (bK (og.L1 e) n (a,b,c,i.1,i.2.1,i.2.2,d,g,h,List.drop (Int.toNat 0) (List.take h.toNat c),(List.length (List.drop (Int.toNat 0) (List.take h.toNat c)):Int),(0:Int))).bind λ q=>match q with
 |Sum.inl (a,b,c,d,g,h)=>(f (a,b,c,d,g,IntKind.wrap .i64 (h+(1:Int))))
 |Sum.inr r=>some r
 else none)
 else
 (some (Sum.inl ()))
def og.P (d:Ao->Option Bool) (n:Nat) (x:Ab):Option Bool:=
 match x with
 |(a,b,c)=>
 (bK (og.L2 d n) n (a,b,c,c,(c.length:Int),(0:Int))).bind λ q=>match q with
 |Sum.inl e=>(some true)
 |Sum.inr r=>some r
def gy.L1 (m:AY) (e:AY->Option Bo):Option Bo:=
 match m with
 |(a,b,c,d,g,h,i,j,k,l,o,p,s,t,u)=>
 bif decide (u<t)then
 ((nth? s u).bind λ f=>
 (bif k then
 (bif decide (0<=f)&&decide (f<(d.length:Int))then
 (at? d f.toNat).bind λ q=>
 some (a,b,c,d,g,h,i,j,q,l,o,p,s,t,u)
 else none)
 else
 (some (a,b,c,d,g,h,i,j,false,l,o,p,s,t,u))).bind λ(v,w,y,z,A,B,C,D,E,F,G,H,I,J,K)=>
 e (v,w,y,z,A,B,C,D,E,F,G,H,I,J,IntKind.wrap .i64 (K+(1:Int))))
 else
 (some (a,b,c,d,g,h,i,j,k,l,o,p))
def gy.L2 (n:Nat) (q:B1) (e:B1->Option BD):Option BD:=
 match q with
 |(a,b,c,d,g,h,i,j)=>
 bif decide (j<i)then
 ((nth? h j).bind λ f=>
 (bK (gy.L1) n (a,b,c,d,g,f.1,f.2.1,f.2.2,true,h,i,j,f.2.1,(List.length f.2.1:Int),(0:Int))).bind λ(k,l,o,p,s,t,u,v,w,y,z,A)=>
 (bif w then
 (bif decide (0<=v)&&decide (v<(p.length:Int))then
 (at? p v.toNat).bind λ m=>
 some (k,l,o,p,s,t,u,v,y,z,A, !m)
 else none)
 else
 (some (k,l,o,p,s,t,u,v,y,z,A,false))).bind λ(k,l,o,p,s,_,_,t,u,v,w,y)=>
 (bif y then
 (bif decide (0<=t)&&decide (t<(p.length:Int))then
 (at? p t.toNat).bind λ B=>
 some (k,l,o,List.set p t.toNat true,true,u,v,w)
 else none)
 else
 (some (k,l,o,p,s,u,v,w))).bind λ(k,l,o,p,s,t,u,v)=>
 e (k,l,o,p,s,t,u,IntKind.wrap .i64 (v+(1:Int))))
 else
 (some (a,b,c,d,g))
def gy.L3 (n:Nat) (f:BD) (e:BD->Option (List Bool)):Option (List Bool):=
 match f with
 |(a,b,c,d,g)=>
 bif g then
 ((bK (gy.L2 n) n (a,b,c,d,false,c,(c.length:Int),(0:Int))).bind λ(h,i,j,k,l)=>
 e (h,i,j,k,l))
 else
 (some d)
def gy.P (n:Nat) (x:Ab):Option (List Bool):=
 match x with
 |(a,b,c)=>
 bif decide (0<=a)&&decide (a<=a)&&decide (a<=(ay:Int))then
 (bK (gy.L3 n) n (a,b,c,List.replicate a.toNat (false:Bool),true)).bind λ d=>
 some d
 else none
def fO.L1 (k:BP) (f:BP->Option A4_):Option A4_:=
 match k with
 |(a,b,c,d,g,h,i,j)=>
 bif decide (j<i)then
 ((nth? h j).bind λ e=>
 bif decide (0<=e)&&decide (e<(d.length:Int))then
 (at? d e.toNat).bind λ l=>
 bif decide (0<=e)&&decide (e<(g.length:Int))then
 (at? g e.toNat).bind λ m=>
 f (a,b,c,d,List.set g e.toNat l,h,i,IntKind.wrap .i64 (j+(1:Int)))
 else none
 else none)
 else
 (some (a,b,c,d,g))
def fO.L2 (m:AQ) (e:AQ->Option A5):Option A5:=
 match m with
 |(a,b,c,d,g,h,i,j,k,l,o,p,s,t,u,v)=>
 bif decide (v<u)then
 ((nth? t v).bind λ f=>
 (bif l then
 (bif decide (0<=f)&&decide (f<(d.length:Int))then
 (at? d f.toNat).bind λ q=>
 some (a,b,c,d,g,h,i,j,k,q,o,p,s,t,u,v)
 else none)
 else
 (some (a,b,c,d,g,h,i,j,k,false,o,p,s,t,u,v))).bind λ(w,y,z,A,B,C,D,E,F,G,H,I,J,K,L,M)=>
 e (w,y,z,A,B,C,D,E,F,G,H,I,J,K,L,IntKind.wrap .i64 (M+(1:Int))))
 else
 (some (a,b,c,d,g,h,i,j,k,l,o,p,s))
def fO.L3 (m:A6) (f:A6->Option AF):Option AF:=
 match m with
 |(a,b,c,d,g,h,i,j,k,l,o,p,s)=>
 bif decide (s<p)then
 ((nth? o s).bind λ e=>
 (bif i then
 (bif decide (0<=e)&&decide (e<(g.length:Int))then
 (at? g e.toNat).bind λ q=>
 some (a,b,c,d,g,h,i,e,j,k,l,o,p,s, !q)
 else none)
 else
 (some (a,b,c,d,g,h,i,e,j,k,l,o,p,s,false))).bind λ(t,u,v,w,y,z,A,B,C,D,E,F,G,H,I)=>
 (bif I then
 (bif decide (0<=B)&&decide (B<(y.length:Int))then
 (at? y B.toNat).bind λ K=>
 some (t,u,v,w,List.set y B.toNat true,true,A,C,D,E,F,G,H)
 else none)
 else
 (some (t,u,v,w,y,z,A,C,D,E,F,G,H))).bind λ(t,u,v,w,y,z,A,B,C,D,E,F,G)=>
 f (t,u,v,w,y,z,A,B,C,D,E,F,IntKind.wrap .i64 (G+(1:Int))))
 else
 (some (a,b,c,d,g,h,j,k,l))
def fO.L4 (n:Nat) (m:AF) (f:AF->Option AZ):Option AZ:=
 match m with
 |(a,b,c,d,g,h,i,j,k)=>
 bif decide (k<j)then
 ((nth? i k).bind λ e=>
 bif decide (0<=e.2.2)&&decide (e.2.2<(g.length:Int))then
 (at? g (Int.toNat e.2.2)).bind λ q=>
 (bK (fO.L2) n (a,b,c,d,g,h,e.1,e.2.1,e.2.2,q,i,j,k,e.2.1,(List.length e.2.1:Int),(0:Int))).bind λ(l,o,p,s,t,u,_,v,_,w,y,z,A)=>
 (bK (fO.L3) n (l,o,p,s,t,u,w,y,z,A,v,(v.length:Int),(0:Int))).bind λ(l,o,p,s,t,u,v,w,y)=>
 f (l,o,p,s,t,u,v,w,IntKind.wrap .i64 (y+(1:Int)))
 else none)
 else
 (some (a,b,c,d,g,h))
def fO.L5 (n:Nat) (f:AZ) (e:AZ->Option (List Bool)):Option (List Bool):=
 match f with
 |(a,b,c,d,g,h)=>
 bif h then
 ((bK (fO.L4 n) n (a,b,c,d,g,false,c,(c.length:Int),(0:Int))).bind λ(i,j,k,l,o,p)=>
 e (i,j,k,l,o,p))
 else
 (some g)
def fO.P (e:Ab->Option (List Bool)) (n:Nat) (x:Ab):Option (List Bool):=
 match x with
 |(a,b,c)=>
 (e (a,b,c)).bind λ i=>
 bif decide (0<=a)&&decide (a<=a)&&decide (a<=(ay:Int))then
 (bK (fO.L1) n (a,b,c,i,List.replicate a.toNat (false:Bool),b,(b.length:Int),(0:Int))).bind λ(a,b,c,d,g)=>
 (bK (fO.L5 n) n (a,b,c,d,g,true)).bind λ f=>
 some f
 else none
def Hf.P (n:Nat) (x:B3):Option LI:=
 match x with
 |(a,b,c)=>
 bif decide (List.length ([a]:LI)+List.length b<=ay)then
 bif decide (List.length (List.append ([a]:LI) b)+List.length ([c]:LI)<=ay)then
 some (List.append (List.append ([a]:LI) b) ([c]:LI))
 else none
 else none
def rP.L1 (f:Ap) (e:Ap->Option (Sum Ao Int)):Option (Sum Ao Int):=
 match f with
 |(a,b,c,d)=>
 bif decide (d<c)then
 ((nth? a d).bind λ g=>
 (nth? b d).bind λ i=>
 bif decide (g<i)then
 ((some (-1:Int)).bind λ r=>some (Sum.inr r))
 else
 ((nth? a d).bind λ k=>
 (nth? b d).bind λ l=>
 bif decide (l<k)then
 ((some (1:Int)).bind λ r=>some (Sum.inr r))
 else
 (e (a,b,c,IntKind.wrap .i64 (d+(1:Int))))))
 else
 (some (Sum.inl (a,b)))
def rP.P (n:Nat) (x:Ao):Option Int:=
 match x with
 |(a,b)=>
 (bK (rP.L1) n (a,b,min (a.length:Int) (b.length:Int),(0:Int))).bind λ q=>match q with
 |Sum.inl (a,b)=>(bif decide ((a.length:Int)<(b.length:Int))then
 (some (-1:Int))
 else
 (bif decide ((b.length:Int)<(a.length:Int))then
 (some (1:Int))
 else
 (some (0:Int))))
 |Sum.inr r=>some r
def mX.L1 (e:Ru->Option LI) (f:Ao->Option Int) (z:B5) (m:B5->Option B7):Option B7:=
 match z with
 |(a,b,c,d,g,h,i,j,k)=>
 bif decide (g<h)then
 (bif !decide ((2:Int)=0)then
 bif decide (0<=(IntKind.wrap .i64 (Int.tdiv (IntKind.wrap .i64 (g+h)) (2:Int))))&&decide ((IntKind.wrap .i64 (Int.tdiv (IntKind.wrap .i64 (g+h)) (2:Int)))<(a.length:Int))then
 (at? a (Int.toNat (IntKind.wrap .i64 (Int.tdiv (IntKind.wrap .i64 (g+h)) (2:Int))))).bind λ q=>
 (e (q.1,q.2.1,q.2.2)).bind λ A=>
 (e (b,c,d)).bind λ B=>
 (f (A,B)).bind λ C=>
 (bif decide (C<(0:Int))then
 (some (a,b,c,d,IntKind.wrap .i64 ((IntKind.wrap .i64 (Int.tdiv (IntKind.wrap .i64 (g+h)) (2:Int)))+(1:Int)),h,i,j,k))
 else
 (some (a,b,c,d,g,IntKind.wrap .i64 (Int.tdiv (IntKind.wrap .i64 (g+h)) (2:Int)),i,j,k))).bind λ(l,o,p,s,t,u,v,w,y)=>
 m (l,o,p,s,t,u,v,w,y)
 else none
 else none)
 else
 (some (a,b,c,d,g,i,j,k))
def mX.L2 (e:Ru->Option LI) (f:Ao->Option Int) (n:Nat) (z:A5_) (q:A5_->Option LR):Option LR:=
 match z with
 |(a,b,c,d)=>
 bif decide (d<c)then
 ((nth? b d).bind λ t=>
 (bK (mX.L1 e f) n (a,t.1,t.2.1,t.2.2,(0:Int),(a.length:Int),b,c,d)).bind λ(g,h,i,j,k,l,o,p)=>
 (bif decide (k=(g.length:Int))then
 (some (g,h,i,j,k,l,o,p,true))
 else
 (bif decide (0<=k)&&decide (k<(g.length:Int))then
 (at? g k.toNat).bind λ m=>
 (e (m.1,m.2.1,m.2.2)).bind λ u=>
 (e (h,i,j)).bind λ v=>
 (f (u,v)).bind λ y=>
 some (g,h,i,j,k,l,o,p, !decide (y=(0:Int)))
 else none)).bind λ(g,h,i,j,k,l,o,p,s)=>
 (bif s then
 (bif decide (List.length g+List.length ([((0:Int),([]:LI),(0:Int))]:LR)<=ay)then
 bif decide (0<=(IntKind.wrap .i64 (k+(1:Int))))&&decide ((IntKind.wrap .i64 (k+(1:Int)))<=(List.length (List.append g ([((0:Int),([]:LI),(0:Int))]:LR)):Int))&&decide ((List.length (List.append g ([((0:Int),([]:LI),(0:Int))]:LR)):Int)<=(List.length (List.append g ([((0:Int),([]:LI),(0:Int))]:LR)):Int))then
 bif decide (0<=k)&&decide (k<=(List.length (List.append g ([((0:Int),([]:LI),(0:Int))]:LR)):Int))&&decide ((List.length (List.append g ([((0:Int),([]:LI),(0:Int))]:LR)):Int)<=(List.length (List.append g ([((0:Int),([]:LI),(0:Int))]:LR)):Int))then
 bif decide (0<=k)&&decide (k<(List.length (List.append (List.append (List.take (Int.toNat (IntKind.wrap .i64 (k+(1:Int)))) (List.append g ([((0:Int),([]:LI),(0:Int))]:LR))) (List.take (Nat.min (List.length (List.drop k.toNat (List.take (Int.toNat (List.length (List.append g ([((0:Int),([]:LI),(0:Int))]:LR)):Int)) (List.append g ([((0:Int),([]:LI),(0:Int))]:LR))))) ((Int.toNat (List.length (List.append g ([((0:Int),([]:LI),(0:Int))]:LR)):Int))-(Int.toNat (IntKind.wrap .i64 (k+(1:Int)))))) (List.drop k.toNat (List.take (Int.toNat (List.length (List.append g ([((0:Int),([]:LI),(0:Int))]:LR)):Int)) (List.append g ([((0:Int),([]:LI),(0:Int))]:LR)))))) (List.drop ((Int.toNat (IntKind.wrap .i64 (k+(1:Int))))+(Nat.min (List.length (List.drop k.toNat (List.take (Int.toNat (List.length (List.append g ([((0:Int),([]:LI),(0:Int))]:LR)):Int)) (List.append g ([((0:Int),([]:LI),(0:Int))]:LR))))) ((Int.toNat (List.length (List.append g ([((0:Int),([]:LI),(0:Int))]:LR)):Int))-(Int.toNat (IntKind.wrap .i64 (k+(1:Int))))))) (List.append g ([((0:Int),([]:LI),(0:Int))]:LR)))):Int))then
 (at? (List.append (List.append (List.take (Int.toNat (IntKind.wrap .i64 (k+(1:Int)))) (List.append g ([((0:Int),([]:LI),(0:Int))]:LR))) (List.take (Nat.min (List.length (List.drop k.toNat (List.take (Int.toNat (List.length (List.append g ([((0:Int),([]:LI),(0:Int))]:LR)):Int)) (List.append g ([((0:Int),([]:LI),(0:Int))]:LR))))) ((Int.toNat (List.length (List.append g ([((0:Int),([]:LI),(0:Int))]:LR)):Int))-(Int.toNat (IntKind.wrap .i64 (k+(1:Int)))))) (List.drop k.toNat (List.take (Int.toNat (List.length (List.append g ([((0:Int),([]:LI),(0:Int))]:LR)):Int)) (List.append g ([((0:Int),([]:LI),(0:Int))]:LR)))))) (List.drop ((Int.toNat (IntKind.wrap .i64 (k+(1:Int))))+(Nat.min (List.length (List.drop k.toNat (List.take (Int.toNat (List.length (List.append g ([((0:Int),([]:LI),(0:Int))]:LR)):Int)) (List.append g ([((0:Int),([]:LI),(0:Int))]:LR))))) ((Int.toNat (List.length (List.append g ([((0:Int),([]:LI),(0:Int))]:LR)):Int))-(Int.toNat (IntKind.wrap .i64 (k+(1:Int))))))) (List.append g ([((0:Int),([]:LI),(0:Int))]:LR)))) k.toNat).bind λ A=>
 some (List.set (List.append (List.append (List.take (Int.toNat (IntKind.wrap .i64 (k+(1:Int)))) (List.append g ([((0:Int),([]:LI),(0:Int))]:LR))) (List.take (Nat.min (List.length (List.drop k.toNat (List.take (Int.toNat (List.length (List.append g ([((0:Int),([]:LI),(0:Int))]:LR)):Int)) (List.append g ([((0:Int),([]:LI),(0:Int))]:LR))))) ((Int.toNat (List.length (List.append g ([((0:Int),([]:LI),(0:Int))]:LR)):Int))-(Int.toNat (IntKind.wrap .i64 (k+(1:Int)))))) (List.drop k.toNat (List.take (Int.toNat (List.length (List.append g ([((0:Int),([]:LI),(0:Int))]:LR)):Int)) (List.append g ([((0:Int),([]:LI),(0:Int))]:LR)))))) (List.drop ((Int.toNat (IntKind.wrap .i64 (k+(1:Int))))+(Nat.min (List.length (List.drop k.toNat (List.take (Int.toNat (List.length (List.append g ([((0:Int),([]:LI),(0:Int))]:LR)):Int)) (List.append g ([((0:Int),([]:LI),(0:Int))]:LR))))) ((Int.toNat (List.length (List.append g ([((0:Int),([]:LI),(0:Int))]:LR)):Int))-(Int.toNat (IntKind.wrap .i64 (k+(1:Int))))))) (List.append g ([((0:Int),([]:LI),(0:Int))]:LR)))) k.toNat (h,i,j),l,o,p)
 else none
 else none
 else none
 else none)
 else
 (some (g,l,o,p))).bind λ(g,h,i,j)=>
 q (g,h,i,IntKind.wrap .i64 (j+(1:Int))))
 else
 (some a)
def mX.P (d:Ao->Option Int) (e:Ru->Option LI) (n:Nat) (x:LR):Option LR:=
 (bK (mX.L2 e d n) n (([]:LR),x,(x.length:Int),(0:Int))).bind λ f=>
 some f
def iD.L1 (f:A3) (e:A3->Option AD):Option AD:=
 match f with
 |(a,b,c,d,g,h,i,j,k,l,o,p,s,t)=>
 bif decide (t<s)then
 ((nth? p t).bind λ m=>
 (bif m then
 (bif decide (0<=t)&&decide (t<(j.length:Int))then
 (at? j t.toNat).bind λ q=>
 some (a,b,c,d,g,h,i,List.set j t.toNat k,IntKind.wrap .i64 (k+(1:Int)),l,o,p,s,t)
 else none)
 else
 (some (a,b,c,d,g,h,i,j,k,l,o,p,s,t))).bind λ(u,v,w,y,z,A,B,C,D,E,F,G,H,I)=>
 e (u,v,w,y,z,A,B,C,D,E,F,G,H,IntKind.wrap .i64 (I+(1:Int))))
 else
 (some (a,b,c,d,g,h,i,j,k,l,o))
def iD.L2 (K:Bg) (e:Bg->Option AD):Option AD:=
 match K with
 |(a,b,c,d,g,h,i,j,k,l,o,p,s,t)=>
 bif decide (t<s)then
 ((nth? p t).bind λ m=>
 (nth? a m).bind λ q=>
 (bif q then
 (bif decide (0<=m)&&decide (m<(j.length:Int))then
 (at? j m.toNat).bind λ f=>
 bif decide (List.length l+List.length ([f]:LI)<=ay)then
 some (a,b,c,d,g,h,i,j,k,List.append l ([f]:LI),o,p,s,t)
 else none
 else none)
 else
 (some (a,b,c,d,g,h,i,j,k,l,o,p,s,t))).bind λ(u,v,w,y,z,A,B,C,D,E,F,G,H,I)=>
 e (u,v,w,y,z,A,B,C,D,E,F,G,H,IntKind.wrap .i64 (I+(1:Int))))
 else
 (some (a,b,c,d,g,h,i,j,k,l,o))
def iD.L3 (q:AN) (e:AN->Option AW):Option AW:=
 match q with
 |(a,b,c,d,g,h,i,j,k,l,o,p,s,t,u,v,w,y,z)=>
 bif decide (z<y)then
 ((nth? w z).bind λ f=>
 (bif p then
 ((nth? a f).bind λ U=>
 some (a,b,c,d,g,h,i,j,k,l,o,U,s,f,t,u,v,w,y,z))
 else
 (some (a,b,c,d,g,h,i,j,k,l,o,false,s,f,t,u,v,w,y,z))).bind λ(A,B,C,D,E,F,G,H,I,J,K,L,M,N,O,P,Q,R,S,T)=>
 bif decide (0<=N)&&decide (N<(E.length:Int))then
 (at? E N.toNat).bind λ m=>
 bif decide (List.length M+List.length ([m]:LI)<=ay)then
 e (A,B,C,D,E,F,G,H,I,J,K,L,List.append M ([m]:LI),O,P,Q,R,S,IntKind.wrap .i64 (T+(1:Int)))
 else none
 else none)
 else
 (some (a,b,c,d,g,h,i,j,k,l,o,p,s,t,u,v))
def iD.L4 (n:Nat) (q:BG) (f:BG->Option Ae):Option Ae:=
 match q with
 |(a,b,c,d,g,h,i,j,k,l,o)=>
 bif decide (o<l)then
 ((nth? k o).bind λ e=>
 (nth? a e.2.2).bind λ I=>
 (bK (iD.L3) n (a,b,c,d,g,h,i,j,e.1,e.2.1,e.2.2,I,([]:LI),k,l,o,e.2.1,(List.length e.2.1:Int),(0:Int))).bind λ(p,s,t,u,v,w,y,z,A,_,B,C,D,E,F,G)=>
 (bif C then
 (bif decide (0<=B)&&decide (B<(v.length:Int))then
 (at? v B.toNat).bind λ m=>
 bif decide (List.length z+List.length ([(A,D,m)]:LR)<=ay)then
 some (p,s,t,u,v,w,y,List.append z ([(A,D,m)]:LR),E,F,G)
 else none
 else none)
 else
 (some (p,s,t,u,v,w,y,z,E,F,G))).bind λ(p,s,t,u,v,w,y,z,A,B,C)=>
 f (p,s,t,u,v,w,y,z,A,B,IntKind.wrap .i64 (C+(1:Int))))
 else
 (some (b,c,d,h,i,j))
def iD.P (e:LR->Option LR) (n:Nat) (x:AB):Option Ab:=
 match x with
 |(a,b,c,d)=>
 bif decide (0<=a)&&decide (a<=a)&&decide (a<=(ay:Int))then
 (bK (iD.L1) n (d,a,b,c,(0:Int),([]:LI),([]:LR),List.replicate a.toNat ((0:Int):Int),(0:Int),([]:LI),([]:LR),d,(d.length:Int),(0:Int))).bind λ(a,b,c,d,g,h,i,j,k,l,o)=>
 (bK (iD.L2) n (a,b,c,d,g,h,i,j,k,l,o,c,(c.length:Int),(0:Int))).bind λ(a,_,_,b,c,d,g,h,i,j,k)=>
 (bK (iD.L4 n) n (a,c,d,g,h,i,j,k,b,(b.length:Int),(0:Int))).bind λ(_,_,_,a,b,c)=>
 (e c).bind λ f=>
 some (a,b,f)
 else none
def wK.P (d:AB->Option Ab) (e:Ab->Option (List Bool)) (n:Nat) (x:Ab):Option Ab:=
 match x with
 |(a,b,c)=>
 (e (a,b,c)).bind λ g=>
 (d (a,b,c,g)).bind λ f=>
 some (f.1,f.2.1,f.2.2)
def l7.L1 (f:ajr) (e:ajr->Option Int):Option Int:=
 match f with
 |(a,b,c,d)=>
 bif decide (d<c)then
 (e (a,min (IntKind.wrap .i64 (b*a)) (1099511627776:Int),c,IntKind.wrap .i64 (d+(1:Int))))
 else
 (some b)
def l7.P (n:Nat) (x:Ac):Option Int:=
 match x with
 |(a,b)=>
 (bK (l7.L1) n (a,(1:Int),b,(0:Int))).bind λ d=>
 some d
def EG.P (e:Ac->Option Int) (d:Ab->Option Ab) (n:Nat) (x:Ab):Option Int:=
 match x with
 |(a,b,c)=>
 (d (a,b,c)).bind λ f=>
 (e ((2:Int),f.1)).bind λ g=>
 some g
def rO.L1 (e:Ac->Option Int) (i:ajn) (f:ajn->Option Int):Option Int:=
 match i with
 |(a,b,c,d,g)=>
 bif decide (g<d)then
 ((nth? c g).bind λ k=>
 (e (a,k)).bind λ l=>
 f (a,IntKind.wrap .i64 (b+l),c,d,IntKind.wrap .i64 (g+(1:Int))))
 else
 (some b)
def rO.P (d:Ac->Option Int) (n:Nat) (x:Ah):Option Int:=
 match x with
 |(a,b)=>
 (bK (rO.L1 d) n (b,(0:Int),a,(a.length:Int),(0:Int))).bind λ e=>
 some e
def EH.P (d:Ah->Option Int) (n:Nat) (x:Ah):Option Bool:=
 match x with
 |(a,b)=>
 (bif decide ((300:Int)<b)then
 (some true)
 else
 ((d (a,b)).bind λ e=>
 some (decide ((20000:Int)<e)))).bind λ f=>
 some f
def wL.P (g:Ab->Option Bool) (e:Ab->Option Int) (f:Ah->Option Bool) (n:Nat) (x:Aa):Option Bool:=
 match x with
 |(a,b,c,d)=>
 ((g (b,c,d)).bind λ i=>
 bif i then
 (some true)
 else
 ((e (b,c,d)).bind λ k=>
 (f (a,k)).bind λ l=>
 some (!l))).bind λ m=>
 some m
def o9.L1 (f:Ab->Option Int) (l:Ab->Option Bool) (e:Ab->Option Ab) (k:Ah->Option Int) (q:A6_) (p:A6_->Option (Sum Unit Bool)):Option (Sum Unit Bool):=
 match q with
 |(a,b,c,d)=>
 bif decide (d<c)then
 ((nth? b d).bind λ m=>
 (bif decide ((300:Int)<(List.length m.2.2:Int))then
 (some (a,m.1,m.2.1,m.2.2,b,c,d,true))
 else
 (some (a,m.1,m.2.1,m.2.2,b,c,d,decide ((100:Int)<m.1)))).bind λ(a,b,c,d,g,h,i,j)=>
 bif j then
 ((some false).bind λ r=>some (Sum.inr r))
 else
 ((f (b,c,d)).bind λ t=>
 (l (b,c,d)).bind λ u=>
 (bif u then
 ((e (b,c,d)).bind λ v=>
 some (a,v.1,g,h,i))
 else
 (some (a,t,g,h,i))).bind λ(a,b,c,d,g)=>
 (k (a,IntKind.wrap .i64 (b+(1:Int)))).bind λ y=>
 bif decide ((1500:Int)<y)then
 ((some false).bind λ r=>some (Sum.inr r))
 else
 (p (a,c,d,IntKind.wrap .i64 (g+(1:Int))))))
 else
 (some (Sum.inl ()))
def o9.P (e:Ah->Option Int) (g:Ab->Option Bool) (d:Ab->Option Ab) (f:Ab->Option Int) (n:Nat) (x:Au):Option Bool:=
 match x with
 |(a,b)=>
 (bK (o9.L1 f g d e) n (a,b,(b.length:Int),(0:Int))).bind λ q=>match q with
 |Sum.inl i=>(some true)
 |Sum.inr r=>some r
def zZ.P (d:Au->Option Bool) (n:Nat) (x:Au):Option Bool:=
 match x with
 |(a,b)=>
 (d (a,b)).bind λ e=>
 some e
def iM.L1 (l:B2) (e:B2->Option BU):Option BU:=
 match l with
 |(a,b,c,d,g,h,i,j,k)=>
 bif decide (k<j)then
 (bif decide (0<=k)&&decide (k<(i.length:Int))then
 (at? i k.toNat).bind λ f=>
 bif decide (List.length ([d]:LI)+List.length f<=ay)then
 bif decide (List.length c+List.length ([List.append ([d]:LI) f]:List LI)<=ay)then
 e (a,b,List.append c ([List.append ([d]:LI) f]:List LI),d,g,h,i,j,IntKind.wrap .i64 (k+(1:Int)))
 else none
 else none
 else none)
 else
 (some (a,b,c,g,h))
def iM.L2 (e:Ac->Option LL) (n:Nat) (p:BU) (f:BU->Option LL):Option LL:=
 match p with
 |(a,b,c,d,g)=>
 bif decide (g<d)then
 ((e (a,IntKind.wrap .i64 (b-(1:Int)))).bind λ m=>
 (bK (iM.L1) n (a,b,c,g,d,g,m,(m.length:Int),(0:Int))).bind λ(h,i,j,k,l)=>
 f (h,i,j,k,IntKind.wrap .i64 (l+(1:Int))))
 else
 (some c)
def iM.P (d:Ac->Option LL) (n:Nat) (x:Ac):Option LL:=
 match x with
 |(a,b)=>
 bif decide (b=(0:Int))then
 (some ([([]:LI)]:List LI))
 else
 ((bK (iM.L2 d n) n (a,b,([]:List LI),a,(0:Int))).bind λ e=>
 some e)
def rV.L1 (i:ajp) (e:ajp->Option LL):Option LL:=
 match i with
 |(a,b,c,d,g)=>
 bif decide (g<d)then
 ((nth? c g).bind λ k=>
 (nth? a k).bind λ f=>
 bif decide (List.length b+List.length ([f]:List LI)<=ay)then
 e (a,List.append b ([f]:List LI),c,d,IntKind.wrap .i64 (g+(1:Int)))
 else none)
 else
 (some b)
def rV.P (n:Nat) (x:Bm):Option LL:=
 match x with
 |(a,b)=>
 (bK (rV.L1) n (a,([]:List LI),b,(b.length:Int),(0:Int))).bind λ d=>
 some d
def yx.L1 (f:A0_) (e:A0_->Option (Sum Unit Bool)):Option (Sum Unit Bool):=
 match f with
 |(a,b,c,d)=>
 bif decide (d<c)then
 ((nth? b d).bind λ g=>
 bif decide (g=a)then
 ((some true).bind λ r=>some (Sum.inr r))
 else
 (e (a,b,c,IntKind.wrap .i64 (d+(1:Int)))))
 else
 (some (Sum.inl ()))
def yx.P (n:Nat) (x:Ah):Option Bool:=
 match x with
 |(a,b)=>
 (bK (yx.L1) n (b,a,(a.length:Int),(0:Int))).bind λ q=>match q with
 |Sum.inl d=>(some false)
 |Sum.inr r=>some r
def kH.L1 (f:An) (e:An->Option An):Option An:=
 match f with
 |(a,b,c)=>
 (bif decide (c<(a.length:Int))then
 ((nth? a c).bind λ g=>
 some (a,b,c,decide (g<b)))
 else
 (some (a,b,c,false))).bind λ(a,b,c,d)=>
 bif d then
 (e (a,b,IntKind.wrap .i64 (c+(1:Int))))
 else
 (some (a,b,c))
def kH.P (n:Nat) (x:Ah):Option LI:=
 match x with
 |(a,b)=>
 (bK (kH.L1) n (a,b,(0:Int))).bind λ(a,b,c)=>
 (bif decide (c<(a.length:Int))then
 ((nth? a c).bind λ e=>
 some (a,b,c,decide (e=b)))
 else
 (some (a,b,c,false))).bind λ(a,b,c,d)=>
 bif d then
 (some a)
 else
 (bif decide (0<=0)&&decide (0<=c)&&decide (c<=(a.length:Int))then
 bif decide (List.length ([]:LI)+List.length (List.drop (Int.toNat 0) (List.take c.toNat a))<=ay)then
 bif decide (List.length (List.append ([]:LI) (List.drop (Int.toNat 0) (List.take c.toNat a)))+List.length ([b]:LI)<=ay)then
 bif decide (0<=c)&&decide (c<=(a.length:Int))&&decide ((a.length:Int)<=(a.length:Int))then
 bif decide (List.length (List.append (List.append ([]:LI) (List.drop (Int.toNat 0) (List.take c.toNat a))) ([b]:LI))+List.length (List.drop c.toNat (List.take (Int.toNat (a.length:Int)) a))<=ay)then
 some (List.append (List.append (List.append ([]:LI) (List.drop (Int.toNat 0) (List.take c.toNat a))) ([b]:LI)) (List.drop c.toNat (List.take (Int.toNat (a.length:Int)) a)))
 else none
 else none
 else none
 else none
 else none)
def jV.L1 (e:Ah->Option Bool) (m:BM) (f:BM->Option BS):Option BS:=
 match m with
 |(a,b,c,d,g,h,i,j,k,l,o)=>
 (bif i then
 (some (a,b,c,d,g,h,i,j,k,l,o,decide (j<(b.length:Int))))
 else
 (some (a,b,c,d,g,h,i,j,k,l,o,false))).bind λ(a,b,c,d,g,h,i,j,k,l,o,p)=>
 bif p then
 ((nth? b j).bind λ q=>
 (nth? g j).bind λ t=>
 (e (q,t)).bind λ u=>
 f (a,b,c,d,g,h,u,IntKind.wrap .i64 (j+(1:Int)),k,l,o))
 else
 (some (a,b,c,d,g,h,i,k,l,o))
def jV.L2 (f:Ah->Option Bool) (n:Nat) (e:Ah->Option LI) (v:aji) (m:aji->Option LI):Option LI:=
 match v with
 |(a,b,c,d,g,h)=>
 bif decide (h<g)then
 ((nth? d h).bind λ q=>
 (bK (jV.L1 f) n (a,b,c,q.1,q.2.1,q.2.2,decide (q.1=a),(0:Int),d,g,h)).bind λ(i,j,k,_,_,l,o,p,s,t)=>
 (bif o then
 ((e (k,l)).bind λ u=>
 some (i,j,u,p,s,t))
 else
 (some (i,j,k,p,s,t))).bind λ(i,j,k,l,o,p)=>
 m (i,j,k,l,o,IntKind.wrap .i64 (p+(1:Int))))
 else
 (some c)
def jV.P (e:Ah->Option Bool) (d:Ah->Option LI) (n:Nat) (x:Aj):Option LI:=
 match x with
 |(_,_,a,b,c)=>
 (bK (jV.L2 e n d) n (b,c,([]:LI),a,(a.length:Int),(0:Int))).bind λ f=>
 some f
def qc.L1 (e:Ao->Option Bool) (g:LI×LL×Int×Int) (f:(LI×LL×Int×Int)->Option (Sum Unit Int)):Option (Sum Unit Int):=
 match g with
 |(a,b,c,d)=>
 bif decide (d<c)then
 ((nth? b d).bind λ i=>
 (e (a,i)).bind λ k=>
 bif k then
 ((some d).bind λ r=>some (Sum.inr r))
 else
 (f (a,b,c,IntKind.wrap .i64 (d+(1:Int)))))
 else
 (some (Sum.inl ()))
def qc.P (d:Ao->Option Bool) (n:Nat) (x:Bm):Option Int:=
 match x with
 |(a,b)=>
 (bK (qc.L1 d) n (b,a,(a.length:Int),(0:Int))).bind λ q=>match q with
 |Sum.inl e=>(some (-1:Int))
 |Sum.inr r=>some r
def jW.L1 (f:Bm->Option LL) (m:Aj->Option LI) (e:Bm->Option Int) (N:Bu) (K:Bu->Option AX):Option AX:=
 match N with
 |(a,b,c,d,g,h,i,j,k,l,o,p,s)=>
 bif decide (s<p)then
 (bif decide (0<=s)&&decide (s<(o.length:Int))then
 (at? o s.toNat).bind λ O=>
 bif decide (0<=0)&&decide (0<=h)&&decide (h<=(g.length:Int))then
 (f (List.drop (Int.toNat 0) (List.take h.toNat g),O)).bind λ L=>
 (m (b,c,d,i,L)).bind λ q=>
 (bif decide ((0:Int)<(q.length:Int))then
 ((e (g,q)).bind λ M=>
 some (a,b,c,d,g,h,i,q,j,k,l,o,p,s,decide (M<(0:Int))))
 else
 (some (a,b,c,d,g,h,i,q,j,k,l,o,p,s,false))).bind λ(t,u,v,w,y,z,A,B,C,D,E,F,G,H,I)=>
 (bif I then
 (bif decide (List.length y+List.length ([B]:List LI)<=ay)then
 some (t,u,v,w,List.append y ([B]:List LI),z,A,C,D,E,F,G,H)
 else none)
 else
 (some (t,u,v,w,y,z,A,C,D,E,F,G,H))).bind λ(t,u,v,w,y,z,A,B,C,D,E,F,G)=>
 K (t,u,v,w,y,z,A,B,C,D,E,F,IntKind.wrap .i64 (G+(1:Int)))
 else none
 else none)
 else
 (some (a,b,c,d,g,h,j,k,l))
def jW.L2 (e:Ac->Option LL) (m:Bm->Option LL) (q:Aj->Option LI) (f:Bm->Option Int) (n:Nat) (B:AX) (z:AX->Option ajj):Option ajj:=
 match B with
 |(a,b,c,d,g,h,i,j,k)=>
 bif decide (k<j)then
 ((nth? i k).bind λ C=>
 (e (h,C)).bind λ A=>
 (bK (jW.L1 m q f) n (a,b,c,d,g,h,k,i,j,k,A,(A.length:Int),(0:Int))).bind λ(l,o,p,s,t,u,v,w,y)=>
 z (l,o,p,s,t,u,v,w,IntKind.wrap .i64 (y+(1:Int))))
 else
 (some (a,b,c,d,g,h))
def jW.L3 (e:Ac->Option LL) (i:Bm->Option LL) (k:Aj->Option LI) (f:Bm->Option Int) (n:Nat) (m:ajq) (l:ajq->Option (Sum Unit afj)):Option (Sum Unit afj):=
 match m with
 |(a,b,c,d,g)=>
 (bK (jW.L2 e i k f n) n (a,b,c,d,g,(g.length:Int),a,(a.length:Int),(0:Int))).bind λ(a,b,c,d,g,h)=>
 bif decide ((300:Int)<(g.length:Int))then
 ((some (([]:List LI),false)).bind λ r=>some (Sum.inr r))
 else
 (bif decide ((g.length:Int)=h)then
 ((some (g,true)).bind λ r=>some (Sum.inr r))
 else
 (l (a,b,c,d,g)))
def jW.P (g:Aj->Option LI) (e:Ac->Option LL) (i:Bm->Option LL) (f:Bm->Option Int) (n:Nat) (x:Aa):Option afj:=
 match x with
 |(a,b,c,d)=>
 (bK (jW.L3 e i g f n) n (a,b,c,d,([]:List LI))).bind λ q=>match q with
 |Sum.inl (_:Unit)=>none
 |Sum.inr r=>some r
def rQ.L1 (e:Ah->Option Bool) (g:Ap) (f:Ap->Option (Sum Unit Bool)):Option (Sum Unit Bool):=
 match g with
 |(a,b,c,d)=>
 bif decide (d<c)then
 ((nth? b d).bind λ i=>
 (e (a,i)).bind λ k=>
 bif k then
 ((some true).bind λ r=>some (Sum.inr r))
 else
 (f (a,b,c,IntKind.wrap .i64 (d+(1:Int)))))
 else
 (some (Sum.inl ()))
def rQ.P (d:Ah->Option Bool) (n:Nat) (x:Ao):Option Bool:=
 match x with
 |(a,b)=>
 (bK (rQ.L1 d) n (b,a,(a.length:Int),(0:Int))).bind λ q=>match q with
 |Sum.inl e=>(some false)
 |Sum.inr r=>some r
def gV.L1 (e:Ao->Option Bool) (m:Bq) (f:Bq->Option BQ):Option BQ:=
 match m with
 |(a,b,c,d,g,h,i,j,k,l,o,p,s,t)=>
 bif decide (t<s)then
 ((nth? p t).bind λ q=>
 (e (q,c)).bind λ K=>
 (bif K then
 (bif decide (List.length l+List.length ([t]:LI)<=ay)then
 some (a,b,c,d,g,h,i,j,k,List.append l ([t]:LI),o,p,s,t)
 else none)
 else
 (some (a,b,c,d,g,h,i,j,k,l,o,p,s,t))).bind λ(u,v,w,y,z,A,B,C,D,E,F,G,H,I)=>
 f (u,v,w,y,z,A,B,C,D,E,F,G,H,IntKind.wrap .i64 (I+(1:Int))))
 else
 (some (a,b,c,d,g,h,i,j,k,l,o))
def gV.L2 (f:Bm->Option LL) (m:Aj->Option LI) (e:Bm->Option Int) (U:A0) (q:A0->Option Az):Option Az:=
 match U with
 |(a,b,c,d,g,h,i,j,k,l,o,p,s,t,u,v,w)=>
 bif decide (w<v)then
 (bif decide (0<=w)&&decide (w<(u.length:Int))then
 (at? u w.toNat).bind λ Q=>
 (f (i,Q)).bind λ W=>
 (m (a,b,c,o,W)).bind λ R=>
 (bif decide ((0:Int)<(R.length:Int))then
 ((e (i,R)).bind λ S=>
 bif decide (List.length l+List.length ([(o,Q,S)]:LR)<=ay)then
 some (a,b,c,d,g,h,i,j,k,List.append l ([(o,Q,S)]:LR),o,p,s,t,u,v,w)
 else none)
 else
 (some (a,b,c,d,g,h,i,j,k,l,o,p,s,t,u,v,w))).bind λ(y,z,A,B,C,D,E,F,G,H,I,J,K,L,M,N,O)=>
 q (y,z,A,B,C,D,E,F,G,H,I,J,K,L,M,N,IntKind.wrap .i64 (O+(1:Int)))
 else none)
 else
 (some (a,b,c,d,g,h,i,j,k,l,p,s,t))
def gV.L3 (e:Ac->Option LL) (m:Bm->Option LL) (q:Aj->Option LI) (f:Bm->Option Int) (n:Nat) (M:Az) (I:Az->Option A9_):Option A9_:=
 match M with
 |(a,b,c,d,g,h,i,j,k,l,o,p,s)=>
 bif decide (s<p)then
 ((nth? o s).bind λ L=>
 (e ((i.length:Int),L)).bind λ K=>
 (bK (gV.L2 m q f) n (a,b,c,d,g,h,i,j,k,l,s,o,p,s,K,(K.length:Int),(0:Int))).bind λ(t,u,v,w,y,z,A,B,C,D,E,F,G)=>
 I (t,u,v,w,y,z,A,B,C,D,E,F,IntKind.wrap .i64 (G+(1:Int))))
 else
 (some (d,g,h,i,j,k,l))
def gV.P (p:Ao->Option Bool) (q:Aj->Option LI) (e:Aa->Option Bool) (f:Ac->Option LL) (t:Aa->Option afj) (u:Bm->Option LL) (m:Bm->Option Int) (n:Nat) (x:Aa):Option AA:=
 match x with
 |(a,b,c,d)=>
 (e (a,b,c,d)).bind λ y=>
 bif !y then
 (some ((0:Int),([]:LI),([]:LR),([]:List LI),(1:Int)))
 else
 ((t (a,b,c,d)).bind λ v=>
 bif !v.2 then
 (some ((0:Int),([]:LI),([]:LR),([]:List LI),(3:Int)))
 else
 ((bK (gV.L1 p) n (a,b,c,d,(0:Int),([]:LI),([]:LR),v.1,(List.length v.1:Int),([]:LI),([]:LR),v.1,(List.length v.1:Int),(0:Int))).bind λ(a,b,c,d,g,h,i,j,k,l,o)=>
 (bK (gV.L3 f u q m n) n (b,c,d,g,h,i,j,k,l,o,a,(a.length:Int),(0:Int))).bind λ(_,_,_,a,b,c,d)=>
 bif decide ((20000:Int)<(d.length:Int))then
 (some ((0:Int),([]:LI),([]:LR),([]:List LI),(3:Int)))
 else
 (some (b,c,d,a,(0:Int)))))
def gU.L1 (e:Ao->Option Bool) (Y:AK) (f:AK->Option AU):Option AU:=
 match Y with
 |(a,b,c,d,g,h,i,j,k,l,o,p,s,t,u,v,w,y,z,A,B)=>
 bif decide (B<A)then
 ((nth? z B).bind λ m=>
 (bif p then
 (bif decide (m.1=l)then
 ((e (m.2.1,o)).bind λ q=>
 some (a,b,c,d,g,h,i,j,k,l,o, !q,s,t,u,v,w,y,z,A,B))
 else
 (some (a,b,c,d,g,h,i,j,k,l,o, !false,s,t,u,v,w,y,z,A,B)))
 else
 (some (a,b,c,d,g,h,i,j,k,l,o,false,s,t,u,v,w,y,z,A,B))).bind λ(C,D,E,F,G,H,I,J,K,L,M,N,O,P,Q,R,S,T,U,V,W)=>
 f (C,D,E,F,G,H,I,J,K,L,M,N,O,P,Q,R,S,T,U,V,IntKind.wrap .i64 (W+(1:Int))))
 else
 (some (a,b,c,d,g,h,i,j,k,l,o,p,s,t,u,v,w,y))
def gU.L2 (e:Ao->Option Bool) (n:Nat) (m:A8) (f:A8->Option AG):Option AG:=
 match m with
 |(a,b,c,d,g,h,i,j,k,l,o,p,s,t,u,v)=>
 bif decide (v<u)then
 (bif decide (0<=v)&&decide (v<(t.length:Int))then
 (at? t v.toNat).bind λ q=>
 (bK (gU.L1 e) n (a,b,c,d,g,h,i,j,k,l,q,true,o,p,s,t,u,v,c,(c.length:Int),(0:Int))).bind λ(w,y,z,A,B,C,D,E,F,G,H,I,J,K,L,M,N,O)=>
 (bif I then
 (bif decide (List.length F+List.length ([(G,H,w)]:LR)<=ay)then
 some (w,y,z,A,B,C,D,E,List.append F ([(G,H,w)]:LR),G,J,K,L,M,N,O)
 else none)
 else
 (some (w,y,z,A,B,C,D,E,F,G,J,K,L,M,N,O))).bind λ(w,y,z,A,B,C,D,E,F,G,H,I,J,K,L,M)=>
 f (w,y,z,A,B,C,D,E,F,G,H,I,J,K,L,IntKind.wrap .i64 (M+(1:Int)))
 else none)
 else
 (some (a,b,c,d,g,h,i,j,k,o,p,s))
def gU.L3 (e:Ac->Option LL) (f:Ao->Option Bool) (n:Nat) (G:AG) (m:AG->Option Ae):Option Ae:=
 match G with
 |(a,b,c,d,g,h,i,j,k,l,o,p)=>
 bif decide (p<o)then
 ((nth? l p).bind λ I=>
 (e (IntKind.wrap .i64 (a+(1:Int)),I)).bind λ q=>
 (bK (gU.L2 f n) n (a,b,c,d,g,h,i,j,k,p,l,o,p,q,(q.length:Int),(0:Int))).bind λ(s,t,u,v,w,y,z,A,B,C,D,E)=>
 m (s,t,u,v,w,y,z,A,B,C,D,IntKind.wrap .i64 (E+(1:Int))))
 else
 (some (d,g,h,i,j,k))
def gU.P (f:Ao->Option Bool) (e:Ac->Option LL) (n:Nat) (x:Aa):Option Ab:=
 match x with
 |(a,b,c,d)=>
 bif decide (List.length ([]:LI)+List.length c<=ay)then
 bif decide (List.length ([]:LR)+List.length d<=ay)then
 (bK (gU.L3 e f n) n (b,c,d,(0:Int),([]:LI),([]:LR),IntKind.wrap .i64 (b+(1:Int)),List.append ([]:LI) c,List.append ([]:LR) d,a,(a.length:Int),(0:Int))).bind λ(_,_,_,a,b,c)=>
 some (a,b,c)
 else none
 else none
def jo.L1 (f:ajg) (e:ajg->Option Int):Option Int:=
 match f with
 |(a,b,c,d,g,h)=>
 bif decide (h<g)then
 ((nth? d h).bind λ i=>
 e (a,b,IntKind.wrap .i64 ((IntKind.wrap .i64 (c*a))+i),d,g,IntKind.wrap .i64 (h+(1:Int))))
 else
 (some c)
def jo.P (n:Nat) (x:BV):Option Int:=
 match x with
 |(a,b,c)=>
 (bK (jo.L1) n (a,b,(0:Int),c,(c.length:Int),(0:Int))).bind λ d=>
 some d
def jI.L1 (f:Int×LI×LR×Int×LL×Int×(List (Option LI))×LI×LI×Int×Int×Int×Int) (e:(Int×LI×LR×Int×LL×Int×(List (Option LI))×LI×LI×Int×Int×Int×Int)->Option (Int×LI×LR×Int×LL×Int×(List (Option LI))×LI×LI×Int×Int)):Option (Int×LI×LR×Int×LL×Int×(List (Option LI))×LI×LI×Int×Int):=
 match f with
 |(a,b,c,d,g,h,i,j,k,l,o,p,s)=>
 bif decide (s<p)then
 (bif decide (0<=s)&&decide (s<(j.length:Int))then
 (at? j s.toNat).bind λ m=>
 e (a,b,c,d,g,h,i,List.set j s.toNat (-1:Int),k,l,o,p,IntKind.wrap .i64 (s+(1:Int)))
 else none)
 else
 (some (a,b,c,d,g,h,i,j,k,l,o))
def jI.L2 (e:Ac->Option Int) (n:Nat) (q:Int×LI×LR×Int×LL×Int×(List (Option LI))×LI×Int×Int) (m:(Int×LI×LR×Int×LL×Int×(List (Option LI))×LI×Int×Int)->Option (Int×LI×LR×Int×LL×Int×(List (Option LI)))):Option (Int×LI×LR×Int×LL×Int×(List (Option LI))):=
 match q with
 |(a,b,c,d,g,h,i,j,k,l)=>
 bif decide (l<k)then
 ((nth? j l).bind λ C=>
 (e (a,C)).bind λ f=>
 bif decide (0<=f)&&decide (f<=f)&&decide (f<=(ay:Int))then
 (bK (jI.L1) n (a,b,c,d,g,h,i,List.replicate f.toNat ((0:Int):Int),j,k,l,(List.length (List.replicate f.toNat ((0:Int):Int)):Int),(0:Int))).bind λ(o,p,s,t,u,v,w,y,z,A,B)=>
 bif decide (List.length w+List.length (List.map some ([y]:List LI))<=ay)then
 m (o,p,s,t,u,v,List.append w (List.map some ([y]:List LI)),z,A,IntKind.wrap .i64 (B+(1:Int)))
 else none
 else none)
 else
 (some (a,b,c,d,g,h,i))
def jI.L3 (e:BV->Option Int) (p:Int×LL×Int×(List (Option LI))×LR×Int×Int) (l:(Int×LL×Int×(List (Option LI))×LR×Int×Int)->Option (Int×LL×Int×(List (Option LI)))):Option (Int×LL×Int×(List (Option LI))):=
 match p with
 |(a,b,c,d,g,h,i)=>
 bif decide (i<h)then
 ((nth? g i).bind λ f=>
 bif decide (0<=f.1)&&decide (f.1<(d.length:Int))then
 (rowAt? d (Int.toNat f.1)).bind λ u=>
 (oN d).bind λ q=>
 (e (c,q,f.2.1)).bind λ k=>
 (rowAt? d (Int.toNat f.1)).bind λ t=>
 bif decide (0<=k)&&decide (k<(t.length:Int))then
 (rowAt? d (Int.toNat f.1)).bind λ m=>
 (at? m k.toNat).bind λ v=>
 l (a,b,c,List.set d (Int.toNat f.1) (some (List.set m k.toNat f.2.2)),g,h,IntKind.wrap .i64 (i+(1:Int)))
 else none
 else none)
 else
 (some (a,b,c,d))
def jI.P (f:Ac->Option Int) (e:BV->Option Int) (n:Nat) (x:Aa):Option ahb:=
 match x with
 |(a,b,c,d)=>
 (bK (jI.L2 f n) n (b,c,d,(0:Int),([]:List LI),b,([]:List (Option LI)),a,(a.length:Int),(0:Int))).bind λ(_,_,a,b,c,d,g)=>
 (bK (jI.L3 e) n (b,c,d,g,a,(a.length:Int),(0:Int))).bind λ(_,_,a,b)=>
 (oN b).bind λ i=>
 some (a,i)
def qW.P (e:BV->Option Int) (n:Nat) (x:AI):Option Int:=
 match x with
 |(a,b,c,d)=>
 (nth? b c).bind λ f=>
 (e (a,b,d)).bind λ g=>
 (nth? f g).bind λ i=>
 some i
def iP.L1 (e:AI->Option Int) (A:A4) (f:A4->Option (Sum Av (Sum AE (Sum Unit Bool)))):Option (Sum Av (Sum AE (Sum Unit Bool))):=
 match A with
 |(a,b,c,d,g,h,i,j,k,l,o,p,s,t,u,v)=>
 bif decide (v<u)then
 (bif decide (0<=0)&&decide (0<=v)&&decide (v<=(j.length:Int))then
 bif decide (List.length ([]:LI)+List.length (List.drop (Int.toNat 0) (List.take v.toNat j))<=ay)then
 bif decide (List.length (List.append ([]:LI) (List.drop (Int.toNat 0) (List.take v.toNat j)))+List.length ([b]:LI)<=ay)then
 bif decide (0<=v)&&decide (v<=(j.length:Int))&&decide ((j.length:Int)<=(j.length:Int))then
 bif decide (List.length (List.append (List.append ([]:LI) (List.drop (Int.toNat 0) (List.take v.toNat j))) ([b]:LI))+List.length (List.drop v.toNat (List.take (Int.toNat (j.length:Int)) j))<=ay)then
 bif decide (0<=0)&&decide (0<=v)&&decide (v<=(j.length:Int))then
 bif decide (List.length ([]:LI)+List.length (List.drop (Int.toNat 0) (List.take v.toNat j))<=ay)then
 bif decide (List.length (List.append ([]:LI) (List.drop (Int.toNat 0) (List.take v.toNat j)))+List.length ([c]:LI)<=ay)then
 bif decide (0<=v)&&decide (v<=(j.length:Int))&&decide ((j.length:Int)<=(j.length:Int))then
 bif decide (List.length (List.append (List.append ([]:LI) (List.drop (Int.toNat 0) (List.take v.toNat j))) ([c]:LI))+List.length (List.drop v.toNat (List.take (Int.toNat (j.length:Int)) j))<=ay)then
 (e (d,g,h,List.append (List.append (List.append ([]:LI) (List.drop (Int.toNat 0) (List.take v.toNat j))) ([b]:LI)) (List.drop v.toNat (List.take (Int.toNat (j.length:Int)) j)))).bind λ m=>
 (nth? a m).bind λ q=>
 (e (d,g,h,List.append (List.append (List.append ([]:LI) (List.drop (Int.toNat 0) (List.take v.toNat j))) ([c]:LI)) (List.drop v.toNat (List.take (Int.toNat (j.length:Int)) j)))).bind λ y=>
 (nth? a y).bind λ z=>
 bif !decide (q=z)then
 ((((some false).bind λ r=>some (Sum.inr r)).bind λ r=>some (Sum.inr r)).bind λ r=>some (Sum.inr r))
 else
 (f (a,b,c,d,g,h,i,j,k,l,o,p,s,t,u,IntKind.wrap .i64 (v+(1:Int))))
 else none
 else none
 else none
 else none
 else none
 else none
 else none
 else none
 else none
 else none)
 else
 (some (Sum.inl (a,b,c,d,g,h,i,k,l,o,p,s,t)))
def iP.L2 (e:AI->Option Int) (n:Nat) (m:Av) (f:Av->Option (Sum AE (Sum Unit Bool))):Option (Sum AE (Sum Unit Bool)):=
 match m with
 |(a,b,c,d,g,h,i,j,k,l,o,p,s)=>
 bif decide (s<p)then
 (bif decide (0<=s)&&decide (s<(o.length:Int))then
 (at? o s.toNat).bind λ I=>
 (bK (iP.L1 e) n (a,b,c,d,g,h,i,I,j,k,l,o,p,s,i,(0:Int))).bind λ q=>match q with
 |Sum.inl (t,u,v,w,y,z,A,B,C,D,E,F,G)=>(f (t,u,v,w,y,z,A,B,C,D,E,F,IntKind.wrap .i64 (G+(1:Int))))
 |Sum.inr r=>some r
 else none)
 else
 (some (Sum.inl (a,b,c,d,g,j,k,l)))
def iP.L3 (f:Ac->Option LL) (e:AI->Option Int) (n:Nat) (p:AE) (k:AE->Option (Sum Unit Bool)):Option (Sum Unit Bool):=
 match p with
 |(a,b,c,d,g,h,i,j)=>
 bif decide (j<i)then
 ((nth? h j).bind λ l=>
 bif decide (l=(0:Int))then
 (k (a,b,c,d,g,h,i,IntKind.wrap .i64 (j+(1:Int))))
 else
 ((f (d,IntKind.wrap .i64 (l-(1:Int)))).bind λ m=>
 (bK (iP.L2 e n) n (a,b,c,d,g,j,l,h,i,j,m,(m.length:Int),(0:Int))).bind λ q=>match q with
 |Sum.inl (a,b,c,d,g,h,i,j)=>(k (a,b,c,d,g,h,i,IntKind.wrap .i64 (j+(1:Int))))
 |Sum.inr r=>some r))
 else
 (some (Sum.inl ()))
def iP.P (f:Ac->Option LL) (e:AI->Option Int) (n:Nat) (x:AJ):Option Bool:=
 match x with
 |(a,b,c,d,g,h)=>
 (bK (iP.L3 f e n) n (d,g,h,b,c,a,(a.length:Int),(0:Int))).bind λ q=>match q with
 |Sum.inl i=>(some true)
 |Sum.inr r=>some r
def rU.L1 (e:Ah->Option LI) (g:Ap) (f:Ap->Option LI):Option LI:=
 match g with
 |(a,b,c,d)=>
 bif decide (d<c)then
 ((nth? b d).bind λ i=>
 (e (a,i)).bind λ k=>
 f (k,b,c,IntKind.wrap .i64 (d+(1:Int))))
 else
 (some a)
def rU.P (d:Ah->Option LI) (n:Nat) (x:LI):Option Int:=
 (bK (rU.L1 d) n (([]:LI),x,(x.length:Int),(0:Int))).bind λ e=>
 some (e.length:Int)
def dV.L1 (m:BW) (e:BW->Option Bw):Option Bw:=
 match m with
 |(a,b,c,d,g,h,i,j,k,l)=>
 bif decide (l<k)then
 ((nth? j l).bind λ f=>
 bif decide (0<=f)&&decide (f<(i.length:Int))then
 (at? i f.toNat).bind λ p=>
 e (a,b,c,d,g,h,List.set i f.toNat (1:Int),j,k,IntKind.wrap .i64 (l+(1:Int)))
 else none)
 else
 (some (a,b,c,d,g,h,i))
def dV.L2 (e:AJ->Option Bool) (q:Bn) (m:Bn->Option BI):Option BI:=
 match q with
 |(a,b,c,d,g,h,i,j,k,l,o,p,s,t)=>
 bif decide (t<s)then
 (bif decide (0<=t)&&decide (t<(j.length:Int))then
 (at? j t.toNat).bind λ f=>
 (bif decide (0<=l)&&decide (l<(i.length:Int))then
 (at? i l.toNat).bind λ L=>
 bif decide (0<=f)&&decide (f<(i.length:Int))then
 (at? i f.toNat).bind λ M=>
 bif decide (L=M)then
 ((e (a,g,h,i,l,f)).bind λ N=>
 some (a,b,c,d,g,h,i,j,k,l,t,o,p,s,t,N))
 else
 (some (a,b,c,d,g,h,i,j,k,l,t,o,p,s,t,false))
 else none
 else none).bind λ(u,v,w,y,z,A,B,C,D,E,F,G,H,I,J,K)=>
 bif K then
 (bif decide (0<=E)&&decide (E<(D.length:Int))then
 (at? D E.toNat).bind λ O=>
 some (u,v,w,y,z,A,B,C,List.set D E.toNat F,E,G,H)
 else none)
 else
 (m (u,v,w,y,z,A,B,C,D,E,G,H,I,IntKind.wrap .i64 (J+(1:Int))))
 else none)
 else
 (some (a,b,c,d,g,h,i,j,k,l,o,p))
def dV.L3 (e:AJ->Option Bool) (n:Nat) (q:BO) (f:BO->Option A1_):Option A1_:=
 match q with
 |(a,b,c,d,g,h,i,j,k,l,o)=>
 bif decide (o<l)then
 (bif decide (0<=o)&&decide (o<(k.length:Int))then
 (at? k o.toNat).bind λ E=>
 (bK (dV.L2 e) n (a,b,c,d,g,h,i,j,List.set k o.toNat (j.length:Int),o,l,o,(j.length:Int),(0:Int))).bind λ(p,s,t,u,v,w,y,z,A,B,C,D)=>
 bif decide (0<=B)&&decide (B<(A.length:Int))then
 (at? A B.toNat).bind λ m=>
 (bif decide (m=(z.length:Int))then
 (bif decide (List.length z+List.length ([B]:LI)<=ay)then
 some (p,s,t,u,v,w,y,List.append z ([B]:LI),A,C,D)
 else none)
 else
 (some (p,s,t,u,v,w,y,z,A,C,D))).bind λ(p,s,t,u,v,w,y,z,A,B,C)=>
 f (p,s,t,u,v,w,y,z,A,B,IntKind.wrap .i64 (C+(1:Int)))
 else none
 else none)
 else
 (some (a,b,c,d,g,h,i,k))
def dV.L4 (f:AJ->Option Bool) (n:Nat) (e:LI->Option Int) (p:Bw) (k:Bw->Option (Sum Unit LI)):Option (Sum Unit LI):=
 match p with
 |(a,b,c,d,g,h,i)=>
 bif decide (0<=b)&&decide (b<=b)&&decide (b<=(ay:Int))then
 (bK (dV.L3 f n) n (a,b,c,d,g,h,i,([]:LI),List.replicate b.toNat ((0:Int):Int),(List.length (List.replicate b.toNat ((0:Int):Int)):Int),(0:Int))).bind λ(a,b,c,d,g,h,i,j)=>
 (e j).bind λ l=>
 (e i).bind λ m=>
 bif decide (l=m)then
 ((some j).bind λ r=>some (Sum.inr r))
 else
 (k (a,b,c,d,g,h,j))
 else none
def dV.P (f:Aa->Option ahb) (e:AJ->Option Bool) (k:LI->Option Int) (n:Nat) (x:Aa):Option LI:=
 match x with
 |(a,b,c,d)=>
 (f (a,b,c,d)).bind λ l=>
 bif decide (0<=b)&&decide (b<=b)&&decide (b<=(ay:Int))then
 (bK (dV.L1) n (a,b,c,d,l.1,l.2,List.replicate b.toNat ((0:Int):Int),c,(c.length:Int),(0:Int))).bind λ(a,b,c,d,g,h,i)=>
 (bK (dV.L4 e n k) n (a,b,c,d,g,h,i)).bind λ q=>match q with
 |Sum.inl (_:Unit)=>none
 |Sum.inr r=>some r
 else none
def aP.L1 (f:BJ) (e:BJ->Option BZ):Option BZ:=
 match f with
 |(a,b,c,d,g,h,i,j,k,l,o,p)=>
 bif decide (p<o)then
 (bif decide (0<=p)&&decide (p<(l.length:Int))then
 (at? l p.toNat).bind λ m=>
 e (a,b,c,d,g,h,i,j,k,List.set l p.toNat (-1:Int),o,IntKind.wrap .i64 (p+(1:Int)))
 else none)
 else
 (some (a,b,c,d,g,h,i,j,k,l))
def aP.L2 (q:AH) (e:AH->Option AO):Option AO:=
 match q with
 |(a,b,c,d,g,h,i,j,k,l,o,p,s,t,u,v,w,y,z,A,B,C,D)=>
 bif decide (D<C)then
 ((nth? B D).bind λ f=>
 bif decide (0<=f)&&decide (f<(o.length:Int))then
 (at? o f.toNat).bind λ m=>
 bif decide (List.length t+List.length ([m]:LI)<=ay)then
 e (a,b,c,d,g,h,i,j,k,l,o,p,s,List.append t ([m]:LI),u,v,w,y,z,A,B,C,IntKind.wrap .i64 (D+(1:Int)))
 else none
 else none)
 else
 (some (a,b,c,d,g,h,i,j,k,l,o,p,s,t,u,v,w,y,z,A))
def aP.L3 (n:Nat) (e:AI->Option Int) (W:AR) (m:AR->Option As):Option As:=
 match W with
 |(a,b,c,d,g,h,i,j,k,l,o,p,s,t,u,v,w,y,z)=>
 bif decide (z<y)then
 (bif decide (0<=z)&&decide (z<(w.length:Int))then
 (at? w z.toNat).bind λ q=>
 (bK (aP.L2) n (a,b,c,d,g,h,i,j,k,l,o,p,s,([]:LI),t,u,v,w,y,z,q,(q.length:Int),(0:Int))).bind λ(A,B,C,D,E,F,G,H,I,J,K,L,M,N,O,P,Q,R,S,T)=>
 (e (H,I,M,N)).bind λ f=>
 (bif decide ((0:Int)<=f)then
 (bif decide (0<=f)&&decide (f<(J.length:Int))then
 (at? J f.toNat).bind λ Y=>
 some (A,B,C,D,E,F,G,H,I,J,K,L,M,f,O,P,Q,R,S,T,decide (Y<(0:Int)))
 else none)
 else
 (some (A,B,C,D,E,F,G,H,I,J,K,L,M,f,O,P,Q,R,S,T,false))).bind λ(A,B,C,D,E,F,G,H,I,J,K,L,M,N,O,P,Q,R,S,T,U)=>
 (bif U then
 (bif decide (0<=N)&&decide (N<(J.length:Int))then
 (at? J N.toNat).bind λ Z=>
 bif decide (List.length K+List.length ([N]:LI)<=ay)then
 some (A,B,C,D,E,F,G,H,I,List.set J N.toNat (K.length:Int),List.append K ([N]:LI),L,M,O,P,Q,R,S,T)
 else none
 else none)
 else
 (some (A,B,C,D,E,F,G,H,I,J,K,L,M,O,P,Q,R,S,T))).bind λ(A,B,C,D,E,F,G,H,I,J,K,L,M,N,O,P,Q,R,S)=>
 m (A,B,C,D,E,F,G,H,I,J,K,L,M,N,O,P,Q,R,IntKind.wrap .i64 (S+(1:Int)))
 else none)
 else
 (some (a,b,c,d,g,h,i,j,k,l,o,p,t,u,v))
def aP.L4 (f:Ac->Option LL) (n:Nat) (e:AI->Option Int) (M:As) (m:As->Option BL):Option BL:=
 match M with
 |(a,b,c,d,g,h,i,j,k,l,o,p,s,t,u)=>
 bif decide (u<t)then
 ((nth? s u).bind λ L=>
 (f (p,L)).bind λ q=>
 (bK (aP.L3 n e) n (a,b,c,d,g,h,i,j,k,l,o,p,u,s,t,u,q,(q.length:Int),(0:Int))).bind λ(v,w,y,z,A,B,C,D,E,F,G,H,I,J,K)=>
 m (v,w,y,z,A,B,C,D,E,F,G,H,I,J,IntKind.wrap .i64 (K+(1:Int))))
 else
 (some (a,b,c,d,g,h,i,j,k,l,o,p))
def aP.L5 (f:Ac->Option LL) (n:Nat) (e:AI->Option Int) (q:BR) (m:BR->Option A2_):Option A2_:=
 match q with
 |(a,b,c,d,g,h,i,j,k,l,o)=>
 (bK (aP.L4 f n e) n (a,b,c,d,g,h,i,j,k,l,o,(o.length:Int),a,(a.length:Int),(0:Int))).bind λ(a,b,c,d,g,h,i,j,k,l,o,p)=>
 bif decide ((o.length:Int)=p)then
 (some (b,c,d,g,h,i,l,o))
 else
 (m (a,b,c,d,g,h,i,j,k,l,o))
def aP.L6 (e:Ah->Option Bool) (m:BB) (f:BB->Option B0):Option B0:=
 match m with
 |(a,b,c,d,g,h,i,j,k,l,o,p,s)=>
 bif decide (s<p)then
 (bif decide (0<=s)&&decide (s<(j.length:Int))then
 (at? j s.toNat).bind λ q=>
 (e (b,q)).bind λ I=>
 (bif I then
 (bif decide (List.length l+List.length ([s]:LI)<=ay)then
 some (a,b,c,d,g,h,i,j,k,List.append l ([s]:LI),o,p,s)
 else none)
 else
 (some (a,b,c,d,g,h,i,j,k,l,o,p,s))).bind λ(t,u,v,w,y,z,A,B,C,D,E,F,G)=>
 f (t,u,v,w,y,z,A,B,C,D,E,F,IntKind.wrap .i64 (G+(1:Int)))
 else none)
 else
 (some (a,b,c,d,g,h,i,k,l,o))
def aP.L7 (q:A9) (e:A9->Option Bz):Option Bz:=
 match q with
 |(a,b,c,d,g,h,i,j,k,l,o,p,s,t,u,v)=>
 bif decide (v<u)then
 ((nth? t v).bind λ f=>
 bif decide (0<=f)&&decide (f<(d.length:Int))then
 (at? d f.toNat).bind λ m=>
 bif decide (List.length k+List.length ([m]:LI)<=ay)then
 e (a,b,c,d,g,h,i,j,List.append k ([m]:LI),l,o,p,s,t,u,IntKind.wrap .i64 (v+(1:Int)))
 else none
 else none)
 else
 (some (a,b,c,d,g,h,i,j,k,l,o,p,s))
def aP.L8 (n:Nat) (m:BX) (f:BX->Option Ae):Option Ae:=
 match m with
 |(a,b,c,d,g,h,i,j,k,l)=>
 bif decide (l<k)then
 ((nth? j l).bind λ e=>
 bif decide (0<=e.2.2)&&decide (e.2.2<(d.length:Int))then
 (at? d (Int.toNat e.2.2)).bind λ q=>
 (bK (aP.L7) n (a,b,c,d,g,h,i,e.1,([]:LI),q,j,k,l,e.2.1,(List.length e.2.1:Int),(0:Int))).bind λ(o,p,s,t,u,v,w,y,z,A,B,C,D)=>
 bif decide (List.length w+List.length ([(y,z,A)]:LR)<=ay)then
 f (o,p,s,t,u,v,List.append w ([(y,z,A)]:LR),B,C,IntKind.wrap .i64 (D+(1:Int)))
 else none
 else none)
 else
 (some (a,b,c,g,h,i))
def aP.P (q:Ah->Option Bool) (m:LR->Option LR) (f:Ac->Option LL) (p:Aa->Option ahb) (e:AI->Option Int) (n:Nat) (x:Aa):Option Ab:=
 match x with
 |(a,b,c,d)=>
 (p (a,b,c,d)).bind λ u=>
 bif decide (0<=b)&&decide (b<=b)&&decide (b<=(ay:Int))then
 (bK (aP.L1) n (a,b,c,d,(0:Int),([]:LI),([]:LR),u.1,u.2,List.replicate b.toNat ((0:Int):Int),(List.length (List.replicate b.toNat ((0:Int):Int)):Int),(0:Int))).bind λ(a,b,c,d,g,h,i,j,k,l)=>
 (bK (aP.L5 f n e) n (a,b,c,d,g,h,i,j,k,l,([]:LI))).bind λ(a,b,c,d,g,h,i,j)=>
 (bK (aP.L6 q) n (a,b,c,d,g,h,i,j,(j.length:Int),([]:LI),([]:LR),(j.length:Int),(0:Int))).bind λ(_,_,a,b,c,d,g,h,i,j)=>
 (bK (aP.L8 n) n (b,c,d,g,h,i,j,a,(a.length:Int),(0:Int))).bind λ(_,_,_,a,b,c)=>
 (m c).bind λ t=>
 some (a,b,t)
 else none
def dJ.L1 (f:Al) (e:Al->Option AL):Option AL:=
 match f with
 |(a,b,c,d,g,h,i,j,k,l,o,p,s)=>
 bif decide (s<p)then
 (bif decide (0<=s)&&decide (s<(j.length:Int))then
 (at? j s.toNat).bind λ m=>
 e (a,b,c,d,g,h,i,j,max k (IntKind.wrap .i64 (m+(1:Int))),l,o,p,IntKind.wrap .i64 (s+(1:Int)))
 else none)
 else
 (some (a,b,c,d,g,h,i,j,k,l,o))
def dJ.L2 (f:Ah->Option Bool) (e:Ah->Option LI) (q:Al) (m:Al->Option AL):Option AL:=
 match q with
 |(a,b,c,d,g,h,i,j,k,l,o,p,s)=>
 bif decide (s<p)then
 (bif decide (0<=s)&&decide (s<(j.length:Int))then
 (at? j s.toNat).bind λ I=>
 (f (h,s)).bind λ K=>
 (bif K then
 ((e (l,I)).bind λ L=>
 some (a,b,c,d,g,h,i,j,k,L,o,p,s))
 else
 (some (a,b,c,d,g,h,i,j,k,l,o,p,s))).bind λ(t,u,v,w,y,z,A,B,C,D,E,F,G)=>
 m (t,u,v,w,y,z,A,B,C,D,E,F,IntKind.wrap .i64 (G+(1:Int)))
 else none)
 else
 (some (a,b,c,d,g,h,i,j,k,l,o))
def dJ.L3 (q:AS) (e:AS->Option Bb):Option Bb:=
 match q with
 |(a,b,c,d,g,h,i,j,k,l,o,p,s,t,u,v,w,y,z)=>
 bif decide (z<y)then
 ((nth? w z).bind λ f=>
 bif decide (0<=f)&&decide (f<(j.length:Int))then
 (at? j f.toNat).bind λ m=>
 bif decide (List.length s+List.length ([m]:LI)<=ay)then
 e (a,b,c,d,g,h,i,j,k,l,o,p,List.append s ([m]:LI),t,u,v,w,y,IntKind.wrap .i64 (z+(1:Int)))
 else none
 else none)
 else
 (some (a,b,c,d,g,h,i,j,k,l,o,p,s,t,u,v))
def dJ.L4 (n:Nat) (m:Al) (f:Al->Option Af):Option Af:=
 match m with
 |(a,b,c,d,g,h,i,j,k,l,o,p,s)=>
 bif decide (s<p)then
 ((nth? i s).bind λ e=>
 bif decide (0<=e.2.2)&&decide (e.2.2<(j.length:Int))then
 (at? j (Int.toNat e.2.2)).bind λ q=>
 (bK (dJ.L3) n (a,b,c,d,g,h,i,j,k,l,o,e.1,([]:LI),q,p,s,e.2.1,(List.length e.2.1:Int),(0:Int))).bind λ(t,u,v,w,y,z,A,B,C,D,E,F,G,H,I,J)=>
 bif decide (List.length E+List.length ([(F,G,H)]:LR)<=ay)then
 f (t,u,v,w,y,z,A,B,C,D,List.append E ([(F,G,H)]:LR),I,IntKind.wrap .i64 (J+(1:Int)))
 else none
 else none)
 else
 (some (a,b,c,d,k,l,o))
def dJ.P (v:Ah->Option Bool) (p:Ah->Option LI) (e:Ab->Option Ab) (q:Aa->Option Ab) (u:Ah->Option Bool) (f:Aa->Option Ab) (t:Aa->Option AA) (m:Aa->Option LI) (n:Nat) (x:Aa):Option A3_:=
 match x with
 |(a,b,c,d)=>
 (e (b,c,d)).bind λ C=>
 (t (a,C.1,C.2.1,C.2.2)).bind λ y=>
 (bif !decide (y.2.2.2.2=(0:Int))then
 (some (a,(0:Int),([]:LI),([]:LR),y.1,y.2.1,y.2.2.1,true))
 else
 ((u (a,IntKind.wrap .i64 (y.1+(1:Int)))).bind λ E=>
 some (a,(0:Int),([]:LI),([]:LR),y.1,y.2.1,y.2.2.1,E))).bind λ(a,b,c,d,g,h,i,j)=>
 bif j then
 (some ((0:Int),([]:LI),([]:LR),false))
 else
 ((q (a,g,h,i)).bind λ B=>
 (m (a,B.1,B.2.1,B.2.2)).bind λ D=>
 (bK (dJ.L1) n (a,b,c,d,B.1,B.2.1,B.2.2,D,(0:Int),([]:LI),([]:LR),(D.length:Int),(0:Int))).bind λ(a,b,c,d,g,h,i,j,k,l,o)=>
 (bK (dJ.L2 v p) n (a,b,c,d,g,h,i,j,k,l,o,(j.length:Int),(0:Int))).bind λ(a,b,c,d,g,h,i,j,k,l,o)=>
 (bK (dJ.L4 n) n (a,b,c,d,g,h,i,j,k,l,o,(i.length:Int),(0:Int))).bind λ(a,_,_,_,b,c,d)=>
 (e (b,c,d)).bind λ z=>
 (f (a,z.1,z.2.1,z.2.2)).bind λ A=>
 some (A.1,A.2.1,A.2.2,true))
def GU.P (f:Aa->Option Bool) (k:Ae->Option Bool) (e:Aa->Option Aq) (n:Nat) (x:Af):Option Bh:=
 match x with
 |(a,b,c,d,g,h,i)=>
 ((f (a,b,c,d)).bind λ p=>
 bif !p then
 (some (a,b,c,d,g,h,i,true))
 else
 ((f (a,g,h,i)).bind λ q=>
 some (a,b,c,d,g,h,i, !q))).bind λ(a,b,c,d,g,h,i,j)=>
 bif j then
 (some (false,(1:Int)))
 else
 ((e (a,b,c,d)).bind λ l=>
 bif !decide (l.2.2.2=(0:Int))then
 (some (false,l.2.2.2))
 else
 ((e (a,g,h,i)).bind λ m=>
 bif !decide (m.2.2.2=(0:Int))then
 (some (false,m.2.2.2))
 else
 ((k (l.1,l.2.1,l.2.2.1,m.1,m.2.1,m.2.2.1)).bind λ t=>
 some (t,(0:Int)))))
def zX.P (f:Ae->Option Bool) (e:Aa->Option A3_) (n:Nat) (x:Af):Option A7_:=
 match x with
 |(a,b,c,d,g,h,i)=>
 (e (a,b,c,d)).bind λ k=>
 (e (a,g,h,i)).bind λ l=>
 (bif k.2.2.2 then
 (bif l.2.2.2 then
 ((f (k.1,k.2.1,k.2.2.1,l.1,l.2.1,l.2.2.1)).bind λ m=>
 bif k.2.2.2 then
 (some (m,l.2.2.2))
 else
 (some (m,false)))
 else
 (bif k.2.2.2 then
 (some (false,l.2.2.2))
 else
 (some (false,false))))
 else
 (bif k.2.2.2 then
 (some (false,l.2.2.2))
 else
 (some (false,false)))).bind λ(a,b)=>
 some (a,b)
def zY.P (e:Af->Option A7_) (n:Nat) (x:Af):Option A7_:=
 match x with
 |(a,b,c,d,g,h,i)=>
 (e (a,b,c,d,g,h,i)).bind λ f=>
 some (f.1,f.2)
def uQ.P (e:Unit->Option Bool) (t:Au->Option Bool) (u:Af->Option Bh) (m:Aa->Option Bool) (f:Aa->Option Bool) (p:Af->Option A7_) (q:Au->Option Bool) (n:Nat) (x:Af):Option Bool:=
 match x with
 |(a,b,c,d,g,h,i)=>
 (t (a,([(b,c,d),(g,h,i)]:List Ab))).bind λ L=>
 bif !L then
 ((e ()).bind λ M=>
 some M)
 else
 ((u (a,b,c,d,g,h,i)).bind λ y=>
 ((m (a,b,c,d)).bind λ N=>
 bif !N then
 (some (a,b,c,d,g,h,i,y.1,y.2,true))
 else
 ((m (a,g,h,i)).bind λ O=>
 some (a,b,c,d,g,h,i,y.1,y.2, !O))).bind λ(a,b,c,d,g,h,i,j,k,l)=>
 bif l then
 ((bif decide (k=(1:Int))then
 ((e ()).bind λ Q=>
 some Q)
 else
 (some false)).bind λ R=>
 some R)
 else
 (bif decide (k=(3:Int))then
 (((f (a,b,c,d)).bind λ S=>
 bif !S then
 ((e ()).bind λ z=>
 some z)
 else
 ((f (a,g,h,i)).bind λ A=>
 bif !A then
 ((e ()).bind λ B=>
 some B)
 else
 (some false))).bind λ C=>
 some C)
 else
 (bif !decide (k=(0:Int))then
 (some false)
 else
 ((q (a,([(b,c,d),(g,h,i)]:List Ab))).bind λ D=>
 bif !D then
 ((e ()).bind λ E=>
 some E)
 else
 ((p (a,b,c,d,g,h,i)).bind λ v=>
 (bif !v.2 then
 ((e ()).bind λ G=>
 some G)
 else
 (bif j==v.1 then
 ((e ()).bind λ I=>
 some I)
 else
 (some false))).bind λ K=>
 some K)))))
end Go.Bk
end
