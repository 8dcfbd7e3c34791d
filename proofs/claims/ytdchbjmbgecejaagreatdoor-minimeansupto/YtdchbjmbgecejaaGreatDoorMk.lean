import Derived.Test.YtdchbjmbgecejaaGreatDoorMa
section
namespace Go.Bk
open Go Go.AM
abbrev LI:Type:=List Int
abbrev LL:Type:=List (List Int)
abbrev LR:Type:=List (Int×List Int×Int)
abbrev Ru:Type:=Int×List Int×Int
abbrev A0:Type:=LI×Int×LI×LR
abbrev A1:Type:=Int×LI×LR
abbrev A2:Type:=LI×Int×LI×LR×Int×(List (RT Int))
abbrev A3:Type:=Int×Bool
abbrev A4:Type:=LI×(List Bool)
abbrev A5:Type:=LI×Int×(List (RT Int))
abbrev A6:Type:=Int×LI×LR×Int×(List (RT Int))
abbrev A7:Type:=Int×Int
abbrev A8:Type:=Int×LI×Int×Int×LI×Int
abbrev A9:Type:=LI×Int×Int
abbrev A10:Type:=Int×(List (RT Int))×Int
abbrev A11:Type:=Int×LI×LR×Int×LI×LR
abbrev A12:Type:=LI×Int
abbrev A13:Type:=Int×LI×LR×LL×Int×(List (RT Int))
abbrev A14:Type:=Int×(List Bool)
abbrev A15:Type:=Int×(List (RT Int))×LI×Int×(List (RT Int))
abbrev A16:Type:=LI×Int×LI×LR×Int×(List (RT Int))×Int×(List (RT Int))×LI
abbrev A17:Type:=Int×LI×LR×(List Bool)×Int×LI×LR×Int×LI×LR×LI
abbrev A18:Type:=LI×LI×Int×Int
abbrev A19:Type:=LI×(List Bool)×Int×Int
abbrev A20:Type:=LI×Int×(List (RT Int))×Int
abbrev A21:Type:=Int×Int×LI×(List (Int×LI×LR))×Int×Int
abbrev A22:Type:=LI×Int×Int×(List (Int×LI×LR))
abbrev A23:Type:=Int×LI×LR×Int
abbrev A24:Type:=(List Bool)×Int×LI×LR×Int×LI×LR×LI×Int×LI×Int×LR×Int×Int×Int×Int
abbrev A25:Type:=Int×LI×LR×(List Bool)×Int×LI×LR×Int×LI×LR×LI×(List Bool)×Int×Int
abbrev A26:Type:=LI×Int×LI×LR×Int×LI×LR×Int×LI×Int×LR×Int×Int×LI×Int×Int
abbrev A27:Type:=(List Bool)×Int×LI×LR×Int×LI×LR×LI×Int×LI×Int×LR×Int×Int
abbrev A28:Type:=Int×LI×LR×(List Bool)×Int×LI×LR×Int×LI×LR×LI×LI×Int×Int
abbrev A29:Type:=Int×LI×LR×LI×Int×LR×Int×LI×Int×LR×Int×Int×LI×Int×Int
abbrev A30:Type:=Bool×Int
abbrev A31:Type:=Int×LI×LR×(List Bool)
abbrev A32:Type:=Int×Int×LI×LR
abbrev A33:Type:=Int×LI×LR×LI×Int×LR
abbrev A34:Type:=LI×Int×LI×LR×LR×Int×Int
abbrev A35:Type:=Int×LI×LR×LI×Int×LR×LR×Int×Int
abbrev A36:Type:=LI×Int×LI×LR×Int×LI×LR×Int×LI×Int×LR×Int×Int
abbrev A37:Type:=Int×LI×LR×Int×(List (RT Int))×LL×(List (RT Int))×Int×Int
abbrev A38:Type:=LI×Int×LI×LR×Int×LI×LR×Int×LI×LR×LI×Int×Int
abbrev A39:Type:=Int×Int×LI×(List (Int×LI×LR))×Int×Int×LR×Int×Int
abbrev A40:Type:=LI×LI
abbrev A41:Type:=LI×(List (Int×LI×LR))
abbrev A42:Type:=(List Bool)×Int×LI×LR×Int×LI×LR×LI×LR×Int×Int
abbrev A43:Type:=Int×(List (RT Int))×Bool
abbrev A44:Type:=Int×LI×LR×LI×Int×LR×Int×LI×Int×LR×Int×Int
abbrev A45:Type:=Int×LI×LR×LL×Int
abbrev A46:Type:=Int×LI×LR×Int×LI
abbrev A47:Type:=Int×(List (RT Int))×LI
abbrev A48:Type:=Int×LL×LI×Int×LI×Int×Bool×Int×LR×Int×Int
abbrev A49:Type:=Int×LI×LR×Int×LL
abbrev A50:Type:=Int×(List (RT Int))×Int×(List (RT Int))×LI×Int×Int
abbrev A51:Type:=Int×LI×LR×Int×LI×LR×LI×Int×LI×Int×Int
abbrev A52:Type:=Int×LI
abbrev A53:Type:=Int×LL×LI×Int×LI×Int×Bool×LR×Int×Int
abbrev A54:Type:=LI×Int×LI×LR×LR×Int×Int×LI×Int×Int
abbrev A55:Type:=LI×Int×LI×LR×Int×LI×LR×LR×Int×Int
abbrev A56:Type:=LI×Int×LI×LR×Int×LI×LR×Int×LI×LR
abbrev A57:Type:=Int×LI×LR×LI×Int
abbrev A58:Type:=Int×LI×LR×Int×LI×LR×LR×Int×Int
abbrev A59:Type:=Int×LI×LR×LI×Int×LR×Int×Int
abbrev A60:Type:=Int×(List (RT Int))×Int×(List (RT Int))
abbrev A61:Type:=Int×LI×LR×Int×LI×LR×LI×Int
abbrev A62:Type:=Int×LI×LR×Int×(List (RT Int))×LL
abbrev A63:Type:=Int×LI×Int×Int
abbrev A64:Type:=Int×(List (RT Int))
abbrev A65:Type:=Int×Int×(List (RT Int))×Int×Int
abbrev A66:Type:=Int×LI×(List (RT Int))×Int×Int
abbrev A67:Type:=LI×Int×LI×LR×LI×Int×Int
abbrev A68:Type:=Int×LI×LR×Int×LI×LR×LL
abbrev A69:Type:=LI×Int×LI×Int×Int×Int
abbrev A70:Type:=LI×(List (RT Int))×Int×Int
abbrev A71:Type:=Int×LI×LR×LI×Int×Int
abbrev A72:Type:=Int×LI×LR×LR×Int×Int
abbrev A73:Type:=Int×LL×LI×LR×Int×Int
abbrev A74:Type:=(List Bool)×LI×Int×Int
abbrev A75:Type:=LR×Int×Int×Int×Int
abbrev A76:Type:=LI×Int×Int×Int×Int
abbrev A77:Type:=LI×LI×LI×Int×Int
def AV:Nat→Nat→List Int
 |0,u=>[((48+u % 10:Nat):Int)]
 |f+1,u=>bif Nat.blt u 10 then[((48+u:Nat):Int)]else AV f (u/10)++[((48+u % 10:Nat):Int)]
def dig (v:Int):List Int:=bif decide (v<0)then 45::AV 20 v.natAbs else AV 20 v.toNat
def ins {α:Type} (le:α→α→Bool) (x:α):List α→List α
 | []=>[x]
 |y::l=>bif le x y then x::y::l else y::ins le x l
def Ef {α:Type} (le:α→α→Bool):List α→List α
 | []=>[]
 |x::l=>ins le x (Ef le l)
def KQ (a b:Int):Int:=bif decide (a<b)then -1 else bif decide (b<a)then 1 else 0
def cmpL:List Int→List Int→Int
 | [],[]=>0
 | [],_::_=> -1
 |_::_,[]=>1
 |a::l,b::m=>bif decide (a=b)then cmpL l m else KQ a b
def JU (x y:Ru):Int:=bif decide (x.1=y.1)then(bif decide (cmpL x.2.1 y.2.1=0)then KQ x.2.2 y.2.2 else cmpL x.2.1 y.2.1)else KQ x.1 y.1
end Go.Bk
end
noncomputable section
namespace Go.Bk
open Go Go.AM
set_option maxRecDepth 100000
set_option linter.unusedVariables false
def fU.L1 (x5:A39) (rec6:(A39)→Option (Sum (A21) (Sum LI Bool))):Option (Sum (A21) (Sum LI Bool)):=
 bif decide (x5.2.2.2.2.2.2.2.2<x5.2.2.2.2.2.2.2.1)then
 ((nth? x5.2.2.2.2.2.2.1 x5.2.2.2.2.2.2.2.2).bind fun e7=>
 bif decide ((10:Int)<((List.length e7.2.1:Nat):Int))then
 (((some false).bind fun r=>some (Sum.inr r)).bind fun r=>some (Sum.inr r))
 else
 (rec6 (x5.1,x5.2.1,x5.2.2.1,x5.2.2.2.1,x5.2.2.2.2.1,x5.2.2.2.2.2.1,x5.2.2.2.2.2.2.1,x5.2.2.2.2.2.2.2.1,IntKind.wrap .i64 (x5.2.2.2.2.2.2.2.2+(1:Int)))))
 else
 (some (Sum.inl (x5.1,x5.2.1,x5.2.2.1,x5.2.2.2.1,x5.2.2.2.2.1,x5.2.2.2.2.2.1)))
def fU.L2 (n:Nat) (x1:A21) (rec2:(A21)→Option (Sum LI Bool)):Option (Sum LI Bool):=
 bif decide (x1.2.2.2.2.2<x1.2.2.2.2.1)then
 ((nth? x1.2.2.2.1 x1.2.2.2.2.2).bind fun e3=>
 (bif decide (x1.2.1<((List.length e3.2.1:Nat):Int))then
 (some (x1.1,x1.2.1,x1.2.2.1,e3.1,e3.2.1,e3.2.2,x1.2.2.2.1,x1.2.2.2.2.1,x1.2.2.2.2.2,true))
 else
 (bif decide (x1.2.1<((List.length e3.2.2:Nat):Int))then
 (some (x1.1,x1.2.1,x1.2.2.1,e3.1,e3.2.1,e3.2.2,x1.2.2.2.1,x1.2.2.2.2.1,x1.2.2.2.2.2,true))
 else
 (bif decide (x1.1<e3.1)then
 (some (x1.1,x1.2.1,x1.2.2.1,e3.1,e3.2.1,e3.2.2,x1.2.2.2.1,x1.2.2.2.2.1,x1.2.2.2.2.2,decide (e3.1≤(300:Int))))
 else
 (some (x1.1,x1.2.1,x1.2.2.1,e3.1,e3.2.1,e3.2.2,x1.2.2.2.1,x1.2.2.2.2.1,x1.2.2.2.2.2,false))))).bind fun x4=>
 bif x4.2.2.2.2.2.2.2.2.2 then
 ((some false).bind fun r=>some (Sum.inr r))
 else
 ((dD (fU.L1) n (x4.1,x4.2.1,x4.2.2.1,x4.2.2.2.2.2.2.1,x4.2.2.2.2.2.2.2.1,x4.2.2.2.2.2.2.2.2.1,x4.2.2.2.2.2.1,((List.length x4.2.2.2.2.2.1:Nat):Int),(0:Int))).bind fun q=>match q with
 |Sum.inl x8=>(rec2 (x8.1,x8.2.1,x8.2.2.1,x8.2.2.2.1,x8.2.2.2.2.1,IntKind.wrap .i64 (x8.2.2.2.2.2+(1:Int))))
 |Sum.inr r=>some r))
 else
 (some (Sum.inl x1.2.2.1))
def fU.P (n:Nat) (x:A22):Option Bool:=
 (dD (fU.L2 n) n (x.2.1,x.2.2.1,x.1,x.2.2.2,((List.length x.2.2.2:Nat):Int),(0:Int))).bind fun q=>match q with
 |Sum.inl x9=>(some (decide (((List.length x9:Nat):Int)≤(40:Int))))
 |Sum.inr r=>some r
def Ed.P (yC:(A22)→Option Bool) (n:Nat) (x:A41):Option Bool:=
 (yC (x.1,(8:Int),(40:Int),x.2)).bind fun r1=>
 some r1
def jX.L1 (jh:(A10)→Option Int) (x1:A65) (rec2:(A65)→Option Int):Option Int:=
 bif decide (x1.2.2.2.2<x1.2.2.2.1)then
 ((nth? x1.2.2.1 x1.2.2.2.2).bind fun e3=>
 (bif decide (x1.2.1≤x1.1)then
 ((jh (RT.a e3,RT.kids e3,IntKind.wrap .i64 (x1.1-x1.2.1))).bind fun r4=>
 some (x1.1,IntKind.wrap .i64 (x1.2.1+r4),x1.2.2.1,x1.2.2.2.1,x1.2.2.2.2))
 else
 (some (x1.1,x1.2.1,x1.2.2.1,x1.2.2.2.1,x1.2.2.2.2))).bind fun x5=>
 rec2 (x5.1,x5.2.1,x5.2.2.1,x5.2.2.2.1,IntKind.wrap .i64 (x5.2.2.2.2+(1:Int))))
 else
 (some x1.2.1)
def jX.P (jh:(A10)→Option Int) (n:Nat) (x:A10):Option Int:=
 (dD (jX.L1 jh) n (x.2.2,(1:Int),x.2.1,((List.length x.2.1:Nat):Int),(0:Int))).bind fun x6=>
 some x6
def Eo.P (jh:(A10)→Option Int) (n:Nat) (x:A10):Option Bool:=
 (jh (x.1,x.2.1,x.2.2)).bind fun r1=>
 some (decide (r1≤x.2.2))
def cu.L1 (x1:A9) (rec2:(A9)→Option (Sum Unit Bool)):Option (Sum Unit Bool):=
 bif decide (x1.2.2<x1.2.1)then
 ((nth? x1.1 x1.2.2).bind fun e3=>
 (bif decide (e3<(0:Int))then
 (some (x1.1,x1.2.1,x1.2.2,true))
 else
 (some (x1.1,x1.2.1,x1.2.2,decide ((3:Int)<e3)))).bind fun x4=>
 bif x4.2.2.2 then
 ((some false).bind fun r=>some (Sum.inr r))
 else
 (rec2 (x4.1,x4.2.1,IntKind.wrap .i64 (x4.2.2.1+(1:Int)))))
 else
 (some (Sum.inl ()))
def cu.P (n:Nat) (x:List Int):Option Bool:=
 bif decide ((12:Int)<((List.length x:Nat):Int))then
 (some false)
 else
 ((dD (cu.L1) n (x,((List.length x:Nat):Int),(0:Int))).bind fun q=>match q with
 |Sum.inl x5=>(some true)
 |Sum.inr r=>some r)
def fD.L1 (jg:(A5)→Option Bool) (x3:A70) (rec4:(A70)→Option (Sum Unit Bool)):Option (Sum Unit Bool):=
 bif decide (x3.2.2.2<x3.2.2.1)then
 ((nth? x3.2.1 x3.2.2.2).bind fun e5=>
 (jg (x3.1,RT.a e5,RT.kids e5)).bind fun r6=>
 bif !r6 then
 ((some false).bind fun r=>some (Sum.inr r))
 else
 (rec4 (x3.1,x3.2.1,x3.2.2.1,IntKind.wrap .i64 (x3.2.2.2+(1:Int)))))
 else
 (some (Sum.inl ()))
def fD.P (jg:(A5)→Option Bool) (n:Nat) (x:A5):Option Bool:=
 (bif decide (x.2.1<(0:Int))then
 (some (x.1,x.2.1,x.2.2,true))
 else
 (bif decide (((List.length x.1:Nat):Int)≤x.2.1)then
 (some (x.1,x.2.1,x.2.2,true))
 else
 ((nth? x.1 x.2.1).bind fun e1=>
 some (x.1,x.2.1,x.2.2, !decide (((List.length x.2.2:Nat):Int)=e1))))).bind fun x2=>
 bif x2.2.2.2 then
 (some false)
 else
 ((dD (fD.L1 jg) n (x2.1,x2.2.2.1,((List.length x2.2.2.1:Nat):Int),(0:Int))).bind fun q=>match q with
 |Sum.inl x7=>(some true)
 |Sum.inr r=>some r)
def qZ.P (lZ:(A10)→Option Bool) (kK:List Int→Option Bool) (jg:(A5)→Option Bool) (n:Nat) (x:A5):Option Bool:=
 ((kK x.1).bind fun r1=>
 bif r1 then
 ((lZ (x.2.1,x.2.2,(300:Int))).bind fun r2=>
 bif r2 then
 ((jg (x.1,x.2.1,x.2.2)).bind fun r3=>
 some r3)
 else
 (some false))
 else
 (some false)).bind fun x4=>
 some x4
def EZ.P (n:Nat) (x:Unit):Option (A1):=
 some ((2:Int),([(1:Int)]:List Int),([((0:Int),([]:List Int),(0:Int)),((1:Int),([]:List Int),(0:Int)),((1:Int),([]:List Int),(1:Int)),((2:Int),([(0:Int),(0:Int)]:List Int),(0:Int)),((2:Int),([(1:Int),(0:Int)]:List Int),(1:Int)),((2:Int),([(0:Int),(1:Int)]:List Int),(1:Int))]:List Ru))
def fZ.P (n:Nat) (x:Int):Option Bool:=
 (bif decide (x<(0:Int))then
 (some true)
 else
 (some (decide ((3:Int)<x)))).bind fun x1=>
 some x1
def fB.L1 (fE:Int→Option Bool) (x1:A9) (rec2:(A9)→Option (Sum Unit Int)):Option (Sum Unit Int):=
 bif decide (x1.2.2<x1.2.1)then
 ((nth? x1.1 x1.2.2).bind fun e3=>
 (fE e3).bind fun r4=>
 bif r4 then
 ((some x1.2.2).bind fun r=>some (Sum.inr r))
 else
 (rec2 (x1.1,x1.2.1,IntKind.wrap .i64 (x1.2.2+(1:Int)))))
 else
 (some (Sum.inl ()))
def fB.P (fE:Int→Option Bool) (n:Nat) (x:List Int):Option Int:=
 (dD (fB.L1 fE) n (x,((List.length x:Nat):Int),(0:Int))).bind fun q=>match q with
 |Sum.inl x5=>(some (-1:Int))
 |Sum.inr r=>some r
def jH.P (jV:List Int→Option Int) (n:Nat) (x:List Int):Option Bool:=
 (jV x).bind fun r1=>
 some (decide ((0:Int)≤r1))
def jC.P (iV:List Int→Option Bool) (n:Nat) (x:List Int):Option Bool:=
 (bif decide (((List.length x:Nat):Int)≤(12:Int))then
 ((iV x).bind fun r1=>
 some (!r1))
 else
 (some false)).bind fun x2=>
 some x2
def pG.P (n:Nat) (x:A32):Option Bool:=
 (bif decide ((0:Int)≤x.1)then
 (some (decide (x.1<x.2.1)))
 else
 (some false)).bind fun x1=>
 some x1
def bQ.L1 (fA:(A32)→Option Bool) (x3:A67) (rec4:(A67)→Option (Sum (A0) Bool)):Option (Sum (A0) Bool):=
 bif decide (x3.2.2.2.2.2.2<x3.2.2.2.2.2.1)then
 ((nth? x3.2.2.2.2.1 x3.2.2.2.2.2.2).bind fun e5=>
 ((fA (e5,x3.2.1,x3.2.2.1,x3.2.2.2.1)).bind fun r6=>
 bif !r6 then
 (some (x3.1,x3.2.1,x3.2.2.1,x3.2.2.2.1,x3.2.2.2.2.1,x3.2.2.2.2.2.1,x3.2.2.2.2.2.2,true))
 else
 (bif decide ((0:Int)<x3.2.2.2.2.2.2)then
 ((nth? x3.2.2.1 (IntKind.wrap .i64 (x3.2.2.2.2.2.2-(1:Int)))).bind fun e7=>
 some (x3.1,x3.2.1,x3.2.2.1,x3.2.2.2.1,x3.2.2.2.2.1,x3.2.2.2.2.2.1,x3.2.2.2.2.2.2,decide (e5≤e7)))
 else
 (some (x3.1,x3.2.1,x3.2.2.1,x3.2.2.2.1,x3.2.2.2.2.1,x3.2.2.2.2.2.1,x3.2.2.2.2.2.2,false)))).bind fun x8=>
 bif x8.2.2.2.2.2.2.2 then
 ((some false).bind fun r=>some (Sum.inr r))
 else
 (rec4 (x8.1,x8.2.1,x8.2.2.1,x8.2.2.2.1,x8.2.2.2.2.1,x8.2.2.2.2.2.1,IntKind.wrap .i64 (x8.2.2.2.2.2.2.1+(1:Int)))))
 else
 (some (Sum.inl (x3.1,x3.2.1,x3.2.2.1,x3.2.2.2.1)))
def bQ.L2 (fA:(A32)→Option Bool) (x16:A54) (rec17:(A54)→Option (Sum (A34) (Sum Unit Bool))):Option (Sum (A34) (Sum Unit Bool)):=
 bif decide (x16.2.2.2.2.2.2.2.2.2<x16.2.2.2.2.2.2.2.2.1)then
 ((nth? x16.2.2.2.2.2.2.2.1 x16.2.2.2.2.2.2.2.2.2).bind fun e18=>
 (fA (e18,x16.2.1,x16.2.2.1,x16.2.2.2.1)).bind fun r19=>
 bif !r19 then
 (((some false).bind fun r=>some (Sum.inr r)).bind fun r=>some (Sum.inr r))
 else
 (rec17 (x16.1,x16.2.1,x16.2.2.1,x16.2.2.2.1,x16.2.2.2.2.1,x16.2.2.2.2.2.1,x16.2.2.2.2.2.2.1,x16.2.2.2.2.2.2.2.1,x16.2.2.2.2.2.2.2.2.1,IntKind.wrap .i64 (x16.2.2.2.2.2.2.2.2.2+(1:Int)))))
 else
 (some (Sum.inl (x16.1,x16.2.1,x16.2.2.1,x16.2.2.2.1,x16.2.2.2.2.1,x16.2.2.2.2.2.1,x16.2.2.2.2.2.2.1)))
def bQ.L3 (fA:(A32)→Option Bool) (n:Nat) (x10:A34) (rec11:(A34)→Option (Sum Unit Bool)):Option (Sum Unit Bool):=
 bif decide (x10.2.2.2.2.2.2<x10.2.2.2.2.2.1)then
 ((nth? x10.2.2.2.2.1 x10.2.2.2.2.2.2).bind fun e12=>
 (bif decide (e12.1<(0:Int))then
 (some (x10.1,x10.2.1,x10.2.2.1,x10.2.2.2.1,e12.1,e12.2.1,e12.2.2,x10.2.2.2.2.1,x10.2.2.2.2.2.1,x10.2.2.2.2.2.2,true))
 else
 (bif decide (((List.length x10.1:Nat):Int)≤e12.1)then
 (some (x10.1,x10.2.1,x10.2.2.1,x10.2.2.2.1,e12.1,e12.2.1,e12.2.2,x10.2.2.2.2.1,x10.2.2.2.2.2.1,x10.2.2.2.2.2.2,true))
 else
 ((nth? x10.1 e12.1).bind fun e13=>
 bif !decide (((List.length e12.2.1:Nat):Int)=e13)then
 (some (x10.1,x10.2.1,x10.2.2.1,x10.2.2.2.1,e12.1,e12.2.1,e12.2.2,x10.2.2.2.2.1,x10.2.2.2.2.2.1,x10.2.2.2.2.2.2,true))
 else
 ((fA (e12.2.2,x10.2.1,x10.2.2.1,x10.2.2.2.1)).bind fun r14=>
 some (x10.1,x10.2.1,x10.2.2.1,x10.2.2.2.1,e12.1,e12.2.1,e12.2.2,x10.2.2.2.2.1,x10.2.2.2.2.2.1,x10.2.2.2.2.2.2, !r14))))).bind fun x15=>
 bif x15.2.2.2.2.2.2.2.2.2.2 then
 ((some false).bind fun r=>some (Sum.inr r))
 else
 ((dD (bQ.L2 fA) n (x15.1,x15.2.1,x15.2.2.1,x15.2.2.2.1,x15.2.2.2.2.2.2.2.1,x15.2.2.2.2.2.2.2.2.1,x15.2.2.2.2.2.2.2.2.2.1,x15.2.2.2.2.2.1,((List.length x15.2.2.2.2.2.1:Nat):Int),(0:Int))).bind fun q=>match q with
 |Sum.inl x20=>(rec11 (x20.1,x20.2.1,x20.2.2.1,x20.2.2.2.1,x20.2.2.2.2.1,x20.2.2.2.2.2.1,IntKind.wrap .i64 (x20.2.2.2.2.2.2+(1:Int))))
 |Sum.inr r=>some r))
 else
 (some (Sum.inl ()))
def bQ.P (fA:(A32)→Option Bool) (eF:List Int→Option Bool) (n:Nat) (x:A0):Option Bool:=
 ((eF x.1).bind fun r1=>
 bif !r1 then
 (some (x.1,x.2.1,x.2.2.1,x.2.2.2,true))
 else
 (bif decide (x.2.1<(0:Int))then
 (some (x.1,x.2.1,x.2.2.1,x.2.2.2,true))
 else
 (bif decide ((300:Int)<x.2.1)then
 (some (x.1,x.2.1,x.2.2.1,x.2.2.2,true))
 else
 (some (x.1,x.2.1,x.2.2.1,x.2.2.2,decide ((20000:Int)<((List.length x.2.2.2:Nat):Int))))))).bind fun x2=>
 bif x2.2.2.2.2 then
 (some false)
 else
 ((dD (bQ.L1 fA) n (x2.1,x2.2.1,x2.2.2.1,x2.2.2.2.1,x2.2.2.1,((List.length x2.2.2.1:Nat):Int),(0:Int))).bind fun q=>match q with
 |Sum.inl x9=>((dD (bQ.L3 fA n) n (x9.1,x9.2.1,x9.2.2.1,x9.2.2.2,x9.2.2.2,((List.length x9.2.2.2:Nat):Int),(0:Int))).bind fun q=>match q with
 |Sum.inl x21=>(some true)
 |Sum.inr r=>some r)
 |Sum.inr r=>some r)
def eU.P (bW:(A9)→Option LI) (n:Nat) (x:A9):Option LI:=
 (bif decide (x.2.1<(0:Int))then
 (bif decide (List.length x.1+List.length ([(45:Int)]:List Int)≤au)then
 some (List.append x.1 ([(45:Int)]:List Int),x.2.2,IntKind.wrap .u64 (0-(IntKind.wrap .u64 x.2.1)))
 else none)
 else
 (some (x.1,x.2.2,IntKind.wrap .u64 x.2.1))).bind fun x1=>
 (bW (x1.1,x1.2.2,x1.2.1)).bind fun r2=>
 some r2
def jO.P (dG:(A9)→Option LI) (n:Nat) (x:A9):Option LI:=
 (dG (x.1,x.2.1,x.2.2)).bind fun r1=>
 some r1
def qB.L1 (aW:(A9)→Option LI) (x2:A18) (rec3:(A18)→Option LI):Option LI:=
 bif decide (x2.2.2.2<x2.2.2.1)then
 ((nth? x2.2.1 x2.2.2.2).bind fun e4=>
 bif decide (List.length x2.1+List.length ([(44:Int)]:List Int)≤au)then
 (aW (List.append x2.1 ([(44:Int)]:List Int),e4,(10:Int))).bind fun r5=>
 rec3 (r5,x2.2.1,x2.2.2.1,IntKind.wrap .i64 (x2.2.2.2+(1:Int)))
 else none)
 else
 (some x2.1)
def qB.P (aW:(A9)→Option LI) (n:Nat) (x:A52):Option ByteArray:=
 (aW (([]:List Int),x.1,(10:Int))).bind fun r1=>
 (dD (qB.L1 aW) n (r1,x.2,((List.length x.2:Nat):Int),(0:Int))).bind fun x6=>
 some (uZ x6)
def dR.L1 (kE:(A52)→Option ByteArray) (x2:(Option (List (ByteArray×Bool)))×LR×Int×Int) (rec3:((Option (List (ByteArray×Bool)))×LR×Int×Int)→Option (Sum Unit (A30))):Option (Sum Unit (A30)):=
 bif decide (x2.2.2.2<x2.2.2.1)then
 ((nth? x2.2.1 x2.2.2.2).bind fun e4=>
 (kE (e4.1,e4.2.1)).bind fun r5=>
 bif Option.getD (nV seq r5 (mD x2.1)) false then
 ((some (false,(0:Int))).bind fun r=>some (Sum.inr r))
 else
 ((x2.1).bind fun m6=>
 rec3 (some (ED seq r5 true m6),x2.2.1,x2.2.2.1,IntKind.wrap .i64 (x2.2.2.2+(1:Int)))))
 else
 (some (Sum.inl ()))
def dR.P (dP:(A0)→Option Bool) (kE:(A52)→Option ByteArray) (n:Nat) (x:A0):Option (A30):=
 (dP (x.1,x.2.1,x.2.2.1,x.2.2.2)).bind fun r1=>
 bif !r1 then
 (some (false,(1:Int)))
 else
 ((dD (dR.L1 kE) n ((some []:Option (List (ByteArray×Bool))),x.2.2.2,((List.length x.2.2.2:Nat):Int),(0:Int))).bind fun q=>match q with
 |Sum.inl x7=>(some (true,(0:Int)))
 |Sum.inr r=>some r)
def oU.L1 (aY:List Int→Option LI) (x2:A58) (rec3:(A58)→Option (A11)):Option (A11):=
 bif decide (x2.2.2.2.2.2.2.2.2<x2.2.2.2.2.2.2.2.1)then
 ((nth? x2.2.2.2.2.2.2.1 x2.2.2.2.2.2.2.2.2).bind fun e4=>
 (aY e4.2.1).bind fun r5=>
 bif decide (List.length x2.2.2.2.2.2.1+List.length ([(e4.1,r5,e4.2.2)]:List Ru)≤au)then
 rec3 (x2.1,x2.2.1,x2.2.2.1,x2.2.2.2.1,x2.2.2.2.2.1,List.append x2.2.2.2.2.2.1 ([(e4.1,r5,e4.2.2)]:List Ru),x2.2.2.2.2.2.2.1,x2.2.2.2.2.2.2.2.1,IntKind.wrap .i64 (x2.2.2.2.2.2.2.2.2+(1:Int)))
 else none)
 else
 (some (x2.1,x2.2.1,x2.2.2.1,x2.2.2.2.1,x2.2.2.2.2.1,x2.2.2.2.2.2.1))
def oU.P (aY:List Int→Option LI) (n:Nat) (x:A1):Option (A1):=
 (aY x.2.1).bind fun r1=>
 (dD (oU.L1 aY) n ((0:Int),([]:List Int),([]:List Ru),x.1,r1,([]:List Ru),x.2.2,((List.length x.2.2:Nat):Int),(0:Int))).bind fun x6=>
 some (x6.2.2.2.1,x6.2.2.2.2.1,x6.2.2.2.2.2)
def jy.P (n:Nat) (x:LI×(Option (List (A3)))×Int):Option (LI×(Option (List (A3)))):=
 (bif Option.isNone x.2.1 then
 (some (x.1,(some []:Option (List (A3))),x.2.2))
 else
 (some (x.1,x.2.1,x.2.2))).bind fun x1=>
 (bif !(Option.getD (nV ieq x1.2.2 (mD x1.2.1)) false)then
 ((x1.2.1).bind fun m2=>
 bif decide (List.length x1.1+List.length ([x1.2.2]:List Int)≤au)then
 some (List.append x1.1 ([x1.2.2]:List Int),some (ED ieq x1.2.2 true m2))
 else none)
 else
 (some (x1.1,x1.2.1))).bind fun x3=>
 some (x3.1,x3.2)
def bP.L1 (x5:Int×LI×LR×(List Bool)×LI×(List (Option LI))×LI×(Option (List (A3)))×Int×Int×LI×Int×LR×Int×Int×LI×Int×Int) (rec6:(Int×LI×LR×(List Bool)×LI×(List (Option LI))×LI×(Option (List (A3)))×Int×Int×LI×Int×LR×Int×Int×LI×Int×Int)→Option (Int×LI×LR×(List Bool)×LI×(List (Option LI))×LI×(Option (List (A3)))×Int×Int×LI×Int×LR×Int×Int)):Option (Int×LI×LR×(List Bool)×LI×(List (Option LI))×LI×(Option (List (A3)))×Int×Int×LI×Int×LR×Int×Int):=
 bif decide (x5.2.2.2.2.2.2.2.2.2.2.2.2.2.2.2.2.2<x5.2.2.2.2.2.2.2.2.2.2.2.2.2.2.2.2.1)then
 ((nth? x5.2.2.2.2.2.2.2.2.2.2.2.2.2.2.2.1 x5.2.2.2.2.2.2.2.2.2.2.2.2.2.2.2.2.2).bind fun e7=>
 bif decide (0≤e7)&&decide (e7<((List.length x5.2.2.2.2.2.1:Nat):Int))then
 (rowAt? x5.2.2.2.2.2.1 (Int.toNat e7)).bind fun e8=>
 (rowAt? x5.2.2.2.2.2.1 (Int.toNat e7)).bind fun e9=>
 bif decide (List.length e9+List.length ([x5.2.2.2.2.2.2.2.2.1]:List Int)≤au)then
 bif decide (0≤e7)&&decide (e7<((List.length (List.set x5.2.2.2.2.2.1 (Int.toNat e7) none):Nat):Int))then
 rec6 (x5.1,x5.2.1,x5.2.2.1,x5.2.2.2.1,x5.2.2.2.2.1,List.set (List.set x5.2.2.2.2.2.1 (Int.toNat e7) none) (Int.toNat e7) (some (List.append e9 ([x5.2.2.2.2.2.2.2.2.1]:List Int))),x5.2.2.2.2.2.2.1,x5.2.2.2.2.2.2.2.1,x5.2.2.2.2.2.2.2.2.1,x5.2.2.2.2.2.2.2.2.2.1,x5.2.2.2.2.2.2.2.2.2.2.1,x5.2.2.2.2.2.2.2.2.2.2.2.1,x5.2.2.2.2.2.2.2.2.2.2.2.2.1,x5.2.2.2.2.2.2.2.2.2.2.2.2.2.1,x5.2.2.2.2.2.2.2.2.2.2.2.2.2.2.1,x5.2.2.2.2.2.2.2.2.2.2.2.2.2.2.2.1,x5.2.2.2.2.2.2.2.2.2.2.2.2.2.2.2.2.1,IntKind.wrap .i64 (x5.2.2.2.2.2.2.2.2.2.2.2.2.2.2.2.2.2+(1:Int)))
 else none
 else none
 else none)
 else
 (some (x5.1,x5.2.1,x5.2.2.1,x5.2.2.2.1,x5.2.2.2.2.1,x5.2.2.2.2.2.1,x5.2.2.2.2.2.2.1,x5.2.2.2.2.2.2.2.1,x5.2.2.2.2.2.2.2.2.1,x5.2.2.2.2.2.2.2.2.2.1,x5.2.2.2.2.2.2.2.2.2.2.1,x5.2.2.2.2.2.2.2.2.2.2.2.1,x5.2.2.2.2.2.2.2.2.2.2.2.2.1,x5.2.2.2.2.2.2.2.2.2.2.2.2.2.1,x5.2.2.2.2.2.2.2.2.2.2.2.2.2.2.1))
def bP.L2 (n:Nat) (aG:(LI×(Option (List (A3)))×Int)→Option (LI×(Option (List (A3))))) (x1:Int×LI×LR×(List Bool)×LI×(List (Option LI))×LI×(Option (List (A3)))×LR×Int×Int) (rec2:(Int×LI×LR×(List Bool)×LI×(List (Option LI))×LI×(Option (List (A3)))×LR×Int×Int)→Option (Int×LI×LR×(List Bool)×LI×(List (Option LI))×LI×(Option (List (A3))))):Option (Int×LI×LR×(List Bool)×LI×(List (Option LI))×LI×(Option (List (A3)))):=
 bif decide (x1.2.2.2.2.2.2.2.2.2.2<x1.2.2.2.2.2.2.2.2.2.1)then
 ((nth? x1.2.2.2.2.2.2.2.2.1 x1.2.2.2.2.2.2.2.2.2.2).bind fun e3=>
 bif decide (0≤x1.2.2.2.2.2.2.2.2.2.2)&&decide (x1.2.2.2.2.2.2.2.2.2.2<((List.length x1.2.2.2.2.1:Nat):Int))then
 (at? x1.2.2.2.2.1 (Int.toNat x1.2.2.2.2.2.2.2.2.2.2)).bind fun e4=>
 (dD (bP.L1) n (x1.1,x1.2.1,x1.2.2.1,x1.2.2.2.1,List.set x1.2.2.2.2.1 (Int.toNat x1.2.2.2.2.2.2.2.2.2.2) ((List.length e3.2.1:Nat):Int),x1.2.2.2.2.2.1,x1.2.2.2.2.2.2.1,x1.2.2.2.2.2.2.2.1,x1.2.2.2.2.2.2.2.2.2.2,e3.1,e3.2.1,e3.2.2,x1.2.2.2.2.2.2.2.2.1,x1.2.2.2.2.2.2.2.2.2.1,x1.2.2.2.2.2.2.2.2.2.2,e3.2.1,((List.length e3.2.1:Nat):Int),(0:Int))).bind fun x10=>
 bif decide (0≤x10.2.2.2.2.2.2.2.2.1)&&decide (x10.2.2.2.2.2.2.2.2.1<((List.length x10.2.2.2.2.1:Nat):Int))then
 (at? x10.2.2.2.2.1 (Int.toNat x10.2.2.2.2.2.2.2.2.1)).bind fun e11=>
 (bif decide (e11=(0:Int))then
 ((aG (x10.2.2.2.2.2.2.1,x10.2.2.2.2.2.2.2.1,x10.2.2.2.2.2.2.2.2.2.2.2.1)).bind fun r12=>
 some (x10.1,x10.2.1,x10.2.2.1,x10.2.2.2.1,x10.2.2.2.2.1,x10.2.2.2.2.2.1,r12.1,r12.2,x10.2.2.2.2.2.2.2.2.2.2.2.2.1,x10.2.2.2.2.2.2.2.2.2.2.2.2.2.1,x10.2.2.2.2.2.2.2.2.2.2.2.2.2.2))
 else
 (some (x10.1,x10.2.1,x10.2.2.1,x10.2.2.2.1,x10.2.2.2.2.1,x10.2.2.2.2.2.1,x10.2.2.2.2.2.2.1,x10.2.2.2.2.2.2.2.1,x10.2.2.2.2.2.2.2.2.2.2.2.2.1,x10.2.2.2.2.2.2.2.2.2.2.2.2.2.1,x10.2.2.2.2.2.2.2.2.2.2.2.2.2.2))).bind fun x13=>
 rec2 (x13.1,x13.2.1,x13.2.2.1,x13.2.2.2.1,x13.2.2.2.2.1,x13.2.2.2.2.2.1,x13.2.2.2.2.2.2.1,x13.2.2.2.2.2.2.2.1,x13.2.2.2.2.2.2.2.2.1,x13.2.2.2.2.2.2.2.2.2.1,IntKind.wrap .i64 (x13.2.2.2.2.2.2.2.2.2.2+(1:Int)))
 else none
 else none)
 else
 (some (x1.1,x1.2.1,x1.2.2.1,x1.2.2.2.1,x1.2.2.2.2.1,x1.2.2.2.2.2.1,x1.2.2.2.2.2.2.1,x1.2.2.2.2.2.2.2.1))
def bP.L3 (aG:(LI×(Option (List (A3)))×Int)→Option (LI×(Option (List (A3))))) (x22:Int×LI×LR×(List Bool)×LI×LL×LI×(Option (List (A3)))×Int×LI×Int×Int) (rec23:(Int×LI×LR×(List Bool)×LI×LL×LI×(Option (List (A3)))×Int×LI×Int×Int)→Option (Int×LI×LR×(List Bool)×LI×LL×LI×(Option (List (A3)))×Int)):Option (Int×LI×LR×(List Bool)×LI×LL×LI×(Option (List (A3)))×Int):=
 bif decide (x22.2.2.2.2.2.2.2.2.2.2.2<x22.2.2.2.2.2.2.2.2.2.2.1)then
 ((nth? x22.2.2.2.2.2.2.2.2.2.1 x22.2.2.2.2.2.2.2.2.2.2.2).bind fun e24=>
 bif decide (0≤e24)&&decide (e24<((List.length x22.2.2.2.2.1:Nat):Int))then
 (at? x22.2.2.2.2.1 (Int.toNat e24)).bind fun e25=>
 bif decide (0≤e24)&&decide (e24<((List.length x22.2.2.2.2.1:Nat):Int))then
 (at? x22.2.2.2.2.1 (Int.toNat e24)).bind fun e26=>
 bif decide (0≤e24)&&decide (e24<((List.length (List.set x22.2.2.2.2.1 (Int.toNat e24) (IntKind.wrap .i64 (e25-(1:Int)))):Nat):Int))then
 (at? (List.set x22.2.2.2.2.1 (Int.toNat e24) (IntKind.wrap .i64 (e25-(1:Int)))) (Int.toNat e24)).bind fun e27=>
 (bif decide (e27=(0:Int))then
 ((nth? x22.2.2.1 e24).bind fun e28=>
 (aG (x22.2.2.2.2.2.2.1,x22.2.2.2.2.2.2.2.1,e28.2.2)).bind fun r29=>
 some (x22.1,x22.2.1,x22.2.2.1,x22.2.2.2.1,List.set x22.2.2.2.2.1 (Int.toNat e24) (IntKind.wrap .i64 (e25-(1:Int))),x22.2.2.2.2.2.1,r29.1,r29.2,x22.2.2.2.2.2.2.2.2.1,x22.2.2.2.2.2.2.2.2.2.1,x22.2.2.2.2.2.2.2.2.2.2.1,x22.2.2.2.2.2.2.2.2.2.2.2))
 else
 (some (x22.1,x22.2.1,x22.2.2.1,x22.2.2.2.1,List.set x22.2.2.2.2.1 (Int.toNat e24) (IntKind.wrap .i64 (e25-(1:Int))),x22.2.2.2.2.2.1,x22.2.2.2.2.2.2.1,x22.2.2.2.2.2.2.2.1,x22.2.2.2.2.2.2.2.2.1,x22.2.2.2.2.2.2.2.2.2.1,x22.2.2.2.2.2.2.2.2.2.2.1,x22.2.2.2.2.2.2.2.2.2.2.2))).bind fun x30=>
 rec23 (x30.1,x30.2.1,x30.2.2.1,x30.2.2.2.1,x30.2.2.2.2.1,x30.2.2.2.2.2.1,x30.2.2.2.2.2.2.1,x30.2.2.2.2.2.2.2.1,x30.2.2.2.2.2.2.2.2.1,x30.2.2.2.2.2.2.2.2.2.1,x30.2.2.2.2.2.2.2.2.2.2.1,IntKind.wrap .i64 (x30.2.2.2.2.2.2.2.2.2.2.2+(1:Int)))
 else none
 else none
 else none)
 else
 (some (x22.1,x22.2.1,x22.2.2.1,x22.2.2.2.1,x22.2.2.2.2.1,x22.2.2.2.2.2.1,x22.2.2.2.2.2.2.1,x22.2.2.2.2.2.2.2.1,x22.2.2.2.2.2.2.2.2.1))
def bP.L4 (aG:(LI×(Option (List (A3)))×Int)→Option (LI×(Option (List (A3))))) (n:Nat) (x16:Int×LI×LR×(List Bool)×LI×LL×LI×(Option (List (A3)))×Int) (rec17:(Int×LI×LR×(List Bool)×LI×LL×LI×(Option (List (A3)))×Int)→Option (List Bool)):Option (List Bool):=
 bif decide (x16.2.2.2.2.2.2.2.2<((List.length x16.2.2.2.2.2.2.1:Nat):Int))then
 (bif decide (0≤x16.2.2.2.2.2.2.2.2)&&decide (x16.2.2.2.2.2.2.2.2<((List.length x16.2.2.2.2.2.2.1:Nat):Int))then
 (at? x16.2.2.2.2.2.2.1 (Int.toNat x16.2.2.2.2.2.2.2.2)).bind fun e18=>
 bif decide (0≤e18)&&decide (e18<((List.length x16.2.2.2.1:Nat):Int))then
 (at? x16.2.2.2.1 (Int.toNat e18)).bind fun e19=>
 bif decide (0≤x16.2.2.2.2.2.2.2.2)&&decide (x16.2.2.2.2.2.2.2.2<((List.length x16.2.2.2.2.2.2.1:Nat):Int))then
 (at? x16.2.2.2.2.2.2.1 (Int.toNat x16.2.2.2.2.2.2.2.2)).bind fun e20=>
 bif decide (0≤e20)&&decide (e20<((List.length x16.2.2.2.2.2.1:Nat):Int))then
 (at? x16.2.2.2.2.2.1 (Int.toNat e20)).bind fun e21=>
 (dD (bP.L3 aG) n (x16.1,x16.2.1,x16.2.2.1,List.set x16.2.2.2.1 (Int.toNat e18) true,x16.2.2.2.2.1,x16.2.2.2.2.2.1,x16.2.2.2.2.2.2.1,x16.2.2.2.2.2.2.2.1,x16.2.2.2.2.2.2.2.2,e21,((List.length e21:Nat):Int),(0:Int))).bind fun x31=>
 rec17 (x31.1,x31.2.1,x31.2.2.1,x31.2.2.2.1,x31.2.2.2.2.1,x31.2.2.2.2.2.1,x31.2.2.2.2.2.2.1,x31.2.2.2.2.2.2.2.1,IntKind.wrap .i64 (x31.2.2.2.2.2.2.2.2+(1:Int)))
 else none
 else none
 else none
 else none)
 else
 (some x16.2.2.2.1)
def bP.P (aG:(LI×(Option (List (A3)))×Int)→Option (LI×(Option (List (A3))))) (n:Nat) (x:A1):Option (List Bool):=
 bif decide (0≤x.1)&&decide (x.1≤x.1)&&decide (x.1≤((au:Nat):Int))then
 bif decide (0≤((List.length x.2.2:Nat):Int))&&decide (((List.length x.2.2:Nat):Int)≤((List.length x.2.2:Nat):Int))&&decide (((List.length x.2.2:Nat):Int)≤((au:Nat):Int))then
 bif decide (0≤x.1)&&decide (x.1≤x.1)&&decide (x.1≤((au:Nat):Int))then
 (dD (bP.L2 n aG) n (x.1,x.2.1,x.2.2,List.replicate (Int.toNat x.1) (false:Bool),List.replicate (Int.toNat ((List.length x.2.2:Nat):Int)) ((0:Int):Int),List.replicate (Int.toNat x.1) (some ([]:List Int)),([]:List Int),(none:Option (List (A3))),x.2.2,((List.length x.2.2:Nat):Int),(0:Int))).bind fun x14=>
 (qh x14.2.2.2.2.2.1).bind fun e15=>
 (dD (bP.L4 aG n) n (x14.1,x14.2.1,x14.2.2.1,x14.2.2.2.1,x14.2.2.2.2.1,e15,x14.2.2.2.2.2.2.1,x14.2.2.2.2.2.2.2,(0:Int))).bind fun x32=>
 some x32
 else none
 else none
 else none
def ql.P (n:Nat) (x:A14):Option Bool:=
 (nth? x.2 x.1).bind fun e1=>
 some (!e1)
def bK.L1 (jU:(A14)→Option Bool) (x1:A19) (rec2:(A19)→Option (Sum Unit Int)):Option (Sum Unit Int):=
 bif decide (x1.2.2.2<x1.2.2.1)then
 ((nth? x1.1 x1.2.2.2).bind fun e3=>
 (jU (e3,x1.2.1)).bind fun r4=>
 bif r4 then
 ((some x1.2.2.2).bind fun r=>some (Sum.inr r))
 else
 (rec2 (x1.1,x1.2.1,x1.2.2.1,IntKind.wrap .i64 (x1.2.2.2+(1:Int)))))
 else
 (some (Sum.inl ()))
def bK.P (jU:(A14)→Option Bool) (n:Nat) (x:A4):Option Int:=
 (dD (bK.L1 jU) n (x.1,x.2,((List.length x.1:Nat):Int),(0:Int))).bind fun q=>match q with
 |Sum.inl x5=>(some (-1:Int))
 |Sum.inr r=>some r
def dB.P (bV:(A4)→Option Int) (n:Nat) (x:A4):Option Bool:=
 (bV (x.1,x.2)).bind fun r1=>
 some (decide ((0:Int)≤r1))
def cZ.L1 (aQ:(A4)→Option Bool) (x2:Int×LI×LR×(List Bool)×(List (Option LI))×LR×Int×Int) (rec3:(Int×LI×LR×(List Bool)×(List (Option LI))×LR×Int×Int)→Option (Int×LI×LR×(List Bool)×(List (Option LI)))):Option (Int×LI×LR×(List Bool)×(List (Option LI))):=
 bif decide (x2.2.2.2.2.2.2.2<x2.2.2.2.2.2.2.1)then
 ((nth? x2.2.2.2.2.2.1 x2.2.2.2.2.2.2.2).bind fun e4=>
 (aQ (e4.2.1,x2.2.2.2.1)).bind fun r5=>
 (bif !r5 then
 (bif decide (0≤e4.2.2)&&decide (e4.2.2<((List.length x2.2.2.2.2.1:Nat):Int))then
 (rowAt? x2.2.2.2.2.1 (Int.toNat e4.2.2)).bind fun e6=>
 (rowAt? x2.2.2.2.2.1 (Int.toNat e4.2.2)).bind fun e7=>
 bif decide (List.length e7+List.length ([x2.2.2.2.2.2.2.2]:List Int)≤au)then
 bif decide (0≤e4.2.2)&&decide (e4.2.2<((List.length (List.set x2.2.2.2.2.1 (Int.toNat e4.2.2) none):Nat):Int))then
 some (x2.1,x2.2.1,x2.2.2.1,x2.2.2.2.1,List.set (List.set x2.2.2.2.2.1 (Int.toNat e4.2.2) none) (Int.toNat e4.2.2) (some (List.append e7 ([x2.2.2.2.2.2.2.2]:List Int))),x2.2.2.2.2.2.1,x2.2.2.2.2.2.2.1,x2.2.2.2.2.2.2.2)
 else none
 else none
 else none)
 else
 (some (x2.1,x2.2.1,x2.2.2.1,x2.2.2.2.1,x2.2.2.2.2.1,x2.2.2.2.2.2.1,x2.2.2.2.2.2.2.1,x2.2.2.2.2.2.2.2))).bind fun x8=>
 rec3 (x8.1,x8.2.1,x8.2.2.1,x8.2.2.2.1,x8.2.2.2.2.1,x8.2.2.2.2.2.1,x8.2.2.2.2.2.2.1,IntKind.wrap .i64 (x8.2.2.2.2.2.2.2+(1:Int))))
 else
 (some (x2.1,x2.2.1,x2.2.2.1,x2.2.2.2.1,x2.2.2.2.2.1))
def cZ.L2 (aG:(LI×(Option (List (A3)))×Int)→Option (LI×(Option (List (A3))))) (x10:Int×LI×LR×(List Bool)×(List (Option LI))×(List Bool)×LI×(Option (List (A3)))×LI×Int×Int) (rec11:(Int×LI×LR×(List Bool)×(List (Option LI))×(List Bool)×LI×(Option (List (A3)))×LI×Int×Int)→Option (Int×LI×LR×(List (Option LI))×(List Bool)×LI×(Option (List (A3))))):Option (Int×LI×LR×(List (Option LI))×(List Bool)×LI×(Option (List (A3)))):=
 bif decide (x10.2.2.2.2.2.2.2.2.2.2<x10.2.2.2.2.2.2.2.2.2.1)then
 ((nth? x10.2.2.2.2.2.2.2.2.1 x10.2.2.2.2.2.2.2.2.2.2).bind fun e12=>
 bif decide (0≤e12)&&decide (e12<((List.length x10.2.2.2.1:Nat):Int))then
 (at? x10.2.2.2.1 (Int.toNat e12)).bind fun e13=>
 (bif e13 then
 ((aG (x10.2.2.2.2.2.2.1,x10.2.2.2.2.2.2.2.1,e12)).bind fun r14=>
 some (x10.1,x10.2.1,x10.2.2.1,x10.2.2.2.1,x10.2.2.2.2.1,x10.2.2.2.2.2.1,r14.1,r14.2,x10.2.2.2.2.2.2.2.2.1,x10.2.2.2.2.2.2.2.2.2.1,x10.2.2.2.2.2.2.2.2.2.2))
 else
 (some (x10.1,x10.2.1,x10.2.2.1,x10.2.2.2.1,x10.2.2.2.2.1,x10.2.2.2.2.2.1,x10.2.2.2.2.2.2.1,x10.2.2.2.2.2.2.2.1,x10.2.2.2.2.2.2.2.2.1,x10.2.2.2.2.2.2.2.2.2.1,x10.2.2.2.2.2.2.2.2.2.2))).bind fun x15=>
 rec11 (x15.1,x15.2.1,x15.2.2.1,x15.2.2.2.1,x15.2.2.2.2.1,x15.2.2.2.2.2.1,x15.2.2.2.2.2.2.1,x15.2.2.2.2.2.2.2.1,x15.2.2.2.2.2.2.2.2.1,x15.2.2.2.2.2.2.2.2.2.1,IntKind.wrap .i64 (x15.2.2.2.2.2.2.2.2.2.2+(1:Int)))
 else none)
 else
 (some (x10.1,x10.2.1,x10.2.2.1,x10.2.2.2.2.1,x10.2.2.2.2.2.1,x10.2.2.2.2.2.2.1,x10.2.2.2.2.2.2.2.1))
def cZ.L3 (aG:(LI×(Option (List (A3)))×Int)→Option (LI×(Option (List (A3))))) (x28:Int×LI×LR×LL×(List Bool)×LI×(Option (List (A3)))×Int×LI×Int×Int×LI×Int×Int) (rec29:(Int×LI×LR×LL×(List Bool)×LI×(Option (List (A3)))×Int×LI×Int×Int×LI×Int×Int)→Option (Int×LI×LR×LL×(List Bool)×LI×(Option (List (A3)))×Int×LI×Int×Int)):Option (Int×LI×LR×LL×(List Bool)×LI×(Option (List (A3)))×Int×LI×Int×Int):=
 bif decide (x28.2.2.2.2.2.2.2.2.2.2.2.2.2<x28.2.2.2.2.2.2.2.2.2.2.2.2.1)then
 ((nth? x28.2.2.2.2.2.2.2.2.2.2.2.1 x28.2.2.2.2.2.2.2.2.2.2.2.2.2).bind fun e30=>
 (aG (x28.2.2.2.2.2.1,x28.2.2.2.2.2.2.1,e30)).bind fun r31=>
 rec29 (x28.1,x28.2.1,x28.2.2.1,x28.2.2.2.1,x28.2.2.2.2.1,r31.1,r31.2,x28.2.2.2.2.2.2.2.1,x28.2.2.2.2.2.2.2.2.1,x28.2.2.2.2.2.2.2.2.2.1,x28.2.2.2.2.2.2.2.2.2.2.1,x28.2.2.2.2.2.2.2.2.2.2.2.1,x28.2.2.2.2.2.2.2.2.2.2.2.2.1,IntKind.wrap .i64 (x28.2.2.2.2.2.2.2.2.2.2.2.2.2+(1:Int))))
 else
 (some (x28.1,x28.2.1,x28.2.2.1,x28.2.2.2.1,x28.2.2.2.2.1,x28.2.2.2.2.2.1,x28.2.2.2.2.2.2.1,x28.2.2.2.2.2.2.2.1,x28.2.2.2.2.2.2.2.2.1,x28.2.2.2.2.2.2.2.2.2.1,x28.2.2.2.2.2.2.2.2.2.2.1))
def cZ.L4 (aG:(LI×(Option (List (A3)))×Int)→Option (LI×(Option (List (A3))))) (n:Nat) (x24:Int×LI×LR×LL×(List Bool)×LI×(Option (List (A3)))×Int×LI×Int×Int) (rec25:(Int×LI×LR×LL×(List Bool)×LI×(Option (List (A3)))×Int×LI×Int×Int)→Option (Int×LI×LR×LL×(List Bool)×LI×(Option (List (A3)))×Int)):Option (Int×LI×LR×LL×(List Bool)×LI×(Option (List (A3)))×Int):=
 bif decide (x24.2.2.2.2.2.2.2.2.2.2<x24.2.2.2.2.2.2.2.2.2.1)then
 ((nth? x24.2.2.2.2.2.2.2.2.1 x24.2.2.2.2.2.2.2.2.2.2).bind fun e26=>
 (nth? x24.2.2.1 e26).bind fun e27=>
 (dD (cZ.L3 aG) n (x24.1,x24.2.1,x24.2.2.1,x24.2.2.2.1,x24.2.2.2.2.1,x24.2.2.2.2.2.1,x24.2.2.2.2.2.2.1,x24.2.2.2.2.2.2.2.1,x24.2.2.2.2.2.2.2.2.1,x24.2.2.2.2.2.2.2.2.2.1,x24.2.2.2.2.2.2.2.2.2.2,e27.2.1,((List.length e27.2.1:Nat):Int),(0:Int))).bind fun x32=>
 rec25 (x32.1,x32.2.1,x32.2.2.1,x32.2.2.2.1,x32.2.2.2.2.1,x32.2.2.2.2.2.1,x32.2.2.2.2.2.2.1,x32.2.2.2.2.2.2.2.1,x32.2.2.2.2.2.2.2.2.1,x32.2.2.2.2.2.2.2.2.2.1,IntKind.wrap .i64 (x32.2.2.2.2.2.2.2.2.2.2+(1:Int))))
 else
 (some (x24.1,x24.2.1,x24.2.2.1,x24.2.2.2.1,x24.2.2.2.2.1,x24.2.2.2.2.2.1,x24.2.2.2.2.2.2.1,x24.2.2.2.2.2.2.2.1))
def cZ.L5 (aG:(LI×(Option (List (A3)))×Int)→Option (LI×(Option (List (A3))))) (n:Nat) (x18:Int×LI×LR×LL×(List Bool)×LI×(Option (List (A3)))×Int) (rec19:(Int×LI×LR×LL×(List Bool)×LI×(Option (List (A3)))×Int)→Option (List Bool)):Option (List Bool):=
 bif decide (x18.2.2.2.2.2.2.2<((List.length x18.2.2.2.2.2.1:Nat):Int))then
 (bif decide (0≤x18.2.2.2.2.2.2.2)&&decide (x18.2.2.2.2.2.2.2<((List.length x18.2.2.2.2.2.1:Nat):Int))then
 (at? x18.2.2.2.2.2.1 (Int.toNat x18.2.2.2.2.2.2.2)).bind fun e20=>
 bif decide (0≤e20)&&decide (e20<((List.length x18.2.2.2.2.1:Nat):Int))then
 (at? x18.2.2.2.2.1 (Int.toNat e20)).bind fun e21=>
 bif decide (0≤x18.2.2.2.2.2.2.2)&&decide (x18.2.2.2.2.2.2.2<((List.length x18.2.2.2.2.2.1:Nat):Int))then
 (at? x18.2.2.2.2.2.1 (Int.toNat x18.2.2.2.2.2.2.2)).bind fun e22=>
 bif decide (0≤e22)&&decide (e22<((List.length x18.2.2.2.1:Nat):Int))then
 (at? x18.2.2.2.1 (Int.toNat e22)).bind fun e23=>
 (dD (cZ.L4 aG n) n (x18.1,x18.2.1,x18.2.2.1,x18.2.2.2.1,List.set x18.2.2.2.2.1 (Int.toNat e20) true,x18.2.2.2.2.2.1,x18.2.2.2.2.2.2.1,x18.2.2.2.2.2.2.2,e23,((List.length e23:Nat):Int),(0:Int))).bind fun x33=>
 rec19 (x33.1,x33.2.1,x33.2.2.1,x33.2.2.2.1,x33.2.2.2.2.1,x33.2.2.2.2.2.1,x33.2.2.2.2.2.2.1,IntKind.wrap .i64 (x33.2.2.2.2.2.2.2+(1:Int)))
 else none
 else none
 else none
 else none)
 else
 (some x18.2.2.2.2.1)
def cZ.P (aG:(LI×(Option (List (A3)))×Int)→Option (LI×(Option (List (A3))))) (mM:(A1)→Option (List Bool)) (aQ:(A4)→Option Bool) (n:Nat) (x:A1):Option (List Bool):=
 (mM (x.1,x.2.1,x.2.2)).bind fun r1=>
 bif decide (0≤x.1)&&decide (x.1≤x.1)&&decide (x.1≤((au:Nat):Int))then
 (dD (cZ.L1 aQ) n (x.1,x.2.1,x.2.2,r1,List.replicate (Int.toNat x.1) (some ([]:List Int)),x.2.2,((List.length x.2.2:Nat):Int),(0:Int))).bind fun x9=>
 bif decide (0≤x9.1)&&decide (x9.1≤x9.1)&&decide (x9.1≤((au:Nat):Int))then
 (dD (cZ.L2 aG) n (x9.1,x9.2.1,x9.2.2.1,x9.2.2.2.1,x9.2.2.2.2,List.replicate (Int.toNat x9.1) (false:Bool),([]:List Int),(none:Option (List (A3))),x9.2.1,((List.length x9.2.1:Nat):Int),(0:Int))).bind fun x16=>
 (qh x16.2.2.2.1).bind fun e17=>
 (dD (cZ.L5 aG n) n (x16.1,x16.2.1,x16.2.2.1,e17,x16.2.2.2.2.1,x16.2.2.2.2.2.1,x16.2.2.2.2.2.2,(0:Int))).bind fun x34=>
 some x34
 else none
 else none
def uJ.P (n:Nat) (x:A14):Option Bool:=
 (nth? x.2 x.1).bind fun e1=>
 some (!e1)
def bT.L1 (lQ:(A14)→Option Bool) (x1:A19) (rec2:(A19)→Option (Sum Unit Int)):Option (Sum Unit Int):=
 bif decide (x1.2.2.2<x1.2.2.1)then
 ((nth? x1.1 x1.2.2.2).bind fun e3=>
 (lQ (e3,x1.2.1)).bind fun r4=>
 bif r4 then
 ((some x1.2.2.2).bind fun r=>some (Sum.inr r))
 else
 (rec2 (x1.1,x1.2.1,x1.2.2.1,IntKind.wrap .i64 (x1.2.2.2+(1:Int)))))
 else
 (some (Sum.inl ()))
def bT.P (lQ:(A14)→Option Bool) (n:Nat) (x:A4):Option Int:=
 (dD (bT.L1 lQ) n (x.1,x.2,((List.length x.1:Nat):Int),(0:Int))).bind fun q=>match q with
 |Sum.inl x5=>(some (-1:Int))
 |Sum.inr r=>some r
def dJ.P (bZ:(A4)→Option Int) (n:Nat) (x:A4):Option Bool:=
 (bZ (x.1,x.2)).bind fun r1=>
 some (decide ((0:Int)≤r1))
def cmp_isNaN_int.P (n:Nat) (x:Int):Option Bool:=
 some (!decide (x=x))
def cmp_Compare_int.P (kZ:Int→Option Bool) (n:Nat) (x:A7):Option Int:=
 (kZ x.1).bind fun r1=>
 (kZ x.2).bind fun r2=>
 bif r1 then
 (bif r2 then
 (some (0:Int))
 else
 (some (-1:Int)))
 else
 (bif r2 then
 (some (1:Int))
 else
 (bif decide (x.1<x.2)then
 (some (-1:Int))
 else
 (bif decide (x.2<x.1)then
 (some (1:Int))
 else
 (some (0:Int)))))
def bY.L1 (dO:(A7)→Option Int) (x1:A77) (rec2:(A77)→Option (Sum (A40) Int)):Option (Sum (A40) Int):=
 bif decide (x1.2.2.2.2<x1.2.2.2.1)then
 ((nth? x1.2.2.1 x1.2.2.2.2).bind fun e3=>
 bif decide (((List.length x1.2.1:Nat):Int)≤x1.2.2.2.2)then
 ((some (1:Int)).bind fun r=>some (Sum.inr r))
 else
 ((nth? x1.2.1 x1.2.2.2.2).bind fun e4=>
 (dO (e3,e4)).bind fun r5=>
 bif !decide (r5=(0:Int))then
 ((some r5).bind fun r=>some (Sum.inr r))
 else
 (rec2 (x1.1,x1.2.1,x1.2.2.1,x1.2.2.2.1,IntKind.wrap .i64 (x1.2.2.2.2+(1:Int))))))
 else
 (some (Sum.inl (x1.1,x1.2.1)))
def bY.P (dO:(A7)→Option Int) (n:Nat) (x:A40):Option Int:=
 (dD (bY.L1 dO) n (x.1,x.2,x.1,((List.length x.1:Nat):Int),(0:Int))).bind fun q=>match q with
 |Sum.inl x6=>(bif decide (((List.length x6.1:Nat):Int)<((List.length x6.2:Nat):Int))then
 (some (-1:Int))
 else
 (some (0:Int)))
 |Sum.inr r=>some r
def kY.L1 (x1:A63) (rec2:(A63)→Option (Sum Int Int)):Option (Sum Int Int):=
 bif decide (x1.2.2.2<x1.2.2.1)then
 ((nth? x1.2.1 x1.2.2.2).bind fun e3=>
 bif !decide (e3=x1.1)then
 ((some e3).bind fun r=>some (Sum.inr r))
 else
 (rec2 (x1.1,x1.2.1,x1.2.2.1,IntKind.wrap .i64 (x1.2.2.2+(1:Int)))))
 else
 (some (Sum.inl x1.1))
def kY.P (n:Nat) (x:List Int):Option Int:=
 (dD (kY.L1) n ((0:Int),x,((List.length x:Nat):Int),(0:Int))).bind fun q=>match q with
 |Sum.inl x4=>(some x4)
 |Sum.inr r=>some r
def qU.P (dO:(A7)→Option Int) (sO:List Int→Option Int) (iq:(A40)→Option Int) (n:Nat) (x:A8):Option Int:=
 (dO (x.1,x.2.2.2.1)).bind fun r1=>
 (iq (x.2.1,x.2.2.2.2.1)).bind fun r2=>
 (dO (x.2.2.1,x.2.2.2.2.2)).bind fun r3=>
 (sO ([r1,r2,r3]:List Int)).bind fun r4=>
 some r4
def og.P (pK:(A8)→Option Int) (n:Nat) (x:A8):Option Bool:=
 (pK (x.1,x.2.1,x.2.2.1,x.2.2.2.1,x.2.2.2.2.1,x.2.2.2.2.2)).bind fun r1=>
 some (decide (r1=(0:Int)))
def cO.L1 (gI:(A8)→Option Bool) (x6:A75) (rec7:(A75)→Option (LR×Int)):Option (LR×Int):=
 bif decide (x6.2.2.2.2<((List.length (List.drop (Int.toNat x6.2.2.1) (List.take (Int.toNat x6.2.2.2.1) x6.1)):Nat):Int))then
 (bif decide (0≤x6.2.2.2.2)&&decide (x6.2.2.2.2<(((Int.toNat x6.2.2.2.1)-(Int.toNat x6.2.2.1):Nat):Int))then
 (at? x6.1 ((Int.toNat x6.2.2.1)+Int.toNat x6.2.2.2.2)).bind fun e8=>
 bif decide (0≤(IntKind.wrap .i64 (x6.2.2.2.2-(1:Int))))&&decide ((IntKind.wrap .i64 (x6.2.2.2.2-(1:Int)))<(((Int.toNat x6.2.2.2.1)-(Int.toNat x6.2.2.1):Nat):Int))then
 (at? x6.1 ((Int.toNat x6.2.2.1)+Int.toNat (IntKind.wrap .i64 (x6.2.2.2.2-(1:Int))))).bind fun e9=>
 (gI (e8.1,e8.2.1,e8.2.2,e9.1,e9.2.1,e9.2.2)).bind fun r10=>
 (bif !r10 then
 (bif decide (0≤x6.2.2.2.2)&&decide (x6.2.2.2.2<(((Int.toNat x6.2.2.2.1)-(Int.toNat x6.2.2.1):Nat):Int))then
 (at? x6.1 ((Int.toNat x6.2.2.1)+Int.toNat x6.2.2.2.2)).bind fun e11=>
 bif decide (0≤x6.2.1)&&decide (x6.2.1<((List.length x6.1:Nat):Int))then
 (at? x6.1 (Int.toNat x6.2.1)).bind fun e12=>
 some (List.set x6.1 (Int.toNat x6.2.1) (e11.1,e11.2.1,e11.2.2),IntKind.wrap .i64 (x6.2.1+(1:Int)),((Int.toNat x6.2.2.1:Nat):Int),((Int.toNat x6.2.2.2.1:Nat):Int),x6.2.2.2.2)
 else none
 else none)
 else
 (some (x6.1,x6.2.1,((Int.toNat x6.2.2.1:Nat):Int),((Int.toNat x6.2.2.2.1:Nat):Int),x6.2.2.2.2))).bind fun x13=>
 rec7 (x13.1,x13.2.1,((Int.toNat x13.2.2.1:Nat):Int),((Int.toNat x13.2.2.2.1:Nat):Int),IntKind.wrap .i64 (x13.2.2.2.2+(1:Int)))
 else none
 else none)
 else
 (some (x6.1,x6.2.1))
def cO.L2 (gI:(A8)→Option Bool) (n:Nat) (x1:LR×Int) (rec2:(LR×Int)→Option (Sum LR LR)):Option (Sum LR LR):=
 bif decide (x1.2<((List.length x1.1:Nat):Int))then
 (bif decide (0≤x1.2)&&decide (x1.2<((List.length x1.1:Nat):Int))then
 (at? x1.1 (Int.toNat x1.2)).bind fun e3=>
 bif decide (0≤(IntKind.wrap .i64 (x1.2-(1:Int))))&&decide ((IntKind.wrap .i64 (x1.2-(1:Int)))<((List.length x1.1:Nat):Int))then
 (at? x1.1 (Int.toNat (IntKind.wrap .i64 (x1.2-(1:Int))))).bind fun e4=>
 (gI (e3.1,e3.2.1,e3.2.2,e4.1,e4.2.1,e4.2.2)).bind fun r5=>
 bif r5 then
 (bif decide (0≤x1.2)&&decide (x1.2≤((List.length x1.1:Nat):Int))&&decide (((List.length x1.1:Nat):Int)≤((List.length x1.1:Nat):Int))then
 (dD (cO.L1 gI) n (x1.1,x1.2,((Int.toNat x1.2:Nat):Int),((Int.toNat ((List.length x1.1:Nat):Int):Nat):Int),(1:Int))).bind fun x14=>
 bif decide (0≤x14.2)&&decide (x14.2≤((List.length x14.1:Nat):Int))&&decide (((List.length x14.1:Nat):Int)≤((List.length x14.1:Nat):Int))then
 bif decide (0≤0)&&decide (0≤x14.2)&&decide (x14.2≤((List.length (List.append (List.append (List.take (Int.toNat x14.2) x14.1) (List.replicate ((Int.toNat ((List.length x14.1:Nat):Int))-(Int.toNat x14.2)) (((0:Int),([]:List Int),(0:Int)):Int×LI×Int))) (List.drop (Int.toNat ((List.length x14.1:Nat):Int)) x14.1)):Nat):Int))then
 (some (List.drop (Int.toNat 0) (List.take (Int.toNat x14.2) (List.append (List.append (List.take (Int.toNat x14.2) x14.1) (List.replicate ((Int.toNat ((List.length x14.1:Nat):Int))-(Int.toNat x14.2)) (((0:Int),([]:List Int),(0:Int)):Int×LI×Int))) (List.drop (Int.toNat ((List.length x14.1:Nat):Int)) x14.1))))).bind fun r=>some (Sum.inr r)
 else none
 else none
 else none)
 else
 (rec2 (x1.1,IntKind.wrap .i64 (x1.2+(1:Int))))
 else none
 else none)
 else
 (some (Sum.inl x1.1))
def cO.P (gI:(A8)→Option Bool) (n:Nat) (x:List Ru):Option LR:=
 bif decide (((List.length x:Nat):Int)<(2:Int))then
 (some x)
 else
 ((dD (cO.L2 gI n) n (x,(1:Int))).bind fun q=>match q with
 |Sum.inl x15=>(some x15)
 |Sum.inr r=>some r)
def qW.P (jw:List Ru→Option LR) (dQ:List Ru→Option LR) (n:Nat) (x:List Ru):Option LR:=
 (dQ x).bind fun r1=>
 (jw r1).bind fun r2=>
 some r2
def fK.L1 (x1:A25) (rec2:(A25)→Option (A17)):Option (A17):=
 bif decide (x1.2.2.2.2.2.2.2.2.2.2.2.2.2<x1.2.2.2.2.2.2.2.2.2.2.2.2.1)then
 ((nth? x1.2.2.2.2.2.2.2.2.2.2.2.1 x1.2.2.2.2.2.2.2.2.2.2.2.2.2).bind fun e3=>
 (bif e3 then
 (bif decide (0≤x1.2.2.2.2.2.2.2.2.2.2.2.2.2)&&decide (x1.2.2.2.2.2.2.2.2.2.2.2.2.2<((List.length x1.2.2.2.2.2.2.2.2.2.2.1:Nat):Int))then
 (at? x1.2.2.2.2.2.2.2.2.2.2.1 (Int.toNat x1.2.2.2.2.2.2.2.2.2.2.2.2.2)).bind fun e4=>
 some (x1.1,x1.2.1,x1.2.2.1,x1.2.2.2.1,x1.2.2.2.2.1,x1.2.2.2.2.2.1,x1.2.2.2.2.2.2.1,IntKind.wrap .i64 (x1.2.2.2.2.2.2.2.1+(1:Int)),x1.2.2.2.2.2.2.2.2.1,x1.2.2.2.2.2.2.2.2.2.1,List.set x1.2.2.2.2.2.2.2.2.2.2.1 (Int.toNat x1.2.2.2.2.2.2.2.2.2.2.2.2.2) x1.2.2.2.2.2.2.2.1,x1.2.2.2.2.2.2.2.2.2.2.2.1,x1.2.2.2.2.2.2.2.2.2.2.2.2.1,x1.2.2.2.2.2.2.2.2.2.2.2.2.2)
 else none)
 else
 (some (x1.1,x1.2.1,x1.2.2.1,x1.2.2.2.1,x1.2.2.2.2.1,x1.2.2.2.2.2.1,x1.2.2.2.2.2.2.1,x1.2.2.2.2.2.2.2.1,x1.2.2.2.2.2.2.2.2.1,x1.2.2.2.2.2.2.2.2.2.1,x1.2.2.2.2.2.2.2.2.2.2.1,x1.2.2.2.2.2.2.2.2.2.2.2.1,x1.2.2.2.2.2.2.2.2.2.2.2.2.1,x1.2.2.2.2.2.2.2.2.2.2.2.2.2))).bind fun x5=>
 rec2 (x5.1,x5.2.1,x5.2.2.1,x5.2.2.2.1,x5.2.2.2.2.1,x5.2.2.2.2.2.1,x5.2.2.2.2.2.2.1,x5.2.2.2.2.2.2.2.1,x5.2.2.2.2.2.2.2.2.1,x5.2.2.2.2.2.2.2.2.2.1,x5.2.2.2.2.2.2.2.2.2.2.1,x5.2.2.2.2.2.2.2.2.2.2.2.1,x5.2.2.2.2.2.2.2.2.2.2.2.2.1,IntKind.wrap .i64 (x5.2.2.2.2.2.2.2.2.2.2.2.2.2+(1:Int))))
 else
 (some (x1.1,x1.2.1,x1.2.2.1,x1.2.2.2.1,x1.2.2.2.2.1,x1.2.2.2.2.2.1,x1.2.2.2.2.2.2.1,x1.2.2.2.2.2.2.2.1,x1.2.2.2.2.2.2.2.2.1,x1.2.2.2.2.2.2.2.2.2.1,x1.2.2.2.2.2.2.2.2.2.2.1))
def fK.L2 (x7:A28) (rec8:(A28)→Option (A17)):Option (A17):=
 bif decide (x7.2.2.2.2.2.2.2.2.2.2.2.2.2<x7.2.2.2.2.2.2.2.2.2.2.2.2.1)then
 ((nth? x7.2.2.2.2.2.2.2.2.2.2.2.1 x7.2.2.2.2.2.2.2.2.2.2.2.2.2).bind fun e9=>
 (nth? x7.2.2.2.1 e9).bind fun e10=>
 (bif e10 then
 (bif decide (0≤e9)&&decide (e9<((List.length x7.2.2.2.2.2.2.2.2.2.2.1:Nat):Int))then
 (at? x7.2.2.2.2.2.2.2.2.2.2.1 (Int.toNat e9)).bind fun e11=>
 bif decide (List.length x7.2.2.2.2.2.2.2.2.1+List.length ([e11]:List Int)≤au)then
 some (x7.1,x7.2.1,x7.2.2.1,x7.2.2.2.1,x7.2.2.2.2.1,x7.2.2.2.2.2.1,x7.2.2.2.2.2.2.1,x7.2.2.2.2.2.2.2.1,List.append x7.2.2.2.2.2.2.2.2.1 ([e11]:List Int),x7.2.2.2.2.2.2.2.2.2.1,x7.2.2.2.2.2.2.2.2.2.2.1,x7.2.2.2.2.2.2.2.2.2.2.2.1,x7.2.2.2.2.2.2.2.2.2.2.2.2.1,x7.2.2.2.2.2.2.2.2.2.2.2.2.2)
 else none
 else none)
 else
 (some (x7.1,x7.2.1,x7.2.2.1,x7.2.2.2.1,x7.2.2.2.2.1,x7.2.2.2.2.2.1,x7.2.2.2.2.2.2.1,x7.2.2.2.2.2.2.2.1,x7.2.2.2.2.2.2.2.2.1,x7.2.2.2.2.2.2.2.2.2.1,x7.2.2.2.2.2.2.2.2.2.2.1,x7.2.2.2.2.2.2.2.2.2.2.2.1,x7.2.2.2.2.2.2.2.2.2.2.2.2.1,x7.2.2.2.2.2.2.2.2.2.2.2.2.2))).bind fun x12=>
 rec8 (x12.1,x12.2.1,x12.2.2.1,x12.2.2.2.1,x12.2.2.2.2.1,x12.2.2.2.2.2.1,x12.2.2.2.2.2.2.1,x12.2.2.2.2.2.2.2.1,x12.2.2.2.2.2.2.2.2.1,x12.2.2.2.2.2.2.2.2.2.1,x12.2.2.2.2.2.2.2.2.2.2.1,x12.2.2.2.2.2.2.2.2.2.2.2.1,x12.2.2.2.2.2.2.2.2.2.2.2.2.1,IntKind.wrap .i64 (x12.2.2.2.2.2.2.2.2.2.2.2.2.2+(1:Int))))
 else
 (some (x7.1,x7.2.1,x7.2.2.1,x7.2.2.2.1,x7.2.2.2.2.1,x7.2.2.2.2.2.1,x7.2.2.2.2.2.2.1,x7.2.2.2.2.2.2.2.1,x7.2.2.2.2.2.2.2.2.1,x7.2.2.2.2.2.2.2.2.2.1,x7.2.2.2.2.2.2.2.2.2.2.1))
def fK.L3 (x21:A24) (rec22:(A24)→Option (A27)):Option (A27):=
 bif decide (x21.2.2.2.2.2.2.2.2.2.2.2.2.2.2.2<x21.2.2.2.2.2.2.2.2.2.2.2.2.2.2.1)then
 (bif decide (0≤x21.2.2.2.2.2.2.2.2.2.2.2.2.2.2.2)&&decide (x21.2.2.2.2.2.2.2.2.2.2.2.2.2.2.2<((List.length x21.2.2.2.2.2.2.2.2.2.1:Nat):Int))then
 (at? x21.2.2.2.2.2.2.2.2.2.1 (Int.toNat x21.2.2.2.2.2.2.2.2.2.2.2.2.2.2.2)).bind fun e23=>
 bif decide (0≤e23)&&decide (e23<((List.length x21.2.2.2.2.2.2.2.1:Nat):Int))then
 (at? x21.2.2.2.2.2.2.2.1 (Int.toNat e23)).bind fun e24=>
 bif decide (0≤x21.2.2.2.2.2.2.2.2.2.2.2.2.2.2.2)&&decide (x21.2.2.2.2.2.2.2.2.2.2.2.2.2.2.2<((List.length x21.2.2.2.2.2.2.2.2.2.1:Nat):Int))then
 (at? x21.2.2.2.2.2.2.2.2.2.1 (Int.toNat x21.2.2.2.2.2.2.2.2.2.2.2.2.2.2.2)).bind fun e25=>
 rec22 (x21.1,x21.2.1,x21.2.2.1,x21.2.2.2.1,x21.2.2.2.2.1,x21.2.2.2.2.2.1,x21.2.2.2.2.2.2.1,x21.2.2.2.2.2.2.2.1,x21.2.2.2.2.2.2.2.2.1,List.set x21.2.2.2.2.2.2.2.2.2.1 (Int.toNat x21.2.2.2.2.2.2.2.2.2.2.2.2.2.2.2) e24,x21.2.2.2.2.2.2.2.2.2.2.1,x21.2.2.2.2.2.2.2.2.2.2.2.1,x21.2.2.2.2.2.2.2.2.2.2.2.2.1,x21.2.2.2.2.2.2.2.2.2.2.2.2.2.1,x21.2.2.2.2.2.2.2.2.2.2.2.2.2.2.1,IntKind.wrap .i64 (x21.2.2.2.2.2.2.2.2.2.2.2.2.2.2.2+(1:Int)))
 else none
 else none
 else none)
 else
 (some (x21.1,x21.2.1,x21.2.2.1,x21.2.2.2.1,x21.2.2.2.2.1,x21.2.2.2.2.2.1,x21.2.2.2.2.2.2.1,x21.2.2.2.2.2.2.2.1,x21.2.2.2.2.2.2.2.2.1,x21.2.2.2.2.2.2.2.2.2.1,x21.2.2.2.2.2.2.2.2.2.2.1,x21.2.2.2.2.2.2.2.2.2.2.2.1,x21.2.2.2.2.2.2.2.2.2.2.2.2.1,x21.2.2.2.2.2.2.2.2.2.2.2.2.2.1))
def fK.L4 (aT:(A4)→Option Bool) (n:Nat) (x14:A42) (rec15:(A42)→Option (A11)):Option (A11):=
 bif decide (x14.2.2.2.2.2.2.2.2.2.2<x14.2.2.2.2.2.2.2.2.2.1)then
 ((nth? x14.2.2.2.2.2.2.2.2.1 x14.2.2.2.2.2.2.2.2.2.2).bind fun e16=>
 ((nth? x14.1 e16.2.2).bind fun e17=>
 bif !e17 then
 (some (x14.1,x14.2.1,x14.2.2.1,x14.2.2.2.1,x14.2.2.2.2.1,x14.2.2.2.2.2.1,x14.2.2.2.2.2.2.1,x14.2.2.2.2.2.2.2.1,e16.1,e16.2.1,e16.2.2,x14.2.2.2.2.2.2.2.2.1,x14.2.2.2.2.2.2.2.2.2.1,x14.2.2.2.2.2.2.2.2.2.2,true))
 else
 ((aT (e16.2.1,x14.1)).bind fun r18=>
 some (x14.1,x14.2.1,x14.2.2.1,x14.2.2.2.1,x14.2.2.2.2.1,x14.2.2.2.2.2.1,x14.2.2.2.2.2.2.1,x14.2.2.2.2.2.2.2.1,e16.1,e16.2.1,e16.2.2,x14.2.2.2.2.2.2.2.2.1,x14.2.2.2.2.2.2.2.2.2.1,x14.2.2.2.2.2.2.2.2.2.2,r18))).bind fun x19=>
 bif x19.2.2.2.2.2.2.2.2.2.2.2.2.2.2 then
 (rec15 (x19.1,x19.2.1,x19.2.2.1,x19.2.2.2.1,x19.2.2.2.2.1,x19.2.2.2.2.2.1,x19.2.2.2.2.2.2.1,x19.2.2.2.2.2.2.2.1,x19.2.2.2.2.2.2.2.2.2.2.2.1,x19.2.2.2.2.2.2.2.2.2.2.2.2.1,IntKind.wrap .i64 (x19.2.2.2.2.2.2.2.2.2.2.2.2.2.1+(1:Int))))
 else
 (bif decide (0≤((List.length x19.2.2.2.2.2.2.2.2.2.1:Nat):Int))&&decide (((List.length x19.2.2.2.2.2.2.2.2.2.1:Nat):Int)≤((List.length x19.2.2.2.2.2.2.2.2.2.1:Nat):Int))&&decide (((List.length x19.2.2.2.2.2.2.2.2.2.1:Nat):Int)≤((au:Nat):Int))then
 bif decide (0≤x19.2.2.2.2.2.2.2.2.2.2.1)&&decide (x19.2.2.2.2.2.2.2.2.2.2.1<((List.length x19.2.2.2.2.2.2.2.1:Nat):Int))then
 (at? x19.2.2.2.2.2.2.2.1 (Int.toNat x19.2.2.2.2.2.2.2.2.2.2.1)).bind fun e20=>
 (dD (fK.L3) n (x19.1,x19.2.1,x19.2.2.1,x19.2.2.2.1,x19.2.2.2.2.1,x19.2.2.2.2.2.1,x19.2.2.2.2.2.2.1,x19.2.2.2.2.2.2.2.1,x19.2.2.2.2.2.2.2.2.1,List.append (List.append (List.take 0 (List.replicate (Int.toNat ((List.length x19.2.2.2.2.2.2.2.2.2.1:Nat):Int)) ((0:Int):Int))) (List.take (Nat.min (List.length x19.2.2.2.2.2.2.2.2.2.1) ((List.length (List.replicate (Int.toNat ((List.length x19.2.2.2.2.2.2.2.2.2.1:Nat):Int)) ((0:Int):Int)))-0)) x19.2.2.2.2.2.2.2.2.2.1)) (List.drop (0+(Nat.min (List.length x19.2.2.2.2.2.2.2.2.2.1) ((List.length (List.replicate (Int.toNat ((List.length x19.2.2.2.2.2.2.2.2.2.1:Nat):Int)) ((0:Int):Int)))-0))) (List.replicate (Int.toNat ((List.length x19.2.2.2.2.2.2.2.2.2.1:Nat):Int)) ((0:Int):Int))),e20,x19.2.2.2.2.2.2.2.2.2.2.2.1,x19.2.2.2.2.2.2.2.2.2.2.2.2.1,x19.2.2.2.2.2.2.2.2.2.2.2.2.2.1,((List.length (List.append (List.append (List.take 0 (List.replicate (Int.toNat ((List.length x19.2.2.2.2.2.2.2.2.2.1:Nat):Int)) ((0:Int):Int))) (List.take (Nat.min (List.length x19.2.2.2.2.2.2.2.2.2.1) ((List.length (List.replicate (Int.toNat ((List.length x19.2.2.2.2.2.2.2.2.2.1:Nat):Int)) ((0:Int):Int)))-0)) x19.2.2.2.2.2.2.2.2.2.1)) (List.drop (0+(Nat.min (List.length x19.2.2.2.2.2.2.2.2.2.1) ((List.length (List.replicate (Int.toNat ((List.length x19.2.2.2.2.2.2.2.2.2.1:Nat):Int)) ((0:Int):Int)))-0))) (List.replicate (Int.toNat ((List.length x19.2.2.2.2.2.2.2.2.2.1:Nat):Int)) ((0:Int):Int)))):Nat):Int),(0:Int))).bind fun x26=>
 bif decide (List.length x26.2.2.2.2.2.2.1+List.length ([(x26.2.2.2.2.2.2.2.2.1,x26.2.2.2.2.2.2.2.2.2.1,x26.2.2.2.2.2.2.2.2.2.2.1)]:List Ru)≤au)then
 rec15 (x26.1,x26.2.1,x26.2.2.1,x26.2.2.2.1,x26.2.2.2.2.1,x26.2.2.2.2.2.1,List.append x26.2.2.2.2.2.2.1 ([(x26.2.2.2.2.2.2.2.2.1,x26.2.2.2.2.2.2.2.2.2.1,x26.2.2.2.2.2.2.2.2.2.2.1)]:List Ru),x26.2.2.2.2.2.2.2.1,x26.2.2.2.2.2.2.2.2.2.2.2.1,x26.2.2.2.2.2.2.2.2.2.2.2.2.1,IntKind.wrap .i64 (x26.2.2.2.2.2.2.2.2.2.2.2.2.2+(1:Int)))
 else none
 else none
 else none))
 else
 (some (x14.2.1,x14.2.2.1,x14.2.2.2.1,x14.2.2.2.2.1,x14.2.2.2.2.2.1,x14.2.2.2.2.2.2.1))
def fK.P (gU:List Ru→Option LR) (aT:(A4)→Option Bool) (n:Nat) (x:A31):Option (A1):=
 bif decide (0≤x.1)&&decide (x.1≤x.1)&&decide (x.1≤((au:Nat):Int))then
 (dD (fK.L1) n (x.1,x.2.1,x.2.2.1,x.2.2.2,(0:Int),([]:List Int),([]:List Ru),(0:Int),([]:List Int),([]:List Ru),List.replicate (Int.toNat x.1) ((0:Int):Int),x.2.2.2,((List.length x.2.2.2:Nat):Int),(0:Int))).bind fun x6=>
 (dD (fK.L2) n (x6.1,x6.2.1,x6.2.2.1,x6.2.2.2.1,x6.2.2.2.2.1,x6.2.2.2.2.2.1,x6.2.2.2.2.2.2.1,x6.2.2.2.2.2.2.2.1,x6.2.2.2.2.2.2.2.2.1,x6.2.2.2.2.2.2.2.2.2.1,x6.2.2.2.2.2.2.2.2.2.2,x6.2.1,((List.length x6.2.1:Nat):Int),(0:Int))).bind fun x13=>
 (dD (fK.L4 aT n) n (x13.2.2.2.1,x13.2.2.2.2.1,x13.2.2.2.2.2.1,x13.2.2.2.2.2.2.1,x13.2.2.2.2.2.2.2.1,x13.2.2.2.2.2.2.2.2.1,x13.2.2.2.2.2.2.2.2.2.1,x13.2.2.2.2.2.2.2.2.2.2,x13.2.2.1,((List.length x13.2.2.1:Nat):Int),(0:Int))).bind fun x27=>
 (gU x27.2.2.2.2.2).bind fun r28=>
 some (x27.2.2.2.1,x27.2.2.2.2.1,r28)
 else none
def wW.P (lW:(A31)→Option (A1)) (dP:(A0)→Option Bool) (jK:(A1)→Option (List Bool)) (n:Nat) (x:A0):Option (A23):=
 (dP (x.1,x.2.1,x.2.2.1,x.2.2.2)).bind fun r1=>
 bif !r1 then
 (some ((0:Int),([]:List Int),([]:List Ru),(1:Int)))
 else
 ((jK (x.2.1,x.2.2.1,x.2.2.2)).bind fun r2=>
 (lW (x.2.1,x.2.2.1,x.2.2.2,r2)).bind fun r3=>
 some (r3.1,r3.2.1,r3.2.2,(0:Int)))
def wJ.L1 (x1:(List (Option LI))×LR×Int×Int) (rec2:((List (Option LI))×LR×Int×Int)→Option (List (Option LI))):Option (List (Option LI)):=
 bif decide (x1.2.2.2<x1.2.2.1)then
 ((nth? x1.2.1 x1.2.2.2).bind fun e3=>
 bif decide (0≤e3.1)&&decide (e3.1<((List.length x1.1:Nat):Int))then
 (rowAt? x1.1 (Int.toNat e3.1)).bind fun e4=>
 (rowAt? x1.1 (Int.toNat e3.1)).bind fun e5=>
 bif decide (List.length e5+List.length ([x1.2.2.2]:List Int)≤au)then
 bif decide (0≤e3.1)&&decide (e3.1<((List.length (List.set x1.1 (Int.toNat e3.1) none):Nat):Int))then
 rec2 (List.set (List.set x1.1 (Int.toNat e3.1) none) (Int.toNat e3.1) (some (List.append e5 ([x1.2.2.2]:List Int))),x1.2.1,x1.2.2.1,IntKind.wrap .i64 (x1.2.2.2+(1:Int)))
 else none
 else none
 else none)
 else
 (some x1.1)
def wJ.P (n:Nat) (x:A0):Option LL:=
 bif decide (0≤((List.length x.1:Nat):Int))&&decide (((List.length x.1:Nat):Int)≤((List.length x.1:Nat):Int))&&decide (((List.length x.1:Nat):Int)≤((au:Nat):Int))then
 (dD (wJ.L1) n (List.replicate (Int.toNat ((List.length x.1:Nat):Int)) (some ([]:List Int)),x.2.2.2,((List.length x.2.2.2:Nat):Int),(0:Int))).bind fun x6=>
 (qh x6).bind fun e7=>
 some e7
 else none
def eX.L1 (x4:A69) (rec5:(A69)→Option (A18)):Option (A18):=
 bif decide (x4.2.2.2.2.2<(8:Int))then
 (bif decide (0≤(IntKind.wrap .i64 ((8:Int)*x4.2.2.2.2.2)))&&decide ((IntKind.wrap .i64 ((8:Int)*x4.2.2.2.2.2))≤((IntKind.bits .u64:Nat):Int))then
 bif decide (List.length x4.1+List.length ([IntKind.wrap .u8 (x4.2.1/2^Int.toNat (IntKind.wrap .i64 ((8:Int)*x4.2.2.2.2.2)))]:List Int)≤au)then
 rec5 (List.append x4.1 ([IntKind.wrap .u8 (x4.2.1/2^Int.toNat (IntKind.wrap .i64 ((8:Int)*x4.2.2.2.2.2)))]:List Int),x4.2.1,x4.2.2.1,x4.2.2.2.1,x4.2.2.2.2.1,IntKind.wrap .i64 (x4.2.2.2.2.2+(1:Int)))
 else none
 else none)
 else
 (some (x4.1,x4.2.2.1,x4.2.2.2.1,x4.2.2.2.2.1))
def eX.L2 (n:Nat) (x1:A18) (rec2:(A18)→Option LI):Option LI:=
 bif decide (x1.2.2.2<x1.2.2.1)then
 ((nth? x1.2.1 x1.2.2.2).bind fun e3=>
 (dD (eX.L1) n (x1.1,e3,x1.2.1,x1.2.2.1,x1.2.2.2,(0:Int))).bind fun x6=>
 rec2 (x6.1,x6.2.1,x6.2.2.1,IntKind.wrap .i64 (x6.2.2.2+(1:Int))))
 else
 (some x1.1)
def eX.P (n:Nat) (x:List Int):Option ByteArray:=
 bif decide (0≤(0:Int))&&decide ((0:Int)≤(IntKind.wrap .i64 ((8:Int)*((List.length x:Nat):Int))))&&decide ((IntKind.wrap .i64 ((8:Int)*((List.length x:Nat):Int)))≤((au:Nat):Int))then
 (dD (eX.L2 n) n (List.replicate (Int.toNat (0:Int)) ((0:Int):Int),x,((List.length x:Nat):Int),(0:Int))).bind fun x7=>
 some (uZ x7)
 else none
def fM.L1 (x1:Int×LI×LR×LL×LL×(Option (List (ByteArray×Int)))×LR×Int×Int×Bool×LI×LI×Int×Int) (rec2:(Int×LI×LR×LL×LL×(Option (List (ByteArray×Int)))×LR×Int×Int×Bool×LI×LI×Int×Int)→Option (Int×LI×LR×LL×LL×(Option (List (ByteArray×Int)))×LR×Int×Int×Bool×LI)):Option (Int×LI×LR×LL×LL×(Option (List (ByteArray×Int)))×LR×Int×Int×Bool×LI):=
 bif decide (x1.2.2.2.2.2.2.2.2.2.2.2.2.2<x1.2.2.2.2.2.2.2.2.2.2.2.2.1)then
 ((nth? x1.2.2.2.2.2.2.2.2.2.2.2.1 x1.2.2.2.2.2.2.2.2.2.2.2.2.2).bind fun e3=>
 (nth? x1.2.2.1 e3).bind fun e4=>
 bif !decide ((64:Int)=0)then
 bif decide (0≤(IntKind.wrap .i64 (Int.tdiv e4.2.2 (64:Int))))&&decide ((IntKind.wrap .i64 (Int.tdiv e4.2.2 (64:Int)))<((List.length x1.2.2.2.2.2.2.2.2.2.2.1:Nat):Int))then
 (at? x1.2.2.2.2.2.2.2.2.2.2.1 (Int.toNat (IntKind.wrap .i64 (Int.tdiv e4.2.2 (64:Int))))).bind fun e5=>
 bif !decide ((64:Int)=0)then
 bif decide (0≤(Int.tmod e4.2.2 (64:Int)))&&decide ((Int.tmod e4.2.2 (64:Int))≤((IntKind.bits .u64:Nat):Int))then
 bif decide (0≤(IntKind.wrap .i64 (Int.tdiv e4.2.2 (64:Int))))&&decide ((IntKind.wrap .i64 (Int.tdiv e4.2.2 (64:Int)))<((List.length x1.2.2.2.2.2.2.2.2.2.2.1:Nat):Int))then
 (at? x1.2.2.2.2.2.2.2.2.2.2.1 (Int.toNat (IntKind.wrap .i64 (Int.tdiv e4.2.2 (64:Int))))).bind fun e6=>
 rec2 (x1.1,x1.2.1,x1.2.2.1,x1.2.2.2.1,x1.2.2.2.2.1,x1.2.2.2.2.2.1,x1.2.2.2.2.2.2.1,x1.2.2.2.2.2.2.2.1,x1.2.2.2.2.2.2.2.2.1,x1.2.2.2.2.2.2.2.2.2.1,List.set x1.2.2.2.2.2.2.2.2.2.2.1 (Int.toNat (IntKind.wrap .i64 (Int.tdiv e4.2.2 (64:Int)))) (bits .or .u64 e5 (IntKind.wrap .u64 ((1:Int)*2^Int.toNat (Int.tmod e4.2.2 (64:Int))))),x1.2.2.2.2.2.2.2.2.2.2.2.1,x1.2.2.2.2.2.2.2.2.2.2.2.2.1,IntKind.wrap .i64 (x1.2.2.2.2.2.2.2.2.2.2.2.2.2+(1:Int)))
 else none
 else none
 else none
 else none
 else none)
 else
 (some (x1.1,x1.2.1,x1.2.2.1,x1.2.2.2.1,x1.2.2.2.2.1,x1.2.2.2.2.2.1,x1.2.2.2.2.2.2.1,x1.2.2.2.2.2.2.2.1,x1.2.2.2.2.2.2.2.2.1,x1.2.2.2.2.2.2.2.2.2.1,x1.2.2.2.2.2.2.2.2.2.2.1))
def fM.P (kX:List Int→Option ByteArray) (n:Nat) (x:Int×LI×LR×LL×LL×(Option (List (ByteArray×Int)))×LR×Int×Int×Bool×LI):Option (Int×Int×LI×LR×LL×LL×(Option (List (ByteArray×Int)))×LR×Int×Int×Bool):=
 bif decide (((List.length x.2.2.2.2.2.2.2.2.2.2:Nat):Int)=(0:Int))then
 (some ((-1:Int),x.1,x.2.1,x.2.2.1,x.2.2.2.1,x.2.2.2.2.1,x.2.2.2.2.2.1,x.2.2.2.2.2.2.1,x.2.2.2.2.2.2.2.1,x.2.2.2.2.2.2.2.2.1,x.2.2.2.2.2.2.2.2.2.1))
 else
 (bif !decide ((64:Int)=0)then
 bif decide (0≤(IntKind.wrap .i64 (Int.tdiv (IntKind.wrap .i64 (x.1+(63:Int))) (64:Int))))&&decide ((IntKind.wrap .i64 (Int.tdiv (IntKind.wrap .i64 (x.1+(63:Int))) (64:Int)))≤(IntKind.wrap .i64 (Int.tdiv (IntKind.wrap .i64 (x.1+(63:Int))) (64:Int))))&&decide ((IntKind.wrap .i64 (Int.tdiv (IntKind.wrap .i64 (x.1+(63:Int))) (64:Int)))≤((au:Nat):Int))then
 (dD (fM.L1) n (x.1,x.2.1,x.2.2.1,x.2.2.2.1,x.2.2.2.2.1,x.2.2.2.2.2.1,x.2.2.2.2.2.2.1,x.2.2.2.2.2.2.2.1,x.2.2.2.2.2.2.2.2.1,x.2.2.2.2.2.2.2.2.2.1,List.replicate (Int.toNat (IntKind.wrap .i64 (Int.tdiv (IntKind.wrap .i64 (x.1+(63:Int))) (64:Int)))) ((0:Int):Int),x.2.2.2.2.2.2.2.2.2.2,((List.length x.2.2.2.2.2.2.2.2.2.2:Nat):Int),(0:Int))).bind fun x7=>
 (kX x7.2.2.2.2.2.2.2.2.2.2).bind fun r8=>
 (bif !(Option.isSome (nV seq r8 (mD x7.2.2.2.2.2.1)))then
 ((x7.2.2.2.2.2.1).bind fun m9=>
 bif decide (List.length x7.2.2.2.2.1+List.length ([x7.2.2.2.2.2.2.2.2.2.2]:List LI)≤au)then
 some (x7.1,x7.2.1,x7.2.2.1,x7.2.2.2.1,List.append x7.2.2.2.2.1 ([x7.2.2.2.2.2.2.2.2.2.2]:List LI),some (ED seq r8 ((List.length x7.2.2.2.2.1:Nat):Int) m9),x7.2.2.2.2.2.2.1,x7.2.2.2.2.2.2.2.1,x7.2.2.2.2.2.2.2.2.1,x7.2.2.2.2.2.2.2.2.2.1,((List.length x7.2.2.2.2.1:Nat):Int))
 else none)
 else
 (some (x7.1,x7.2.1,x7.2.2.1,x7.2.2.2.1,x7.2.2.2.2.1,x7.2.2.2.2.2.1,x7.2.2.2.2.2.2.1,x7.2.2.2.2.2.2.2.1,x7.2.2.2.2.2.2.2.2.1,x7.2.2.2.2.2.2.2.2.2.1,Option.getD (nV seq r8 (mD x7.2.2.2.2.2.1)) (0:Int)))).bind fun x10=>
 some (x10.2.2.2.2.2.2.2.2.2.2,x10.1,x10.2.1,x10.2.2.1,x10.2.2.2.1,x10.2.2.2.2.1,x10.2.2.2.2.2.1,x10.2.2.2.2.2.2.1,x10.2.2.2.2.2.2.2.1,x10.2.2.2.2.2.2.2.2.1,x10.2.2.2.2.2.2.2.2.2.1)
 else none
 else none)
def kN.P (n:Nat) (x:A12):Option Bool:=
 bif !decide ((64:Int)=0)then
 (nth? x.1 (IntKind.wrap .i64 (Int.tdiv x.2 (64:Int)))).bind fun e1=>
 bif !decide ((64:Int)=0)then
 bif decide (0≤(Int.tmod x.2 (64:Int)))&&decide ((Int.tmod x.2 (64:Int))≤((IntKind.bits .u64:Nat):Int))then
 some (decide ((bits .and .u64 (e1/2^Int.toNat (Int.tmod x.2 (64:Int))) (1:Int))=(1:Int)))
 else none
 else none
 else none
def bH.L1 (dA:(A12)→Option Bool) (x9:Int×LI×LR×LL×LL×(Option (List (ByteArray×Int)))×LR×Int×Int×Bool×Int×Int×LI×LI×Bool×Int×LI×LI×Int×Int) (rec10:(Int×LI×LR×LL×LL×(Option (List (ByteArray×Int)))×LR×Int×Int×Bool×Int×Int×LI×LI×Bool×Int×LI×LI×Int×Int)→Option (Int×LI×LR×LL×LL×(Option (List (ByteArray×Int)))×LR×Int×Int×Bool×Int×Int×LI×LI×Bool×Int×LI)):Option (Int×LI×LR×LL×LL×(Option (List (ByteArray×Int)))×LR×Int×Int×Bool×Int×Int×LI×LI×Bool×Int×LI):=
 bif decide (x9.2.2.2.2.2.2.2.2.2.2.2.2.2.2.2.2.2.2.2<x9.2.2.2.2.2.2.2.2.2.2.2.2.2.2.2.2.2.2.1)then
 ((nth? x9.2.2.2.2.2.2.2.2.2.2.2.2.2.2.2.2.2.1 x9.2.2.2.2.2.2.2.2.2.2.2.2.2.2.2.2.2.2.2).bind fun e11=>
 bif decide (0≤x9.2.2.2.2.2.2.2.2.2.2.2.2.2.2.2.1)&&decide (x9.2.2.2.2.2.2.2.2.2.2.2.2.2.2.2.1<((List.length x9.2.2.2.2.1:Nat):Int))then
 (at? x9.2.2.2.2.1 (Int.toNat x9.2.2.2.2.2.2.2.2.2.2.2.2.2.2.2.1)).bind fun e12=>
 (nth? x9.2.2.1 e11).bind fun e13=>
 (nth? e13.2.1 ((List.length x9.2.2.2.2.2.2.2.2.2.2.2.2.1:Nat):Int)).bind fun e14=>
 (dA (e12,e14)).bind fun r15=>
 (bif r15 then
 (bif decide (List.length x9.2.2.2.2.2.2.2.2.2.2.2.2.2.2.2.2.1+List.length ([e11]:List Int)≤au)then
 some (x9.1,x9.2.1,x9.2.2.1,x9.2.2.2.1,x9.2.2.2.2.1,x9.2.2.2.2.2.1,x9.2.2.2.2.2.2.1,x9.2.2.2.2.2.2.2.1,x9.2.2.2.2.2.2.2.2.1,x9.2.2.2.2.2.2.2.2.2.1,x9.2.2.2.2.2.2.2.2.2.2.1,x9.2.2.2.2.2.2.2.2.2.2.2.1,x9.2.2.2.2.2.2.2.2.2.2.2.2.1,x9.2.2.2.2.2.2.2.2.2.2.2.2.2.1,x9.2.2.2.2.2.2.2.2.2.2.2.2.2.2.1,x9.2.2.2.2.2.2.2.2.2.2.2.2.2.2.2.1,List.append x9.2.2.2.2.2.2.2.2.2.2.2.2.2.2.2.2.1 ([e11]:List Int),x9.2.2.2.2.2.2.2.2.2.2.2.2.2.2.2.2.2.1,x9.2.2.2.2.2.2.2.2.2.2.2.2.2.2.2.2.2.2.1,x9.2.2.2.2.2.2.2.2.2.2.2.2.2.2.2.2.2.2.2)
 else none)
 else
 (some (x9.1,x9.2.1,x9.2.2.1,x9.2.2.2.1,x9.2.2.2.2.1,x9.2.2.2.2.2.1,x9.2.2.2.2.2.2.1,x9.2.2.2.2.2.2.2.1,x9.2.2.2.2.2.2.2.2.1,x9.2.2.2.2.2.2.2.2.2.1,x9.2.2.2.2.2.2.2.2.2.2.1,x9.2.2.2.2.2.2.2.2.2.2.2.1,x9.2.2.2.2.2.2.2.2.2.2.2.2.1,x9.2.2.2.2.2.2.2.2.2.2.2.2.2.1,x9.2.2.2.2.2.2.2.2.2.2.2.2.2.2.1,x9.2.2.2.2.2.2.2.2.2.2.2.2.2.2.2.1,x9.2.2.2.2.2.2.2.2.2.2.2.2.2.2.2.2.1,x9.2.2.2.2.2.2.2.2.2.2.2.2.2.2.2.2.2.1,x9.2.2.2.2.2.2.2.2.2.2.2.2.2.2.2.2.2.2.1,x9.2.2.2.2.2.2.2.2.2.2.2.2.2.2.2.2.2.2.2))).bind fun x16=>
 rec10 (x16.1,x16.2.1,x16.2.2.1,x16.2.2.2.1,x16.2.2.2.2.1,x16.2.2.2.2.2.1,x16.2.2.2.2.2.2.1,x16.2.2.2.2.2.2.2.1,x16.2.2.2.2.2.2.2.2.1,x16.2.2.2.2.2.2.2.2.2.1,x16.2.2.2.2.2.2.2.2.2.2.1,x16.2.2.2.2.2.2.2.2.2.2.2.1,x16.2.2.2.2.2.2.2.2.2.2.2.2.1,x16.2.2.2.2.2.2.2.2.2.2.2.2.2.1,x16.2.2.2.2.2.2.2.2.2.2.2.2.2.2.1,x16.2.2.2.2.2.2.2.2.2.2.2.2.2.2.2.1,x16.2.2.2.2.2.2.2.2.2.2.2.2.2.2.2.2.1,x16.2.2.2.2.2.2.2.2.2.2.2.2.2.2.2.2.2.1,x16.2.2.2.2.2.2.2.2.2.2.2.2.2.2.2.2.2.2.1,IntKind.wrap .i64 (x16.2.2.2.2.2.2.2.2.2.2.2.2.2.2.2.2.2.2.2+(1:Int)))
 else none)
 else
 (some (x9.1,x9.2.1,x9.2.2.1,x9.2.2.2.1,x9.2.2.2.2.1,x9.2.2.2.2.2.1,x9.2.2.2.2.2.2.1,x9.2.2.2.2.2.2.2.1,x9.2.2.2.2.2.2.2.2.1,x9.2.2.2.2.2.2.2.2.2.1,x9.2.2.2.2.2.2.2.2.2.2.1,x9.2.2.2.2.2.2.2.2.2.2.2.1,x9.2.2.2.2.2.2.2.2.2.2.2.2.1,x9.2.2.2.2.2.2.2.2.2.2.2.2.2.1,x9.2.2.2.2.2.2.2.2.2.2.2.2.2.2.1,x9.2.2.2.2.2.2.2.2.2.2.2.2.2.2.2.1,x9.2.2.2.2.2.2.2.2.2.2.2.2.2.2.2.2.1))
def bH.L2 (dA:(A12)→Option Bool) (n:Nat) (bD:(Int×LI×LR×LL×LL×(Option (List (ByteArray×Int)))×LR×Int×Int×Bool×Int×Int×LI×LI×Bool)→Option (Int×LI×LR×LL×LL×(Option (List (ByteArray×Int)))×LR×Int×Int×Bool×LI)) (x7:Int×LI×LR×LL×LL×(Option (List (ByteArray×Int)))×LR×Int×Int×Bool×Int×Int×LI×LI×Bool×Int) (rec8:(Int×LI×LR×LL×LL×(Option (List (ByteArray×Int)))×LR×Int×Int×Bool×Int×Int×LI×LI×Bool×Int)→Option (Int×LI×LR×LL×LL×(Option (List (ByteArray×Int)))×LR×Int×Int×Bool×LI)):Option (Int×LI×LR×LL×LL×(Option (List (ByteArray×Int)))×LR×Int×Int×Bool×LI):=
 bif decide (x7.2.2.2.2.2.2.2.2.2.2.2.2.2.2.2<x7.2.2.2.2.2.2.2.2.1)then
 ((dD (bH.L1 dA) n (x7.1,x7.2.1,x7.2.2.1,x7.2.2.2.1,x7.2.2.2.2.1,x7.2.2.2.2.2.1,x7.2.2.2.2.2.2.1,x7.2.2.2.2.2.2.2.1,x7.2.2.2.2.2.2.2.2.1,x7.2.2.2.2.2.2.2.2.2.1,x7.2.2.2.2.2.2.2.2.2.2.1,x7.2.2.2.2.2.2.2.2.2.2.2.1,x7.2.2.2.2.2.2.2.2.2.2.2.2.1,x7.2.2.2.2.2.2.2.2.2.2.2.2.2.1,x7.2.2.2.2.2.2.2.2.2.2.2.2.2.2.1,x7.2.2.2.2.2.2.2.2.2.2.2.2.2.2.2,([]:List Int),x7.2.2.2.2.2.2.2.2.2.2.2.2.2.1,((List.length x7.2.2.2.2.2.2.2.2.2.2.2.2.2.1:Nat):Int),(0:Int))).bind fun x17=>
 (bif decide (List.length x17.2.2.2.2.2.2.2.2.2.2.2.2.1+List.length ([x17.2.2.2.2.2.2.2.2.2.2.2.2.2.2.2.1]:List Int)≤au)then
 bif x17.2.2.2.2.2.2.2.2.2.2.2.2.2.2.1 then
 ((bD (x17.1,x17.2.1,x17.2.2.1,x17.2.2.2.1,x17.2.2.2.2.1,x17.2.2.2.2.2.1,x17.2.2.2.2.2.2.1,x17.2.2.2.2.2.2.2.1,x17.2.2.2.2.2.2.2.2.1,x17.2.2.2.2.2.2.2.2.2.1,x17.2.2.2.2.2.2.2.2.2.2.1,x17.2.2.2.2.2.2.2.2.2.2.2.1,List.append x17.2.2.2.2.2.2.2.2.2.2.2.2.1 ([x17.2.2.2.2.2.2.2.2.2.2.2.2.2.2.2.1]:List Int),x17.2.2.2.2.2.2.2.2.2.2.2.2.2.2.2.2,true)).bind fun r18=>
 bif pre x17.2.2.2.2.2.2.2.2.2.2.2.2.1 r18.2.2.2.2.2.2.2.2.2.2 then
 some (r18.1,r18.2.1,r18.2.2.1,r18.2.2.2.1,r18.2.2.2.2.1,r18.2.2.2.2.2.1,r18.2.2.2.2.2.2.1,r18.2.2.2.2.2.2.2.1,r18.2.2.2.2.2.2.2.2.1,r18.2.2.2.2.2.2.2.2.2.1,x17.2.2.2.2.2.2.2.2.2.2.1,x17.2.2.2.2.2.2.2.2.2.2.2.1,x17.2.2.2.2.2.2.2.2.2.2.2.2.1,x17.2.2.2.2.2.2.2.2.2.2.2.2.2.1,x17.2.2.2.2.2.2.2.2.2.2.2.2.2.2.1,x17.2.2.2.2.2.2.2.2.2.2.2.2.2.2.2.1)
 else none)
 else
 ((bD (x17.1,x17.2.1,x17.2.2.1,x17.2.2.2.1,x17.2.2.2.2.1,x17.2.2.2.2.2.1,x17.2.2.2.2.2.2.1,x17.2.2.2.2.2.2.2.1,x17.2.2.2.2.2.2.2.2.1,x17.2.2.2.2.2.2.2.2.2.1,x17.2.2.2.2.2.2.2.2.2.2.1,x17.2.2.2.2.2.2.2.2.2.2.2.1,List.append x17.2.2.2.2.2.2.2.2.2.2.2.2.1 ([x17.2.2.2.2.2.2.2.2.2.2.2.2.2.2.2.1]:List Int),x17.2.2.2.2.2.2.2.2.2.2.2.2.2.2.2.2,decide (x17.2.2.2.2.2.2.2.1≤x17.2.2.2.2.2.2.2.2.2.2.2.2.2.2.2.1))).bind fun r19=>
 bif pre x17.2.2.2.2.2.2.2.2.2.2.2.2.1 r19.2.2.2.2.2.2.2.2.2.2 then
 some (r19.1,r19.2.1,r19.2.2.1,r19.2.2.2.1,r19.2.2.2.2.1,r19.2.2.2.2.2.1,r19.2.2.2.2.2.2.1,r19.2.2.2.2.2.2.2.1,r19.2.2.2.2.2.2.2.2.1,r19.2.2.2.2.2.2.2.2.2.1,x17.2.2.2.2.2.2.2.2.2.2.1,x17.2.2.2.2.2.2.2.2.2.2.2.1,x17.2.2.2.2.2.2.2.2.2.2.2.2.1,x17.2.2.2.2.2.2.2.2.2.2.2.2.2.1,x17.2.2.2.2.2.2.2.2.2.2.2.2.2.2.1,x17.2.2.2.2.2.2.2.2.2.2.2.2.2.2.2.1)
 else none)
 else none).bind fun x20=>
 rec8 (x20.1,x20.2.1,x20.2.2.1,x20.2.2.2.1,x20.2.2.2.2.1,x20.2.2.2.2.2.1,x20.2.2.2.2.2.2.1,x20.2.2.2.2.2.2.2.1,x20.2.2.2.2.2.2.2.2.1,x20.2.2.2.2.2.2.2.2.2.1,x20.2.2.2.2.2.2.2.2.2.2.1,x20.2.2.2.2.2.2.2.2.2.2.2.1,x20.2.2.2.2.2.2.2.2.2.2.2.2.1,x20.2.2.2.2.2.2.2.2.2.2.2.2.2.1,x20.2.2.2.2.2.2.2.2.2.2.2.2.2.2.1,IntKind.wrap .i64 (x20.2.2.2.2.2.2.2.2.2.2.2.2.2.2.2+(1:Int))))
 else
 (some (x7.1,x7.2.1,x7.2.2.1,x7.2.2.2.1,x7.2.2.2.2.1,x7.2.2.2.2.2.1,x7.2.2.2.2.2.2.1,x7.2.2.2.2.2.2.2.1,x7.2.2.2.2.2.2.2.2.1,x7.2.2.2.2.2.2.2.2.2.1,x7.2.2.2.2.2.2.2.2.2.2.2.2.1))
def bH.P (dA:(A12)→Option Bool) (bD:(Int×LI×LR×LL×LL×(Option (List (ByteArray×Int)))×LR×Int×Int×Bool×Int×Int×LI×LI×Bool)→Option (Int×LI×LR×LL×LL×(Option (List (ByteArray×Int)))×LR×Int×Int×Bool×LI)) (lu:(Int×LI×LR×LL×LL×(Option (List (ByteArray×Int)))×LR×Int×Int×Bool×LI)→Option (Int×Int×LI×LR×LL×LL×(Option (List (ByteArray×Int)))×LR×Int×Int×Bool)) (eP:List Int→Option (A40)) (n:Nat) (x:Int×LI×LR×LL×LL×(Option (List (ByteArray×Int)))×LR×Int×Int×Bool×Int×Int×LI×LI×Bool):Option (Int×LI×LR×LL×LL×(Option (List (ByteArray×Int)))×LR×Int×Int×Bool×LI):=
 (bif x.2.2.2.2.2.2.2.2.2.1 then
 (some (x.1,x.2.1,x.2.2.1,x.2.2.2.1,x.2.2.2.2.1,x.2.2.2.2.2.1,x.2.2.2.2.2.2.1,x.2.2.2.2.2.2.2.1,x.2.2.2.2.2.2.2.2.1,x.2.2.2.2.2.2.2.2.2.1,x.2.2.2.2.2.2.2.2.2.2.1,x.2.2.2.2.2.2.2.2.2.2.2.1,x.2.2.2.2.2.2.2.2.2.2.2.2.1,x.2.2.2.2.2.2.2.2.2.2.2.2.2.1,x.2.2.2.2.2.2.2.2.2.2.2.2.2.2,true))
 else
 (some (x.1,x.2.1,x.2.2.1,x.2.2.2.1,x.2.2.2.2.1,x.2.2.2.2.2.1,x.2.2.2.2.2.2.1,x.2.2.2.2.2.2.2.1,x.2.2.2.2.2.2.2.2.1,x.2.2.2.2.2.2.2.2.2.1,x.2.2.2.2.2.2.2.2.2.2.1,x.2.2.2.2.2.2.2.2.2.2.2.1,x.2.2.2.2.2.2.2.2.2.2.2.2.1,x.2.2.2.2.2.2.2.2.2.2.2.2.2.1,x.2.2.2.2.2.2.2.2.2.2.2.2.2.2,decide (((List.length x.2.2.2.2.2.2.2.2.2.2.2.2.2.1:Nat):Int)=(0:Int))))).bind fun x1=>
 bif x1.2.2.2.2.2.2.2.2.2.2.2.2.2.2.2 then
 (some (x1.1,x1.2.1,x1.2.2.1,x1.2.2.2.1,x1.2.2.2.2.1,x1.2.2.2.2.2.1,x1.2.2.2.2.2.2.1,x1.2.2.2.2.2.2.2.1,x1.2.2.2.2.2.2.2.2.1,x1.2.2.2.2.2.2.2.2.2.1,x1.2.2.2.2.2.2.2.2.2.2.2.2.1))
 else
 (bif decide (((List.length x1.2.2.2.2.2.2.2.2.2.2.2.2.1:Nat):Int)=x1.2.2.2.2.2.2.2.2.2.2.2.1)then
 ((eP x1.2.2.2.2.2.2.2.2.2.2.2.2.1).bind fun r2=>
 (lu (x1.1,x1.2.1,x1.2.2.1,x1.2.2.2.1,x1.2.2.2.2.1,x1.2.2.2.2.2.1,x1.2.2.2.2.2.2.1,x1.2.2.2.2.2.2.2.1,x1.2.2.2.2.2.2.2.2.1,x1.2.2.2.2.2.2.2.2.2.1,x1.2.2.2.2.2.2.2.2.2.2.2.2.2.1)).bind fun r3=>
 bif decide (List.length x1.2.2.2.2.2.2.1+List.length ([(x1.2.2.2.2.2.2.2.2.2.2.1,r2.1,r3.1)]:List Ru)≤au)then
 (bif decide ((20000:Int)<((List.length (List.append x1.2.2.2.2.2.2.1 ([(x1.2.2.2.2.2.2.2.2.2.2.1,r2.1,r3.1)]:List Ru)):Nat):Int))then
 (some (r3.2.1,r3.2.2.1,r3.2.2.2.1,r3.2.2.2.2.1,r3.2.2.2.2.2.1,r3.2.2.2.2.2.2.1,List.append x1.2.2.2.2.2.2.1 ([(x1.2.2.2.2.2.2.2.2.2.2.1,r2.1,r3.1)]:List Ru),r3.2.2.2.2.2.2.2.2.1,r3.2.2.2.2.2.2.2.2.2.1,true,r2.2))
 else
 (some (r3.2.1,r3.2.2.1,r3.2.2.2.1,r3.2.2.2.2.1,r3.2.2.2.2.2.1,r3.2.2.2.2.2.2.1,List.append x1.2.2.2.2.2.2.1 ([(x1.2.2.2.2.2.2.2.2.2.2.1,r2.1,r3.1)]:List Ru),r3.2.2.2.2.2.2.2.2.1,r3.2.2.2.2.2.2.2.2.2.1,decide ((300:Int)<((List.length r3.2.2.2.2.2.1:Nat):Int)),r2.2))).bind fun x4=>
 some (x4.1,x4.2.1,x4.2.2.1,x4.2.2.2.1,x4.2.2.2.2.1,x4.2.2.2.2.2.1,x4.2.2.2.2.2.2.1,x4.2.2.2.2.2.2.2.1,x4.2.2.2.2.2.2.2.2.1,x4.2.2.2.2.2.2.2.2.2.1,x4.2.2.2.2.2.2.2.2.2.2)
 else none)
 else
 ((bif !x1.2.2.2.2.2.2.2.2.2.2.2.2.2.2.1 then
 (some (x1.1,x1.2.1,x1.2.2.1,x1.2.2.2.1,x1.2.2.2.2.1,x1.2.2.2.2.2.1,x1.2.2.2.2.2.2.1,x1.2.2.2.2.2.2.2.1,x1.2.2.2.2.2.2.2.2.1,x1.2.2.2.2.2.2.2.2.2.1,x1.2.2.2.2.2.2.2.2.2.2.1,x1.2.2.2.2.2.2.2.2.2.2.2.1,x1.2.2.2.2.2.2.2.2.2.2.2.2.1,x1.2.2.2.2.2.2.2.2.2.2.2.2.2.1,x1.2.2.2.2.2.2.2.2.2.2.2.2.2.2.1,(0:Int),decide (((List.length x1.2.2.2.2.2.2.2.2.2.2.2.2.1:Nat):Int)=(IntKind.wrap .i64 (x1.2.2.2.2.2.2.2.2.2.2.2.1-(1:Int))))))
 else
 (some (x1.1,x1.2.1,x1.2.2.1,x1.2.2.2.1,x1.2.2.2.2.1,x1.2.2.2.2.2.1,x1.2.2.2.2.2.2.1,x1.2.2.2.2.2.2.2.1,x1.2.2.2.2.2.2.2.2.1,x1.2.2.2.2.2.2.2.2.2.1,x1.2.2.2.2.2.2.2.2.2.2.1,x1.2.2.2.2.2.2.2.2.2.2.2.1,x1.2.2.2.2.2.2.2.2.2.2.2.2.1,x1.2.2.2.2.2.2.2.2.2.2.2.2.2.1,x1.2.2.2.2.2.2.2.2.2.2.2.2.2.2.1,(0:Int),false))).bind fun x5=>
 (bif x5.2.2.2.2.2.2.2.2.2.2.2.2.2.2.2.2 then
 (some (x5.1,x5.2.1,x5.2.2.1,x5.2.2.2.1,x5.2.2.2.2.1,x5.2.2.2.2.2.1,x5.2.2.2.2.2.2.1,x5.2.2.2.2.2.2.2.1,x5.2.2.2.2.2.2.2.2.1,x5.2.2.2.2.2.2.2.2.2.1,x5.2.2.2.2.2.2.2.2.2.2.1,x5.2.2.2.2.2.2.2.2.2.2.2.1,x5.2.2.2.2.2.2.2.2.2.2.2.2.1,x5.2.2.2.2.2.2.2.2.2.2.2.2.2.1,x5.2.2.2.2.2.2.2.2.2.2.2.2.2.2.1,x5.2.2.2.2.2.2.2.1))
 else
 (some (x5.1,x5.2.1,x5.2.2.1,x5.2.2.2.1,x5.2.2.2.2.1,x5.2.2.2.2.2.1,x5.2.2.2.2.2.2.1,x5.2.2.2.2.2.2.2.1,x5.2.2.2.2.2.2.2.2.1,x5.2.2.2.2.2.2.2.2.2.1,x5.2.2.2.2.2.2.2.2.2.2.1,x5.2.2.2.2.2.2.2.2.2.2.2.1,x5.2.2.2.2.2.2.2.2.2.2.2.2.1,x5.2.2.2.2.2.2.2.2.2.2.2.2.2.1,x5.2.2.2.2.2.2.2.2.2.2.2.2.2.2.1,x5.2.2.2.2.2.2.2.2.2.2.2.2.2.2.2.1))).bind fun x6=>
 (dD (bH.L2 dA n bD) n (x6.1,x6.2.1,x6.2.2.1,x6.2.2.2.1,x6.2.2.2.2.1,x6.2.2.2.2.2.1,x6.2.2.2.2.2.2.1,x6.2.2.2.2.2.2.2.1,x6.2.2.2.2.2.2.2.2.1,x6.2.2.2.2.2.2.2.2.2.1,x6.2.2.2.2.2.2.2.2.2.2.1,x6.2.2.2.2.2.2.2.2.2.2.2.1,x6.2.2.2.2.2.2.2.2.2.2.2.2.1,x6.2.2.2.2.2.2.2.2.2.2.2.2.2.1,x6.2.2.2.2.2.2.2.2.2.2.2.2.2.2.1,x6.2.2.2.2.2.2.2.2.2.2.2.2.2.2.2)).bind fun x21=>
 some (x21.1,x21.2.1,x21.2.2.1,x21.2.2.2.1,x21.2.2.2.2.1,x21.2.2.2.2.2.1,x21.2.2.2.2.2.2.1,x21.2.2.2.2.2.2.2.1,x21.2.2.2.2.2.2.2.2.1,x21.2.2.2.2.2.2.2.2.2.1,x21.2.2.2.2.2.2.2.2.2.2)))
def lq.L1 (x1:A74) (rec2:(A74)→Option (List Bool)):Option (List Bool):=
 bif decide (x1.2.2.2<x1.2.2.1)then
 ((nth? x1.2.1 x1.2.2.2).bind fun e3=>
 bif decide (0≤e3)&&decide (e3<((List.length x1.1:Nat):Int))then
 (at? x1.1 (Int.toNat e3)).bind fun e4=>
 rec2 (List.set x1.1 (Int.toNat e3) true,x1.2.1,x1.2.2.1,IntKind.wrap .i64 (x1.2.2.2+(1:Int)))
 else none)
 else
 (some x1.1)
def lq.P (n:Nat) (x:A1):Option (List Bool):=
 bif decide (0≤x.1)&&decide (x.1≤x.1)&&decide (x.1≤((au:Nat):Int))then
 (dD (lq.L1) n (List.replicate (Int.toNat x.1) (false:Bool),x.2.1,((List.length x.2.1:Nat):Int),(0:Int))).bind fun x5=>
 some x5
 else none
def gQ.L1 (dA:(A12)→Option Bool) (x1:A18) (rec2:(A18)→Option LI):Option LI:=
 bif decide (x1.2.2.2<x1.2.2.1)then
 ((dA (x1.1,x1.2.2.2)).bind fun r3=>
 (bif r3 then
 (bif decide (List.length x1.2.1+List.length ([x1.2.2.2]:List Int)≤au)then
 some (x1.1,List.append x1.2.1 ([x1.2.2.2]:List Int),x1.2.2.1,x1.2.2.2)
 else none)
 else
 (some (x1.1,x1.2.1,x1.2.2.1,x1.2.2.2))).bind fun x4=>
 rec2 (x4.1,x4.2.1,x4.2.2.1,IntKind.wrap .i64 (x4.2.2.2+(1:Int))))
 else
 (some x1.2.1)
def gQ.P (dA:(A12)→Option Bool) (n:Nat) (x:List Int):Option LI:=
 (dD (gQ.L1 dA) n (x,([]:List Int),IntKind.wrap .i64 ((64:Int)*((List.length x:Nat):Int)),(0:Int))).bind fun x5=>
 some x5
def oQ.P (n:Nat) (x:A14):Option Bool:=
 (nth? x.2 x.1).bind fun e1=>
 some e1
def bJ.L1 (jG:(A14)→Option Bool) (x1:A19) (rec2:(A19)→Option (Sum Unit Int)):Option (Sum Unit Int):=
 bif decide (x1.2.2.2<x1.2.2.1)then
 ((nth? x1.1 x1.2.2.2).bind fun e3=>
 (jG (e3,x1.2.1)).bind fun r4=>
 bif r4 then
 ((some x1.2.2.2).bind fun r=>some (Sum.inr r))
 else
 (rec2 (x1.1,x1.2.1,x1.2.2.1,IntKind.wrap .i64 (x1.2.2.2+(1:Int)))))
 else
 (some (Sum.inl ()))
def bJ.P (jG:(A14)→Option Bool) (n:Nat) (x:A4):Option Int:=
 (dD (bJ.L1 jG) n (x.1,x.2,((List.length x.1:Nat):Int),(0:Int))).bind fun q=>match q with
 |Sum.inl x5=>(some (-1:Int))
 |Sum.inr r=>some r
def dh.P (bU:(A4)→Option Int) (n:Nat) (x:A4):Option Bool:=
 (bU (x.1,x.2)).bind fun r1=>
 some (decide ((0:Int)≤r1))
end Go.Bk
end
noncomputable section
namespace Go.Bk
open Go Go.AM
set_option maxRecDepth 100000
set_option linter.unusedVariables false
def dH.L1 (bD:(Int×LI×LR×LL×LL×(Option (List (ByteArray×Int)))×LR×Int×Int×Bool×Int×Int×LI×LI×Bool)→Option (Int×LI×LR×LL×LL×(Option (List (ByteArray×Int)))×LR×Int×Int×Bool×LI)) (x6:LI×Int×LI×LR×Int×LI×LR×Int×Int×LI×LR×LL×LL×(Option (List (ByteArray×Int)))×LR×Int×Int×Bool×LI×Int×Int) (rec7:(LI×Int×LI×LR×Int×LI×LR×Int×Int×LI×LR×LL×LL×(Option (List (ByteArray×Int)))×LR×Int×Int×Bool×LI×Int×Int)→Option (LI×Int×LI×LR×Int×LI×LR×Int×Int×LI×LR×LL×LL×(Option (List (ByteArray×Int)))×LR×Int×Int×Bool)):Option (LI×Int×LI×LR×Int×LI×LR×Int×Int×LI×LR×LL×LL×(Option (List (ByteArray×Int)))×LR×Int×Int×Bool):=
 bif decide (x6.2.2.2.2.2.2.2.2.2.2.2.2.2.2.2.2.2.2.2.2<x6.2.2.2.2.2.2.2.2.2.2.2.2.2.2.2.2.2.2.2.1)then
 ((nth? x6.2.2.2.2.2.2.2.2.2.2.2.2.2.2.2.2.2.2.1 x6.2.2.2.2.2.2.2.2.2.2.2.2.2.2.2.2.2.2.2.2).bind fun e8=>
 (bif (decide (e8=(0:Int)))==(decide (x6.2.2.2.2.2.2.2.1=(0:Int)))then
 ((nth? x6.2.2.2.2.2.2.2.2.2.2.2.1 x6.2.2.2.2.2.2.2.2.2.2.2.2.2.2.2.2.2.2.2.2).bind fun e9=>
 (bD (x6.2.2.2.2.2.2.2.2.1,x6.2.2.2.2.2.2.2.2.2.1,x6.2.2.2.2.2.2.2.2.2.2.1,x6.2.2.2.2.2.2.2.2.2.2.2.1,x6.2.2.2.2.2.2.2.2.2.2.2.2.1,x6.2.2.2.2.2.2.2.2.2.2.2.2.2.1,x6.2.2.2.2.2.2.2.2.2.2.2.2.2.2.1,x6.2.2.2.2.2.2.2.2.2.2.2.2.2.2.2.1,x6.2.2.2.2.2.2.2.2.2.2.2.2.2.2.2.2.1,x6.2.2.2.2.2.2.2.2.2.2.2.2.2.2.2.2.2.1,x6.2.2.2.2.2.2.2.2.2.2.2.2.2.2.2.2.2.2.2.2,e8,([]:List Int),e9,decide (e8=(0:Int)))).bind fun r10=>
 some (x6.1,x6.2.1,x6.2.2.1,x6.2.2.2.1,x6.2.2.2.2.1,x6.2.2.2.2.2.1,x6.2.2.2.2.2.2.1,x6.2.2.2.2.2.2.2.1,r10.1,r10.2.1,r10.2.2.1,r10.2.2.2.1,r10.2.2.2.2.1,r10.2.2.2.2.2.1,r10.2.2.2.2.2.2.1,r10.2.2.2.2.2.2.2.1,r10.2.2.2.2.2.2.2.2.1,r10.2.2.2.2.2.2.2.2.2.1,x6.2.2.2.2.2.2.2.2.2.2.2.2.2.2.2.2.2.2.1,x6.2.2.2.2.2.2.2.2.2.2.2.2.2.2.2.2.2.2.2.1,x6.2.2.2.2.2.2.2.2.2.2.2.2.2.2.2.2.2.2.2.2))
 else
 (some (x6.1,x6.2.1,x6.2.2.1,x6.2.2.2.1,x6.2.2.2.2.1,x6.2.2.2.2.2.1,x6.2.2.2.2.2.2.1,x6.2.2.2.2.2.2.2.1,x6.2.2.2.2.2.2.2.2.1,x6.2.2.2.2.2.2.2.2.2.1,x6.2.2.2.2.2.2.2.2.2.2.1,x6.2.2.2.2.2.2.2.2.2.2.2.1,x6.2.2.2.2.2.2.2.2.2.2.2.2.1,x6.2.2.2.2.2.2.2.2.2.2.2.2.2.1,x6.2.2.2.2.2.2.2.2.2.2.2.2.2.2.1,x6.2.2.2.2.2.2.2.2.2.2.2.2.2.2.2.1,x6.2.2.2.2.2.2.2.2.2.2.2.2.2.2.2.2.1,x6.2.2.2.2.2.2.2.2.2.2.2.2.2.2.2.2.2.1,x6.2.2.2.2.2.2.2.2.2.2.2.2.2.2.2.2.2.2.1,x6.2.2.2.2.2.2.2.2.2.2.2.2.2.2.2.2.2.2.2.1,x6.2.2.2.2.2.2.2.2.2.2.2.2.2.2.2.2.2.2.2.2))).bind fun x11=>
 rec7 (x11.1,x11.2.1,x11.2.2.1,x11.2.2.2.1,x11.2.2.2.2.1,x11.2.2.2.2.2.1,x11.2.2.2.2.2.2.1,x11.2.2.2.2.2.2.2.1,x11.2.2.2.2.2.2.2.2.1,x11.2.2.2.2.2.2.2.2.2.1,x11.2.2.2.2.2.2.2.2.2.2.1,x11.2.2.2.2.2.2.2.2.2.2.2.1,x11.2.2.2.2.2.2.2.2.2.2.2.2.1,x11.2.2.2.2.2.2.2.2.2.2.2.2.2.1,x11.2.2.2.2.2.2.2.2.2.2.2.2.2.2.1,x11.2.2.2.2.2.2.2.2.2.2.2.2.2.2.2.1,x11.2.2.2.2.2.2.2.2.2.2.2.2.2.2.2.2.1,x11.2.2.2.2.2.2.2.2.2.2.2.2.2.2.2.2.2.1,x11.2.2.2.2.2.2.2.2.2.2.2.2.2.2.2.2.2.2.1,x11.2.2.2.2.2.2.2.2.2.2.2.2.2.2.2.2.2.2.2.1,IntKind.wrap .i64 (x11.2.2.2.2.2.2.2.2.2.2.2.2.2.2.2.2.2.2.2.2+(1:Int))))
 else
 (some (x6.1,x6.2.1,x6.2.2.1,x6.2.2.2.1,x6.2.2.2.2.1,x6.2.2.2.2.2.1,x6.2.2.2.2.2.2.1,x6.2.2.2.2.2.2.2.1,x6.2.2.2.2.2.2.2.2.1,x6.2.2.2.2.2.2.2.2.2.1,x6.2.2.2.2.2.2.2.2.2.2.1,x6.2.2.2.2.2.2.2.2.2.2.2.1,x6.2.2.2.2.2.2.2.2.2.2.2.2.1,x6.2.2.2.2.2.2.2.2.2.2.2.2.2.1,x6.2.2.2.2.2.2.2.2.2.2.2.2.2.2.1,x6.2.2.2.2.2.2.2.2.2.2.2.2.2.2.2.1,x6.2.2.2.2.2.2.2.2.2.2.2.2.2.2.2.2.1,x6.2.2.2.2.2.2.2.2.2.2.2.2.2.2.2.2.2.1))
def dH.L2 (bD:(Int×LI×LR×LL×LL×(Option (List (ByteArray×Int)))×LR×Int×Int×Bool×Int×Int×LI×LI×Bool)→Option (Int×LI×LR×LL×LL×(Option (List (ByteArray×Int)))×LR×Int×Int×Bool×LI)) (n:Nat) (x3:LI×Int×LI×LR×Int×LI×LR×Int×Int×LI×LR×LL×LL×(Option (List (ByteArray×Int)))×LR×Int×Int×Bool) (rec4:(LI×Int×LI×LR×Int×LI×LR×Int×Int×LI×LR×LL×LL×(Option (List (ByteArray×Int)))×LR×Int×Int×Bool)→Option (Sum (Int×LI×LR×Int×LI×LR×Int×LI×LR×LL×LL×(Option (List (ByteArray×Int)))×LR×Int×Int×Bool) (A45))):Option (Sum (Int×LI×LR×Int×LI×LR×Int×LI×LR×LL×LL×(Option (List (ByteArray×Int)))×LR×Int×Int×Bool) (A45)):=
 (bif decide (x3.2.2.2.2.2.2.2.1=(0:Int))then
 (some (x3.1,x3.2.1,x3.2.2.1,x3.2.2.2.1,x3.2.2.2.2.1,x3.2.2.2.2.2.1,x3.2.2.2.2.2.2.1,x3.2.2.2.2.2.2.2.1,x3.2.2.2.2.2.2.2.2.1,x3.2.2.2.2.2.2.2.2.2.1,x3.2.2.2.2.2.2.2.2.2.2.1,x3.2.2.2.2.2.2.2.2.2.2.2.1,x3.2.2.2.2.2.2.2.2.2.2.2.2.1,x3.2.2.2.2.2.2.2.2.2.2.2.2.2.1,x3.2.2.2.2.2.2.2.2.2.2.2.2.2.2.1,x3.2.2.2.2.2.2.2.2.2.2.2.2.2.2.2.1,x3.2.2.2.2.2.2.2.2.2.2.2.2.2.2.2.2.1,x3.2.2.2.2.2.2.2.2.2.2.2.2.2.2.2.2.2,true))
 else
 (some (x3.1,x3.2.1,x3.2.2.1,x3.2.2.2.1,x3.2.2.2.2.1,x3.2.2.2.2.2.1,x3.2.2.2.2.2.2.1,x3.2.2.2.2.2.2.2.1,x3.2.2.2.2.2.2.2.2.1,x3.2.2.2.2.2.2.2.2.2.1,x3.2.2.2.2.2.2.2.2.2.2.1,x3.2.2.2.2.2.2.2.2.2.2.2.1,x3.2.2.2.2.2.2.2.2.2.2.2.2.1,x3.2.2.2.2.2.2.2.2.2.2.2.2.2.1,x3.2.2.2.2.2.2.2.2.2.2.2.2.2.2.1,x3.2.2.2.2.2.2.2.2.2.2.2.2.2.2.2.1,x3.2.2.2.2.2.2.2.2.2.2.2.2.2.2.2.2.1,x3.2.2.2.2.2.2.2.2.2.2.2.2.2.2.2.2.2,decide (x3.2.2.2.2.2.2.2.2.2.2.2.2.2.2.2.1<x3.2.2.2.2.2.2.2.2.2.2.2.2.2.2.2.2.1)))).bind fun x5=>
 bif x5.2.2.2.2.2.2.2.2.2.2.2.2.2.2.2.2.2.2 then
 ((dD (dH.L1 bD) n (x5.1,x5.2.1,x5.2.2.1,x5.2.2.2.1,x5.2.2.2.2.1,x5.2.2.2.2.2.1,x5.2.2.2.2.2.2.1,x5.2.2.2.2.2.2.2.1,x5.2.2.2.2.2.2.2.2.1,x5.2.2.2.2.2.2.2.2.2.1,x5.2.2.2.2.2.2.2.2.2.2.1,x5.2.2.2.2.2.2.2.2.2.2.2.1,x5.2.2.2.2.2.2.2.2.2.2.2.2.1,x5.2.2.2.2.2.2.2.2.2.2.2.2.2.1,x5.2.2.2.2.2.2.2.2.2.2.2.2.2.2.1,x5.2.2.2.2.2.2.2.2.2.2.2.2.2.2.2.1,x5.2.2.2.2.2.2.2.2.2.2.2.2.2.2.2.2.1,x5.2.2.2.2.2.2.2.2.2.2.2.2.2.2.2.2.2.1,x5.1,((List.length x5.1:Nat):Int),(0:Int))).bind fun x12=>
 bif x12.2.2.2.2.2.2.2.2.2.2.2.2.2.2.2.2.2 then
 ((some ((0:Int),([]:List Int),([]:List Ru),([]:List LI),(3:Int))).bind fun r=>some (Sum.inr r))
 else
 (rec4 (x12.1,x12.2.1,x12.2.2.1,x12.2.2.2.1,x12.2.2.2.2.1,x12.2.2.2.2.2.1,x12.2.2.2.2.2.2.1,IntKind.wrap .i64 (x12.2.2.2.2.2.2.2.1+(1:Int)),x12.2.2.2.2.2.2.2.2.1,x12.2.2.2.2.2.2.2.2.2.1,x12.2.2.2.2.2.2.2.2.2.2.1,x12.2.2.2.2.2.2.2.2.2.2.2.1,x12.2.2.2.2.2.2.2.2.2.2.2.2.1,x12.2.2.2.2.2.2.2.2.2.2.2.2.2.1,x12.2.2.2.2.2.2.2.2.2.2.2.2.2.2.1,x12.2.2.2.2.2.2.2.2.2.2.2.2.2.2.2.2.1,((List.length x12.2.2.2.2.2.2.2.2.2.2.2.2.1:Nat):Int),x12.2.2.2.2.2.2.2.2.2.2.2.2.2.2.2.2.2)))
 else
 (some (Sum.inl (x5.2.1,x5.2.2.1,x5.2.2.2.1,x5.2.2.2.2.1,x5.2.2.2.2.2.1,x5.2.2.2.2.2.2.1,x5.2.2.2.2.2.2.2.2.1,x5.2.2.2.2.2.2.2.2.2.1,x5.2.2.2.2.2.2.2.2.2.2.1,x5.2.2.2.2.2.2.2.2.2.2.2.1,x5.2.2.2.2.2.2.2.2.2.2.2.2.1,x5.2.2.2.2.2.2.2.2.2.2.2.2.2.1,x5.2.2.2.2.2.2.2.2.2.2.2.2.2.2.1,x5.2.2.2.2.2.2.2.2.2.2.2.2.2.2.2.1,x5.2.2.2.2.2.2.2.2.2.2.2.2.2.2.2.2.1,x5.2.2.2.2.2.2.2.2.2.2.2.2.2.2.2.2.2.1)))
def dH.L3 (iP:List Int→Option LI) (aN:(A4)→Option Bool) (x16:Int×LI×LR×Int×LI×LR×(List Bool)×LL×Int×LI×LR×LL×LL×(Option (List (ByteArray×Int)))×LR×Int×Int×Bool×Int×Int) (rec17:(Int×LI×LR×Int×LI×LR×(List Bool)×LL×Int×LI×LR×LL×LL×(Option (List (ByteArray×Int)))×LR×Int×Int×Bool×Int×Int)→Option (A68)):Option (A68):=
 bif decide (x16.2.2.2.2.2.2.2.2.2.2.2.2.2.2.2.2.2.2.2<x16.2.2.2.2.2.2.2.2.2.2.2.2.2.2.2.2.2.2.1)then
 (bif decide (0≤x16.2.2.2.2.2.2.2.2.2.2.2.2.2.2.2.2.2.2.2)&&decide (x16.2.2.2.2.2.2.2.2.2.2.2.2.2.2.2.2.2.2.2<((List.length x16.2.2.2.2.2.2.2.2.2.2.2.2.1:Nat):Int))then
 (at? x16.2.2.2.2.2.2.2.2.2.2.2.2.1 (Int.toNat x16.2.2.2.2.2.2.2.2.2.2.2.2.2.2.2.2.2.2.2)).bind fun e18=>
 (iP e18).bind fun r19=>
 bif decide (List.length x16.2.2.2.2.2.2.2.1+List.length ([r19]:List LI)≤au)then
 (aN (r19,x16.2.2.2.2.2.2.1)).bind fun r20=>
 (bif r20 then
 (bif decide (List.length x16.2.2.2.2.1+List.length ([x16.2.2.2.2.2.2.2.2.2.2.2.2.2.2.2.2.2.2.2]:List Int)≤au)then
 some (x16.1,x16.2.1,x16.2.2.1,x16.2.2.2.1,List.append x16.2.2.2.2.1 ([x16.2.2.2.2.2.2.2.2.2.2.2.2.2.2.2.2.2.2.2]:List Int),x16.2.2.2.2.2.1,x16.2.2.2.2.2.2.1,List.append x16.2.2.2.2.2.2.2.1 ([r19]:List LI),x16.2.2.2.2.2.2.2.2.1,x16.2.2.2.2.2.2.2.2.2.1,x16.2.2.2.2.2.2.2.2.2.2.1,x16.2.2.2.2.2.2.2.2.2.2.2.1,x16.2.2.2.2.2.2.2.2.2.2.2.2.1,x16.2.2.2.2.2.2.2.2.2.2.2.2.2.1,x16.2.2.2.2.2.2.2.2.2.2.2.2.2.2.1,x16.2.2.2.2.2.2.2.2.2.2.2.2.2.2.2.1,x16.2.2.2.2.2.2.2.2.2.2.2.2.2.2.2.2.1,x16.2.2.2.2.2.2.2.2.2.2.2.2.2.2.2.2.2.1,x16.2.2.2.2.2.2.2.2.2.2.2.2.2.2.2.2.2.2.1,x16.2.2.2.2.2.2.2.2.2.2.2.2.2.2.2.2.2.2.2)
 else none)
 else
 (some (x16.1,x16.2.1,x16.2.2.1,x16.2.2.2.1,x16.2.2.2.2.1,x16.2.2.2.2.2.1,x16.2.2.2.2.2.2.1,List.append x16.2.2.2.2.2.2.2.1 ([r19]:List LI),x16.2.2.2.2.2.2.2.2.1,x16.2.2.2.2.2.2.2.2.2.1,x16.2.2.2.2.2.2.2.2.2.2.1,x16.2.2.2.2.2.2.2.2.2.2.2.1,x16.2.2.2.2.2.2.2.2.2.2.2.2.1,x16.2.2.2.2.2.2.2.2.2.2.2.2.2.1,x16.2.2.2.2.2.2.2.2.2.2.2.2.2.2.1,x16.2.2.2.2.2.2.2.2.2.2.2.2.2.2.2.1,x16.2.2.2.2.2.2.2.2.2.2.2.2.2.2.2.2.1,x16.2.2.2.2.2.2.2.2.2.2.2.2.2.2.2.2.2.1,x16.2.2.2.2.2.2.2.2.2.2.2.2.2.2.2.2.2.2.1,x16.2.2.2.2.2.2.2.2.2.2.2.2.2.2.2.2.2.2.2))).bind fun x21=>
 rec17 (x21.1,x21.2.1,x21.2.2.1,x21.2.2.2.1,x21.2.2.2.2.1,x21.2.2.2.2.2.1,x21.2.2.2.2.2.2.1,x21.2.2.2.2.2.2.2.1,x21.2.2.2.2.2.2.2.2.1,x21.2.2.2.2.2.2.2.2.2.1,x21.2.2.2.2.2.2.2.2.2.2.1,x21.2.2.2.2.2.2.2.2.2.2.2.1,x21.2.2.2.2.2.2.2.2.2.2.2.2.1,x21.2.2.2.2.2.2.2.2.2.2.2.2.2.1,x21.2.2.2.2.2.2.2.2.2.2.2.2.2.2.1,x21.2.2.2.2.2.2.2.2.2.2.2.2.2.2.2.1,x21.2.2.2.2.2.2.2.2.2.2.2.2.2.2.2.2.1,x21.2.2.2.2.2.2.2.2.2.2.2.2.2.2.2.2.2.1,x21.2.2.2.2.2.2.2.2.2.2.2.2.2.2.2.2.2.2.1,IntKind.wrap .i64 (x21.2.2.2.2.2.2.2.2.2.2.2.2.2.2.2.2.2.2.2+(1:Int)))
 else none
 else none)
 else
 (some (x16.1,x16.2.1,x16.2.2.1,x16.2.2.2.1,x16.2.2.2.2.1,x16.2.2.2.2.2.1,x16.2.2.2.2.2.2.2.1))
def dH.P (pX:(A0)→Option LL) (kJ:(A1)→Option (List Bool)) (gU:List Ru→Option LR) (dP:(A0)→Option Bool) (iP:List Int→Option LI) (bD:(Int×LI×LR×LL×LL×(Option (List (ByteArray×Int)))×LR×Int×Int×Bool×Int×Int×LI×LI×Bool)→Option (Int×LI×LR×LL×LL×(Option (List (ByteArray×Int)))×LR×Int×Int×Bool×LI)) (aN:(A4)→Option Bool) (n:Nat) (x:A0):Option (A45):=
 (dP (x.1,x.2.1,x.2.2.1,x.2.2.2)).bind fun r1=>
 bif !r1 then
 (some ((0:Int),([]:List Int),([]:List Ru),([]:List LI),(1:Int)))
 else
 ((pX (x.1,x.2.1,x.2.2.1,x.2.2.2)).bind fun r2=>
 (dD (dH.L2 bD n) n (x.1,x.2.1,x.2.2.1,x.2.2.2,(0:Int),([]:List Int),([]:List Ru),(0:Int),x.2.1,x.2.2.1,x.2.2.2,r2,([]:List LI),(some []:Option (List (ByteArray×Int))),([]:List Ru),(0:Int),(0:Int),false)).bind fun q=>match q with
 |Sum.inl x13=>((gU x13.2.2.2.2.2.2.2.2.2.2.2.2.1).bind fun r14=>
 (kJ (x13.1,x13.2.1,x13.2.2.1)).bind fun r15=>
 (dD (dH.L3 iP aN) n (x13.2.2.2.1,x13.2.2.2.2.1,x13.2.2.2.2.2.1,((List.length x13.2.2.2.2.2.2.2.2.2.2.1:Nat):Int),([]:List Int),r14,r15,([]:List LI),x13.2.2.2.2.2.2.1,x13.2.2.2.2.2.2.2.1,x13.2.2.2.2.2.2.2.2.1,x13.2.2.2.2.2.2.2.2.2.1,x13.2.2.2.2.2.2.2.2.2.2.1,x13.2.2.2.2.2.2.2.2.2.2.2.1,x13.2.2.2.2.2.2.2.2.2.2.2.2.1,x13.2.2.2.2.2.2.2.2.2.2.2.2.2.1,x13.2.2.2.2.2.2.2.2.2.2.2.2.2.2.1,x13.2.2.2.2.2.2.2.2.2.2.2.2.2.2.2,((List.length x13.2.2.2.2.2.2.2.2.2.2.1:Nat):Int),(0:Int))).bind fun x22=>
 some (x22.2.2.2.1,x22.2.2.2.2.1,x22.2.2.2.2.2.1,x22.2.2.2.2.2.2,(0:Int)))
 |Sum.inr r=>some r)
def xX.P (vw:(A1)→Option (A1)) (jI:(A0)→Option (A30)) (uH:(A0)→Option (A23)) (mX:(A0)→Option (A45)) (n:Nat) (x:A0):Option (A23):=
 (jI (x.1,x.2.1,x.2.2.1,x.2.2.2)).bind fun r1=>
 bif !decide (r1.2=(0:Int))then
 (some ((0:Int),([]:List Int),([]:List Ru),r1.2))
 else
 (bif r1.1 then
 ((vw (x.2.1,x.2.2.1,x.2.2.2)).bind fun r2=>
 some (r2.1,r2.2.1,r2.2.2,(0:Int)))
 else
 ((uH (x.1,x.2.1,x.2.2.1,x.2.2.2)).bind fun r3=>
 bif !decide (r3.2.2.2=(0:Int))then
 (some ((0:Int),([]:List Int),([]:List Ru),r3.2.2.2))
 else
 ((mX (x.1,r3.1,r3.2.1,r3.2.2.1)).bind fun r4=>
 some (r4.1,r4.2.1,r4.2.2.1,r4.2.2.2.2))))
def xC.P (lW:(A31)→Option (A1)) (jK:(A1)→Option (List Bool)) (n:Nat) (x:A1):Option (A1):=
 (jK (x.1,x.2.1,x.2.2)).bind fun r1=>
 (lW (x.1,x.2.1,x.2.2,r1)).bind fun r2=>
 some (r2.1,r2.2.1,r2.2.2)
def kF.L1 (x1:(Option (List (A30)))×LI×(List Bool)×Int×Int) (rec2:((Option (List (A30)))×LI×(List Bool)×Int×Int)→Option ((Option (List (A30)))×LI)):Option ((Option (List (A30)))×LI):=
 bif decide (x1.2.2.2.2<x1.2.2.2.1)then
 ((nth? x1.2.2.1 x1.2.2.2.2).bind fun e3=>
 (bif !(Option.isSome (nV acN e3 (mD x1.1)))then
 ((x1.1).bind fun m4=>
 some (some (ED acN e3 ((U4 x1.1:Nat):Int) m4),x1.2.1,((U4 x1.1:Nat):Int),x1.2.2.1,x1.2.2.2.1,x1.2.2.2.2))
 else
 (some (x1.1,x1.2.1,Option.getD (nV acN e3 (mD x1.1)) (0:Int),x1.2.2.1,x1.2.2.2.1,x1.2.2.2.2))).bind fun x5=>
 bif decide (List.length x5.2.1+List.length ([x5.2.2.1]:List Int)≤au)then
 rec2 (x5.1,List.append x5.2.1 ([x5.2.2.1]:List Int),x5.2.2.2.1,x5.2.2.2.2.1,IntKind.wrap .i64 (x5.2.2.2.2.2+(1:Int)))
 else none)
 else
 (some (x1.1,x1.2.1))
def kF.P (n:Nat) (x:List Bool):Option (A12):=
 (dD (kF.L1) n ((some []:Option (List (A30))),([]:List Int),x,((List.length x:Nat):Int),(0:Int))).bind fun x6=>
 some (x6.2,((U4 x6.1:Nat):Int))
def Ep.P (kE:(A52)→Option ByteArray) (n:Nat) (x:A52):Option ByteArray:=
 (kE (x.1,x.2)).bind fun r1=>
 some r1
def gy.L1 (aY:List Int→Option LI) (mY:(A52)→Option ByteArray) (x4:(Option (List (ByteArray×Int)))×(List (Option (List (A7))))×Int×LI×Int×LR×Int×Int×LI×Int×Int) (rec5:((Option (List (ByteArray×Int)))×(List (Option (List (A7))))×Int×LI×Int×LR×Int×Int×LI×Int×Int)→Option ((Option (List (ByteArray×Int)))×(List (Option (List (A7))))×LR×Int×Int)):Option ((Option (List (ByteArray×Int)))×(List (Option (List (A7))))×LR×Int×Int):=
 bif decide (x4.2.2.2.2.2.2.2.2.2.2<x4.2.2.2.2.2.2.2.2.2.1)then
 ((nth? x4.2.2.2.2.2.2.2.2.1 x4.2.2.2.2.2.2.2.2.2.2).bind fun e6=>
 (aY x4.2.2.2.1).bind fun r7=>
 bif decide (0≤x4.2.2.2.2.2.2.2.2.2.2)&&decide (x4.2.2.2.2.2.2.2.2.2.2<((List.length r7:Nat):Int))then
 (at? r7 (Int.toNat x4.2.2.2.2.2.2.2.2.2.2)).bind fun e8=>
 (mY (x4.2.2.1,List.set r7 (Int.toNat x4.2.2.2.2.2.2.2.2.2.2) (-1:Int))).bind fun r9=>
 (bif !(Option.isSome (nV seq r9 (mD x4.1)))then
 ((x4.1).bind fun m10=>
 some (some (ED seq r9 ((U4 x4.1:Nat):Int) m10),x4.2.1,x4.2.2.1,x4.2.2.2.1,x4.2.2.2.2.1,e6,((U4 x4.1:Nat):Int),x4.2.2.2.2.2.1,x4.2.2.2.2.2.2.1,x4.2.2.2.2.2.2.2.1,x4.2.2.2.2.2.2.2.2.1,x4.2.2.2.2.2.2.2.2.2.1,x4.2.2.2.2.2.2.2.2.2.2))
 else
 (some (x4.1,x4.2.1,x4.2.2.1,x4.2.2.2.1,x4.2.2.2.2.1,e6,Option.getD (nV seq r9 (mD x4.1)) (0:Int),x4.2.2.2.2.2.1,x4.2.2.2.2.2.2.1,x4.2.2.2.2.2.2.2.1,x4.2.2.2.2.2.2.2.2.1,x4.2.2.2.2.2.2.2.2.2.1,x4.2.2.2.2.2.2.2.2.2.2))).bind fun x11=>
 bif decide (0≤x11.2.2.2.2.2.1)&&decide (x11.2.2.2.2.2.1<((List.length x11.2.1:Nat):Int))then
 (rowAt? x11.2.1 (Int.toNat x11.2.2.2.2.2.1)).bind fun e12=>
 (rowAt? x11.2.1 (Int.toNat x11.2.2.2.2.2.1)).bind fun e13=>
 bif decide (List.length e13+List.length ([(x11.2.2.2.2.2.2.1,x11.2.2.2.2.1)]:List (A7))≤au)then
 bif decide (0≤x11.2.2.2.2.2.1)&&decide (x11.2.2.2.2.2.1<((List.length (List.set x11.2.1 (Int.toNat x11.2.2.2.2.2.1) none):Nat):Int))then
 rec5 (x11.1,List.set (List.set x11.2.1 (Int.toNat x11.2.2.2.2.2.1) none) (Int.toNat x11.2.2.2.2.2.1) (some (List.append e13 ([(x11.2.2.2.2.2.2.1,x11.2.2.2.2.1)]:List (A7)))),x11.2.2.1,x11.2.2.2.1,x11.2.2.2.2.1,x11.2.2.2.2.2.2.2.1,x11.2.2.2.2.2.2.2.2.1,x11.2.2.2.2.2.2.2.2.2.1,x11.2.2.2.2.2.2.2.2.2.2.1,x11.2.2.2.2.2.2.2.2.2.2.2.1,IntKind.wrap .i64 (x11.2.2.2.2.2.2.2.2.2.2.2.2+(1:Int)))
 else none
 else none
 else none
 else none)
 else
 (some (x4.1,x4.2.1,x4.2.2.2.2.2.1,x4.2.2.2.2.2.2.1,x4.2.2.2.2.2.2.2.1))
def gy.L2 (aY:List Int→Option LI) (mY:(A52)→Option ByteArray) (n:Nat) (x1:(Option (List (ByteArray×Int)))×(List (Option (List (A7))))×LR×Int×Int) (rec2:((Option (List (ByteArray×Int)))×(List (Option (List (A7))))×LR×Int×Int)→Option (List (Option (List (A7))))):Option (List (Option (List (A7)))):=
 bif decide (x1.2.2.2.2<x1.2.2.2.1)then
 ((nth? x1.2.2.1 x1.2.2.2.2).bind fun e3=>
 (dD (gy.L1 aY mY) n (x1.1,x1.2.1,e3.1,e3.2.1,e3.2.2,x1.2.2.1,x1.2.2.2.1,x1.2.2.2.2,e3.2.1,((List.length e3.2.1:Nat):Int),(0:Int))).bind fun x14=>
 rec2 (x14.1,x14.2.1,x14.2.2.1,x14.2.2.2.1,IntKind.wrap .i64 (x14.2.2.2.2+(1:Int))))
 else
 (some x1.2.1)
def gy.L3 (aJ:List (A7)→Option (List (A7))) (x16:(List (Option (List (A7))))×Int×Int) (rec17:((List (Option (List (A7))))×Int×Int)→Option (List (Option (List (A7))))):Option (List (Option (List (A7)))):=
 bif decide (x16.2.2<x16.2.1)then
 (bif decide (0≤x16.2.2)&&decide (x16.2.2<((List.length x16.1:Nat):Int))then
 (rowAt? x16.1 (Int.toNat x16.2.2)).bind fun e18=>
 (rowAt? x16.1 (Int.toNat x16.2.2)).bind fun e19=>
 (aJ e19).bind fun r20=>
 rec17 (List.set (List.set x16.1 (Int.toNat x16.2.2) none) (Int.toNat x16.2.2) (some r20),x16.2.1,IntKind.wrap .i64 (x16.2.2+(1:Int)))
 else none)
 else
 (some x16.1)
def gy.P (mY:(A52)→Option ByteArray) (aY:List Int→Option LI) (aJ:List (A7)→Option (List (A7))) (n:Nat) (x:A1):Option (List (Option (List (A7)))):=
 bif decide (0≤x.1)&&decide (x.1≤x.1)&&decide (x.1≤((au:Nat):Int))then
 (dD (gy.L2 aY mY n) n ((some []:Option (List (ByteArray×Int))),List.replicate (Int.toNat x.1) (some ([]:List (A7))),x.2.2,((List.length x.2.2:Nat):Int),(0:Int))).bind fun x15=>
 (dD (gy.L3 aJ) n (x15,((List.length x15:Nat):Int),(0:Int))).bind fun x21=>
 some x21
 else none
def jE.L1 (x1:(Option (List (ByteArray×Int)))×LI×(List ByteArray)×Int×Int) (rec2:((Option (List (ByteArray×Int)))×LI×(List ByteArray)×Int×Int)→Option ((Option (List (ByteArray×Int)))×LI)):Option ((Option (List (ByteArray×Int)))×LI):=
 bif decide (x1.2.2.2.2<x1.2.2.2.1)then
 ((nth? x1.2.2.1 x1.2.2.2.2).bind fun e3=>
 (bif !(Option.isSome (nV seq e3 (mD x1.1)))then
 ((x1.1).bind fun m4=>
 some (some (ED seq e3 ((U4 x1.1:Nat):Int) m4),x1.2.1,((U4 x1.1:Nat):Int),x1.2.2.1,x1.2.2.2.1,x1.2.2.2.2))
 else
 (some (x1.1,x1.2.1,Option.getD (nV seq e3 (mD x1.1)) (0:Int),x1.2.2.1,x1.2.2.2.1,x1.2.2.2.2))).bind fun x5=>
 bif decide (List.length x5.2.1+List.length ([x5.2.2.1]:List Int)≤au)then
 rec2 (x5.1,List.append x5.2.1 ([x5.2.2.1]:List Int),x5.2.2.2.1,x5.2.2.2.2.1,IntKind.wrap .i64 (x5.2.2.2.2.2+(1:Int)))
 else none)
 else
 (some (x1.1,x1.2.1))
def jE.P (n:Nat) (x:List ByteArray):Option (A12):=
 (dD (jE.L1) n ((some []:Option (List (ByteArray×Int))),([]:List Int),x,((List.length x:Nat):Int),(0:Int))).bind fun x6=>
 some (x6.2,((U4 x6.1:Nat):Int))
def dL.L1 (aW:(A9)→Option LI) (x12:Int×LI×LR×LI×Int×(List (List (A7)))×(List ByteArray)×Int×LI×Int×Int×(List (A7))×Int×Int) (rec13:(Int×LI×LR×LI×Int×(List (List (A7)))×(List ByteArray)×Int×LI×Int×Int×(List (A7))×Int×Int)→Option (Int×LI×LR×LI×Int×(List (List (A7)))×(List ByteArray)×Int×LI×Int×Int)):Option (Int×LI×LR×LI×Int×(List (List (A7)))×(List ByteArray)×Int×LI×Int×Int):=
 bif decide (x12.2.2.2.2.2.2.2.2.2.2.2.2.2<x12.2.2.2.2.2.2.2.2.2.2.2.2.1)then
 ((nth? x12.2.2.2.2.2.2.2.2.2.2.2.1 x12.2.2.2.2.2.2.2.2.2.2.2.2.2).bind fun e14=>
 bif decide (List.length x12.2.2.2.2.2.2.2.2.1+List.length ([(32:Int)]:List Int)≤au)then
 (aW (List.append x12.2.2.2.2.2.2.2.2.1 ([(32:Int)]:List Int),e14.1,(10:Int))).bind fun r15=>
 bif decide (List.length r15+List.length ([(58:Int)]:List Int)≤au)then
 (nth? x12.2.2.2.1 e14.2).bind fun e16=>
 (aW (List.append r15 ([(58:Int)]:List Int),e16,(10:Int))).bind fun r17=>
 rec13 (x12.1,x12.2.1,x12.2.2.1,x12.2.2.2.1,x12.2.2.2.2.1,x12.2.2.2.2.2.1,x12.2.2.2.2.2.2.1,x12.2.2.2.2.2.2.2.1,r17,x12.2.2.2.2.2.2.2.2.2.1,x12.2.2.2.2.2.2.2.2.2.2.1,x12.2.2.2.2.2.2.2.2.2.2.2.1,x12.2.2.2.2.2.2.2.2.2.2.2.2.1,IntKind.wrap .i64 (x12.2.2.2.2.2.2.2.2.2.2.2.2.2+(1:Int)))
 else none
 else none)
 else
 (some (x12.1,x12.2.1,x12.2.2.1,x12.2.2.2.1,x12.2.2.2.2.1,x12.2.2.2.2.2.1,x12.2.2.2.2.2.2.1,x12.2.2.2.2.2.2.2.1,x12.2.2.2.2.2.2.2.2.1,x12.2.2.2.2.2.2.2.2.2.1,x12.2.2.2.2.2.2.2.2.2.2.1))
def dL.L2 (aW:(A9)→Option LI) (n:Nat) (x7:Int×LI×LR×LI×Int×(List (List (A7)))×(List ByteArray)×Int×Int) (rec8:(Int×LI×LR×LI×Int×(List (List (A7)))×(List ByteArray)×Int×Int)→Option (Int×LI×LR×Int×(List (List (A7)))×(List ByteArray))):Option (Int×LI×LR×Int×(List (List (A7)))×(List ByteArray)):=
 bif decide (x7.2.2.2.2.2.2.2.2<x7.2.2.2.2.2.2.2.1)then
 ((nth? x7.2.2.2.1 x7.2.2.2.2.2.2.2.2).bind fun e9=>
 (aW (([]:List Int),e9,(10:Int))).bind fun r10=>
 bif decide (0≤x7.2.2.2.2.2.2.2.2)&&decide (x7.2.2.2.2.2.2.2.2<((List.length x7.2.2.2.2.2.1:Nat):Int))then
 (at? x7.2.2.2.2.2.1 (Int.toNat x7.2.2.2.2.2.2.2.2)).bind fun e11=>
 (dD (dL.L1 aW) n (x7.1,x7.2.1,x7.2.2.1,x7.2.2.2.1,x7.2.2.2.2.1,x7.2.2.2.2.2.1,x7.2.2.2.2.2.2.1,x7.2.2.2.2.2.2.2.2,r10,x7.2.2.2.2.2.2.2.1,x7.2.2.2.2.2.2.2.2,e11,((List.length e11:Nat):Int),(0:Int))).bind fun x18=>
 bif decide (0≤x18.2.2.2.2.2.2.2.1)&&decide (x18.2.2.2.2.2.2.2.1<((List.length x18.2.2.2.2.2.2.1:Nat):Int))then
 (at? x18.2.2.2.2.2.2.1 (Int.toNat x18.2.2.2.2.2.2.2.1)).bind fun e19=>
 rec8 (x18.1,x18.2.1,x18.2.2.1,x18.2.2.2.1,x18.2.2.2.2.1,x18.2.2.2.2.2.1,List.set x18.2.2.2.2.2.2.1 (Int.toNat x18.2.2.2.2.2.2.2.1) (uZ x18.2.2.2.2.2.2.2.2.1),x18.2.2.2.2.2.2.2.2.2.1,IntKind.wrap .i64 (x18.2.2.2.2.2.2.2.2.2.2+(1:Int)))
 else none
 else none)
 else
 (some (x7.1,x7.2.1,x7.2.2.1,x7.2.2.2.2.1,x7.2.2.2.2.2.1,x7.2.2.2.2.2.2.1))
def dL.L3 (aW:(A9)→Option LI) (n:Nat) (fC:List ByteArray→Option (A12)) (x5:Int×LI×LR×LI×Int×(List (List (A7)))) (rec6:(Int×LI×LR×LI×Int×(List (List (A7))))→Option (Sum Unit LI)):Option (Sum Unit LI):=
 bif decide (0≤x5.1)&&decide (x5.1≤x5.1)&&decide (x5.1≤((au:Nat):Int))then
 (dD (dL.L2 aW n) n (x5.1,x5.2.1,x5.2.2.1,x5.2.2.2.1,x5.2.2.2.2.1,x5.2.2.2.2.2,List.replicate (Int.toNat x5.1) (ByteArray.empty:ByteArray),((List.length (List.replicate (Int.toNat x5.1) (ByteArray.empty:ByteArray)):Nat):Int),(0:Int))).bind fun x20=>
 (fC x20.2.2.2.2.2).bind fun r21=>
 bif decide (r21.2=x20.2.2.2.1)then
 ((some r21.1).bind fun r=>some (Sum.inr r))
 else
 (rec6 (x20.1,x20.2.1,x20.2.2.1,r21.1,r21.2,x20.2.2.2.2.1))
 else none
def dL.P (kJ:(A1)→Option (List Bool)) (jB:List Bool→Option (A12)) (fC:List ByteArray→Option (A12)) (rE:(A1)→Option (List (Option (List (A7))))) (aW:(A9)→Option LI) (n:Nat) (x:A1):Option LI:=
 (kJ (x.1,x.2.1,x.2.2)).bind fun r1=>
 (jB r1).bind fun r2=>
 (rE (x.1,x.2.1,x.2.2)).bind fun r3=>
 (qh r3).bind fun e4=>
 (dD (dL.L3 aW n fC) n (x.1,x.2.1,x.2.2,r2.1,r2.2,e4)).bind fun q=>match q with
 |Sum.inl (_:Unit)=>none
 |Sum.inr r=>some r
def bM.L1 (x5:A76) (rec6:(A76)→Option (A12)):Option (A12):=
 bif decide (x5.2.2.2.2<((List.length (List.drop (Int.toNat x5.2.2.1) (List.take (Int.toNat x5.2.2.2.1) x5.1)):Nat):Int))then
 (bif decide (0≤x5.2.2.2.2)&&decide (x5.2.2.2.2<(((Int.toNat x5.2.2.2.1)-(Int.toNat x5.2.2.1):Nat):Int))then
 (at? x5.1 ((Int.toNat x5.2.2.1)+Int.toNat x5.2.2.2.2)).bind fun e7=>
 bif decide (0≤(IntKind.wrap .i64 (x5.2.2.2.2-(1:Int))))&&decide ((IntKind.wrap .i64 (x5.2.2.2.2-(1:Int)))<(((Int.toNat x5.2.2.2.1)-(Int.toNat x5.2.2.1):Nat):Int))then
 (at? x5.1 ((Int.toNat x5.2.2.1)+Int.toNat (IntKind.wrap .i64 (x5.2.2.2.2-(1:Int))))).bind fun e8=>
 (bif !decide (e7=e8)then
 (bif decide (0≤x5.2.2.2.2)&&decide (x5.2.2.2.2<(((Int.toNat x5.2.2.2.1)-(Int.toNat x5.2.2.1):Nat):Int))then
 (at? x5.1 ((Int.toNat x5.2.2.1)+Int.toNat x5.2.2.2.2)).bind fun e9=>
 bif decide (0≤x5.2.1)&&decide (x5.2.1<((List.length x5.1:Nat):Int))then
 (at? x5.1 (Int.toNat x5.2.1)).bind fun e10=>
 some (List.set x5.1 (Int.toNat x5.2.1) e9,IntKind.wrap .i64 (x5.2.1+(1:Int)),((Int.toNat x5.2.2.1:Nat):Int),((Int.toNat x5.2.2.2.1:Nat):Int),x5.2.2.2.2)
 else none
 else none)
 else
 (some (x5.1,x5.2.1,((Int.toNat x5.2.2.1:Nat):Int),((Int.toNat x5.2.2.2.1:Nat):Int),x5.2.2.2.2))).bind fun x11=>
 rec6 (x11.1,x11.2.1,((Int.toNat x11.2.2.1:Nat):Int),((Int.toNat x11.2.2.2.1:Nat):Int),IntKind.wrap .i64 (x11.2.2.2.2+(1:Int)))
 else none
 else none)
 else
 (some (x5.1,x5.2.1))
def bM.L2 (n:Nat) (x1:A12) (rec2:(A12)→Option (Sum LI LI)):Option (Sum LI LI):=
 bif decide (x1.2<((List.length x1.1:Nat):Int))then
 (bif decide (0≤x1.2)&&decide (x1.2<((List.length x1.1:Nat):Int))then
 (at? x1.1 (Int.toNat x1.2)).bind fun e3=>
 bif decide (0≤(IntKind.wrap .i64 (x1.2-(1:Int))))&&decide ((IntKind.wrap .i64 (x1.2-(1:Int)))<((List.length x1.1:Nat):Int))then
 (at? x1.1 (Int.toNat (IntKind.wrap .i64 (x1.2-(1:Int))))).bind fun e4=>
 bif decide (e3=e4)then
 (bif decide (0≤x1.2)&&decide (x1.2≤((List.length x1.1:Nat):Int))&&decide (((List.length x1.1:Nat):Int)≤((List.length x1.1:Nat):Int))then
 (dD (bM.L1) n (x1.1,x1.2,((Int.toNat x1.2:Nat):Int),((Int.toNat ((List.length x1.1:Nat):Int):Nat):Int),(1:Int))).bind fun x12=>
 bif decide (0≤x12.2)&&decide (x12.2≤((List.length x12.1:Nat):Int))&&decide (((List.length x12.1:Nat):Int)≤((List.length x12.1:Nat):Int))then
 bif decide (0≤0)&&decide (0≤x12.2)&&decide (x12.2≤((List.length (List.append (List.append (List.take (Int.toNat x12.2) x12.1) (List.replicate ((Int.toNat ((List.length x12.1:Nat):Int))-(Int.toNat x12.2)) ((0:Int):Int))) (List.drop (Int.toNat ((List.length x12.1:Nat):Int)) x12.1)):Nat):Int))then
 (some (List.drop (Int.toNat 0) (List.take (Int.toNat x12.2) (List.append (List.append (List.take (Int.toNat x12.2) x12.1) (List.replicate ((Int.toNat ((List.length x12.1:Nat):Int))-(Int.toNat x12.2)) ((0:Int):Int))) (List.drop (Int.toNat ((List.length x12.1:Nat):Int)) x12.1))))).bind fun r=>some (Sum.inr r)
 else none
 else none
 else none)
 else
 (rec2 (x1.1,IntKind.wrap .i64 (x1.2+(1:Int))))
 else none
 else none)
 else
 (some (Sum.inl x1.1))
def bM.P (n:Nat) (x:List Int):Option LI:=
 bif decide (((List.length x:Nat):Int)<(2:Int))then
 (some x)
 else
 ((dD (bM.L2 n) n (x,(1:Int))).bind fun q=>match q with
 |Sum.inl x13=>(some x13)
 |Sum.inr r=>some r)
def dW.L1 (x1:A38) (rec2:(A38)→Option (A56)):Option (A56):=
 bif decide (x1.2.2.2.2.2.2.2.2.2.2.2.2<x1.2.2.2.2.2.2.2.2.2.2.2.1)then
 ((nth? x1.2.2.2.2.2.2.2.2.2.2.1 x1.2.2.2.2.2.2.2.2.2.2.2.2).bind fun e3=>
 (nth? x1.1 e3).bind fun e4=>
 bif decide (List.length x1.2.2.2.2.2.2.2.2.1+List.length ([e4]:List Int)≤au)then
 rec2 (x1.1,x1.2.1,x1.2.2.1,x1.2.2.2.1,x1.2.2.2.2.1,x1.2.2.2.2.2.1,x1.2.2.2.2.2.2.1,x1.2.2.2.2.2.2.2.1,List.append x1.2.2.2.2.2.2.2.2.1 ([e4]:List Int),x1.2.2.2.2.2.2.2.2.2.1,x1.2.2.2.2.2.2.2.2.2.2.1,x1.2.2.2.2.2.2.2.2.2.2.2.1,IntKind.wrap .i64 (x1.2.2.2.2.2.2.2.2.2.2.2.2+(1:Int)))
 else none)
 else
 (some (x1.1,x1.2.1,x1.2.2.1,x1.2.2.2.1,x1.2.2.2.2.1,x1.2.2.2.2.2.1,x1.2.2.2.2.2.2.1,x1.2.2.2.2.2.2.2.1,x1.2.2.2.2.2.2.2.2.1,x1.2.2.2.2.2.2.2.2.2.1))
def dW.L2 (x12:A26) (rec13:(A26)→Option (A36)):Option (A36):=
 bif decide (x12.2.2.2.2.2.2.2.2.2.2.2.2.2.2.2<x12.2.2.2.2.2.2.2.2.2.2.2.2.2.2.1)then
 ((nth? x12.2.2.2.2.2.2.2.2.2.2.2.2.2.1 x12.2.2.2.2.2.2.2.2.2.2.2.2.2.2.2).bind fun e14=>
 (nth? x12.1 e14).bind fun e15=>
 bif decide (List.length x12.2.2.2.2.2.2.2.2.1+List.length ([e15]:List Int)≤au)then
 rec13 (x12.1,x12.2.1,x12.2.2.1,x12.2.2.2.1,x12.2.2.2.2.1,x12.2.2.2.2.2.1,x12.2.2.2.2.2.2.1,x12.2.2.2.2.2.2.2.1,List.append x12.2.2.2.2.2.2.2.2.1 ([e15]:List Int),x12.2.2.2.2.2.2.2.2.2.1,x12.2.2.2.2.2.2.2.2.2.2.1,x12.2.2.2.2.2.2.2.2.2.2.2.1,x12.2.2.2.2.2.2.2.2.2.2.2.2.1,x12.2.2.2.2.2.2.2.2.2.2.2.2.2.1,x12.2.2.2.2.2.2.2.2.2.2.2.2.2.2.1,IntKind.wrap .i64 (x12.2.2.2.2.2.2.2.2.2.2.2.2.2.2.2+(1:Int)))
 else none)
 else
 (some (x12.1,x12.2.1,x12.2.2.1,x12.2.2.2.1,x12.2.2.2.2.1,x12.2.2.2.2.2.1,x12.2.2.2.2.2.2.1,x12.2.2.2.2.2.2.2.1,x12.2.2.2.2.2.2.2.2.1,x12.2.2.2.2.2.2.2.2.2.1,x12.2.2.2.2.2.2.2.2.2.2.1,x12.2.2.2.2.2.2.2.2.2.2.2.1,x12.2.2.2.2.2.2.2.2.2.2.2.2.1))
def dW.L3 (n:Nat) (x8:A55) (rec9:(A55)→Option (A11)):Option (A11):=
 bif decide (x8.2.2.2.2.2.2.2.2.2<x8.2.2.2.2.2.2.2.2.1)then
 ((nth? x8.2.2.2.2.2.2.2.1 x8.2.2.2.2.2.2.2.2.2).bind fun e10=>
 (nth? x8.1 e10.2.2).bind fun e11=>
 (dD (dW.L2) n (x8.1,x8.2.1,x8.2.2.1,x8.2.2.2.1,x8.2.2.2.2.1,x8.2.2.2.2.2.1,x8.2.2.2.2.2.2.1,e10.1,([]:List Int),e11,x8.2.2.2.2.2.2.2.1,x8.2.2.2.2.2.2.2.2.1,x8.2.2.2.2.2.2.2.2.2,e10.2.1,((List.length e10.2.1:Nat):Int),(0:Int))).bind fun x16=>
 bif decide (List.length x16.2.2.2.2.2.2.1+List.length ([(x16.2.2.2.2.2.2.2.1,x16.2.2.2.2.2.2.2.2.1,x16.2.2.2.2.2.2.2.2.2.1)]:List Ru)≤au)then
 rec9 (x16.1,x16.2.1,x16.2.2.1,x16.2.2.2.1,x16.2.2.2.2.1,x16.2.2.2.2.2.1,List.append x16.2.2.2.2.2.2.1 ([(x16.2.2.2.2.2.2.2.1,x16.2.2.2.2.2.2.2.2.1,x16.2.2.2.2.2.2.2.2.2.1)]:List Ru),x16.2.2.2.2.2.2.2.2.2.2.1,x16.2.2.2.2.2.2.2.2.2.2.2.1,IntKind.wrap .i64 (x16.2.2.2.2.2.2.2.2.2.2.2.2+(1:Int)))
 else none)
 else
 (some (x8.2.1,x8.2.2.1,x8.2.2.2.1,x8.2.2.2.2.1,x8.2.2.2.2.2.1,x8.2.2.2.2.2.2.1))
def dW.P (gU:List Ru→Option LR) (fJ:List Int→Option LI) (ig:List Int→Option LI) (n:Nat) (x:A46):Option (A1):=
 (dD (dW.L1) n (x.2.2.2.2,x.1,x.2.1,x.2.2.1,(0:Int),([]:List Int),([]:List Ru),x.2.2.2.1,([]:List Int),([]:List Ru),x.2.1,((List.length x.2.1:Nat):Int),(0:Int))).bind fun x5=>
 (ig x5.2.2.2.2.2.2.2.2.1).bind fun r6=>
 (fJ r6).bind fun r7=>
 (dD (dW.L3 n) n (x5.1,x5.2.2.2.2.1,x5.2.2.2.2.2.1,x5.2.2.2.2.2.2.1,x5.2.2.2.2.2.2.2.1,r7,x5.2.2.2.2.2.2.2.2.2,x5.2.2.2.1,((List.length x5.2.2.2.1:Nat):Int),(0:Int))).bind fun x17=>
 (gU x17.2.2.2.2.2).bind fun r18=>
 some (x17.2.2.2.1,x17.2.2.2.2.1,r18)
def bF.L1 (x1:A71) (rec2:(A71)→Option (Int×LI×LR×LI)):Option (Int×LI×LR×LI):=
 bif decide (x1.2.2.2.2.2<x1.2.2.2.2.1)then
 (bif decide (0≤x1.2.2.2.2.2)&&decide (x1.2.2.2.2.2<((List.length x1.2.2.2.1:Nat):Int))then
 (at? x1.2.2.2.1 (Int.toNat x1.2.2.2.2.2)).bind fun e3=>
 rec2 (x1.1,x1.2.1,x1.2.2.1,List.set x1.2.2.2.1 (Int.toNat x1.2.2.2.2.2) (-1:Int),x1.2.2.2.2.1,IntKind.wrap .i64 (x1.2.2.2.2.2+(1:Int)))
 else none)
 else
 (some (x1.1,x1.2.1,x1.2.2.1,x1.2.2.2.1))
def bF.L2 (rec8:(A35)→Option (A33)) (x11:A29) (rec12:(A29)→Option (Sum (A44) (A33))):Option (Sum (A44) (A33)):=
 bif decide (x11.2.2.2.2.2.2.2.2.2.2.2.2.2.2<x11.2.2.2.2.2.2.2.2.2.2.2.2.2.1)then
 ((nth? x11.2.2.2.2.2.2.2.2.2.2.2.2.1 x11.2.2.2.2.2.2.2.2.2.2.2.2.2.2).bind fun e13=>
 bif decide (0≤e13)&&decide (e13<((List.length x11.2.2.2.1:Nat):Int))then
 (at? x11.2.2.2.1 (Int.toNat e13)).bind fun e14=>
 bif decide (e14<(0:Int))then
 ((rec8 (x11.1,x11.2.1,x11.2.2.1,x11.2.2.2.1,x11.2.2.2.2.1,x11.2.2.2.2.2.1,x11.2.2.2.2.2.2.2.2.2.1,x11.2.2.2.2.2.2.2.2.2.2.1,IntKind.wrap .i64 (x11.2.2.2.2.2.2.2.2.2.2.2.1+(1:Int)))).bind fun r=>some (Sum.inr r))
 else
 (bif decide (0≤e13)&&decide (e13<((List.length x11.2.2.2.1:Nat):Int))then
 (at? x11.2.2.2.1 (Int.toNat e13)).bind fun e15=>
 bif decide (List.length x11.2.2.2.2.2.2.2.1+List.length ([e15]:List Int)≤au)then
 rec12 (x11.1,x11.2.1,x11.2.2.1,x11.2.2.2.1,x11.2.2.2.2.1,x11.2.2.2.2.2.1,x11.2.2.2.2.2.2.1,List.append x11.2.2.2.2.2.2.2.1 ([e15]:List Int),x11.2.2.2.2.2.2.2.2.1,x11.2.2.2.2.2.2.2.2.2.1,x11.2.2.2.2.2.2.2.2.2.2.1,x11.2.2.2.2.2.2.2.2.2.2.2.1,x11.2.2.2.2.2.2.2.2.2.2.2.2.1,x11.2.2.2.2.2.2.2.2.2.2.2.2.2.1,IntKind.wrap .i64 (x11.2.2.2.2.2.2.2.2.2.2.2.2.2.2+(1:Int)))
 else none
 else none)
 else none)
 else
 (some (Sum.inl (x11.1,x11.2.1,x11.2.2.1,x11.2.2.2.1,x11.2.2.2.2.1,x11.2.2.2.2.2.1,x11.2.2.2.2.2.2.1,x11.2.2.2.2.2.2.2.1,x11.2.2.2.2.2.2.2.2.1,x11.2.2.2.2.2.2.2.2.2.1,x11.2.2.2.2.2.2.2.2.2.2.1,x11.2.2.2.2.2.2.2.2.2.2.2.1)))
def bF.L3 (n:Nat) (x7:A35) (rec8:(A35)→Option (A33)):Option (A33):=
 bif decide (x7.2.2.2.2.2.2.2.2<x7.2.2.2.2.2.2.2.1)then
 ((nth? x7.2.2.2.2.2.2.1 x7.2.2.2.2.2.2.2.2).bind fun e9=>
 bif decide (0≤e9.2.2)&&decide (e9.2.2<((List.length x7.2.2.2.1:Nat):Int))then
 (at? x7.2.2.2.1 (Int.toNat e9.2.2)).bind fun e10=>
 bif decide ((0:Int)≤e10)then
 (rec8 (x7.1,x7.2.1,x7.2.2.1,x7.2.2.2.1,x7.2.2.2.2.1,x7.2.2.2.2.2.1,x7.2.2.2.2.2.2.1,x7.2.2.2.2.2.2.2.1,IntKind.wrap .i64 (x7.2.2.2.2.2.2.2.2+(1:Int))))
 else
 ((dD (bF.L2 rec8) n (x7.1,x7.2.1,x7.2.2.1,x7.2.2.2.1,x7.2.2.2.2.1,x7.2.2.2.2.2.1,e9.1,([]:List Int),e9.2.2,x7.2.2.2.2.2.2.1,x7.2.2.2.2.2.2.2.1,x7.2.2.2.2.2.2.2.2,e9.2.1,((List.length e9.2.1:Nat):Int),(0:Int))).bind fun q=>match q with
 |Sum.inl x16=>(bif decide (List.length x16.2.2.2.2.2.1+List.length ([(x16.2.2.2.2.2.2.1,x16.2.2.2.2.2.2.2.1,x16.2.2.2.2.2.2.2.2.1)]:List Ru)≤au)then
 rec8 (x16.1,x16.2.1,x16.2.2.1,x16.2.2.2.1,x16.2.2.2.2.1,List.append x16.2.2.2.2.2.1 ([(x16.2.2.2.2.2.2.1,x16.2.2.2.2.2.2.2.1,x16.2.2.2.2.2.2.2.2.1)]:List Ru),x16.2.2.2.2.2.2.2.2.2.1,x16.2.2.2.2.2.2.2.2.2.2.1,IntKind.wrap .i64 (x16.2.2.2.2.2.2.2.2.2.2.2+(1:Int)))
 else none)
 |Sum.inr r=>some r)
 else none)
 else
 (some (x7.1,x7.2.1,x7.2.2.1,x7.2.2.2.1,x7.2.2.2.2.1,x7.2.2.2.2.2.1))
def bF.L4 (x19:A59) (rec20:(A59)→Option (A57)):Option (A57):=
 bif decide (x19.2.2.2.2.2.2.2<x19.2.2.2.2.2.2.1)then
 (bif decide (0≤x19.2.2.2.2.2.2.2)&&decide (x19.2.2.2.2.2.2.2<((List.length x19.2.2.2.2.2.1:Nat):Int))then
 (at? x19.2.2.2.2.2.1 (Int.toNat x19.2.2.2.2.2.2.2)).bind fun e21=>
 bif decide (0≤e21.2.2)&&decide (e21.2.2<((List.length x19.2.2.2.1:Nat):Int))then
 (at? x19.2.2.2.1 (Int.toNat e21.2.2)).bind fun e22=>
 (bif decide (e22<(0:Int))then
 (bif decide (0≤e21.2.2)&&decide (e21.2.2<((List.length x19.2.2.2.1:Nat):Int))then
 (at? x19.2.2.2.1 (Int.toNat e21.2.2)).bind fun e23=>
 some (x19.1,x19.2.1,x19.2.2.1,List.set x19.2.2.2.1 (Int.toNat e21.2.2) x19.2.2.2.2.1,IntKind.wrap .i64 (x19.2.2.2.2.1+(1:Int)),x19.2.2.2.2.2.1,x19.2.2.2.2.2.2.1,x19.2.2.2.2.2.2.2)
 else none)
 else
 (some (x19.1,x19.2.1,x19.2.2.1,x19.2.2.2.1,x19.2.2.2.2.1,x19.2.2.2.2.2.1,x19.2.2.2.2.2.2.1,x19.2.2.2.2.2.2.2))).bind fun x24=>
 rec20 (x24.1,x24.2.1,x24.2.2.1,x24.2.2.2.1,x24.2.2.2.2.1,x24.2.2.2.2.2.1,x24.2.2.2.2.2.2.1,IntKind.wrap .i64 (x24.2.2.2.2.2.2.2+(1:Int)))
 else none
 else none)
 else
 (some (x19.1,x19.2.1,x19.2.2.1,x19.2.2.2.1,x19.2.2.2.2.1))
def bF.L5 (n:Nat) (dQ:List Ru→Option LR) (x5:A57) (rec6:(A57)→Option LI):Option LI:=
 bif decide (x5.2.2.2.2<x5.1)then
 ((dD (bF.L3 n) n (x5.1,x5.2.1,x5.2.2.1,x5.2.2.2.1,x5.2.2.2.2,([]:List Ru),x5.2.2.1,((List.length x5.2.2.1:Nat):Int),(0:Int))).bind fun x17=>
 bif decide (((List.length x17.2.2.2.2.2:Nat):Int)=(0:Int))then
 (some x17.2.2.2.1)
 else
 ((dQ x17.2.2.2.2.2).bind fun r18=>
 (dD (bF.L4) n (x17.1,x17.2.1,x17.2.2.1,x17.2.2.2.1,x17.2.2.2.2.1,r18,((List.length r18:Nat):Int),(0:Int))).bind fun x25=>
 rec6 (x25.1,x25.2.1,x25.2.2.1,x25.2.2.2.1,x25.2.2.2.2)))
 else
 (some x5.2.2.2.1)
def bF.P (dQ:List Ru→Option LR) (n:Nat) (x:A1):Option LI:=
 bif decide (0≤x.1)&&decide (x.1≤x.1)&&decide (x.1≤((au:Nat):Int))then
 (dD (bF.L1) n (x.1,x.2.1,x.2.2,List.replicate (Int.toNat x.1) ((0:Int):Int),((List.length (List.replicate (Int.toNat x.1) ((0:Int):Int)):Nat):Int),(0:Int))).bind fun x4=>
 (dD (bF.L5 n dQ) n (x4.1,x4.2.1,x4.2.2.1,x4.2.2.2,(0:Int))).bind fun x26=>
 some x26
 else none
def jv.L1 (x4:A51) (rec5:(A51)→Option (A61)):Option (A61):=
 bif decide (x4.2.2.2.2.2.2.2.2.2.2<x4.2.2.2.2.2.2.2.2.2.1)then
 ((nth? x4.2.2.2.2.2.2.2.2.1 x4.2.2.2.2.2.2.2.2.2.2).bind fun e6=>
 rec5 (x4.1,x4.2.1,x4.2.2.1,x4.2.2.2.1,x4.2.2.2.2.1,x4.2.2.2.2.2.1,x4.2.2.2.2.2.2.1,max x4.2.2.2.2.2.2.2.1 (IntKind.wrap .i64 (e6+(1:Int))),x4.2.2.2.2.2.2.2.2.1,x4.2.2.2.2.2.2.2.2.2.1,IntKind.wrap .i64 (x4.2.2.2.2.2.2.2.2.2.2+(1:Int))))
 else
 (some (x4.1,x4.2.1,x4.2.2.1,x4.2.2.2.1,x4.2.2.2.2.1,x4.2.2.2.2.2.1,x4.2.2.2.2.2.2.1,x4.2.2.2.2.2.2.2.1))
def jv.P (qX:(A1)→Option (A1)) (qY:(A0)→Option (A23)) (oO:(A1)→Option LI) (mQ:(A1)→Option LI) (mg:(A46)→Option (A1)) (n:Nat) (x:A0):Option (A23):=
 (qY (x.1,x.2.1,x.2.2.1,x.2.2.2)).bind fun r1=>
 bif !decide (r1.2.2.2=(0:Int))then
 (some ((0:Int),([]:List Int),([]:List Ru),r1.2.2.2))
 else
 ((qX (r1.1,r1.2.1,r1.2.2.1)).bind fun r2=>
 (mQ (r2.1,r2.2.1,r2.2.2)).bind fun r3=>
 (dD (jv.L1) n ((0:Int),([]:List Int),([]:List Ru),r2.1,r2.2.1,r2.2.2,r3,(0:Int),r3,((List.length r3:Nat):Int),(0:Int))).bind fun x7=>
 (mg (x7.2.2.2.1,x7.2.2.2.2.1,x7.2.2.2.2.2.1,x7.2.2.2.2.2.2.2,x7.2.2.2.2.2.2.1)).bind fun r8=>
 (oO (r8.1,r8.2.1,r8.2.2)).bind fun r9=>
 (mg (r8.1,r8.2.1,r8.2.2,x7.2.2.2.2.2.2.2,r9)).bind fun r10=>
 some (r10.1,r10.2.1,r10.2.2,(0:Int)))
def xB.L1 (x1:A18) (rec2:(A18)→Option (Sum Unit Bool)):Option (Sum Unit Bool):=
 bif decide (x1.2.2.2<x1.2.2.1)then
 ((nth? x1.1 x1.2.2.2).bind fun e3=>
 (nth? x1.2.1 x1.2.2.2).bind fun e4=>
 bif !decide (e3=e4)then
 ((some false).bind fun r=>some (Sum.inr r))
 else
 (rec2 (x1.1,x1.2.1,x1.2.2.1,IntKind.wrap .i64 (x1.2.2.2+(1:Int)))))
 else
 (some (Sum.inl ()))
def xB.P (n:Nat) (x:A40):Option Bool:=
 bif !decide (((List.length x.1:Nat):Int)=((List.length x.2:Nat):Int))then
 (some false)
 else
 ((dD (xB.L1) n (x.1,x.2,((List.length x.1:Nat):Int),(0:Int))).bind fun q=>match q with
 |Sum.inl x5=>(some true)
 |Sum.inr r=>some r)
def xq.L1 (lJ:(A40)→Option Bool) (x3:A72) (rec4:(A72)→Option (Sum Unit Bool)):Option (Sum Unit Bool):=
 bif decide (x3.2.2.2.2.2<x3.2.2.2.2.1)then
 ((nth? x3.2.2.2.1 x3.2.2.2.2.2).bind fun e5=>
 ((nth? x3.2.2.1 x3.2.2.2.2.2).bind fun e6=>
 bif !decide (e5.1=e6.1)then
 (some (x3.1,x3.2.1,x3.2.2.1,x3.2.2.2.1,x3.2.2.2.2.1,x3.2.2.2.2.2,true))
 else
 ((nth? x3.2.2.1 x3.2.2.2.2.2).bind fun e7=>
 bif !decide (e5.2.2=e7.2.2)then
 (some (x3.1,x3.2.1,x3.2.2.1,x3.2.2.2.1,x3.2.2.2.2.1,x3.2.2.2.2.2,true))
 else
 ((nth? x3.2.2.1 x3.2.2.2.2.2).bind fun e8=>
 (lJ (e5.2.1,e8.2.1)).bind fun r9=>
 some (x3.1,x3.2.1,x3.2.2.1,x3.2.2.2.1,x3.2.2.2.2.1,x3.2.2.2.2.2, !r9)))).bind fun x10=>
 bif x10.2.2.2.2.2.2 then
 ((some false).bind fun r=>some (Sum.inr r))
 else
 (rec4 (x10.1,x10.2.1,x10.2.2.1,x10.2.2.2.1,x10.2.2.2.2.1,IntKind.wrap .i64 (x10.2.2.2.2.2.1+(1:Int)))))
 else
 (some (Sum.inl ()))
def xq.P (lJ:(A40)→Option Bool) (n:Nat) (x:A11):Option Bool:=
 (bif !decide (x.1=x.2.2.2.1)then
 (some (x.1,x.2.1,x.2.2.1,x.2.2.2.1,x.2.2.2.2.1,x.2.2.2.2.2,true))
 else
 ((lJ (x.2.1,x.2.2.2.2.1)).bind fun r1=>
 bif !r1 then
 (some (x.1,x.2.1,x.2.2.1,x.2.2.2.1,x.2.2.2.2.1,x.2.2.2.2.2,true))
 else
 (some (x.1,x.2.1,x.2.2.1,x.2.2.2.1,x.2.2.2.2.1,x.2.2.2.2.2, !decide (((List.length x.2.2.1:Nat):Int)=((List.length x.2.2.2.2.2:Nat):Int)))))).bind fun x2=>
 bif x2.2.2.2.2.2.2 then
 (some false)
 else
 ((dD (xq.L1 lJ) n (x2.2.2.2.1,x2.2.2.2.2.1,x2.2.2.2.2.2.1,x2.2.2.1,((List.length x2.2.2.1:Nat):Int),(0:Int))).bind fun q=>match q with
 |Sum.inl x11=>(some true)
 |Sum.inr r=>some r)
def Di.P (rZ:Unit→Option (A1)) (jq:(A0)→Option (A23)) (sJ:(A11)→Option Bool) (n:Nat) (x:Unit):Option Bool:=
 (rZ ()).bind fun r1=>
 (jq (([0,0,2]:List Int),r1.1,r1.2.1,r1.2.2)).bind fun r2=>
 (bif decide (r2.2.2.2=(0:Int))then
 ((sJ (r2.1,r2.2.1,r2.2.2.1,(2:Int),([(1:Int)]:List Int),([((0:Int),([]:List Int),(0:Int)),((1:Int),([]:List Int),(1:Int)),((2:Int),([(0:Int),(0:Int)]:List Int),(0:Int)),((2:Int),([(0:Int),(1:Int)]:List Int),(1:Int)),((2:Int),([(1:Int),(0:Int)]:List Int),(1:Int)),((2:Int),([(1:Int),(1:Int)]:List Int),(1:Int))]:List Ru))).bind fun r3=>
 some r3)
 else
 (some false)).bind fun x4=>
 some x4
def mW.L1 (x1:A50) (rec2:(A50)→Option (Sum (A60) (A43))):Option (Sum (A60) (A43)):=
 bif decide (x1.2.2.2.2.2.2<x1.2.2.2.2.2.1)then
 ((nth? x1.2.2.2.2.1 x1.2.2.2.2.2.2).bind fun e3=>
 (bif decide (e3<(0:Int))then
 (some (x1.1,x1.2.1,x1.2.2.1,x1.2.2.2.1,e3,x1.2.2.2.2.1,x1.2.2.2.2.2.1,x1.2.2.2.2.2.2,true))
 else
 (some (x1.1,x1.2.1,x1.2.2.1,x1.2.2.2.1,e3,x1.2.2.2.2.1,x1.2.2.2.2.2.1,x1.2.2.2.2.2.2,decide (((List.length x1.2.1:Nat):Int)≤e3)))).bind fun x4=>
 bif x4.2.2.2.2.2.2.2.2 then
 ((some ((0:Int),([]:List (RT Int)),false)).bind fun r=>some (Sum.inr r))
 else
 ((nth? x4.2.1 x4.2.2.2.2.1).bind fun e5=>
 rec2 (RT.a e5,RT.kids e5,x4.2.2.1,x4.2.2.2.1,x4.2.2.2.2.2.1,x4.2.2.2.2.2.2.1,IntKind.wrap .i64 (x4.2.2.2.2.2.2.2.1+(1:Int)))))
 else
 (some (Sum.inl (x1.1,x1.2.1,x1.2.2.1,x1.2.2.2.1)))
def mW.P (n:Nat) (x:A47):Option (A43):=
 (dD (mW.L1) n (x.1,x.2.1,(0:Int),([]:List (RT Int)),x.2.2,((List.length x.2.2:Nat):Int),(0:Int))).bind fun q=>match q with
 |Sum.inl x6=>(some (x6.1,x6.2.1,true))
 |Sum.inr r=>some r
def jW.L1 (jJ:(A20)→Option (A30)) (x3:A66) (rec4:(A66)→Option (Sum Int (A30))):Option (Sum Int (A30)):=
 bif decide (x3.2.2.2.2<x3.2.2.2.1)then
 ((nth? x3.2.2.1 x3.2.2.2.2).bind fun e5=>
 (jJ (x3.2.1,RT.a e5,RT.kids e5,x3.1)).bind fun r6=>
 bif !r6.1 then
 ((some (false,r6.2)).bind fun r=>some (Sum.inr r))
 else
 (rec4 (r6.2,x3.2.1,x3.2.2.1,x3.2.2.2.1,IntKind.wrap .i64 (x3.2.2.2.2+(1:Int)))))
 else
 (some (Sum.inl x3.1))
def jW.P (jJ:(A20)→Option (A30)) (n:Nat) (x:A20):Option (A30):=
 (bif decide ((IntKind.wrap .i64 (x.2.2.2-(1:Int)))<(0:Int))then
 (some (IntKind.wrap .i64 (x.2.2.2-(1:Int)),x.1,x.2.1,x.2.2.1,true))
 else
 (bif decide (x.2.1<(0:Int))then
 (some (IntKind.wrap .i64 (x.2.2.2-(1:Int)),x.1,x.2.1,x.2.2.1,true))
 else
 (bif decide (((List.length x.1:Nat):Int)≤x.2.1)then
 (some (IntKind.wrap .i64 (x.2.2.2-(1:Int)),x.1,x.2.1,x.2.2.1,true))
 else
 ((nth? x.1 x.2.1).bind fun e1=>
 some (IntKind.wrap .i64 (x.2.2.2-(1:Int)),x.1,x.2.1,x.2.2.1, !decide (((List.length x.2.2.1:Nat):Int)=e1)))))).bind fun x2=>
 bif x2.2.2.2.2 then
 (some (false,x2.1))
 else
 ((dD (jW.L1 jJ) n (x2.1,x2.2.1,x2.2.2.2.1,((List.length x2.2.2.2.1:Nat):Int),(0:Int))).bind fun q=>match q with
 |Sum.inl x7=>(some (true,x7))
 |Sum.inr r=>some r)
def wZ.P (eF:List Int→Option Bool) (jJ:(A20)→Option (A30)) (n:Nat) (x:A5):Option Bool:=
 ((eF x.1).bind fun r1=>
 bif r1 then
 ((jJ (x.1,x.2.1,x.2.2,(300:Int))).bind fun r2=>
 some r2.1)
 else
 (some false)).bind fun x3=>
 some x3
def xg.P (dP:(A0)→Option Bool) (lK:(A5)→Option Bool) (n:Nat) (x:A2):Option Int:=
 ((dP (x.1,x.2.1,x.2.2.1,x.2.2.2.1)).bind fun r1=>
 bif !r1 then
 (some true)
 else
 ((lK (x.1,x.2.2.2.2.1,x.2.2.2.2.2)).bind fun r2=>
 some (!r2))).bind fun x3=>
 bif x3 then
 (some (1:Int))
 else
 (some (0:Int))
def gK.L1 (l7:(A13)→Option (List (Option (List Bool)))) (x1:LL×Int×LI×LR×Int×(List (RT Int))×(List (Option (List Bool)))×(List (List Bool))×(List (RT Int))×Int×Int) (rec2:(LL×Int×LI×LR×Int×(List (RT Int))×(List (Option (List Bool)))×(List (List Bool))×(List (RT Int))×Int×Int)→Option (LL×Int×LI×LR×Int×(List (RT Int))×(List (Option (List Bool)))×(List (List Bool)))):Option (LL×Int×LI×LR×Int×(List (RT Int))×(List (Option (List Bool)))×(List (List Bool))):=
 bif decide (x1.2.2.2.2.2.2.2.2.2.2<x1.2.2.2.2.2.2.2.2.2.1)then
 ((nth? x1.2.2.2.2.2.2.2.2.1 x1.2.2.2.2.2.2.2.2.2.2).bind fun e3=>
 (l7 (x1.2.1,x1.2.2.1,x1.2.2.2.1,x1.1,RT.a e3,RT.kids e3)).bind fun r4=>
 bif decide (0≤(0:Int))&&decide ((0:Int)<((List.length r4:Nat):Int))then
 (rowAt? r4 (Int.toNat (0:Int))).bind fun e5=>
 (rowAt? r4 (Int.toNat (0:Int))).bind fun e6=>
 bif decide (List.length x1.2.2.2.2.2.2.2.1+List.length ([e6]:List (List Bool))≤au)then
 bif decide (List.length x1.2.2.2.2.2.2.1+List.length (List.set r4 (Int.toNat (0:Int)) none)≤au)then
 rec2 (x1.1,x1.2.1,x1.2.2.1,x1.2.2.2.1,x1.2.2.2.2.1,x1.2.2.2.2.2.1,List.append x1.2.2.2.2.2.2.1 (List.set r4 (Int.toNat (0:Int)) none),List.append x1.2.2.2.2.2.2.2.1 ([e6]:List (List Bool)),x1.2.2.2.2.2.2.2.2.1,x1.2.2.2.2.2.2.2.2.2.1,IntKind.wrap .i64 (x1.2.2.2.2.2.2.2.2.2.2+(1:Int)))
 else none
 else none
 else none)
 else
 (some (x1.1,x1.2.1,x1.2.2.1,x1.2.2.2.1,x1.2.2.2.2.1,x1.2.2.2.2.2.1,x1.2.2.2.2.2.2.1,x1.2.2.2.2.2.2.2.1))
def gK.L2 (rec10:(Int×LI×LR×(List (Option (List Bool)))×(List (List Bool))×LI×Int×Int)→Option (List (Option (List Bool)))) (x13:Int×LI×LR×(List (Option (List Bool)))×(List (List Bool))×Int×LI×Int×LI×Int×Int×LI×Int×Int) (rec14:(Int×LI×LR×(List (Option (List Bool)))×(List (List Bool))×Int×LI×Int×LI×Int×Int×LI×Int×Int)→Option (Sum (Int×LI×LR×(List (Option (List Bool)))×(List (List Bool))×Int×LI×Int×LI×Int×Int) (List (Option (List Bool))))):Option (Sum (Int×LI×LR×(List (Option (List Bool)))×(List (List Bool))×Int×LI×Int×LI×Int×Int) (List (Option (List Bool)))):=
 bif decide (x13.2.2.2.2.2.2.2.2.2.2.2.2.2<x13.2.2.2.2.2.2.2.2.2.2.2.2.1)then
 ((nth? x13.2.2.2.2.2.2.2.2.2.2.2.1 x13.2.2.2.2.2.2.2.2.2.2.2.2.2).bind fun e15=>
 bif decide (0≤x13.2.2.2.2.2.2.2.2.2.2.2.2.2)&&decide (x13.2.2.2.2.2.2.2.2.2.2.2.2.2<((List.length x13.2.2.2.2.1:Nat):Int))then
 (at? x13.2.2.2.2.1 (Int.toNat x13.2.2.2.2.2.2.2.2.2.2.2.2.2)).bind fun e16=>
 (nth? e16 e15).bind fun e17=>
 bif !e17 then
 ((rec10 (x13.1,x13.2.1,x13.2.2.1,x13.2.2.2.1,x13.2.2.2.2.1,x13.2.2.2.2.2.2.2.2.1,x13.2.2.2.2.2.2.2.2.2.1,IntKind.wrap .i64 (x13.2.2.2.2.2.2.2.2.2.2.1+(1:Int)))).bind fun r=>some (Sum.inr r))
 else
 (rec14 (x13.1,x13.2.1,x13.2.2.1,x13.2.2.2.1,x13.2.2.2.2.1,x13.2.2.2.2.2.1,x13.2.2.2.2.2.2.1,x13.2.2.2.2.2.2.2.1,x13.2.2.2.2.2.2.2.2.1,x13.2.2.2.2.2.2.2.2.2.1,x13.2.2.2.2.2.2.2.2.2.2.1,x13.2.2.2.2.2.2.2.2.2.2.2.1,x13.2.2.2.2.2.2.2.2.2.2.2.2.1,IntKind.wrap .i64 (x13.2.2.2.2.2.2.2.2.2.2.2.2.2+(1:Int))))
 else none)
 else
 (some (Sum.inl (x13.1,x13.2.1,x13.2.2.1,x13.2.2.2.1,x13.2.2.2.2.1,x13.2.2.2.2.2.1,x13.2.2.2.2.2.2.1,x13.2.2.2.2.2.2.2.1,x13.2.2.2.2.2.2.2.2.1,x13.2.2.2.2.2.2.2.2.2.1,x13.2.2.2.2.2.2.2.2.2.2.1)))
def gK.L3 (n:Nat) (x9:Int×LI×LR×(List (Option (List Bool)))×(List (List Bool))×LI×Int×Int) (rec10:(Int×LI×LR×(List (Option (List Bool)))×(List (List Bool))×LI×Int×Int)→Option (List (Option (List Bool)))):Option (List (Option (List Bool))):=
 bif decide (x9.2.2.2.2.2.2.2<x9.2.2.2.2.2.2.1)then
 ((nth? x9.2.2.2.2.2.1 x9.2.2.2.2.2.2.2).bind fun e11=>
 (nth? x9.2.2.1 e11).bind fun e12=>
 (dD (gK.L2 rec10) n (x9.1,x9.2.1,x9.2.2.1,x9.2.2.2.1,x9.2.2.2.2.1,e12.1,e12.2.1,e12.2.2,x9.2.2.2.2.2.1,x9.2.2.2.2.2.2.1,x9.2.2.2.2.2.2.2,e12.2.1,((List.length e12.2.1:Nat):Int),(0:Int))).bind fun q=>match q with
 |Sum.inl x18=>(bif decide (0≤(0:Int))&&decide ((0:Int)<((List.length x18.2.2.2.1:Nat):Int))then
 (rowAt? x18.2.2.2.1 (Int.toNat (0:Int))).bind fun e19=>
 (rowAt? x18.2.2.2.1 (Int.toNat (0:Int))).bind fun e20=>
 bif decide (0≤x18.2.2.2.2.2.2.2.1)&&decide (x18.2.2.2.2.2.2.2.1<((List.length e20:Nat):Int))then
 (rowAt? x18.2.2.2.1 (Int.toNat (0:Int))).bind fun e21=>
 (at? e21 (Int.toNat x18.2.2.2.2.2.2.2.1)).bind fun e22=>
 rec10 (x18.1,x18.2.1,x18.2.2.1,List.set x18.2.2.2.1 (Int.toNat (0:Int)) (some (List.set e21 (Int.toNat x18.2.2.2.2.2.2.2.1) true)),x18.2.2.2.2.1,x18.2.2.2.2.2.2.2.2.1,x18.2.2.2.2.2.2.2.2.2.1,IntKind.wrap .i64 (x18.2.2.2.2.2.2.2.2.2.2+(1:Int)))
 else none
 else none)
 |Sum.inr r=>some r)
 else
 (some x9.2.2.2.1)
def gK.P (l7:(A13)→Option (List (Option (List Bool)))) (n:Nat) (x:A13):Option (List (Option (List Bool))):=
 bif decide (0≤x.1)&&decide (x.1≤x.1)&&decide (x.1≤((au:Nat):Int))then
 (dD (gK.L1 l7) n (x.2.2.2.1,x.1,x.2.1,x.2.2.1,x.2.2.2.2.1,x.2.2.2.2.2,List.map some ([List.replicate (Int.toNat x.1) (false:Bool)]:List (List Bool)),([]:List (List Bool)),x.2.2.2.2.2,((List.length x.2.2.2.2.2:Nat):Int),(0:Int))).bind fun x7=>
 (nth? x7.1 x7.2.2.2.2.1).bind fun e8=>
 (dD (gK.L3 n) n (x7.2.1,x7.2.2.1,x7.2.2.2.1,x7.2.2.2.2.2.2.1,x7.2.2.2.2.2.2.2,e8,((List.length e8:Nat):Int),(0:Int))).bind fun x23=>
 some x23
 else none
def kR.L1 (x5:A19) (rec6:(A19)→Option LI):Option LI:=
 bif decide (x5.2.2.2<x5.2.2.1)then
 (bif decide (0≤x5.2.2.2)&&decide (x5.2.2.2<((List.length x5.2.1:Nat):Int))then
 (at? x5.2.1 (Int.toNat x5.2.2.2)).bind fun e7=>
 (bif e7 then
 (bif decide (List.length x5.1+List.length ([x5.2.2.2]:List Int)≤au)then
 some (List.append x5.1 ([x5.2.2.2]:List Int),x5.2.1,x5.2.2.1,x5.2.2.2)
 else none)
 else
 (some (x5.1,x5.2.1,x5.2.2.1,x5.2.2.2))).bind fun x8=>
 rec6 (x8.1,x8.2.1,x8.2.2.1,IntKind.wrap .i64 (x8.2.2.2+(1:Int)))
 else none)
 else
 (some x5.1)
def kR.P (pX:(A0)→Option LL) (vT:(A2)→Option Int) (l7:(A13)→Option (List (Option (List Bool)))) (n:Nat) (x:A2):Option (A12):=
 (vT (x.1,x.2.1,x.2.2.1,x.2.2.2.1,x.2.2.2.2.1,x.2.2.2.2.2)).bind fun r1=>
 bif !decide (r1=(0:Int))then
 (some (([]:List Int),r1))
 else
 ((pX (x.1,x.2.1,x.2.2.1,x.2.2.2.1)).bind fun r2=>
 (l7 (x.2.1,x.2.2.1,x.2.2.2.1,r2,x.2.2.2.2.1,x.2.2.2.2.2)).bind fun r3=>
 bif decide (0≤(0:Int))&&decide ((0:Int)<((List.length r3:Nat):Int))then
 (rowAt? r3 (Int.toNat (0:Int))).bind fun e4=>
 (dD (kR.L1) n (([]:List Int),e4,((List.length e4:Nat):Int),(0:Int))).bind fun x9=>
 some (x9,(0:Int))
 else none)
def xH.P (qc:(A2)→Option (A12)) (dP:(A0)→Option Bool) (jq:(A0)→Option (A23)) (lK:(A5)→Option Bool) (n:Nat) (x:A2):Option (A7):=
 ((dP (x.1,x.2.1,x.2.2.1,x.2.2.2.1)).bind fun r1=>
 bif !r1 then
 (some (x.1,x.2.1,x.2.2.1,x.2.2.2.1,x.2.2.2.2.1,x.2.2.2.2.2,true))
 else
 ((lK (x.1,x.2.2.2.2.1,x.2.2.2.2.2)).bind fun r2=>
 some (x.1,x.2.1,x.2.2.1,x.2.2.2.1,x.2.2.2.2.1,x.2.2.2.2.2, !r2))).bind fun x3=>
 bif x3.2.2.2.2.2.2 then
 (some ((0:Int),(1:Int)))
 else
 ((jq (x3.1,x3.2.1,x3.2.2.1,x3.2.2.2.1)).bind fun r4=>
 bif !decide (r4.2.2.2=(0:Int))then
 (some ((0:Int),r4.2.2.2))
 else
 ((qc (x3.1,r4.1,r4.2.1,r4.2.2.1,x3.2.2.2.2.1,x3.2.2.2.2.2.1)).bind fun r5=>
 bif !decide (r5.2=(0:Int))then
 (some ((0:Int),r5.2))
 else
 (bif decide (((List.length r5.1:Nat):Int)=(0:Int))then
 (some ((-1:Int),(0:Int)))
 else
 ((nth? r5.1 (0:Int)).bind fun e6=>
 some (e6,(0:Int))))))
def uf.L1 (x1:A63) (rec2:(A63)→Option (Sum Unit Bool)):Option (Sum Unit Bool):=
 bif decide (x1.2.2.2<x1.2.2.1)then
 ((nth? x1.2.1 x1.2.2.2).bind fun e3=>
 bif decide (e3=x1.1)then
 ((some true).bind fun r=>some (Sum.inr r))
 else
 (rec2 (x1.1,x1.2.1,x1.2.2.1,IntKind.wrap .i64 (x1.2.2.2+(1:Int)))))
 else
 (some (Sum.inl ()))
def uf.P (n:Nat) (x:A12):Option Bool:=
 (dD (uf.L1) n (x.2,x.1,((List.length x.1:Nat):Int),(0:Int))).bind fun q=>match q with
 |Sum.inl x4=>(some false)
 |Sum.inr r=>some r
def iQ.L1 (x1:A9) (rec2:(A9)→Option (A9)):Option (A9):=
 (bif decide (x1.2.2<((List.length x1.1:Nat):Int))then
 ((nth? x1.1 x1.2.2).bind fun e3=>
 some (x1.1,x1.2.1,x1.2.2,decide (e3<x1.2.1)))
 else
 (some (x1.1,x1.2.1,x1.2.2,false))).bind fun x4=>
 bif x4.2.2.2 then
 (rec2 (x4.1,x4.2.1,IntKind.wrap .i64 (x4.2.2.1+(1:Int))))
 else
 (some (x4.1,x4.2.1,x4.2.2.1))
def iQ.P (n:Nat) (x:A12):Option LI:=
 (dD (iQ.L1) n (x.1,x.2,(0:Int))).bind fun x5=>
 (bif decide (x5.2.2<((List.length x5.1:Nat):Int))then
 ((nth? x5.1 x5.2.2).bind fun e6=>
 some (x5.1,x5.2.1,x5.2.2,decide (e6=x5.2.1)))
 else
 (some (x5.1,x5.2.1,x5.2.2,false))).bind fun x7=>
 bif x7.2.2.2 then
 (some x7.1)
 else
 (bif decide (0≤0)&&decide (0≤x7.2.2.1)&&decide (x7.2.2.1≤((List.length x7.1:Nat):Int))then
 bif decide (List.length ([]:List Int)+List.length (List.drop (Int.toNat 0) (List.take (Int.toNat x7.2.2.1) x7.1))≤au)then
 bif decide (List.length (List.append ([]:List Int) (List.drop (Int.toNat 0) (List.take (Int.toNat x7.2.2.1) x7.1)))+List.length ([x7.2.1]:List Int)≤au)then
 bif decide (0≤x7.2.2.1)&&decide (x7.2.2.1≤((List.length x7.1:Nat):Int))&&decide (((List.length x7.1:Nat):Int)≤((List.length x7.1:Nat):Int))then
 bif decide (List.length (List.append (List.append ([]:List Int) (List.drop (Int.toNat 0) (List.take (Int.toNat x7.2.2.1) x7.1))) ([x7.2.1]:List Int))+List.length (List.drop (Int.toNat x7.2.2.1) (List.take (Int.toNat ((List.length x7.1:Nat):Int)) x7.1))≤au)then
 some (List.append (List.append (List.append ([]:List Int) (List.drop (Int.toNat 0) (List.take (Int.toNat x7.2.2.1) x7.1))) ([x7.2.1]:List Int)) (List.drop (Int.toNat x7.2.2.1) (List.take (Int.toNat ((List.length x7.1:Nat):Int)) x7.1)))
 else none
 else none
 else none
 else none
 else none)
def iM.L1 (jP:(A12)→Option Bool) (x4:A48) (rec5:(A48)→Option (A53)):Option (A53):=
 (bif x4.2.2.2.2.2.2.1 then
 (some (x4.1,x4.2.1,x4.2.2.1,x4.2.2.2.1,x4.2.2.2.2.1,x4.2.2.2.2.2.1,x4.2.2.2.2.2.2.1,x4.2.2.2.2.2.2.2.1,x4.2.2.2.2.2.2.2.2.1,x4.2.2.2.2.2.2.2.2.2.1,x4.2.2.2.2.2.2.2.2.2.2,decide (x4.2.2.2.2.2.2.2.1<((List.length x4.2.1:Nat):Int))))
 else
 (some (x4.1,x4.2.1,x4.2.2.1,x4.2.2.2.1,x4.2.2.2.2.1,x4.2.2.2.2.2.1,x4.2.2.2.2.2.2.1,x4.2.2.2.2.2.2.2.1,x4.2.2.2.2.2.2.2.2.1,x4.2.2.2.2.2.2.2.2.2.1,x4.2.2.2.2.2.2.2.2.2.2,false))).bind fun x6=>
 bif x6.2.2.2.2.2.2.2.2.2.2.2 then
 ((nth? x6.2.1 x6.2.2.2.2.2.2.2.1).bind fun e7=>
 (nth? x6.2.2.2.2.1 x6.2.2.2.2.2.2.2.1).bind fun e8=>
 (jP (e7,e8)).bind fun r9=>
 rec5 (x6.1,x6.2.1,x6.2.2.1,x6.2.2.2.1,x6.2.2.2.2.1,x6.2.2.2.2.2.1,r9,IntKind.wrap .i64 (x6.2.2.2.2.2.2.2.1+(1:Int)),x6.2.2.2.2.2.2.2.2.1,x6.2.2.2.2.2.2.2.2.2.1,x6.2.2.2.2.2.2.2.2.2.2.1))
 else
 (some (x6.1,x6.2.1,x6.2.2.1,x6.2.2.2.1,x6.2.2.2.2.1,x6.2.2.2.2.2.1,x6.2.2.2.2.2.2.1,x6.2.2.2.2.2.2.2.2.1,x6.2.2.2.2.2.2.2.2.2.1,x6.2.2.2.2.2.2.2.2.2.2.1))
def iM.L2 (jP:(A12)→Option Bool) (n:Nat) (mZ:(A12)→Option LI) (x1:A73) (rec2:(A73)→Option LI):Option LI:=
 bif decide (x1.2.2.2.2.2<x1.2.2.2.2.1)then
 ((nth? x1.2.2.2.1 x1.2.2.2.2.2).bind fun e3=>
 (dD (iM.L1 jP) n (x1.1,x1.2.1,x1.2.2.1,e3.1,e3.2.1,e3.2.2,decide (e3.1=x1.1),(0:Int),x1.2.2.2.1,x1.2.2.2.2.1,x1.2.2.2.2.2)).bind fun x10=>
 (bif x10.2.2.2.2.2.2.1 then
 ((mZ (x10.2.2.1,x10.2.2.2.2.2.1)).bind fun r11=>
 some (x10.1,x10.2.1,r11,x10.2.2.2.2.2.2.2.1,x10.2.2.2.2.2.2.2.2.1,x10.2.2.2.2.2.2.2.2.2))
 else
 (some (x10.1,x10.2.1,x10.2.2.1,x10.2.2.2.2.2.2.2.1,x10.2.2.2.2.2.2.2.2.1,x10.2.2.2.2.2.2.2.2.2))).bind fun x12=>
 rec2 (x12.1,x12.2.1,x12.2.2.1,x12.2.2.2.1,x12.2.2.2.2.1,IntKind.wrap .i64 (x12.2.2.2.2.2+(1:Int))))
 else
 (some x1.2.2.1)
def iM.P (jP:(A12)→Option Bool) (mZ:(A12)→Option LI) (n:Nat) (x:A49):Option LI:=
 (dD (iM.L2 jP n mZ) n (x.2.2.2.1,x.2.2.2.2,([]:List Int),x.2.2.1,((List.length x.2.2.1:Nat):Int),(0:Int))).bind fun x13=>
 some x13
def rU.L1 (mV:(A6)→Option LI) (x1:A37) (rec2:(A37)→Option (A62)):Option (A62):=
 bif decide (x1.2.2.2.2.2.2.2.2<x1.2.2.2.2.2.2.2.1)then
 ((nth? x1.2.2.2.2.2.2.1 x1.2.2.2.2.2.2.2.2).bind fun e3=>
 (mV (x1.1,x1.2.1,x1.2.2.1,RT.a e3,RT.kids e3)).bind fun r4=>
 bif decide (List.length x1.2.2.2.2.2.1+List.length ([r4]:List LI)≤au)then
 rec2 (x1.1,x1.2.1,x1.2.2.1,x1.2.2.2.1,x1.2.2.2.2.1,List.append x1.2.2.2.2.2.1 ([r4]:List LI),x1.2.2.2.2.2.2.1,x1.2.2.2.2.2.2.2.1,IntKind.wrap .i64 (x1.2.2.2.2.2.2.2.2+(1:Int)))
 else none)
 else
 (some (x1.1,x1.2.1,x1.2.2.1,x1.2.2.2.1,x1.2.2.2.2.1,x1.2.2.2.2.2.1))
def rU.P (mV:(A6)→Option LI) (vN:(A49)→Option LI) (n:Nat) (x:A6):Option LI:=
 (dD (rU.L1 mV) n (x.1,x.2.1,x.2.2.1,x.2.2.2.1,x.2.2.2.2,([]:List LI),x.2.2.2.2,((List.length x.2.2.2.2:Nat):Int),(0:Int))).bind fun x5=>
 (vN (x5.1,x5.2.1,x5.2.2.1,x5.2.2.2.1,x5.2.2.2.2.2)).bind fun r6=>
 some r6
def oC.L1 (jP:(A12)→Option Bool) (x1:A18) (rec2:(A18)→Option (Sum Unit Bool)):Option (Sum Unit Bool):=
 bif decide (x1.2.2.2<x1.2.2.1)then
 ((nth? x1.2.1 x1.2.2.2).bind fun e3=>
 (jP (x1.1,e3)).bind fun r4=>
 bif r4 then
 ((some true).bind fun r=>some (Sum.inr r))
 else
 (rec2 (x1.1,x1.2.1,x1.2.2.1,IntKind.wrap .i64 (x1.2.2.2+(1:Int)))))
 else
 (some (Sum.inl ()))
def oC.P (jP:(A12)→Option Bool) (n:Nat) (x:A40):Option Bool:=
 (dD (oC.L1 jP) n (x.2,x.1,((List.length x.1:Nat):Int),(0:Int))).bind fun q=>match q with
 |Sum.inl x5=>(some false)
 |Sum.inr r=>some r
def Ec.P (vY:(A40)→Option Bool) (mV:(A6)→Option LI) (n:Nat) (x:A6):Option Bool:=
 (mV (x.1,x.2.1,x.2.2.1,x.2.2.2.1,x.2.2.2.2)).bind fun r1=>
 (vY (r1,x.2.1)).bind fun r2=>
 some r2
def lT.P (jY:(A15)→Option (A64)) (n:Nat) (x:A15):Option (A64):=
 bif decide (((List.length x.2.2.1:Nat):Int)=(0:Int))then
 (some (x.2.2.2.1,x.2.2.2.2))
 else
 (bif decide (List.length ([]:List (RT Int))+List.length x.2.1≤au)then
 (nth? x.2.2.1 (0:Int)).bind fun e1=>
 (nth? x.2.2.1 (0:Int)).bind fun e2=>
 bif decide (0≤e2)&&decide (e2<((List.length (List.append ([]:List (RT Int)) x.2.1):Nat):Int))then
 (at? (List.append ([]:List (RT Int)) x.2.1) (Int.toNat e2)).bind fun e3=>
 bif decide (0≤(1:Int))&&decide ((1:Int)≤((List.length x.2.2.1:Nat):Int))&&decide (((List.length x.2.2.1:Nat):Int)≤((List.length x.2.2.1:Nat):Int))then
 (jY (RT.a e3,RT.kids e3,List.drop (Int.toNat (1:Int)) (List.take (Int.toNat ((List.length x.2.2.1:Nat):Int)) x.2.2.1),x.2.2.2.1,x.2.2.2.2)).bind fun r4=>
 bif decide (0≤e1)&&decide (e1<((List.length (List.append ([]:List (RT Int)) x.2.1):Nat):Int))then
 (at? (List.append ([]:List (RT Int)) x.2.1) (Int.toNat e1)).bind fun e5=>
 some (x.1,List.set (List.append ([]:List (RT Int)) x.2.1) (Int.toNat e1) (RT.mk r4.1 r4.2))
 else none
 else none
 else none
 else none)
def nR.P (jk:Unit→Option Bool) (vC:(A41)→Option Bool) (pV:(A2)→Option (A7)) (lZ:(A10)→Option Bool) (wE:(A47)→Option (A43)) (jY:(A15)→Option (A64)) (oh:(A5)→Option Bool) (qV:(A6)→Option Bool) (n:Nat) (x:A16):Option Bool:=
 ((vC (x.1,([(x.2.1,x.2.2.1,x.2.2.2.1)]:List (A1)))).bind fun r1=>
 bif !r1 then
 (some (x.2.2.2.2.2.2.2.2,x.1,x.2.1,x.2.2.1,x.2.2.2.1,x.2.2.2.2.1,x.2.2.2.2.2.1,x.2.2.2.2.2.2.1,x.2.2.2.2.2.2.2.1,true))
 else
 ((lZ (x.2.2.2.2.1,x.2.2.2.2.2.1,(400:Int))).bind fun r2=>
 bif !r2 then
 (some (x.2.2.2.2.2.2.2.2,x.1,x.2.1,x.2.2.1,x.2.2.2.1,x.2.2.2.2.1,x.2.2.2.2.2.1,x.2.2.2.2.2.2.1,x.2.2.2.2.2.2.2.1,true))
 else
 ((lZ (x.2.2.2.2.2.2.1,x.2.2.2.2.2.2.2.1,(400:Int))).bind fun r3=>
 bif !r3 then
 (some (x.2.2.2.2.2.2.2.2,x.1,x.2.1,x.2.2.1,x.2.2.2.1,x.2.2.2.2.1,x.2.2.2.2.2.1,x.2.2.2.2.2.2.1,x.2.2.2.2.2.2.2.1,true))
 else
 (bif decide ((400:Int)<((List.length x.2.2.2.2.2.2.2.2:Nat):Int))then
 (some (x.2.2.2.2.2.2.2.2,x.1,x.2.1,x.2.2.1,x.2.2.2.1,x.2.2.2.2.1,x.2.2.2.2.2.1,x.2.2.2.2.2.2.1,x.2.2.2.2.2.2.2.1,true))
 else
 ((oh (x.1,x.2.2.2.2.1,x.2.2.2.2.2.1)).bind fun r4=>
 bif !r4 then
 (some (x.2.2.2.2.2.2.2.2,x.1,x.2.1,x.2.2.1,x.2.2.2.1,x.2.2.2.2.1,x.2.2.2.2.2.1,x.2.2.2.2.2.2.1,x.2.2.2.2.2.2.2.1,true))
 else
 ((oh (x.1,x.2.2.2.2.2.2.1,x.2.2.2.2.2.2.2.1)).bind fun r5=>
 some (x.2.2.2.2.2.2.2.2,x.1,x.2.1,x.2.2.1,x.2.2.2.1,x.2.2.2.2.1,x.2.2.2.2.2.1,x.2.2.2.2.2.2.1,x.2.2.2.2.2.2.2.1, !r5))))))).bind fun x6=>
 bif x6.2.2.2.2.2.2.2.2.2 then
 ((jk ()).bind fun r7=>
 some r7)
 else
 ((wE (x6.2.2.2.2.2.1,x6.2.2.2.2.2.2.1,x6.1)).bind fun r8=>
 bif !r8.2.2 then
 ((jk ()).bind fun r9=>
 some r9)
 else
 ((pV (x6.2.1,x6.2.2.1,x6.2.2.2.1,x6.2.2.2.2.1,r8.1,r8.2.1)).bind fun r10=>
 (pV (x6.2.1,x6.2.2.1,x6.2.2.2.1,x6.2.2.2.2.1,x6.2.2.2.2.2.2.2.1,x6.2.2.2.2.2.2.2.2.1)).bind fun r11=>
 (bif !decide (r10.2=(0:Int))then
 (some (x6.1,x6.2.2.1,x6.2.2.2.1,x6.2.2.2.2.1,x6.2.2.2.2.2.1,x6.2.2.2.2.2.2.1,x6.2.2.2.2.2.2.2.1,x6.2.2.2.2.2.2.2.2.1,r10.1,r11.1,true))
 else
 (some (x6.1,x6.2.2.1,x6.2.2.2.1,x6.2.2.2.2.1,x6.2.2.2.2.2.1,x6.2.2.2.2.2.2.1,x6.2.2.2.2.2.2.2.1,x6.2.2.2.2.2.2.2.2.1,r10.1,r11.1, !decide (r11.2=(0:Int))))).bind fun x12=>
 bif x12.2.2.2.2.2.2.2.2.2.2 then
 ((jk ()).bind fun r13=>
 some r13)
 else
 ((qV (x12.2.1,x12.2.2.1,x12.2.2.2.1,x12.2.2.2.2.1,x12.2.2.2.2.2.1)).bind fun r14=>
 (bif decide (x12.2.2.2.2.2.2.2.2.1<(0:Int))then
 (some (x12.1,x12.2.1,x12.2.2.1,x12.2.2.2.1,x12.2.2.2.2.1,x12.2.2.2.2.2.1,x12.2.2.2.2.2.2.1,x12.2.2.2.2.2.2.2.1,x12.2.2.2.2.2.2.2.2.1,x12.2.2.2.2.2.2.2.2.2.1,r14,r14))
 else
 (some (x12.1,x12.2.1,x12.2.2.1,x12.2.2.2.1,x12.2.2.2.2.1,x12.2.2.2.2.2.1,x12.2.2.2.2.2.2.1,x12.2.2.2.2.2.2.2.1,x12.2.2.2.2.2.2.2.2.1,x12.2.2.2.2.2.2.2.2.2.1,r14,false))).bind fun x15=>
 bif x15.2.2.2.2.2.2.2.2.2.2.2 then
 (some false)
 else
 ((bif !decide (x15.2.2.2.2.2.2.2.2.1=x15.2.2.2.2.2.2.2.2.2.1)then
 ((jk ()).bind fun r16=>
 some r16)
 else
 ((jY (x15.2.2.2.2.1,x15.2.2.2.2.2.1,x15.1,x15.2.2.2.2.2.2.1,x15.2.2.2.2.2.2.2.1)).bind fun r17=>
 (qV (x15.2.1,x15.2.2.1,x15.2.2.2.1,r17.1,r17.2)).bind fun r18=>
 bif x15.2.2.2.2.2.2.2.2.2.2.1==r18 then
 ((jk ()).bind fun r19=>
 some r19)
 else
 (some false))).bind fun x20=>
 some x20))))
end Go.Bk
end
