import Derived.Test.YtdchbjmbgecejaaGreatDoorMa
set_option linter.unusedVariables false
section
namespace Go.Bk
open Go Go.AM
abbrev LI:Type:=List Int
abbrev LL:Type:=List (List Int)
abbrev LR:Type:=List (Int×List Int×Int)
abbrev Ru:Type:=Int×List Int×Int
abbrev A0:Type:=Int×LI×LR
abbrev A1:Type:=LI×Int×LI×LR
abbrev A2:Type:=Int×LI×Int×Int×LI×Int
abbrev A3:Type:=Int×LI×LR×Int×LI×LR
abbrev A4:Type:=Int×Bool
abbrev A5:Type:=LI×(List Bool)
abbrev A6:Type:=Int×LI×LR×Int×(List (RT Int))
abbrev A7:Type:=Int×Int
abbrev A8:Type:=LI×Int×Int
abbrev A9:Type:=Int×(List (RT Int))×Int
abbrev A10:Type:=LI×LI×Int×Int
abbrev A11:Type:=LI×Int×(List (RT Int))
abbrev A12:Type:=Int×LI×LR×(List Bool)
abbrev A13:Type:=LI×Int×LI×LR×LR×Int×Int
abbrev A14:Type:=Int×(List Bool)
abbrev A15:Type:=LI×Int
abbrev A16:Type:=Int×LI×LR×(List Bool)×Int×LI×LR×Int×LI×LR×LI
abbrev A17:Type:=(List Bool)×Int×LI×LR×Int×LI×LR×LI×Int×LI×LR
abbrev A18:Type:=Int×LI×LR×(List Bool)×(List Bool)×Bool×LR×Int×Int
abbrev A19:Type:=LI×LI
abbrev A20:Type:=LI×Int×LI×LR×Int×LI×LR×Int×(List (RT Int))
abbrev A21:Type:=(List Bool)×Int×LI×LR×LI×Int×LI×LR×Int×LI×Int×Bool×LI×LR×Int×Int×LI×Int×Int
abbrev A22:Type:=LI×Int×LI×LR×LR×Int×Int×LI×Int×Int
abbrev A23:Type:=Int×LI×LR×Int
abbrev A24:Type:=Int×LI×LR×(List Bool)×(List Bool)×Bool×Int×LI×Int×Bool×LR×Int×Int×LI×Int×Int
abbrev A25:Type:=Int×Int×LI×(List (Int×LI×LR))×Int×Int
abbrev A26:Type:=LI×Int×Int×(List (Int×LI×LR))
abbrev A27:Type:=(List Bool)×Int×LI×LR×Int×LI×LR×LI×Int×LI×Int×LR×Int×Int×Int×Int
abbrev A28:Type:=(List Bool)×Int×LI×LR×LI×Int×LI×LR×Int×LI×Int×Bool×LI×LR×Int×Int
abbrev A29:Type:=Int×LI×LR×(List Bool)×Bool×Int×LI×Int×Bool×LR×Int×Int×LI×Int×Int
abbrev A30:Type:=Int×LI×LR×(List Bool)×(List Bool)×Bool
abbrev A31:Type:=Int×LI×LR×LR×Int×Int
abbrev A32:Type:=Int×LI×LR×(List Bool)×Int×LI×LR×Int×LI×LR×LI×(List Bool)×Int×Int
abbrev A33:Type:=(List Bool)×Int×LI×LR×Int×LI×LR×LI×Int×LI×LR×(List Bool)×Int×Int
abbrev A34:Type:=Int×LI×LR×(List Bool)×(List Bool)×Bool×Int×LI×Int×Bool×LR×Int×Int
abbrev A35:Type:=Int×LI×LR×(List Bool)×(List Bool)×Bool×Bool×LR×Int×Int×LI×Int×Int
abbrev A36:Type:=LI×Int×LI×LR×Int×LI×LR×Int×LI×Int×LR×Int×Int×LI×Int×Int
abbrev A37:Type:=LI×Int×LI×LR×Int×LI×LR
abbrev A38:Type:=(List Bool)×Int×LI×LR×Int×LI×LR×LI×Int×LI×Int×LR×Int×Int
abbrev A39:Type:=Int×LI×LR×(List Bool)×Int×LI×LR×Int×LI×LR×LI×LI×Int×Int
abbrev A40:Type:=Int×LI×LR×LI×Int×LR×Int×LI×Int×LR×Int×Int×LI×Int×Int
abbrev A41:Type:=(List Bool)×Int×LI×LR×Int×LI×LR×LI×Int×LI×LR×LI×Int×Int
abbrev A42:Type:=LI×(List Bool)×Int×Int
abbrev A43:Type:=Int×Int×LI×LR
abbrev A44:Type:=Int×LI×LR×(List Bool)×Bool×Int×LI×Int×Bool×LR×Int×Int
abbrev A45:Type:=Int×LI×LR×LI×Int×LR
abbrev A46:Type:=LI×Int×LI×LR×LI×Int×Int
abbrev A47:Type:=Int×LI×LR×LI×Int×LR×LR×Int×Int
abbrev A48:Type:=LI×Int×LI×LR×Int×LI×LR×Int×LI×Int×LR×Int×Int
abbrev A49:Type:=Int×LI×LR×Int×(List (RT Int))×LL×(List (RT Int))×Int×Int
abbrev A50:Type:=LI×Int×LI×LR×Int×LI×LR×Int×LI×LR×LI×Int×Int
abbrev A51:Type:=Int×Int×LI×(List (Int×LI×LR))×Int×Int×LR×Int×Int
abbrev A52:Type:=Int×LI×LR×(List Bool)×Bool
abbrev A53:Type:=LI×(List (Int×LI×LR))
abbrev A54:Type:=(List Bool)×Int×LI×LR×Int×LI×LR×LI×LR×Int×Int
abbrev A55:Type:=Int×LI×LR×Int×LI×Int×LR×Int×Int×LR×Int×Int
abbrev A56:Type:=(List Bool)×Int×LI×LR×LI×Int×LI×LR×LR×Int×Int
abbrev A57:Type:=Int×LI×LR×LI×Int×LR×Int×LI×Int×LR×Int×Int
abbrev A58:Type:=Bool×Int
abbrev A59:Type:=Int×LI×LR×LL×Int
abbrev A60:Type:=Int×LI×LR×Int×LI
abbrev A61:Type:=Int×LL×LI×Int×LI×Int×Bool×Int×LR×Int×Int
abbrev A62:Type:=Int×LI×LR×Int×LL
abbrev A63:Type:=Int×LI×LR×Int×LI×LR×LI×Int×LI×Int×Int
abbrev A64:Type:=Int×LI×LR×(List Bool)×(List Bool)×LI×Int×Int
abbrev A65:Type:=Int×LI
abbrev A66:Type:=Int×LL×LI×Int×LI×Int×Bool×LR×Int×Int
abbrev A67:Type:=LI×Int×LI×LR×Int×LI×LR×LR×Int×Int
abbrev A68:Type:=LI×Int×LI×LR×Int×LI×LR×Int×LI×LR
abbrev A69:Type:=Int×LI×LR×(List Bool)×Bool×LR×Int×Int
abbrev A70:Type:=Int×LI×LR×LI×Int
abbrev A71:Type:=LR×Int×LI×Int×Int×Int×LR×Int×Int
abbrev A72:Type:=Int×LI×LR×Int×LI×LR×LR×Int×Int
abbrev A73:Type:=LR×Int×LI×Int×Int×LR×Int×Int
abbrev A74:Type:=Int×LI×Int
abbrev A75:Type:=Int×LI×LR×LI×Int×LR×Int×Int
abbrev A76:Type:=Int×LI×LR×Int×LI×LR×LI×Int
abbrev A77:Type:=Int×LI×LR×Int×(List (RT Int))×LL
abbrev A78:Type:=Int×LI×Int×Int
abbrev A79:Type:=Int×LI×LR×(List Bool)×(List Bool)
abbrev A80:Type:=LR×LR×Int×Int
abbrev A81:Type:=Int×Int×(List (RT Int))×Int×Int
abbrev A82:Type:=Int×LI×LR×Int×LI×LR×LL
abbrev A83:Type:=LI×Int×LI×Int×Int×Int
abbrev A84:Type:=Int×LI×LR×LI×Int×Int
abbrev A85:Type:=LI×(List (RT Int))×Int×Int
abbrev A86:Type:=Int×LL×LI×LR×Int×Int
abbrev A87:Type:=(List Bool)×LI×Int×Int
abbrev A88:Type:=LR×Int×Int×Int×Int
abbrev A89:Type:=LI×Int×Int×Int×Int
abbrev A90:Type:=LI×LI×LI×Int×Int
abbrev A91:Type:=LR×LR
def BI:Nat->Nat->List Int
 |0,u=>[((48+u % 10:Nat):Int)]
 |f+1,u=>bif Nat.blt u 10 then[((48+u:Nat):Int)]else BI f (u/10)++[((48+u % 10:Nat):Int)]
def dig (v:Int):List Int:=bif decide (v<0)then 45::BI 20 v.natAbs else BI 20 v.toNat
def ins {α:Type} (le:α->α->Bool) (x:α):List α->List α
 | []=>[x]
 |y::l=>bif le x y then x::y::l else y::ins le x l
def Es {α:Type} (le:α->α->Bool):List α->List α
 | []=>[]
 |x::l=>ins le x (Es le l)
def KL (a b:Int):Int:=bif decide (a<b)then -1 else bif decide (b<a)then 1 else 0
def cmpL:List Int->List Int->Int
 | [],[]=>0
 | [],_::_=> -1
 |_::_,[]=>1
 |a::l,b::m=>bif decide (a=b)then cmpL l m else KL a b
def xK (x y:Ru):Int:=bif decide (x.1=y.1)then(bif decide (cmpL x.2.1 y.2.1=0)then KL x.2.2 y.2.2 else cmpL x.2.1 y.2.1)else KL x.1 y.1
end Go.Bk
end
noncomputable section
namespace Go.Bk
open Go Go.AM
set_option maxRecDepth 100000
def gV.L1 (x5:A51) (rec6:(A51)->Option (Sum (A25) (Sum LI Bool))):Option (Sum (A25) (Sum LI Bool)):=
 bif decide (x5.2.2.2.2.2.2.2.2<x5.2.2.2.2.2.2.2.1)then
 ((nth? x5.2.2.2.2.2.2.1 x5.2.2.2.2.2.2.2.2).bind λ e7=>
 bif decide ((10:Int)<((List.length e7.2.1:Nat):Int))then
 (((some false).bind λ r=>some (Sum.inr r)).bind λ r=>some (Sum.inr r))
 else
 (rec6 (x5.1,x5.2.1,x5.2.2.1,x5.2.2.2.1,x5.2.2.2.2.1,x5.2.2.2.2.2.1,x5.2.2.2.2.2.2.1,x5.2.2.2.2.2.2.2.1,IntKind.wrap .i64 (x5.2.2.2.2.2.2.2.2+(1:Int)))))
 else
 (some (Sum.inl (x5.1,x5.2.1,x5.2.2.1,x5.2.2.2.1,x5.2.2.2.2.1,x5.2.2.2.2.2.1)))
def gV.L2 (n:Nat) (x1:A25) (rec2:(A25)->Option (Sum LI Bool)):Option (Sum LI Bool):=
 bif decide (x1.2.2.2.2.2<x1.2.2.2.2.1)then
 ((nth? x1.2.2.2.1 x1.2.2.2.2.2).bind λ e3=>
 (bif decide (x1.2.1<((List.length e3.2.1:Nat):Int))then
 (some (x1.1,x1.2.1,x1.2.2.1,e3.1,e3.2.1,e3.2.2,x1.2.2.2.1,x1.2.2.2.2.1,x1.2.2.2.2.2,true))
 else
 (bif decide (x1.2.1<((List.length e3.2.2:Nat):Int))then
 (some (x1.1,x1.2.1,x1.2.2.1,e3.1,e3.2.1,e3.2.2,x1.2.2.2.1,x1.2.2.2.2.1,x1.2.2.2.2.2,true))
 else
 (bif decide (x1.1<e3.1)then
 (some (x1.1,x1.2.1,x1.2.2.1,e3.1,e3.2.1,e3.2.2,x1.2.2.2.1,x1.2.2.2.2.1,x1.2.2.2.2.2,decide (e3.1<=(300:Int))))
 else
 (some (x1.1,x1.2.1,x1.2.2.1,e3.1,e3.2.1,e3.2.2,x1.2.2.2.1,x1.2.2.2.2.1,x1.2.2.2.2.2,false))))).bind λ x4=>
 bif x4.2.2.2.2.2.2.2.2.2 then
 ((some false).bind λ r=>some (Sum.inr r))
 else
 ((cu (gV.L1) n (x4.1,x4.2.1,x4.2.2.1,x4.2.2.2.2.2.2.1,x4.2.2.2.2.2.2.2.1,x4.2.2.2.2.2.2.2.2.1,x4.2.2.2.2.2.1,((List.length x4.2.2.2.2.2.1:Nat):Int),(0:Int))).bind λ q=>match q with
 |Sum.inl x8=>(rec2 (x8.1,x8.2.1,x8.2.2.1,x8.2.2.2.1,x8.2.2.2.2.1,IntKind.wrap .i64 (x8.2.2.2.2.2+(1:Int))))
 |Sum.inr r=>some r))
 else
 (some (Sum.inl x1.2.2.1))
def gV.P (n:Nat) (x:A26):Option Bool:=
 (cu (gV.L2 n) n (x.2.1,x.2.2.1,x.1,x.2.2.2,((List.length x.2.2.2:Nat):Int),(0:Int))).bind λ q=>match q with
 |Sum.inl x9=>(some (decide (((List.length x9:Nat):Int)<=(40:Int))))
 |Sum.inr r=>some r
def Et.P (yP:(A26)->Option Bool) (n:Nat) (x:A53):Option Bool:=
 (yP (x.1,(8:Int),(40:Int),x.2)).bind λ r1=>
 some r1
def kL.L1 (jF:(A9)->Option Int) (x1:A81) (rec2:(A81)->Option Int):Option Int:=
 bif decide (x1.2.2.2.2<x1.2.2.2.1)then
 ((nth? x1.2.2.1 x1.2.2.2.2).bind λ e3=>
 (bif decide (x1.2.1<=x1.1)then
 ((jF (RT.a e3,RT.kids e3,IntKind.wrap .i64 (x1.1-x1.2.1))).bind λ r4=>
 some (x1.1,IntKind.wrap .i64 (x1.2.1+r4),x1.2.2.1,x1.2.2.2.1,x1.2.2.2.2))
 else
 (some (x1.1,x1.2.1,x1.2.2.1,x1.2.2.2.1,x1.2.2.2.2))).bind λ x5=>
 rec2 (x5.1,x5.2.1,x5.2.2.1,x5.2.2.2.1,IntKind.wrap .i64 (x5.2.2.2.2+(1:Int))))
 else
 (some x1.2.1)
def kL.P (jF:(A9)->Option Int) (n:Nat) (x:A9):Option Int:=
 (cu (kL.L1 jF) n (x.2.2,(1:Int),x.2.1,((List.length x.2.1:Nat):Int),(0:Int))).bind λ x6=>
 some x6
def EI.P (jF:(A9)->Option Int) (n:Nat) (x:A9):Option Bool:=
 (jF (x.1,x.2.1,x.2.2)).bind λ r1=>
 some (decide (r1<=x.2.2))
def FC.P (n:Nat) (x:Unit):Option (A0):=
 some ((2:Int),([(1:Int)]:List Int),([((0:Int),([]:List Int),(0:Int)),((1:Int),([]:List Int),(0:Int)),((1:Int),([]:List Int),(1:Int)),((2:Int),([(0:Int),(0:Int)]:List Int),(0:Int)),((2:Int),([(1:Int),(0:Int)]:List Int),(1:Int)),((2:Int),([(0:Int),(1:Int)]:List Int),(1:Int))]:List Ru))
def gX.P (n:Nat) (x:Int):Option Bool:=
 (bif decide (x<(0:Int))then
 (some true)
 else
 (some (decide ((3:Int)<x)))).bind λ x1=>
 some x1
def fO.L1 (fU:Int->Option Bool) (x1:A8) (rec2:(A8)->Option (Sum Unit Int)):Option (Sum Unit Int):=
 bif decide (x1.2.2<x1.2.1)then
 ((nth? x1.1 x1.2.2).bind λ e3=>
 (fU e3).bind λ r4=>
 bif r4 then
 ((some x1.2.2).bind λ r=>some (Sum.inr r))
 else
 (rec2 (x1.1,x1.2.1,IntKind.wrap .i64 (x1.2.2+(1:Int)))))
 else
 (some (Sum.inl ()))
def fO.P (fU:Int->Option Bool) (n:Nat) (x:List Int):Option Int:=
 (cu (fO.L1 fU) n (x,((List.length x:Nat):Int),(0:Int))).bind λ q=>match q with
 |Sum.inl x5=>(some (-1:Int))
 |Sum.inr r=>some r
def jW.P (kJ:List Int->Option Int) (n:Nat) (x:List Int):Option Bool:=
 (kJ x).bind λ r1=>
 some (decide ((0:Int)<=r1))
def jS.P (jq:List Int->Option Bool) (n:Nat) (x:List Int):Option Bool:=
 (bif decide (((List.length x:Nat):Int)<=(12:Int))then
 ((jq x).bind λ r1=>
 some (!r1))
 else
 (some false)).bind λ x2=>
 some x2
def qj.P (n:Nat) (x:A43):Option Bool:=
 (bif decide ((0:Int)<=x.1)then
 (some (decide (x.1<x.2.1)))
 else
 (some false)).bind λ x1=>
 some x1
def bU.L1 (fK:(A43)->Option Bool) (x3:A46) (rec4:(A46)->Option (Sum (A1) Bool)):Option (Sum (A1) Bool):=
 bif decide (x3.2.2.2.2.2.2<x3.2.2.2.2.2.1)then
 ((nth? x3.2.2.2.2.1 x3.2.2.2.2.2.2).bind λ e5=>
 ((fK (e5,x3.2.1,x3.2.2.1,x3.2.2.2.1)).bind λ r6=>
 bif !r6 then
 (some (x3.1,x3.2.1,x3.2.2.1,x3.2.2.2.1,x3.2.2.2.2.1,x3.2.2.2.2.2.1,x3.2.2.2.2.2.2,true))
 else
 (bif decide ((0:Int)<x3.2.2.2.2.2.2)then
 ((nth? x3.2.2.1 (IntKind.wrap .i64 (x3.2.2.2.2.2.2-(1:Int)))).bind λ e7=>
 some (x3.1,x3.2.1,x3.2.2.1,x3.2.2.2.1,x3.2.2.2.2.1,x3.2.2.2.2.2.1,x3.2.2.2.2.2.2,decide (e5<=e7)))
 else
 (some (x3.1,x3.2.1,x3.2.2.1,x3.2.2.2.1,x3.2.2.2.2.1,x3.2.2.2.2.2.1,x3.2.2.2.2.2.2,false)))).bind λ x8=>
 bif x8.2.2.2.2.2.2.2 then
 ((some false).bind λ r=>some (Sum.inr r))
 else
 (rec4 (x8.1,x8.2.1,x8.2.2.1,x8.2.2.2.1,x8.2.2.2.2.1,x8.2.2.2.2.2.1,IntKind.wrap .i64 (x8.2.2.2.2.2.2.1+(1:Int)))))
 else
 (some (Sum.inl (x3.1,x3.2.1,x3.2.2.1,x3.2.2.2.1)))
def bU.L2 (fK:(A43)->Option Bool) (x16:A22) (rec17:(A22)->Option (Sum (A13) (Sum Unit Bool))):Option (Sum (A13) (Sum Unit Bool)):=
 bif decide (x16.2.2.2.2.2.2.2.2.2<x16.2.2.2.2.2.2.2.2.1)then
 ((nth? x16.2.2.2.2.2.2.2.1 x16.2.2.2.2.2.2.2.2.2).bind λ e18=>
 (fK (e18,x16.2.1,x16.2.2.1,x16.2.2.2.1)).bind λ r19=>
 bif !r19 then
 (((some false).bind λ r=>some (Sum.inr r)).bind λ r=>some (Sum.inr r))
 else
 (rec17 (x16.1,x16.2.1,x16.2.2.1,x16.2.2.2.1,x16.2.2.2.2.1,x16.2.2.2.2.2.1,x16.2.2.2.2.2.2.1,x16.2.2.2.2.2.2.2.1,x16.2.2.2.2.2.2.2.2.1,IntKind.wrap .i64 (x16.2.2.2.2.2.2.2.2.2+(1:Int)))))
 else
 (some (Sum.inl (x16.1,x16.2.1,x16.2.2.1,x16.2.2.2.1,x16.2.2.2.2.1,x16.2.2.2.2.2.1,x16.2.2.2.2.2.2.1)))
def bU.L3 (fK:(A43)->Option Bool) (n:Nat) (x10:A13) (rec11:(A13)->Option (Sum Unit Bool)):Option (Sum Unit Bool):=
 bif decide (x10.2.2.2.2.2.2<x10.2.2.2.2.2.1)then
 ((nth? x10.2.2.2.2.1 x10.2.2.2.2.2.2).bind λ e12=>
 (bif decide (e12.1<(0:Int))then
 (some (x10.1,x10.2.1,x10.2.2.1,x10.2.2.2.1,e12.1,e12.2.1,e12.2.2,x10.2.2.2.2.1,x10.2.2.2.2.2.1,x10.2.2.2.2.2.2,true))
 else
 (bif decide (((List.length x10.1:Nat):Int)<=e12.1)then
 (some (x10.1,x10.2.1,x10.2.2.1,x10.2.2.2.1,e12.1,e12.2.1,e12.2.2,x10.2.2.2.2.1,x10.2.2.2.2.2.1,x10.2.2.2.2.2.2,true))
 else
 ((nth? x10.1 e12.1).bind λ e13=>
 bif !decide (((List.length e12.2.1:Nat):Int)=e13)then
 (some (x10.1,x10.2.1,x10.2.2.1,x10.2.2.2.1,e12.1,e12.2.1,e12.2.2,x10.2.2.2.2.1,x10.2.2.2.2.2.1,x10.2.2.2.2.2.2,true))
 else
 ((fK (e12.2.2,x10.2.1,x10.2.2.1,x10.2.2.2.1)).bind λ r14=>
 some (x10.1,x10.2.1,x10.2.2.1,x10.2.2.2.1,e12.1,e12.2.1,e12.2.2,x10.2.2.2.2.1,x10.2.2.2.2.2.1,x10.2.2.2.2.2.2, !r14))))).bind λ x15=>
 bif x15.2.2.2.2.2.2.2.2.2.2 then
 ((some false).bind λ r=>some (Sum.inr r))
 else
 ((cu (bU.L2 fK) n (x15.1,x15.2.1,x15.2.2.1,x15.2.2.2.1,x15.2.2.2.2.2.2.2.1,x15.2.2.2.2.2.2.2.2.1,x15.2.2.2.2.2.2.2.2.2.1,x15.2.2.2.2.2.1,((List.length x15.2.2.2.2.2.1:Nat):Int),(0:Int))).bind λ q=>match q with
 |Sum.inl x20=>(rec11 (x20.1,x20.2.1,x20.2.2.1,x20.2.2.2.1,x20.2.2.2.2.1,x20.2.2.2.2.2.1,IntKind.wrap .i64 (x20.2.2.2.2.2.2+(1:Int))))
 |Sum.inr r=>some r))
 else
 (some (Sum.inl ()))
def bU.P (fK:(A43)->Option Bool) (jh:List Int->Option Bool) (n:Nat) (x:A1):Option Bool:=
 ((jh x.1).bind λ r1=>
 bif !r1 then
 (some (x.1,x.2.1,x.2.2.1,x.2.2.2,true))
 else
 (bif decide (x.2.1<(0:Int))then
 (some (x.1,x.2.1,x.2.2.1,x.2.2.2,true))
 else
 (bif decide ((300:Int)<x.2.1)then
 (some (x.1,x.2.1,x.2.2.1,x.2.2.2,true))
 else
 (some (x.1,x.2.1,x.2.2.1,x.2.2.2,decide ((20000:Int)<((List.length x.2.2.2:Nat):Int))))))).bind λ x2=>
 bif x2.2.2.2.2 then
 (some false)
 else
 ((cu (bU.L1 fK) n (x2.1,x2.2.1,x2.2.2.1,x2.2.2.2.1,x2.2.2.1,((List.length x2.2.2.1:Nat):Int),(0:Int))).bind λ q=>match q with
 |Sum.inl x9=>((cu (bU.L3 fK n) n (x9.1,x9.2.1,x9.2.2.1,x9.2.2.2,x9.2.2.2,((List.length x9.2.2.2:Nat):Int),(0:Int))).bind λ q=>match q with
 |Sum.inl x21=>(some true)
 |Sum.inr r=>some r)
 |Sum.inr r=>some r)
def fG.P (bZ:(A8)->Option LI) (n:Nat) (x:A8):Option LI:=
 (bif decide (x.2.1<(0:Int))then
 (bif decide (List.length x.1+List.length ([(45:Int)]:List Int)<=au)then
 some (List.append x.1 ([(45:Int)]:List Int),x.2.2,IntKind.wrap .u64 (0-(IntKind.wrap .u64 x.2.1)))
 else none)
 else
 (some (x.1,x.2.2,IntKind.wrap .u64 x.2.1))).bind λ x1=>
 (bZ (x1.1,x1.2.2,x1.2.1)).bind λ r2=>
 some r2
def kD.P (dK:(A8)->Option LI) (n:Nat) (x:A8):Option LI:=
 (dK (x.1,x.2.1,x.2.2)).bind λ r1=>
 some r1
def qC.L1 (aY:(A8)->Option LI) (x2:A10) (rec3:(A10)->Option LI):Option LI:=
 bif decide (x2.2.2.2<x2.2.2.1)then
 ((nth? x2.2.1 x2.2.2.2).bind λ e4=>
 bif decide (List.length x2.1+List.length ([(44:Int)]:List Int)<=au)then
 (aY (List.append x2.1 ([(44:Int)]:List Int),e4,(10:Int))).bind λ r5=>
 rec3 (r5,x2.2.1,x2.2.2.1,IntKind.wrap .i64 (x2.2.2.2+(1:Int)))
 else none)
 else
 (some x2.1)
def qC.P (aY:(A8)->Option LI) (n:Nat) (x:A65):Option ByteArray:=
 (aY (([]:List Int),x.1,(10:Int))).bind λ r1=>
 (cu (qC.L1 aY) n (r1,x.2,((List.length x.2:Nat):Int),(0:Int))).bind λ x6=>
 some (wo x6)
def dW.L1 (kR:(A65)->Option ByteArray) (x2:(Option (List (ByteArray×Bool)))×LR×Int×Int) (rec3:((Option (List (ByteArray×Bool)))×LR×Int×Int)->Option (Sum Unit (A58))):Option (Sum Unit (A58)):=
 bif decide (x2.2.2.2<x2.2.2.1)then
 ((nth? x2.2.1 x2.2.2.2).bind λ e4=>
 (kR (e4.1,e4.2.1)).bind λ r5=>
 bif Option.getD (og seq r5 (l9 x2.1)) false then
 ((some (false,(0:Int))).bind λ r=>some (Sum.inr r))
 else
 ((x2.1).bind λ m6=>
 rec3 (some (E5 seq r5 true m6),x2.2.1,x2.2.2.1,IntKind.wrap .i64 (x2.2.2.2+(1:Int)))))
 else
 (some (Sum.inl ()))
def dW.P (fC:(A1)->Option Bool) (kR:(A65)->Option ByteArray) (n:Nat) (x:A1):Option (A58):=
 (fC (x.1,x.2.1,x.2.2.1,x.2.2.2)).bind λ r1=>
 bif !r1 then
 (some (false,(1:Int)))
 else
 ((cu (dW.L1 kR) n ((some []:Option (List (ByteArray×Bool))),x.2.2.2,((List.length x.2.2.2:Nat):Int),(0:Int))).bind λ q=>match q with
 |Sum.inl x7=>(some (true,(0:Int)))
 |Sum.inr r=>some r)
def pG.L1 (bC:List Int->Option LI) (x2:A72) (rec3:(A72)->Option (A3)):Option (A3):=
 bif decide (x2.2.2.2.2.2.2.2.2<x2.2.2.2.2.2.2.2.1)then
 ((nth? x2.2.2.2.2.2.2.1 x2.2.2.2.2.2.2.2.2).bind λ e4=>
 (bC e4.2.1).bind λ r5=>
 bif decide (List.length x2.2.2.2.2.2.1+List.length ([(e4.1,r5,e4.2.2)]:List Ru)<=au)then
 rec3 (x2.1,x2.2.1,x2.2.2.1,x2.2.2.2.1,x2.2.2.2.2.1,List.append x2.2.2.2.2.2.1 ([(e4.1,r5,e4.2.2)]:List Ru),x2.2.2.2.2.2.2.1,x2.2.2.2.2.2.2.2.1,IntKind.wrap .i64 (x2.2.2.2.2.2.2.2.2+(1:Int)))
 else none)
 else
 (some (x2.1,x2.2.1,x2.2.2.1,x2.2.2.2.1,x2.2.2.2.2.1,x2.2.2.2.2.2.1))
def pG.P (bC:List Int->Option LI) (n:Nat) (x:A0):Option (A0):=
 (bC x.2.1).bind λ r1=>
 (cu (pG.L1 bC) n ((0:Int),([]:List Int),([]:List Ru),x.1,r1,([]:List Ru),x.2.2,((List.length x.2.2:Nat):Int),(0:Int))).bind λ x6=>
 some (x6.2.2.2.1,x6.2.2.2.2.1,x6.2.2.2.2.2)
def jM.P (n:Nat) (x:LI×(Option (List (A4)))×Int):Option (LI×(Option (List (A4)))):=
 (bif Option.isNone x.2.1 then
 (some (x.1,(some []:Option (List (A4))),x.2.2))
 else
 (some (x.1,x.2.1,x.2.2))).bind λ x1=>
 (bif !(Option.getD (og ieq x1.2.2 (l9 x1.2.1)) false)then
 ((x1.2.1).bind λ m2=>
 bif decide (List.length x1.1+List.length ([x1.2.2]:List Int)<=au)then
 some (List.append x1.1 ([x1.2.2]:List Int),some (E5 ieq x1.2.2 true m2))
 else none)
 else
 (some (x1.1,x1.2.1))).bind λ x3=>
 some (x3.1,x3.2)
def bT.L1 (x5:Int×LI×LR×(List Bool)×LI×(List (Option LI))×LI×(Option (List (A4)))×Int×Int×LI×Int×LR×Int×Int×LI×Int×Int) (rec6:(Int×LI×LR×(List Bool)×LI×(List (Option LI))×LI×(Option (List (A4)))×Int×Int×LI×Int×LR×Int×Int×LI×Int×Int)->Option (Int×LI×LR×(List Bool)×LI×(List (Option LI))×LI×(Option (List (A4)))×Int×Int×LI×Int×LR×Int×Int)):Option (Int×LI×LR×(List Bool)×LI×(List (Option LI))×LI×(Option (List (A4)))×Int×Int×LI×Int×LR×Int×Int):=
 bif decide (x5.2.2.2.2.2.2.2.2.2.2.2.2.2.2.2.2.2<x5.2.2.2.2.2.2.2.2.2.2.2.2.2.2.2.2.1)then
 ((nth? x5.2.2.2.2.2.2.2.2.2.2.2.2.2.2.2.1 x5.2.2.2.2.2.2.2.2.2.2.2.2.2.2.2.2.2).bind λ e7=>
 bif decide (0<=e7)&&decide (e7<((List.length x5.2.2.2.2.2.1:Nat):Int))then
 (rowAt? x5.2.2.2.2.2.1 (Int.toNat e7)).bind λ e8=>
 (rowAt? x5.2.2.2.2.2.1 (Int.toNat e7)).bind λ e9=>
 bif decide (List.length e9+List.length ([x5.2.2.2.2.2.2.2.2.1]:List Int)<=au)then
 bif decide (0<=e7)&&decide (e7<((List.length (List.set x5.2.2.2.2.2.1 (Int.toNat e7) none):Nat):Int))then
 rec6 (x5.1,x5.2.1,x5.2.2.1,x5.2.2.2.1,x5.2.2.2.2.1,List.set (List.set x5.2.2.2.2.2.1 (Int.toNat e7) none) (Int.toNat e7) (some (List.append e9 ([x5.2.2.2.2.2.2.2.2.1]:List Int))),x5.2.2.2.2.2.2.1,x5.2.2.2.2.2.2.2.1,x5.2.2.2.2.2.2.2.2.1,x5.2.2.2.2.2.2.2.2.2.1,x5.2.2.2.2.2.2.2.2.2.2.1,x5.2.2.2.2.2.2.2.2.2.2.2.1,x5.2.2.2.2.2.2.2.2.2.2.2.2.1,x5.2.2.2.2.2.2.2.2.2.2.2.2.2.1,x5.2.2.2.2.2.2.2.2.2.2.2.2.2.2.1,x5.2.2.2.2.2.2.2.2.2.2.2.2.2.2.2.1,x5.2.2.2.2.2.2.2.2.2.2.2.2.2.2.2.2.1,IntKind.wrap .i64 (x5.2.2.2.2.2.2.2.2.2.2.2.2.2.2.2.2.2+(1:Int)))
 else none
 else none
 else none)
 else
 (some (x5.1,x5.2.1,x5.2.2.1,x5.2.2.2.1,x5.2.2.2.2.1,x5.2.2.2.2.2.1,x5.2.2.2.2.2.2.1,x5.2.2.2.2.2.2.2.1,x5.2.2.2.2.2.2.2.2.1,x5.2.2.2.2.2.2.2.2.2.1,x5.2.2.2.2.2.2.2.2.2.2.1,x5.2.2.2.2.2.2.2.2.2.2.2.1,x5.2.2.2.2.2.2.2.2.2.2.2.2.1,x5.2.2.2.2.2.2.2.2.2.2.2.2.2.1,x5.2.2.2.2.2.2.2.2.2.2.2.2.2.2.1))
def bT.L2 (n:Nat) (aI:(LI×(Option (List (A4)))×Int)->Option (LI×(Option (List (A4))))) (x1:Int×LI×LR×(List Bool)×LI×(List (Option LI))×LI×(Option (List (A4)))×LR×Int×Int) (rec2:(Int×LI×LR×(List Bool)×LI×(List (Option LI))×LI×(Option (List (A4)))×LR×Int×Int)->Option (Int×LI×LR×(List Bool)×LI×(List (Option LI))×LI×(Option (List (A4))))):Option (Int×LI×LR×(List Bool)×LI×(List (Option LI))×LI×(Option (List (A4)))):=
 bif decide (x1.2.2.2.2.2.2.2.2.2.2<x1.2.2.2.2.2.2.2.2.2.1)then
 ((nth? x1.2.2.2.2.2.2.2.2.1 x1.2.2.2.2.2.2.2.2.2.2).bind λ e3=>
 bif decide (0<=x1.2.2.2.2.2.2.2.2.2.2)&&decide (x1.2.2.2.2.2.2.2.2.2.2<((List.length x1.2.2.2.2.1:Nat):Int))then
 (at? x1.2.2.2.2.1 (Int.toNat x1.2.2.2.2.2.2.2.2.2.2)).bind λ e4=>
 (cu (bT.L1) n (x1.1,x1.2.1,x1.2.2.1,x1.2.2.2.1,List.set x1.2.2.2.2.1 (Int.toNat x1.2.2.2.2.2.2.2.2.2.2) ((List.length e3.2.1:Nat):Int),x1.2.2.2.2.2.1,x1.2.2.2.2.2.2.1,x1.2.2.2.2.2.2.2.1,x1.2.2.2.2.2.2.2.2.2.2,e3.1,e3.2.1,e3.2.2,x1.2.2.2.2.2.2.2.2.1,x1.2.2.2.2.2.2.2.2.2.1,x1.2.2.2.2.2.2.2.2.2.2,e3.2.1,((List.length e3.2.1:Nat):Int),(0:Int))).bind λ x10=>
 bif decide (0<=x10.2.2.2.2.2.2.2.2.1)&&decide (x10.2.2.2.2.2.2.2.2.1<((List.length x10.2.2.2.2.1:Nat):Int))then
 (at? x10.2.2.2.2.1 (Int.toNat x10.2.2.2.2.2.2.2.2.1)).bind λ e11=>
 (bif decide (e11=(0:Int))then
 ((aI (x10.2.2.2.2.2.2.1,x10.2.2.2.2.2.2.2.1,x10.2.2.2.2.2.2.2.2.2.2.2.1)).bind λ r12=>
 some (x10.1,x10.2.1,x10.2.2.1,x10.2.2.2.1,x10.2.2.2.2.1,x10.2.2.2.2.2.1,r12.1,r12.2,x10.2.2.2.2.2.2.2.2.2.2.2.2.1,x10.2.2.2.2.2.2.2.2.2.2.2.2.2.1,x10.2.2.2.2.2.2.2.2.2.2.2.2.2.2))
 else
 (some (x10.1,x10.2.1,x10.2.2.1,x10.2.2.2.1,x10.2.2.2.2.1,x10.2.2.2.2.2.1,x10.2.2.2.2.2.2.1,x10.2.2.2.2.2.2.2.1,x10.2.2.2.2.2.2.2.2.2.2.2.2.1,x10.2.2.2.2.2.2.2.2.2.2.2.2.2.1,x10.2.2.2.2.2.2.2.2.2.2.2.2.2.2))).bind λ x13=>
 rec2 (x13.1,x13.2.1,x13.2.2.1,x13.2.2.2.1,x13.2.2.2.2.1,x13.2.2.2.2.2.1,x13.2.2.2.2.2.2.1,x13.2.2.2.2.2.2.2.1,x13.2.2.2.2.2.2.2.2.1,x13.2.2.2.2.2.2.2.2.2.1,IntKind.wrap .i64 (x13.2.2.2.2.2.2.2.2.2.2+(1:Int)))
 else none
 else none)
 else
 (some (x1.1,x1.2.1,x1.2.2.1,x1.2.2.2.1,x1.2.2.2.2.1,x1.2.2.2.2.2.1,x1.2.2.2.2.2.2.1,x1.2.2.2.2.2.2.2.1))
def bT.L3 (aI:(LI×(Option (List (A4)))×Int)->Option (LI×(Option (List (A4))))) (x22:Int×LI×LR×(List Bool)×LI×LL×LI×(Option (List (A4)))×Int×LI×Int×Int) (rec23:(Int×LI×LR×(List Bool)×LI×LL×LI×(Option (List (A4)))×Int×LI×Int×Int)->Option (Int×LI×LR×(List Bool)×LI×LL×LI×(Option (List (A4)))×Int)):Option (Int×LI×LR×(List Bool)×LI×LL×LI×(Option (List (A4)))×Int):=
 bif decide (x22.2.2.2.2.2.2.2.2.2.2.2<x22.2.2.2.2.2.2.2.2.2.2.1)then
 ((nth? x22.2.2.2.2.2.2.2.2.2.1 x22.2.2.2.2.2.2.2.2.2.2.2).bind λ e24=>
 bif decide (0<=e24)&&decide (e24<((List.length x22.2.2.2.2.1:Nat):Int))then
 (at? x22.2.2.2.2.1 (Int.toNat e24)).bind λ e25=>
 bif decide (0<=e24)&&decide (e24<((List.length x22.2.2.2.2.1:Nat):Int))then
 (at? x22.2.2.2.2.1 (Int.toNat e24)).bind λ e26=>
 bif decide (0<=e24)&&decide (e24<((List.length (List.set x22.2.2.2.2.1 (Int.toNat e24) (IntKind.wrap .i64 (e25-(1:Int)))):Nat):Int))then
 (at? (List.set x22.2.2.2.2.1 (Int.toNat e24) (IntKind.wrap .i64 (e25-(1:Int)))) (Int.toNat e24)).bind λ e27=>
 (bif decide (e27=(0:Int))then
 ((nth? x22.2.2.1 e24).bind λ e28=>
 (aI (x22.2.2.2.2.2.2.1,x22.2.2.2.2.2.2.2.1,e28.2.2)).bind λ r29=>
 some (x22.1,x22.2.1,x22.2.2.1,x22.2.2.2.1,List.set x22.2.2.2.2.1 (Int.toNat e24) (IntKind.wrap .i64 (e25-(1:Int))),x22.2.2.2.2.2.1,r29.1,r29.2,x22.2.2.2.2.2.2.2.2.1,x22.2.2.2.2.2.2.2.2.2.1,x22.2.2.2.2.2.2.2.2.2.2.1,x22.2.2.2.2.2.2.2.2.2.2.2))
 else
 (some (x22.1,x22.2.1,x22.2.2.1,x22.2.2.2.1,List.set x22.2.2.2.2.1 (Int.toNat e24) (IntKind.wrap .i64 (e25-(1:Int))),x22.2.2.2.2.2.1,x22.2.2.2.2.2.2.1,x22.2.2.2.2.2.2.2.1,x22.2.2.2.2.2.2.2.2.1,x22.2.2.2.2.2.2.2.2.2.1,x22.2.2.2.2.2.2.2.2.2.2.1,x22.2.2.2.2.2.2.2.2.2.2.2))).bind λ x30=>
 rec23 (x30.1,x30.2.1,x30.2.2.1,x30.2.2.2.1,x30.2.2.2.2.1,x30.2.2.2.2.2.1,x30.2.2.2.2.2.2.1,x30.2.2.2.2.2.2.2.1,x30.2.2.2.2.2.2.2.2.1,x30.2.2.2.2.2.2.2.2.2.1,x30.2.2.2.2.2.2.2.2.2.2.1,IntKind.wrap .i64 (x30.2.2.2.2.2.2.2.2.2.2.2+(1:Int)))
 else none
 else none
 else none)
 else
 (some (x22.1,x22.2.1,x22.2.2.1,x22.2.2.2.1,x22.2.2.2.2.1,x22.2.2.2.2.2.1,x22.2.2.2.2.2.2.1,x22.2.2.2.2.2.2.2.1,x22.2.2.2.2.2.2.2.2.1))
def bT.L4 (aI:(LI×(Option (List (A4)))×Int)->Option (LI×(Option (List (A4))))) (n:Nat) (x16:Int×LI×LR×(List Bool)×LI×LL×LI×(Option (List (A4)))×Int) (rec17:(Int×LI×LR×(List Bool)×LI×LL×LI×(Option (List (A4)))×Int)->Option (List Bool)):Option (List Bool):=
 bif decide (x16.2.2.2.2.2.2.2.2<((List.length x16.2.2.2.2.2.2.1:Nat):Int))then
 (bif decide (0<=x16.2.2.2.2.2.2.2.2)&&decide (x16.2.2.2.2.2.2.2.2<((List.length x16.2.2.2.2.2.2.1:Nat):Int))then
 (at? x16.2.2.2.2.2.2.1 (Int.toNat x16.2.2.2.2.2.2.2.2)).bind λ e18=>
 bif decide (0<=e18)&&decide (e18<((List.length x16.2.2.2.1:Nat):Int))then
 (at? x16.2.2.2.1 (Int.toNat e18)).bind λ e19=>
 bif decide (0<=x16.2.2.2.2.2.2.2.2)&&decide (x16.2.2.2.2.2.2.2.2<((List.length x16.2.2.2.2.2.2.1:Nat):Int))then
 (at? x16.2.2.2.2.2.2.1 (Int.toNat x16.2.2.2.2.2.2.2.2)).bind λ e20=>
 bif decide (0<=e20)&&decide (e20<((List.length x16.2.2.2.2.2.1:Nat):Int))then
 (at? x16.2.2.2.2.2.1 (Int.toNat e20)).bind λ e21=>
 (cu (bT.L3 aI) n (x16.1,x16.2.1,x16.2.2.1,List.set x16.2.2.2.1 (Int.toNat e18) true,x16.2.2.2.2.1,x16.2.2.2.2.2.1,x16.2.2.2.2.2.2.1,x16.2.2.2.2.2.2.2.1,x16.2.2.2.2.2.2.2.2,e21,((List.length e21:Nat):Int),(0:Int))).bind λ x31=>
 rec17 (x31.1,x31.2.1,x31.2.2.1,x31.2.2.2.1,x31.2.2.2.2.1,x31.2.2.2.2.2.1,x31.2.2.2.2.2.2.1,x31.2.2.2.2.2.2.2.1,IntKind.wrap .i64 (x31.2.2.2.2.2.2.2.2+(1:Int)))
 else none
 else none
 else none
 else none)
 else
 (some x16.2.2.2.1)
def bT.P (aI:(LI×(Option (List (A4)))×Int)->Option (LI×(Option (List (A4))))) (n:Nat) (x:A0):Option (List Bool):=
 bif decide (0<=x.1)&&decide (x.1<=x.1)&&decide (x.1<=((au:Nat):Int))then
 bif decide (0<=((List.length x.2.2:Nat):Int))&&decide (((List.length x.2.2:Nat):Int)<=((List.length x.2.2:Nat):Int))&&decide (((List.length x.2.2:Nat):Int)<=((au:Nat):Int))then
 bif decide (0<=x.1)&&decide (x.1<=x.1)&&decide (x.1<=((au:Nat):Int))then
 (cu (bT.L2 n aI) n (x.1,x.2.1,x.2.2,List.replicate (Int.toNat x.1) (false:Bool),List.replicate (Int.toNat ((List.length x.2.2:Nat):Int)) ((0:Int):Int),List.replicate (Int.toNat x.1) (some ([]:List Int)),([]:List Int),(none:Option (List (A4))),x.2.2,((List.length x.2.2:Nat):Int),(0:Int))).bind λ x14=>
 (qX x14.2.2.2.2.2.1).bind λ e15=>
 (cu (bT.L4 aI n) n (x14.1,x14.2.1,x14.2.2.1,x14.2.2.2.1,x14.2.2.2.2.1,e15,x14.2.2.2.2.2.2.1,x14.2.2.2.2.2.2.2,(0:Int))).bind λ x32=>
 some x32
 else none
 else none
 else none
def qE.P (n:Nat) (x:A14):Option Bool:=
 (nth? x.2 x.1).bind λ e1=>
 some (!e1)
def bQ.L1 (kG:(A14)->Option Bool) (x1:A42) (rec2:(A42)->Option (Sum Unit Int)):Option (Sum Unit Int):=
 bif decide (x1.2.2.2<x1.2.2.1)then
 ((nth? x1.1 x1.2.2.2).bind λ e3=>
 (kG (e3,x1.2.1)).bind λ r4=>
 bif r4 then
 ((some x1.2.2.2).bind λ r=>some (Sum.inr r))
 else
 (rec2 (x1.1,x1.2.1,x1.2.2.1,IntKind.wrap .i64 (x1.2.2.2+(1:Int)))))
 else
 (some (Sum.inl ()))
def bQ.P (kG:(A14)->Option Bool) (n:Nat) (x:A5):Option Int:=
 (cu (bQ.L1 kG) n (x.1,x.2,((List.length x.1:Nat):Int),(0:Int))).bind λ q=>match q with
 |Sum.inl x5=>(some (-1:Int))
 |Sum.inr r=>some r
def dI.P (bY:(A5)->Option Int) (n:Nat) (x:A5):Option Bool:=
 (bY (x.1,x.2)).bind λ r1=>
 some (decide ((0:Int)<=r1))
def dB.L1 (aS:(A5)->Option Bool) (x2:Int×LI×LR×(List Bool)×(List (Option LI))×LR×Int×Int) (rec3:(Int×LI×LR×(List Bool)×(List (Option LI))×LR×Int×Int)->Option (Int×LI×LR×(List Bool)×(List (Option LI)))):Option (Int×LI×LR×(List Bool)×(List (Option LI))):=
 bif decide (x2.2.2.2.2.2.2.2<x2.2.2.2.2.2.2.1)then
 ((nth? x2.2.2.2.2.2.1 x2.2.2.2.2.2.2.2).bind λ e4=>
 (aS (e4.2.1,x2.2.2.2.1)).bind λ r5=>
 (bif !r5 then
 (bif decide (0<=e4.2.2)&&decide (e4.2.2<((List.length x2.2.2.2.2.1:Nat):Int))then
 (rowAt? x2.2.2.2.2.1 (Int.toNat e4.2.2)).bind λ e6=>
 (rowAt? x2.2.2.2.2.1 (Int.toNat e4.2.2)).bind λ e7=>
 bif decide (List.length e7+List.length ([x2.2.2.2.2.2.2.2]:List Int)<=au)then
 bif decide (0<=e4.2.2)&&decide (e4.2.2<((List.length (List.set x2.2.2.2.2.1 (Int.toNat e4.2.2) none):Nat):Int))then
 some (x2.1,x2.2.1,x2.2.2.1,x2.2.2.2.1,List.set (List.set x2.2.2.2.2.1 (Int.toNat e4.2.2) none) (Int.toNat e4.2.2) (some (List.append e7 ([x2.2.2.2.2.2.2.2]:List Int))),x2.2.2.2.2.2.1,x2.2.2.2.2.2.2.1,x2.2.2.2.2.2.2.2)
 else none
 else none
 else none)
 else
 (some (x2.1,x2.2.1,x2.2.2.1,x2.2.2.2.1,x2.2.2.2.2.1,x2.2.2.2.2.2.1,x2.2.2.2.2.2.2.1,x2.2.2.2.2.2.2.2))).bind λ x8=>
 rec3 (x8.1,x8.2.1,x8.2.2.1,x8.2.2.2.1,x8.2.2.2.2.1,x8.2.2.2.2.2.1,x8.2.2.2.2.2.2.1,IntKind.wrap .i64 (x8.2.2.2.2.2.2.2+(1:Int))))
 else
 (some (x2.1,x2.2.1,x2.2.2.1,x2.2.2.2.1,x2.2.2.2.2.1))
def dB.L2 (aI:(LI×(Option (List (A4)))×Int)->Option (LI×(Option (List (A4))))) (x10:Int×LI×LR×(List Bool)×(List (Option LI))×(List Bool)×LI×(Option (List (A4)))×LI×Int×Int) (rec11:(Int×LI×LR×(List Bool)×(List (Option LI))×(List Bool)×LI×(Option (List (A4)))×LI×Int×Int)->Option (Int×LI×LR×(List (Option LI))×(List Bool)×LI×(Option (List (A4))))):Option (Int×LI×LR×(List (Option LI))×(List Bool)×LI×(Option (List (A4)))):=
 bif decide (x10.2.2.2.2.2.2.2.2.2.2<x10.2.2.2.2.2.2.2.2.2.1)then
 ((nth? x10.2.2.2.2.2.2.2.2.1 x10.2.2.2.2.2.2.2.2.2.2).bind λ e12=>
 bif decide (0<=e12)&&decide (e12<((List.length x10.2.2.2.1:Nat):Int))then
 (at? x10.2.2.2.1 (Int.toNat e12)).bind λ e13=>
 (bif e13 then
 ((aI (x10.2.2.2.2.2.2.1,x10.2.2.2.2.2.2.2.1,e12)).bind λ r14=>
 some (x10.1,x10.2.1,x10.2.2.1,x10.2.2.2.1,x10.2.2.2.2.1,x10.2.2.2.2.2.1,r14.1,r14.2,x10.2.2.2.2.2.2.2.2.1,x10.2.2.2.2.2.2.2.2.2.1,x10.2.2.2.2.2.2.2.2.2.2))
 else
 (some (x10.1,x10.2.1,x10.2.2.1,x10.2.2.2.1,x10.2.2.2.2.1,x10.2.2.2.2.2.1,x10.2.2.2.2.2.2.1,x10.2.2.2.2.2.2.2.1,x10.2.2.2.2.2.2.2.2.1,x10.2.2.2.2.2.2.2.2.2.1,x10.2.2.2.2.2.2.2.2.2.2))).bind λ x15=>
 rec11 (x15.1,x15.2.1,x15.2.2.1,x15.2.2.2.1,x15.2.2.2.2.1,x15.2.2.2.2.2.1,x15.2.2.2.2.2.2.1,x15.2.2.2.2.2.2.2.1,x15.2.2.2.2.2.2.2.2.1,x15.2.2.2.2.2.2.2.2.2.1,IntKind.wrap .i64 (x15.2.2.2.2.2.2.2.2.2.2+(1:Int)))
 else none)
 else
 (some (x10.1,x10.2.1,x10.2.2.1,x10.2.2.2.2.1,x10.2.2.2.2.2.1,x10.2.2.2.2.2.2.1,x10.2.2.2.2.2.2.2.1))
def dB.L3 (aI:(LI×(Option (List (A4)))×Int)->Option (LI×(Option (List (A4))))) (x28:Int×LI×LR×LL×(List Bool)×LI×(Option (List (A4)))×Int×LI×Int×Int×LI×Int×Int) (rec29:(Int×LI×LR×LL×(List Bool)×LI×(Option (List (A4)))×Int×LI×Int×Int×LI×Int×Int)->Option (Int×LI×LR×LL×(List Bool)×LI×(Option (List (A4)))×Int×LI×Int×Int)):Option (Int×LI×LR×LL×(List Bool)×LI×(Option (List (A4)))×Int×LI×Int×Int):=
 bif decide (x28.2.2.2.2.2.2.2.2.2.2.2.2.2<x28.2.2.2.2.2.2.2.2.2.2.2.2.1)then
 ((nth? x28.2.2.2.2.2.2.2.2.2.2.2.1 x28.2.2.2.2.2.2.2.2.2.2.2.2.2).bind λ e30=>
 (aI (x28.2.2.2.2.2.1,x28.2.2.2.2.2.2.1,e30)).bind λ r31=>
 rec29 (x28.1,x28.2.1,x28.2.2.1,x28.2.2.2.1,x28.2.2.2.2.1,r31.1,r31.2,x28.2.2.2.2.2.2.2.1,x28.2.2.2.2.2.2.2.2.1,x28.2.2.2.2.2.2.2.2.2.1,x28.2.2.2.2.2.2.2.2.2.2.1,x28.2.2.2.2.2.2.2.2.2.2.2.1,x28.2.2.2.2.2.2.2.2.2.2.2.2.1,IntKind.wrap .i64 (x28.2.2.2.2.2.2.2.2.2.2.2.2.2+(1:Int))))
 else
 (some (x28.1,x28.2.1,x28.2.2.1,x28.2.2.2.1,x28.2.2.2.2.1,x28.2.2.2.2.2.1,x28.2.2.2.2.2.2.1,x28.2.2.2.2.2.2.2.1,x28.2.2.2.2.2.2.2.2.1,x28.2.2.2.2.2.2.2.2.2.1,x28.2.2.2.2.2.2.2.2.2.2.1))
def dB.L4 (aI:(LI×(Option (List (A4)))×Int)->Option (LI×(Option (List (A4))))) (n:Nat) (x24:Int×LI×LR×LL×(List Bool)×LI×(Option (List (A4)))×Int×LI×Int×Int) (rec25:(Int×LI×LR×LL×(List Bool)×LI×(Option (List (A4)))×Int×LI×Int×Int)->Option (Int×LI×LR×LL×(List Bool)×LI×(Option (List (A4)))×Int)):Option (Int×LI×LR×LL×(List Bool)×LI×(Option (List (A4)))×Int):=
 bif decide (x24.2.2.2.2.2.2.2.2.2.2<x24.2.2.2.2.2.2.2.2.2.1)then
 ((nth? x24.2.2.2.2.2.2.2.2.1 x24.2.2.2.2.2.2.2.2.2.2).bind λ e26=>
 (nth? x24.2.2.1 e26).bind λ e27=>
 (cu (dB.L3 aI) n (x24.1,x24.2.1,x24.2.2.1,x24.2.2.2.1,x24.2.2.2.2.1,x24.2.2.2.2.2.1,x24.2.2.2.2.2.2.1,x24.2.2.2.2.2.2.2.1,x24.2.2.2.2.2.2.2.2.1,x24.2.2.2.2.2.2.2.2.2.1,x24.2.2.2.2.2.2.2.2.2.2,e27.2.1,((List.length e27.2.1:Nat):Int),(0:Int))).bind λ x32=>
 rec25 (x32.1,x32.2.1,x32.2.2.1,x32.2.2.2.1,x32.2.2.2.2.1,x32.2.2.2.2.2.1,x32.2.2.2.2.2.2.1,x32.2.2.2.2.2.2.2.1,x32.2.2.2.2.2.2.2.2.1,x32.2.2.2.2.2.2.2.2.2.1,IntKind.wrap .i64 (x32.2.2.2.2.2.2.2.2.2.2+(1:Int))))
 else
 (some (x24.1,x24.2.1,x24.2.2.1,x24.2.2.2.1,x24.2.2.2.2.1,x24.2.2.2.2.2.1,x24.2.2.2.2.2.2.1,x24.2.2.2.2.2.2.2.1))
def dB.L5 (aI:(LI×(Option (List (A4)))×Int)->Option (LI×(Option (List (A4))))) (n:Nat) (x18:Int×LI×LR×LL×(List Bool)×LI×(Option (List (A4)))×Int) (rec19:(Int×LI×LR×LL×(List Bool)×LI×(Option (List (A4)))×Int)->Option (List Bool)):Option (List Bool):=
 bif decide (x18.2.2.2.2.2.2.2<((List.length x18.2.2.2.2.2.1:Nat):Int))then
 (bif decide (0<=x18.2.2.2.2.2.2.2)&&decide (x18.2.2.2.2.2.2.2<((List.length x18.2.2.2.2.2.1:Nat):Int))then
 (at? x18.2.2.2.2.2.1 (Int.toNat x18.2.2.2.2.2.2.2)).bind λ e20=>
 bif decide (0<=e20)&&decide (e20<((List.length x18.2.2.2.2.1:Nat):Int))then
 (at? x18.2.2.2.2.1 (Int.toNat e20)).bind λ e21=>
 bif decide (0<=x18.2.2.2.2.2.2.2)&&decide (x18.2.2.2.2.2.2.2<((List.length x18.2.2.2.2.2.1:Nat):Int))then
 (at? x18.2.2.2.2.2.1 (Int.toNat x18.2.2.2.2.2.2.2)).bind λ e22=>
 bif decide (0<=e22)&&decide (e22<((List.length x18.2.2.2.1:Nat):Int))then
 (at? x18.2.2.2.1 (Int.toNat e22)).bind λ e23=>
 (cu (dB.L4 aI n) n (x18.1,x18.2.1,x18.2.2.1,x18.2.2.2.1,List.set x18.2.2.2.2.1 (Int.toNat e20) true,x18.2.2.2.2.2.1,x18.2.2.2.2.2.2.1,x18.2.2.2.2.2.2.2,e23,((List.length e23:Nat):Int),(0:Int))).bind λ x33=>
 rec19 (x33.1,x33.2.1,x33.2.2.1,x33.2.2.2.1,x33.2.2.2.2.1,x33.2.2.2.2.2.1,x33.2.2.2.2.2.2.1,IntKind.wrap .i64 (x33.2.2.2.2.2.2.2+(1:Int)))
 else none
 else none
 else none
 else none)
 else
 (some x18.2.2.2.2.1)
def dB.P (aI:(LI×(Option (List (A4)))×Int)->Option (LI×(Option (List (A4))))) (mY:(A0)->Option (List Bool)) (aS:(A5)->Option Bool) (n:Nat) (x:A0):Option (List Bool):=
 (mY (x.1,x.2.1,x.2.2)).bind λ r1=>
 bif decide (0<=x.1)&&decide (x.1<=x.1)&&decide (x.1<=((au:Nat):Int))then
 (cu (dB.L1 aS) n (x.1,x.2.1,x.2.2,r1,List.replicate (Int.toNat x.1) (some ([]:List Int)),x.2.2,((List.length x.2.2:Nat):Int),(0:Int))).bind λ x9=>
 bif decide (0<=x9.1)&&decide (x9.1<=x9.1)&&decide (x9.1<=((au:Nat):Int))then
 (cu (dB.L2 aI) n (x9.1,x9.2.1,x9.2.2.1,x9.2.2.2.1,x9.2.2.2.2,List.replicate (Int.toNat x9.1) (false:Bool),([]:List Int),(none:Option (List (A4))),x9.2.1,((List.length x9.2.1:Nat):Int),(0:Int))).bind λ x16=>
 (qX x16.2.2.2.1).bind λ e17=>
 (cu (dB.L5 aI n) n (x16.1,x16.2.1,x16.2.2.1,e17,x16.2.2.2.2.1,x16.2.2.2.2.2.1,x16.2.2.2.2.2.2,(0:Int))).bind λ x34=>
 some x34
 else none
 else none
def vC.P (n:Nat) (x:A14):Option Bool:=
 (nth? x.2 x.1).bind λ e1=>
 some (!e1)
def bV.L1 (mG:(A14)->Option Bool) (x1:A42) (rec2:(A42)->Option (Sum Unit Int)):Option (Sum Unit Int):=
 bif decide (x1.2.2.2<x1.2.2.1)then
 ((nth? x1.1 x1.2.2.2).bind λ e3=>
 (mG (e3,x1.2.1)).bind λ r4=>
 bif r4 then
 ((some x1.2.2.2).bind λ r=>some (Sum.inr r))
 else
 (rec2 (x1.1,x1.2.1,x1.2.2.1,IntKind.wrap .i64 (x1.2.2.2+(1:Int)))))
 else
 (some (Sum.inl ()))
def bV.P (mG:(A14)->Option Bool) (n:Nat) (x:A5):Option Int:=
 (cu (bV.L1 mG) n (x.1,x.2,((List.length x.1:Nat):Int),(0:Int))).bind λ q=>match q with
 |Sum.inl x5=>(some (-1:Int))
 |Sum.inr r=>some r
def dN.P (cO:(A5)->Option Int) (n:Nat) (x:A5):Option Bool:=
 (cO (x.1,x.2)).bind λ r1=>
 some (decide ((0:Int)<=r1))
def cmp_isNaN_int.P (n:Nat) (x:Int):Option Bool:=
 some (!decide (x=x))
def cmp_Compare_int.P (lM:Int->Option Bool) (n:Nat) (x:A7):Option Int:=
 (lM x.1).bind λ r1=>
 (lM x.2).bind λ r2=>
 bif r1 then
 (bif r2 then
 (some (0:Int))
 else
 (some (-1:Int)))
 else
 (bif r2 then
 (some (1:Int))
 else
 (bif decide (x.1<x.2)then
 (some (-1:Int))
 else
 (bif decide (x.2<x.1)then
 (some (1:Int))
 else
 (some (0:Int)))))
def cZ.L1 (dU:(A7)->Option Int) (x1:A90) (rec2:(A90)->Option (Sum (A19) Int)):Option (Sum (A19) Int):=
 bif decide (x1.2.2.2.2<x1.2.2.2.1)then
 ((nth? x1.2.2.1 x1.2.2.2.2).bind λ e3=>
 bif decide (((List.length x1.2.1:Nat):Int)<=x1.2.2.2.2)then
 ((some (1:Int)).bind λ r=>some (Sum.inr r))
 else
 ((nth? x1.2.1 x1.2.2.2.2).bind λ e4=>
 (dU (e3,e4)).bind λ r5=>
 bif !decide (r5=(0:Int))then
 ((some r5).bind λ r=>some (Sum.inr r))
 else
 (rec2 (x1.1,x1.2.1,x1.2.2.1,x1.2.2.2.1,IntKind.wrap .i64 (x1.2.2.2.2+(1:Int))))))
 else
 (some (Sum.inl (x1.1,x1.2.1)))
def cZ.P (dU:(A7)->Option Int) (n:Nat) (x:A19):Option Int:=
 (cu (cZ.L1 dU) n (x.1,x.2,x.1,((List.length x.1:Nat):Int),(0:Int))).bind λ q=>match q with
 |Sum.inl x6=>(bif decide (((List.length x6.1:Nat):Int)<((List.length x6.2:Nat):Int))then
 (some (-1:Int))
 else
 (some (0:Int)))
 |Sum.inr r=>some r
def lK.L1 (x1:A78) (rec2:(A78)->Option (Sum Int Int)):Option (Sum Int Int):=
 bif decide (x1.2.2.2<x1.2.2.1)then
 ((nth? x1.2.1 x1.2.2.2).bind λ e3=>
 bif !decide (e3=x1.1)then
 ((some e3).bind λ r=>some (Sum.inr r))
 else
 (rec2 (x1.1,x1.2.1,x1.2.2.1,IntKind.wrap .i64 (x1.2.2.2+(1:Int)))))
 else
 (some (Sum.inl x1.1))
def lK.P (n:Nat) (x:List Int):Option Int:=
 (cu (lK.L1) n ((0:Int),x,((List.length x:Nat):Int),(0:Int))).bind λ q=>match q with
 |Sum.inl x4=>(some x4)
 |Sum.inr r=>some r
def rU.P (dU:(A7)->Option Int) (sZ:List Int->Option Int) (iK:(A19)->Option Int) (n:Nat) (x:A2):Option Int:=
 (dU (x.1,x.2.2.2.1)).bind λ r1=>
 (iK (x.2.1,x.2.2.2.2.1)).bind λ r2=>
 (dU (x.2.2.1,x.2.2.2.2.2)).bind λ r3=>
 (sZ ([r1,r2,r3]:List Int)).bind λ r4=>
 some r4
def oI.P (kW:(A2)->Option Int) (n:Nat) (x:A2):Option Bool:=
 (kW (x.1,x.2.1,x.2.2.1,x.2.2.2.1,x.2.2.2.2.1,x.2.2.2.2.2)).bind λ r1=>
 some (decide (r1=(0:Int)))
def dA.L1 (iy:(A2)->Option Bool) (x6:A88) (rec7:(A88)->Option (LR×Int)):Option (LR×Int):=
 bif decide (x6.2.2.2.2<((List.length (List.drop (Int.toNat x6.2.2.1) (List.take (Int.toNat x6.2.2.2.1) x6.1)):Nat):Int))then
 (bif decide (0<=x6.2.2.2.2)&&decide (x6.2.2.2.2<(((Int.toNat x6.2.2.2.1)-(Int.toNat x6.2.2.1):Nat):Int))then
 (at? x6.1 ((Int.toNat x6.2.2.1)+Int.toNat x6.2.2.2.2)).bind λ e8=>
 bif decide (0<=(IntKind.wrap .i64 (x6.2.2.2.2-(1:Int))))&&decide ((IntKind.wrap .i64 (x6.2.2.2.2-(1:Int)))<(((Int.toNat x6.2.2.2.1)-(Int.toNat x6.2.2.1):Nat):Int))then
 (at? x6.1 ((Int.toNat x6.2.2.1)+Int.toNat (IntKind.wrap .i64 (x6.2.2.2.2-(1:Int))))).bind λ e9=>
 (iy (e8.1,e8.2.1,e8.2.2,e9.1,e9.2.1,e9.2.2)).bind λ r10=>
 (bif !r10 then
 (bif decide (0<=x6.2.2.2.2)&&decide (x6.2.2.2.2<(((Int.toNat x6.2.2.2.1)-(Int.toNat x6.2.2.1):Nat):Int))then
 (at? x6.1 ((Int.toNat x6.2.2.1)+Int.toNat x6.2.2.2.2)).bind λ e11=>
 bif decide (0<=x6.2.1)&&decide (x6.2.1<((List.length x6.1:Nat):Int))then
 (at? x6.1 (Int.toNat x6.2.1)).bind λ e12=>
 some (List.set x6.1 (Int.toNat x6.2.1) (e11.1,e11.2.1,e11.2.2),IntKind.wrap .i64 (x6.2.1+(1:Int)),((Int.toNat x6.2.2.1:Nat):Int),((Int.toNat x6.2.2.2.1:Nat):Int),x6.2.2.2.2)
 else none
 else none)
 else
 (some (x6.1,x6.2.1,((Int.toNat x6.2.2.1:Nat):Int),((Int.toNat x6.2.2.2.1:Nat):Int),x6.2.2.2.2))).bind λ x13=>
 rec7 (x13.1,x13.2.1,((Int.toNat x13.2.2.1:Nat):Int),((Int.toNat x13.2.2.2.1:Nat):Int),IntKind.wrap .i64 (x13.2.2.2.2+(1:Int)))
 else none
 else none)
 else
 (some (x6.1,x6.2.1))
def dA.L2 (iy:(A2)->Option Bool) (n:Nat) (x1:LR×Int) (rec2:(LR×Int)->Option (Sum LR LR)):Option (Sum LR LR):=
 bif decide (x1.2<((List.length x1.1:Nat):Int))then
 (bif decide (0<=x1.2)&&decide (x1.2<((List.length x1.1:Nat):Int))then
 (at? x1.1 (Int.toNat x1.2)).bind λ e3=>
 bif decide (0<=(IntKind.wrap .i64 (x1.2-(1:Int))))&&decide ((IntKind.wrap .i64 (x1.2-(1:Int)))<((List.length x1.1:Nat):Int))then
 (at? x1.1 (Int.toNat (IntKind.wrap .i64 (x1.2-(1:Int))))).bind λ e4=>
 (iy (e3.1,e3.2.1,e3.2.2,e4.1,e4.2.1,e4.2.2)).bind λ r5=>
 bif r5 then
 (bif decide (0<=x1.2)&&decide (x1.2<=((List.length x1.1:Nat):Int))&&decide (((List.length x1.1:Nat):Int)<=((List.length x1.1:Nat):Int))then
 (cu (dA.L1 iy) n (x1.1,x1.2,((Int.toNat x1.2:Nat):Int),((Int.toNat ((List.length x1.1:Nat):Int):Nat):Int),(1:Int))).bind λ x14=>
 bif decide (0<=x14.2)&&decide (x14.2<=((List.length x14.1:Nat):Int))&&decide (((List.length x14.1:Nat):Int)<=((List.length x14.1:Nat):Int))then
 bif decide (0<=0)&&decide (0<=x14.2)&&decide (x14.2<=((List.length (List.append (List.append (List.take (Int.toNat x14.2) x14.1) (List.replicate ((Int.toNat ((List.length x14.1:Nat):Int))-(Int.toNat x14.2)) (((0:Int),([]:List Int),(0:Int)):A74))) (List.drop (Int.toNat ((List.length x14.1:Nat):Int)) x14.1)):Nat):Int))then
 (some (List.drop (Int.toNat 0) (List.take (Int.toNat x14.2) (List.append (List.append (List.take (Int.toNat x14.2) x14.1) (List.replicate ((Int.toNat ((List.length x14.1:Nat):Int))-(Int.toNat x14.2)) (((0:Int),([]:List Int),(0:Int)):A74))) (List.drop (Int.toNat ((List.length x14.1:Nat):Int)) x14.1))))).bind λ r=>some (Sum.inr r)
 else none
 else none
 else none)
 else
 (rec2 (x1.1,IntKind.wrap .i64 (x1.2+(1:Int))))
 else none
 else none)
 else
 (some (Sum.inl x1.1))
def dA.P (iy:(A2)->Option Bool) (n:Nat) (x:List Ru):Option LR:=
 bif decide (((List.length x:Nat):Int)<(2:Int))then
 (some x)
 else
 ((cu (dA.L2 iy n) n (x,(1:Int))).bind λ q=>match q with
 |Sum.inl x15=>(some x15)
 |Sum.inr r=>some r)
def rV.P (jK:List Ru->Option LR) (dX:List Ru->Option LR) (n:Nat) (x:List Ru):Option LR:=
 (dX x).bind λ r1=>
 (jK r1).bind λ r2=>
 some r2
def gu.L1 (x1:A32) (rec2:(A32)->Option (A16)):Option (A16):=
 bif decide (x1.2.2.2.2.2.2.2.2.2.2.2.2.2<x1.2.2.2.2.2.2.2.2.2.2.2.2.1)then
 ((nth? x1.2.2.2.2.2.2.2.2.2.2.2.1 x1.2.2.2.2.2.2.2.2.2.2.2.2.2).bind λ e3=>
 (bif e3 then
 (bif decide (0<=x1.2.2.2.2.2.2.2.2.2.2.2.2.2)&&decide (x1.2.2.2.2.2.2.2.2.2.2.2.2.2<((List.length x1.2.2.2.2.2.2.2.2.2.2.1:Nat):Int))then
 (at? x1.2.2.2.2.2.2.2.2.2.2.1 (Int.toNat x1.2.2.2.2.2.2.2.2.2.2.2.2.2)).bind λ e4=>
 some (x1.1,x1.2.1,x1.2.2.1,x1.2.2.2.1,x1.2.2.2.2.1,x1.2.2.2.2.2.1,x1.2.2.2.2.2.2.1,IntKind.wrap .i64 (x1.2.2.2.2.2.2.2.1+(1:Int)),x1.2.2.2.2.2.2.2.2.1,x1.2.2.2.2.2.2.2.2.2.1,List.set x1.2.2.2.2.2.2.2.2.2.2.1 (Int.toNat x1.2.2.2.2.2.2.2.2.2.2.2.2.2) x1.2.2.2.2.2.2.2.1,x1.2.2.2.2.2.2.2.2.2.2.2.1,x1.2.2.2.2.2.2.2.2.2.2.2.2.1,x1.2.2.2.2.2.2.2.2.2.2.2.2.2)
 else none)
 else
 (some (x1.1,x1.2.1,x1.2.2.1,x1.2.2.2.1,x1.2.2.2.2.1,x1.2.2.2.2.2.1,x1.2.2.2.2.2.2.1,x1.2.2.2.2.2.2.2.1,x1.2.2.2.2.2.2.2.2.1,x1.2.2.2.2.2.2.2.2.2.1,x1.2.2.2.2.2.2.2.2.2.2.1,x1.2.2.2.2.2.2.2.2.2.2.2.1,x1.2.2.2.2.2.2.2.2.2.2.2.2.1,x1.2.2.2.2.2.2.2.2.2.2.2.2.2))).bind λ x5=>
 rec2 (x5.1,x5.2.1,x5.2.2.1,x5.2.2.2.1,x5.2.2.2.2.1,x5.2.2.2.2.2.1,x5.2.2.2.2.2.2.1,x5.2.2.2.2.2.2.2.1,x5.2.2.2.2.2.2.2.2.1,x5.2.2.2.2.2.2.2.2.2.1,x5.2.2.2.2.2.2.2.2.2.2.1,x5.2.2.2.2.2.2.2.2.2.2.2.1,x5.2.2.2.2.2.2.2.2.2.2.2.2.1,IntKind.wrap .i64 (x5.2.2.2.2.2.2.2.2.2.2.2.2.2+(1:Int))))
 else
 (some (x1.1,x1.2.1,x1.2.2.1,x1.2.2.2.1,x1.2.2.2.2.1,x1.2.2.2.2.2.1,x1.2.2.2.2.2.2.1,x1.2.2.2.2.2.2.2.1,x1.2.2.2.2.2.2.2.2.1,x1.2.2.2.2.2.2.2.2.2.1,x1.2.2.2.2.2.2.2.2.2.2.1))
def gu.L2 (x7:A39) (rec8:(A39)->Option (A16)):Option (A16):=
 bif decide (x7.2.2.2.2.2.2.2.2.2.2.2.2.2<x7.2.2.2.2.2.2.2.2.2.2.2.2.1)then
 ((nth? x7.2.2.2.2.2.2.2.2.2.2.2.1 x7.2.2.2.2.2.2.2.2.2.2.2.2.2).bind λ e9=>
 (nth? x7.2.2.2.1 e9).bind λ e10=>
 (bif e10 then
 (bif decide (0<=e9)&&decide (e9<((List.length x7.2.2.2.2.2.2.2.2.2.2.1:Nat):Int))then
 (at? x7.2.2.2.2.2.2.2.2.2.2.1 (Int.toNat e9)).bind λ e11=>
 bif decide (List.length x7.2.2.2.2.2.2.2.2.1+List.length ([e11]:List Int)<=au)then
 some (x7.1,x7.2.1,x7.2.2.1,x7.2.2.2.1,x7.2.2.2.2.1,x7.2.2.2.2.2.1,x7.2.2.2.2.2.2.1,x7.2.2.2.2.2.2.2.1,List.append x7.2.2.2.2.2.2.2.2.1 ([e11]:List Int),x7.2.2.2.2.2.2.2.2.2.1,x7.2.2.2.2.2.2.2.2.2.2.1,x7.2.2.2.2.2.2.2.2.2.2.2.1,x7.2.2.2.2.2.2.2.2.2.2.2.2.1,x7.2.2.2.2.2.2.2.2.2.2.2.2.2)
 else none
 else none)
 else
 (some (x7.1,x7.2.1,x7.2.2.1,x7.2.2.2.1,x7.2.2.2.2.1,x7.2.2.2.2.2.1,x7.2.2.2.2.2.2.1,x7.2.2.2.2.2.2.2.1,x7.2.2.2.2.2.2.2.2.1,x7.2.2.2.2.2.2.2.2.2.1,x7.2.2.2.2.2.2.2.2.2.2.1,x7.2.2.2.2.2.2.2.2.2.2.2.1,x7.2.2.2.2.2.2.2.2.2.2.2.2.1,x7.2.2.2.2.2.2.2.2.2.2.2.2.2))).bind λ x12=>
 rec8 (x12.1,x12.2.1,x12.2.2.1,x12.2.2.2.1,x12.2.2.2.2.1,x12.2.2.2.2.2.1,x12.2.2.2.2.2.2.1,x12.2.2.2.2.2.2.2.1,x12.2.2.2.2.2.2.2.2.1,x12.2.2.2.2.2.2.2.2.2.1,x12.2.2.2.2.2.2.2.2.2.2.1,x12.2.2.2.2.2.2.2.2.2.2.2.1,x12.2.2.2.2.2.2.2.2.2.2.2.2.1,IntKind.wrap .i64 (x12.2.2.2.2.2.2.2.2.2.2.2.2.2+(1:Int))))
 else
 (some (x7.1,x7.2.1,x7.2.2.1,x7.2.2.2.1,x7.2.2.2.2.1,x7.2.2.2.2.2.1,x7.2.2.2.2.2.2.1,x7.2.2.2.2.2.2.2.1,x7.2.2.2.2.2.2.2.2.1,x7.2.2.2.2.2.2.2.2.2.1,x7.2.2.2.2.2.2.2.2.2.2.1))
def gu.L3 (x21:A27) (rec22:(A27)->Option (A38)):Option (A38):=
 bif decide (x21.2.2.2.2.2.2.2.2.2.2.2.2.2.2.2<x21.2.2.2.2.2.2.2.2.2.2.2.2.2.2.1)then
 (bif decide (0<=x21.2.2.2.2.2.2.2.2.2.2.2.2.2.2.2)&&decide (x21.2.2.2.2.2.2.2.2.2.2.2.2.2.2.2<((List.length x21.2.2.2.2.2.2.2.2.2.1:Nat):Int))then
 (at? x21.2.2.2.2.2.2.2.2.2.1 (Int.toNat x21.2.2.2.2.2.2.2.2.2.2.2.2.2.2.2)).bind λ e23=>
 bif decide (0<=e23)&&decide (e23<((List.length x21.2.2.2.2.2.2.2.1:Nat):Int))then
 (at? x21.2.2.2.2.2.2.2.1 (Int.toNat e23)).bind λ e24=>
 bif decide (0<=x21.2.2.2.2.2.2.2.2.2.2.2.2.2.2.2)&&decide (x21.2.2.2.2.2.2.2.2.2.2.2.2.2.2.2<((List.length x21.2.2.2.2.2.2.2.2.2.1:Nat):Int))then
 (at? x21.2.2.2.2.2.2.2.2.2.1 (Int.toNat x21.2.2.2.2.2.2.2.2.2.2.2.2.2.2.2)).bind λ e25=>
 rec22 (x21.1,x21.2.1,x21.2.2.1,x21.2.2.2.1,x21.2.2.2.2.1,x21.2.2.2.2.2.1,x21.2.2.2.2.2.2.1,x21.2.2.2.2.2.2.2.1,x21.2.2.2.2.2.2.2.2.1,List.set x21.2.2.2.2.2.2.2.2.2.1 (Int.toNat x21.2.2.2.2.2.2.2.2.2.2.2.2.2.2.2) e24,x21.2.2.2.2.2.2.2.2.2.2.1,x21.2.2.2.2.2.2.2.2.2.2.2.1,x21.2.2.2.2.2.2.2.2.2.2.2.2.1,x21.2.2.2.2.2.2.2.2.2.2.2.2.2.1,x21.2.2.2.2.2.2.2.2.2.2.2.2.2.2.1,IntKind.wrap .i64 (x21.2.2.2.2.2.2.2.2.2.2.2.2.2.2.2+(1:Int)))
 else none
 else none
 else none)
 else
 (some (x21.1,x21.2.1,x21.2.2.1,x21.2.2.2.1,x21.2.2.2.2.1,x21.2.2.2.2.2.1,x21.2.2.2.2.2.2.1,x21.2.2.2.2.2.2.2.1,x21.2.2.2.2.2.2.2.2.1,x21.2.2.2.2.2.2.2.2.2.1,x21.2.2.2.2.2.2.2.2.2.2.1,x21.2.2.2.2.2.2.2.2.2.2.2.1,x21.2.2.2.2.2.2.2.2.2.2.2.2.1,x21.2.2.2.2.2.2.2.2.2.2.2.2.2.1))
def gu.L4 (aV:(A5)->Option Bool) (n:Nat) (x14:A54) (rec15:(A54)->Option (A3)):Option (A3):=
 bif decide (x14.2.2.2.2.2.2.2.2.2.2<x14.2.2.2.2.2.2.2.2.2.1)then
 ((nth? x14.2.2.2.2.2.2.2.2.1 x14.2.2.2.2.2.2.2.2.2.2).bind λ e16=>
 ((nth? x14.1 e16.2.2).bind λ e17=>
 bif !e17 then
 (some (x14.1,x14.2.1,x14.2.2.1,x14.2.2.2.1,x14.2.2.2.2.1,x14.2.2.2.2.2.1,x14.2.2.2.2.2.2.1,x14.2.2.2.2.2.2.2.1,e16.1,e16.2.1,e16.2.2,x14.2.2.2.2.2.2.2.2.1,x14.2.2.2.2.2.2.2.2.2.1,x14.2.2.2.2.2.2.2.2.2.2,true))
 else
 ((aV (e16.2.1,x14.1)).bind λ r18=>
 some (x14.1,x14.2.1,x14.2.2.1,x14.2.2.2.1,x14.2.2.2.2.1,x14.2.2.2.2.2.1,x14.2.2.2.2.2.2.1,x14.2.2.2.2.2.2.2.1,e16.1,e16.2.1,e16.2.2,x14.2.2.2.2.2.2.2.2.1,x14.2.2.2.2.2.2.2.2.2.1,x14.2.2.2.2.2.2.2.2.2.2,r18))).bind λ x19=>
 bif x19.2.2.2.2.2.2.2.2.2.2.2.2.2.2 then
 (rec15 (x19.1,x19.2.1,x19.2.2.1,x19.2.2.2.1,x19.2.2.2.2.1,x19.2.2.2.2.2.1,x19.2.2.2.2.2.2.1,x19.2.2.2.2.2.2.2.1,x19.2.2.2.2.2.2.2.2.2.2.2.1,x19.2.2.2.2.2.2.2.2.2.2.2.2.1,IntKind.wrap .i64 (x19.2.2.2.2.2.2.2.2.2.2.2.2.2.1+(1:Int))))
 else
 (bif decide (0<=((List.length x19.2.2.2.2.2.2.2.2.2.1:Nat):Int))&&decide (((List.length x19.2.2.2.2.2.2.2.2.2.1:Nat):Int)<=((List.length x19.2.2.2.2.2.2.2.2.2.1:Nat):Int))&&decide (((List.length x19.2.2.2.2.2.2.2.2.2.1:Nat):Int)<=((au:Nat):Int))then
 bif decide (0<=x19.2.2.2.2.2.2.2.2.2.2.1)&&decide (x19.2.2.2.2.2.2.2.2.2.2.1<((List.length x19.2.2.2.2.2.2.2.1:Nat):Int))then
 (at? x19.2.2.2.2.2.2.2.1 (Int.toNat x19.2.2.2.2.2.2.2.2.2.2.1)).bind λ e20=>
 (cu (gu.L3) n (x19.1,x19.2.1,x19.2.2.1,x19.2.2.2.1,x19.2.2.2.2.1,x19.2.2.2.2.2.1,x19.2.2.2.2.2.2.1,x19.2.2.2.2.2.2.2.1,x19.2.2.2.2.2.2.2.2.1,List.append (List.append (List.take 0 (List.replicate (Int.toNat ((List.length x19.2.2.2.2.2.2.2.2.2.1:Nat):Int)) ((0:Int):Int))) (List.take (Nat.min (List.length x19.2.2.2.2.2.2.2.2.2.1) ((List.length (List.replicate (Int.toNat ((List.length x19.2.2.2.2.2.2.2.2.2.1:Nat):Int)) ((0:Int):Int)))-0)) x19.2.2.2.2.2.2.2.2.2.1)) (List.drop (0+(Nat.min (List.length x19.2.2.2.2.2.2.2.2.2.1) ((List.length (List.replicate (Int.toNat ((List.length x19.2.2.2.2.2.2.2.2.2.1:Nat):Int)) ((0:Int):Int)))-0))) (List.replicate (Int.toNat ((List.length x19.2.2.2.2.2.2.2.2.2.1:Nat):Int)) ((0:Int):Int))),e20,x19.2.2.2.2.2.2.2.2.2.2.2.1,x19.2.2.2.2.2.2.2.2.2.2.2.2.1,x19.2.2.2.2.2.2.2.2.2.2.2.2.2.1,((List.length (List.append (List.append (List.take 0 (List.replicate (Int.toNat ((List.length x19.2.2.2.2.2.2.2.2.2.1:Nat):Int)) ((0:Int):Int))) (List.take (Nat.min (List.length x19.2.2.2.2.2.2.2.2.2.1) ((List.length (List.replicate (Int.toNat ((List.length x19.2.2.2.2.2.2.2.2.2.1:Nat):Int)) ((0:Int):Int)))-0)) x19.2.2.2.2.2.2.2.2.2.1)) (List.drop (0+(Nat.min (List.length x19.2.2.2.2.2.2.2.2.2.1) ((List.length (List.replicate (Int.toNat ((List.length x19.2.2.2.2.2.2.2.2.2.1:Nat):Int)) ((0:Int):Int)))-0))) (List.replicate (Int.toNat ((List.length x19.2.2.2.2.2.2.2.2.2.1:Nat):Int)) ((0:Int):Int)))):Nat):Int),(0:Int))).bind λ x26=>
 bif decide (List.length x26.2.2.2.2.2.2.1+List.length ([(x26.2.2.2.2.2.2.2.2.1,x26.2.2.2.2.2.2.2.2.2.1,x26.2.2.2.2.2.2.2.2.2.2.1)]:List Ru)<=au)then
 rec15 (x26.1,x26.2.1,x26.2.2.1,x26.2.2.2.1,x26.2.2.2.2.1,x26.2.2.2.2.2.1,List.append x26.2.2.2.2.2.2.1 ([(x26.2.2.2.2.2.2.2.2.1,x26.2.2.2.2.2.2.2.2.2.1,x26.2.2.2.2.2.2.2.2.2.2.1)]:List Ru),x26.2.2.2.2.2.2.2.1,x26.2.2.2.2.2.2.2.2.2.2.2.1,x26.2.2.2.2.2.2.2.2.2.2.2.2.1,IntKind.wrap .i64 (x26.2.2.2.2.2.2.2.2.2.2.2.2.2+(1:Int)))
 else none
 else none
 else none))
 else
 (some (x14.2.1,x14.2.2.1,x14.2.2.2.1,x14.2.2.2.2.1,x14.2.2.2.2.2.1,x14.2.2.2.2.2.2.1))
def gu.P (gU:List Ru->Option LR) (aV:(A5)->Option Bool) (n:Nat) (x:A12):Option (A0):=
 bif decide (0<=x.1)&&decide (x.1<=x.1)&&decide (x.1<=((au:Nat):Int))then
 (cu (gu.L1) n (x.1,x.2.1,x.2.2.1,x.2.2.2,(0:Int),([]:List Int),([]:List Ru),(0:Int),([]:List Int),([]:List Ru),List.replicate (Int.toNat x.1) ((0:Int):Int),x.2.2.2,((List.length x.2.2.2:Nat):Int),(0:Int))).bind λ x6=>
 (cu (gu.L2) n (x6.1,x6.2.1,x6.2.2.1,x6.2.2.2.1,x6.2.2.2.2.1,x6.2.2.2.2.2.1,x6.2.2.2.2.2.2.1,x6.2.2.2.2.2.2.2.1,x6.2.2.2.2.2.2.2.2.1,x6.2.2.2.2.2.2.2.2.2.1,x6.2.2.2.2.2.2.2.2.2.2,x6.2.1,((List.length x6.2.1:Nat):Int),(0:Int))).bind λ x13=>
 (cu (gu.L4 aV n) n (x13.2.2.2.1,x13.2.2.2.2.1,x13.2.2.2.2.2.1,x13.2.2.2.2.2.2.1,x13.2.2.2.2.2.2.2.1,x13.2.2.2.2.2.2.2.2.1,x13.2.2.2.2.2.2.2.2.2.1,x13.2.2.2.2.2.2.2.2.2.2,x13.2.2.1,((List.length x13.2.2.1:Nat):Int),(0:Int))).bind λ x27=>
 (gU x27.2.2.2.2.2).bind λ r28=>
 some (x27.2.2.2.1,x27.2.2.2.2.1,r28)
 else none
def xO.P (mF:(A12)->Option (A0)) (fC:(A1)->Option Bool) (jY:(A0)->Option (List Bool)) (n:Nat) (x:A1):Option (A23):=
 (fC (x.1,x.2.1,x.2.2.1,x.2.2.2)).bind λ r1=>
 bif !r1 then
 (some ((0:Int),([]:List Int),([]:List Ru),(1:Int)))
 else
 ((jY (x.2.1,x.2.2.1,x.2.2.2)).bind λ r2=>
 (mF (x.2.1,x.2.2.1,x.2.2.2,r2)).bind λ r3=>
 some (r3.1,r3.2.1,r3.2.2,(0:Int)))
def xA.L1 (x1:(List (Option LI))×LR×Int×Int) (rec2:((List (Option LI))×LR×Int×Int)->Option (List (Option LI))):Option (List (Option LI)):=
 bif decide (x1.2.2.2<x1.2.2.1)then
 ((nth? x1.2.1 x1.2.2.2).bind λ e3=>
 bif decide (0<=e3.1)&&decide (e3.1<((List.length x1.1:Nat):Int))then
 (rowAt? x1.1 (Int.toNat e3.1)).bind λ e4=>
 (rowAt? x1.1 (Int.toNat e3.1)).bind λ e5=>
 bif decide (List.length e5+List.length ([x1.2.2.2]:List Int)<=au)then
 bif decide (0<=e3.1)&&decide (e3.1<((List.length (List.set x1.1 (Int.toNat e3.1) none):Nat):Int))then
 rec2 (List.set (List.set x1.1 (Int.toNat e3.1) none) (Int.toNat e3.1) (some (List.append e5 ([x1.2.2.2]:List Int))),x1.2.1,x1.2.2.1,IntKind.wrap .i64 (x1.2.2.2+(1:Int)))
 else none
 else none
 else none)
 else
 (some x1.1)
def xA.P (n:Nat) (x:A1):Option LL:=
 bif decide (0<=((List.length x.1:Nat):Int))&&decide (((List.length x.1:Nat):Int)<=((List.length x.1:Nat):Int))&&decide (((List.length x.1:Nat):Int)<=((au:Nat):Int))then
 (cu (xA.L1) n (List.replicate (Int.toNat ((List.length x.1:Nat):Int)) (some ([]:List Int)),x.2.2.2,((List.length x.2.2.2:Nat):Int),(0:Int))).bind λ x6=>
 (qX x6).bind λ e7=>
 some e7
 else none
def fJ.L1 (x4:A83) (rec5:(A83)->Option (A10)):Option (A10):=
 bif decide (x4.2.2.2.2.2<(8:Int))then
 (bif decide (0<=(IntKind.wrap .i64 ((8:Int)*x4.2.2.2.2.2)))&&decide ((IntKind.wrap .i64 ((8:Int)*x4.2.2.2.2.2))<=((IntKind.bits .u64:Nat):Int))then
 bif decide (List.length x4.1+List.length ([IntKind.wrap .u8 (x4.2.1/2^Int.toNat (IntKind.wrap .i64 ((8:Int)*x4.2.2.2.2.2)))]:List Int)<=au)then
 rec5 (List.append x4.1 ([IntKind.wrap .u8 (x4.2.1/2^Int.toNat (IntKind.wrap .i64 ((8:Int)*x4.2.2.2.2.2)))]:List Int),x4.2.1,x4.2.2.1,x4.2.2.2.1,x4.2.2.2.2.1,IntKind.wrap .i64 (x4.2.2.2.2.2+(1:Int)))
 else none
 else none)
 else
 (some (x4.1,x4.2.2.1,x4.2.2.2.1,x4.2.2.2.2.1))
def fJ.L2 (n:Nat) (x1:A10) (rec2:(A10)->Option LI):Option LI:=
 bif decide (x1.2.2.2<x1.2.2.1)then
 ((nth? x1.2.1 x1.2.2.2).bind λ e3=>
 (cu (fJ.L1) n (x1.1,e3,x1.2.1,x1.2.2.1,x1.2.2.2,(0:Int))).bind λ x6=>
 rec2 (x6.1,x6.2.1,x6.2.2.1,IntKind.wrap .i64 (x6.2.2.2+(1:Int))))
 else
 (some x1.1)
def fJ.P (n:Nat) (x:List Int):Option ByteArray:=
 bif decide (0<=(0:Int))&&decide ((0:Int)<=(IntKind.wrap .i64 ((8:Int)*((List.length x:Nat):Int))))&&decide ((IntKind.wrap .i64 ((8:Int)*((List.length x:Nat):Int)))<=((au:Nat):Int))then
 (cu (fJ.L2 n) n (List.replicate (Int.toNat (0:Int)) ((0:Int):Int),x,((List.length x:Nat):Int),(0:Int))).bind λ x7=>
 some (wo x7)
 else none
def gB.L1 (x1:Int×LI×LR×LL×LL×(Option (List (ByteArray×Int)))×LR×Int×Int×Bool×LI×LI×Int×Int) (rec2:(Int×LI×LR×LL×LL×(Option (List (ByteArray×Int)))×LR×Int×Int×Bool×LI×LI×Int×Int)->Option (Int×LI×LR×LL×LL×(Option (List (ByteArray×Int)))×LR×Int×Int×Bool×LI)):Option (Int×LI×LR×LL×LL×(Option (List (ByteArray×Int)))×LR×Int×Int×Bool×LI):=
 bif decide (x1.2.2.2.2.2.2.2.2.2.2.2.2.2<x1.2.2.2.2.2.2.2.2.2.2.2.2.1)then
 ((nth? x1.2.2.2.2.2.2.2.2.2.2.2.1 x1.2.2.2.2.2.2.2.2.2.2.2.2.2).bind λ e3=>
 (nth? x1.2.2.1 e3).bind λ e4=>
 bif !decide ((64:Int)=0)then
 bif decide (0<=(IntKind.wrap .i64 (Int.tdiv e4.2.2 (64:Int))))&&decide ((IntKind.wrap .i64 (Int.tdiv e4.2.2 (64:Int)))<((List.length x1.2.2.2.2.2.2.2.2.2.2.1:Nat):Int))then
 (at? x1.2.2.2.2.2.2.2.2.2.2.1 (Int.toNat (IntKind.wrap .i64 (Int.tdiv e4.2.2 (64:Int))))).bind λ e5=>
 bif !decide ((64:Int)=0)then
 bif decide (0<=(Int.tmod e4.2.2 (64:Int)))&&decide ((Int.tmod e4.2.2 (64:Int))<=((IntKind.bits .u64:Nat):Int))then
 bif decide (0<=(IntKind.wrap .i64 (Int.tdiv e4.2.2 (64:Int))))&&decide ((IntKind.wrap .i64 (Int.tdiv e4.2.2 (64:Int)))<((List.length x1.2.2.2.2.2.2.2.2.2.2.1:Nat):Int))then
 (at? x1.2.2.2.2.2.2.2.2.2.2.1 (Int.toNat (IntKind.wrap .i64 (Int.tdiv e4.2.2 (64:Int))))).bind λ e6=>
 rec2 (x1.1,x1.2.1,x1.2.2.1,x1.2.2.2.1,x1.2.2.2.2.1,x1.2.2.2.2.2.1,x1.2.2.2.2.2.2.1,x1.2.2.2.2.2.2.2.1,x1.2.2.2.2.2.2.2.2.1,x1.2.2.2.2.2.2.2.2.2.1,List.set x1.2.2.2.2.2.2.2.2.2.2.1 (Int.toNat (IntKind.wrap .i64 (Int.tdiv e4.2.2 (64:Int)))) (bits .or .u64 e5 (IntKind.wrap .u64 ((1:Int)*2^Int.toNat (Int.tmod e4.2.2 (64:Int))))),x1.2.2.2.2.2.2.2.2.2.2.2.1,x1.2.2.2.2.2.2.2.2.2.2.2.2.1,IntKind.wrap .i64 (x1.2.2.2.2.2.2.2.2.2.2.2.2.2+(1:Int)))
 else none
 else none
 else none
 else none
 else none)
 else
 (some (x1.1,x1.2.1,x1.2.2.1,x1.2.2.2.1,x1.2.2.2.2.1,x1.2.2.2.2.2.1,x1.2.2.2.2.2.2.1,x1.2.2.2.2.2.2.2.1,x1.2.2.2.2.2.2.2.2.1,x1.2.2.2.2.2.2.2.2.2.1,x1.2.2.2.2.2.2.2.2.2.2.1))
def gB.P (lN:List Int->Option ByteArray) (n:Nat) (x:Int×LI×LR×LL×LL×(Option (List (ByteArray×Int)))×LR×Int×Int×Bool×LI):Option (Int×Int×LI×LR×LL×LL×(Option (List (ByteArray×Int)))×LR×Int×Int×Bool):=
 bif decide (((List.length x.2.2.2.2.2.2.2.2.2.2:Nat):Int)=(0:Int))then
 (some ((-1:Int),x.1,x.2.1,x.2.2.1,x.2.2.2.1,x.2.2.2.2.1,x.2.2.2.2.2.1,x.2.2.2.2.2.2.1,x.2.2.2.2.2.2.2.1,x.2.2.2.2.2.2.2.2.1,x.2.2.2.2.2.2.2.2.2.1))
 else
 (bif !decide ((64:Int)=0)then
 bif decide (0<=(IntKind.wrap .i64 (Int.tdiv (IntKind.wrap .i64 (x.1+(63:Int))) (64:Int))))&&decide ((IntKind.wrap .i64 (Int.tdiv (IntKind.wrap .i64 (x.1+(63:Int))) (64:Int)))<=(IntKind.wrap .i64 (Int.tdiv (IntKind.wrap .i64 (x.1+(63:Int))) (64:Int))))&&decide ((IntKind.wrap .i64 (Int.tdiv (IntKind.wrap .i64 (x.1+(63:Int))) (64:Int)))<=((au:Nat):Int))then
 (cu (gB.L1) n (x.1,x.2.1,x.2.2.1,x.2.2.2.1,x.2.2.2.2.1,x.2.2.2.2.2.1,x.2.2.2.2.2.2.1,x.2.2.2.2.2.2.2.1,x.2.2.2.2.2.2.2.2.1,x.2.2.2.2.2.2.2.2.2.1,List.replicate (Int.toNat (IntKind.wrap .i64 (Int.tdiv (IntKind.wrap .i64 (x.1+(63:Int))) (64:Int)))) ((0:Int):Int),x.2.2.2.2.2.2.2.2.2.2,((List.length x.2.2.2.2.2.2.2.2.2.2:Nat):Int),(0:Int))).bind λ x7=>
 (lN x7.2.2.2.2.2.2.2.2.2.2).bind λ r8=>
 (bif !(Option.isSome (og seq r8 (l9 x7.2.2.2.2.2.1)))then
 ((x7.2.2.2.2.2.1).bind λ m9=>
 bif decide (List.length x7.2.2.2.2.1+List.length ([x7.2.2.2.2.2.2.2.2.2.2]:List LI)<=au)then
 some (x7.1,x7.2.1,x7.2.2.1,x7.2.2.2.1,List.append x7.2.2.2.2.1 ([x7.2.2.2.2.2.2.2.2.2.2]:List LI),some (E5 seq r8 ((List.length x7.2.2.2.2.1:Nat):Int) m9),x7.2.2.2.2.2.2.1,x7.2.2.2.2.2.2.2.1,x7.2.2.2.2.2.2.2.2.1,x7.2.2.2.2.2.2.2.2.2.1,((List.length x7.2.2.2.2.1:Nat):Int))
 else none)
 else
 (some (x7.1,x7.2.1,x7.2.2.1,x7.2.2.2.1,x7.2.2.2.2.1,x7.2.2.2.2.2.1,x7.2.2.2.2.2.2.1,x7.2.2.2.2.2.2.2.1,x7.2.2.2.2.2.2.2.2.1,x7.2.2.2.2.2.2.2.2.2.1,Option.getD (og seq r8 (l9 x7.2.2.2.2.2.1)) (0:Int)))).bind λ x10=>
 some (x10.2.2.2.2.2.2.2.2.2.2,x10.1,x10.2.1,x10.2.2.1,x10.2.2.2.1,x10.2.2.2.2.1,x10.2.2.2.2.2.1,x10.2.2.2.2.2.2.1,x10.2.2.2.2.2.2.2.1,x10.2.2.2.2.2.2.2.2.1,x10.2.2.2.2.2.2.2.2.2.1)
 else none
 else none)
def lq.P (n:Nat) (x:A15):Option Bool:=
 bif !decide ((64:Int)=0)then
 (nth? x.1 (IntKind.wrap .i64 (Int.tdiv x.2 (64:Int)))).bind λ e1=>
 bif !decide ((64:Int)=0)then
 bif decide (0<=(Int.tmod x.2 (64:Int)))&&decide ((Int.tmod x.2 (64:Int))<=((IntKind.bits .u64:Nat):Int))then
 some (decide ((bits .and .u64 (e1/2^Int.toNat (Int.tmod x.2 (64:Int))) (1:Int))=(1:Int)))
 else none
 else none
 else none
def bJ.L1 (dG:(A15)->Option Bool) (x9:Int×LI×LR×LL×LL×(Option (List (ByteArray×Int)))×LR×Int×Int×Bool×Int×Int×LI×LI×Bool×Int×LI×LI×Int×Int) (rec10:(Int×LI×LR×LL×LL×(Option (List (ByteArray×Int)))×LR×Int×Int×Bool×Int×Int×LI×LI×Bool×Int×LI×LI×Int×Int)->Option (Int×LI×LR×LL×LL×(Option (List (ByteArray×Int)))×LR×Int×Int×Bool×Int×Int×LI×LI×Bool×Int×LI)):Option (Int×LI×LR×LL×LL×(Option (List (ByteArray×Int)))×LR×Int×Int×Bool×Int×Int×LI×LI×Bool×Int×LI):=
 bif decide (x9.2.2.2.2.2.2.2.2.2.2.2.2.2.2.2.2.2.2.2<x9.2.2.2.2.2.2.2.2.2.2.2.2.2.2.2.2.2.2.1)then
 ((nth? x9.2.2.2.2.2.2.2.2.2.2.2.2.2.2.2.2.2.1 x9.2.2.2.2.2.2.2.2.2.2.2.2.2.2.2.2.2.2.2).bind λ e11=>
 bif decide (0<=x9.2.2.2.2.2.2.2.2.2.2.2.2.2.2.2.1)&&decide (x9.2.2.2.2.2.2.2.2.2.2.2.2.2.2.2.1<((List.length x9.2.2.2.2.1:Nat):Int))then
 (at? x9.2.2.2.2.1 (Int.toNat x9.2.2.2.2.2.2.2.2.2.2.2.2.2.2.2.1)).bind λ e12=>
 (nth? x9.2.2.1 e11).bind λ e13=>
 (nth? e13.2.1 ((List.length x9.2.2.2.2.2.2.2.2.2.2.2.2.1:Nat):Int)).bind λ e14=>
 (dG (e12,e14)).bind λ r15=>
 (bif r15 then
 (bif decide (List.length x9.2.2.2.2.2.2.2.2.2.2.2.2.2.2.2.2.1+List.length ([e11]:List Int)<=au)then
 some (x9.1,x9.2.1,x9.2.2.1,x9.2.2.2.1,x9.2.2.2.2.1,x9.2.2.2.2.2.1,x9.2.2.2.2.2.2.1,x9.2.2.2.2.2.2.2.1,x9.2.2.2.2.2.2.2.2.1,x9.2.2.2.2.2.2.2.2.2.1,x9.2.2.2.2.2.2.2.2.2.2.1,x9.2.2.2.2.2.2.2.2.2.2.2.1,x9.2.2.2.2.2.2.2.2.2.2.2.2.1,x9.2.2.2.2.2.2.2.2.2.2.2.2.2.1,x9.2.2.2.2.2.2.2.2.2.2.2.2.2.2.1,x9.2.2.2.2.2.2.2.2.2.2.2.2.2.2.2.1,List.append x9.2.2.2.2.2.2.2.2.2.2.2.2.2.2.2.2.1 ([e11]:List Int),x9.2.2.2.2.2.2.2.2.2.2.2.2.2.2.2.2.2.1,x9.2.2.2.2.2.2.2.2.2.2.2.2.2.2.2.2.2.2.1,x9.2.2.2.2.2.2.2.2.2.2.2.2.2.2.2.2.2.2.2)
 else none)
 else
 (some (x9.1,x9.2.1,x9.2.2.1,x9.2.2.2.1,x9.2.2.2.2.1,x9.2.2.2.2.2.1,x9.2.2.2.2.2.2.1,x9.2.2.2.2.2.2.2.1,x9.2.2.2.2.2.2.2.2.1,x9.2.2.2.2.2.2.2.2.2.1,x9.2.2.2.2.2.2.2.2.2.2.1,x9.2.2.2.2.2.2.2.2.2.2.2.1,x9.2.2.2.2.2.2.2.2.2.2.2.2.1,x9.2.2.2.2.2.2.2.2.2.2.2.2.2.1,x9.2.2.2.2.2.2.2.2.2.2.2.2.2.2.1,x9.2.2.2.2.2.2.2.2.2.2.2.2.2.2.2.1,x9.2.2.2.2.2.2.2.2.2.2.2.2.2.2.2.2.1,x9.2.2.2.2.2.2.2.2.2.2.2.2.2.2.2.2.2.1,x9.2.2.2.2.2.2.2.2.2.2.2.2.2.2.2.2.2.2.1,x9.2.2.2.2.2.2.2.2.2.2.2.2.2.2.2.2.2.2.2))).bind λ x16=>
 rec10 (x16.1,x16.2.1,x16.2.2.1,x16.2.2.2.1,x16.2.2.2.2.1,x16.2.2.2.2.2.1,x16.2.2.2.2.2.2.1,x16.2.2.2.2.2.2.2.1,x16.2.2.2.2.2.2.2.2.1,x16.2.2.2.2.2.2.2.2.2.1,x16.2.2.2.2.2.2.2.2.2.2.1,x16.2.2.2.2.2.2.2.2.2.2.2.1,x16.2.2.2.2.2.2.2.2.2.2.2.2.1,x16.2.2.2.2.2.2.2.2.2.2.2.2.2.1,x16.2.2.2.2.2.2.2.2.2.2.2.2.2.2.1,x16.2.2.2.2.2.2.2.2.2.2.2.2.2.2.2.1,x16.2.2.2.2.2.2.2.2.2.2.2.2.2.2.2.2.1,x16.2.2.2.2.2.2.2.2.2.2.2.2.2.2.2.2.2.1,x16.2.2.2.2.2.2.2.2.2.2.2.2.2.2.2.2.2.2.1,IntKind.wrap .i64 (x16.2.2.2.2.2.2.2.2.2.2.2.2.2.2.2.2.2.2.2+(1:Int)))
 else none)
 else
 (some (x9.1,x9.2.1,x9.2.2.1,x9.2.2.2.1,x9.2.2.2.2.1,x9.2.2.2.2.2.1,x9.2.2.2.2.2.2.1,x9.2.2.2.2.2.2.2.1,x9.2.2.2.2.2.2.2.2.1,x9.2.2.2.2.2.2.2.2.2.1,x9.2.2.2.2.2.2.2.2.2.2.1,x9.2.2.2.2.2.2.2.2.2.2.2.1,x9.2.2.2.2.2.2.2.2.2.2.2.2.1,x9.2.2.2.2.2.2.2.2.2.2.2.2.2.1,x9.2.2.2.2.2.2.2.2.2.2.2.2.2.2.1,x9.2.2.2.2.2.2.2.2.2.2.2.2.2.2.2.1,x9.2.2.2.2.2.2.2.2.2.2.2.2.2.2.2.2.1))
def bJ.L2 (dG:(A15)->Option Bool) (n:Nat) (bG:(Int×LI×LR×LL×LL×(Option (List (ByteArray×Int)))×LR×Int×Int×Bool×Int×Int×LI×LI×Bool)->Option (Int×LI×LR×LL×LL×(Option (List (ByteArray×Int)))×LR×Int×Int×Bool×LI)) (x7:Int×LI×LR×LL×LL×(Option (List (ByteArray×Int)))×LR×Int×Int×Bool×Int×Int×LI×LI×Bool×Int) (rec8:(Int×LI×LR×LL×LL×(Option (List (ByteArray×Int)))×LR×Int×Int×Bool×Int×Int×LI×LI×Bool×Int)->Option (Int×LI×LR×LL×LL×(Option (List (ByteArray×Int)))×LR×Int×Int×Bool×LI)):Option (Int×LI×LR×LL×LL×(Option (List (ByteArray×Int)))×LR×Int×Int×Bool×LI):=
 bif decide (x7.2.2.2.2.2.2.2.2.2.2.2.2.2.2.2<x7.2.2.2.2.2.2.2.2.1)then
 ((cu (bJ.L1 dG) n (x7.1,x7.2.1,x7.2.2.1,x7.2.2.2.1,x7.2.2.2.2.1,x7.2.2.2.2.2.1,x7.2.2.2.2.2.2.1,x7.2.2.2.2.2.2.2.1,x7.2.2.2.2.2.2.2.2.1,x7.2.2.2.2.2.2.2.2.2.1,x7.2.2.2.2.2.2.2.2.2.2.1,x7.2.2.2.2.2.2.2.2.2.2.2.1,x7.2.2.2.2.2.2.2.2.2.2.2.2.1,x7.2.2.2.2.2.2.2.2.2.2.2.2.2.1,x7.2.2.2.2.2.2.2.2.2.2.2.2.2.2.1,x7.2.2.2.2.2.2.2.2.2.2.2.2.2.2.2,([]:List Int),x7.2.2.2.2.2.2.2.2.2.2.2.2.2.1,((List.length x7.2.2.2.2.2.2.2.2.2.2.2.2.2.1:Nat):Int),(0:Int))).bind λ x17=>
 (bif decide (List.length x17.2.2.2.2.2.2.2.2.2.2.2.2.1+List.length ([x17.2.2.2.2.2.2.2.2.2.2.2.2.2.2.2.1]:List Int)<=au)then
 bif x17.2.2.2.2.2.2.2.2.2.2.2.2.2.2.1 then
 ((bG (x17.1,x17.2.1,x17.2.2.1,x17.2.2.2.1,x17.2.2.2.2.1,x17.2.2.2.2.2.1,x17.2.2.2.2.2.2.1,x17.2.2.2.2.2.2.2.1,x17.2.2.2.2.2.2.2.2.1,x17.2.2.2.2.2.2.2.2.2.1,x17.2.2.2.2.2.2.2.2.2.2.1,x17.2.2.2.2.2.2.2.2.2.2.2.1,List.append x17.2.2.2.2.2.2.2.2.2.2.2.2.1 ([x17.2.2.2.2.2.2.2.2.2.2.2.2.2.2.2.1]:List Int),x17.2.2.2.2.2.2.2.2.2.2.2.2.2.2.2.2,true)).bind λ r18=>
 bif pre x17.2.2.2.2.2.2.2.2.2.2.2.2.1 r18.2.2.2.2.2.2.2.2.2.2 then
 some (r18.1,r18.2.1,r18.2.2.1,r18.2.2.2.1,r18.2.2.2.2.1,r18.2.2.2.2.2.1,r18.2.2.2.2.2.2.1,r18.2.2.2.2.2.2.2.1,r18.2.2.2.2.2.2.2.2.1,r18.2.2.2.2.2.2.2.2.2.1,x17.2.2.2.2.2.2.2.2.2.2.1,x17.2.2.2.2.2.2.2.2.2.2.2.1,x17.2.2.2.2.2.2.2.2.2.2.2.2.1,x17.2.2.2.2.2.2.2.2.2.2.2.2.2.1,x17.2.2.2.2.2.2.2.2.2.2.2.2.2.2.1,x17.2.2.2.2.2.2.2.2.2.2.2.2.2.2.2.1)
 else none)
 else
 ((bG (x17.1,x17.2.1,x17.2.2.1,x17.2.2.2.1,x17.2.2.2.2.1,x17.2.2.2.2.2.1,x17.2.2.2.2.2.2.1,x17.2.2.2.2.2.2.2.1,x17.2.2.2.2.2.2.2.2.1,x17.2.2.2.2.2.2.2.2.2.1,x17.2.2.2.2.2.2.2.2.2.2.1,x17.2.2.2.2.2.2.2.2.2.2.2.1,List.append x17.2.2.2.2.2.2.2.2.2.2.2.2.1 ([x17.2.2.2.2.2.2.2.2.2.2.2.2.2.2.2.1]:List Int),x17.2.2.2.2.2.2.2.2.2.2.2.2.2.2.2.2,decide (x17.2.2.2.2.2.2.2.1<=x17.2.2.2.2.2.2.2.2.2.2.2.2.2.2.2.1))).bind λ r19=>
 bif pre x17.2.2.2.2.2.2.2.2.2.2.2.2.1 r19.2.2.2.2.2.2.2.2.2.2 then
 some (r19.1,r19.2.1,r19.2.2.1,r19.2.2.2.1,r19.2.2.2.2.1,r19.2.2.2.2.2.1,r19.2.2.2.2.2.2.1,r19.2.2.2.2.2.2.2.1,r19.2.2.2.2.2.2.2.2.1,r19.2.2.2.2.2.2.2.2.2.1,x17.2.2.2.2.2.2.2.2.2.2.1,x17.2.2.2.2.2.2.2.2.2.2.2.1,x17.2.2.2.2.2.2.2.2.2.2.2.2.1,x17.2.2.2.2.2.2.2.2.2.2.2.2.2.1,x17.2.2.2.2.2.2.2.2.2.2.2.2.2.2.1,x17.2.2.2.2.2.2.2.2.2.2.2.2.2.2.2.1)
 else none)
 else none).bind λ x20=>
 rec8 (x20.1,x20.2.1,x20.2.2.1,x20.2.2.2.1,x20.2.2.2.2.1,x20.2.2.2.2.2.1,x20.2.2.2.2.2.2.1,x20.2.2.2.2.2.2.2.1,x20.2.2.2.2.2.2.2.2.1,x20.2.2.2.2.2.2.2.2.2.1,x20.2.2.2.2.2.2.2.2.2.2.1,x20.2.2.2.2.2.2.2.2.2.2.2.1,x20.2.2.2.2.2.2.2.2.2.2.2.2.1,x20.2.2.2.2.2.2.2.2.2.2.2.2.2.1,x20.2.2.2.2.2.2.2.2.2.2.2.2.2.2.1,IntKind.wrap .i64 (x20.2.2.2.2.2.2.2.2.2.2.2.2.2.2.2+(1:Int))))
 else
 (some (x7.1,x7.2.1,x7.2.2.1,x7.2.2.2.1,x7.2.2.2.2.1,x7.2.2.2.2.2.1,x7.2.2.2.2.2.2.1,x7.2.2.2.2.2.2.2.1,x7.2.2.2.2.2.2.2.2.1,x7.2.2.2.2.2.2.2.2.2.1,x7.2.2.2.2.2.2.2.2.2.2.2.2.1))
def bJ.P (dG:(A15)->Option Bool) (bG:(Int×LI×LR×LL×LL×(Option (List (ByteArray×Int)))×LR×Int×Int×Bool×Int×Int×LI×LI×Bool)->Option (Int×LI×LR×LL×LL×(Option (List (ByteArray×Int)))×LR×Int×Int×Bool×LI)) (lQ:(Int×LI×LR×LL×LL×(Option (List (ByteArray×Int)))×LR×Int×Int×Bool×LI)->Option (Int×Int×LI×LR×LL×LL×(Option (List (ByteArray×Int)))×LR×Int×Int×Bool)) (fF:List Int->Option (A19)) (n:Nat) (x:Int×LI×LR×LL×LL×(Option (List (ByteArray×Int)))×LR×Int×Int×Bool×Int×Int×LI×LI×Bool):Option (Int×LI×LR×LL×LL×(Option (List (ByteArray×Int)))×LR×Int×Int×Bool×LI):=
 (bif x.2.2.2.2.2.2.2.2.2.1 then
 (some (x.1,x.2.1,x.2.2.1,x.2.2.2.1,x.2.2.2.2.1,x.2.2.2.2.2.1,x.2.2.2.2.2.2.1,x.2.2.2.2.2.2.2.1,x.2.2.2.2.2.2.2.2.1,x.2.2.2.2.2.2.2.2.2.1,x.2.2.2.2.2.2.2.2.2.2.1,x.2.2.2.2.2.2.2.2.2.2.2.1,x.2.2.2.2.2.2.2.2.2.2.2.2.1,x.2.2.2.2.2.2.2.2.2.2.2.2.2.1,x.2.2.2.2.2.2.2.2.2.2.2.2.2.2,true))
 else
 (some (x.1,x.2.1,x.2.2.1,x.2.2.2.1,x.2.2.2.2.1,x.2.2.2.2.2.1,x.2.2.2.2.2.2.1,x.2.2.2.2.2.2.2.1,x.2.2.2.2.2.2.2.2.1,x.2.2.2.2.2.2.2.2.2.1,x.2.2.2.2.2.2.2.2.2.2.1,x.2.2.2.2.2.2.2.2.2.2.2.1,x.2.2.2.2.2.2.2.2.2.2.2.2.1,x.2.2.2.2.2.2.2.2.2.2.2.2.2.1,x.2.2.2.2.2.2.2.2.2.2.2.2.2.2,decide (((List.length x.2.2.2.2.2.2.2.2.2.2.2.2.2.1:Nat):Int)=(0:Int))))).bind λ x1=>
 bif x1.2.2.2.2.2.2.2.2.2.2.2.2.2.2.2 then
 (some (x1.1,x1.2.1,x1.2.2.1,x1.2.2.2.1,x1.2.2.2.2.1,x1.2.2.2.2.2.1,x1.2.2.2.2.2.2.1,x1.2.2.2.2.2.2.2.1,x1.2.2.2.2.2.2.2.2.1,x1.2.2.2.2.2.2.2.2.2.1,x1.2.2.2.2.2.2.2.2.2.2.2.2.1))
 else
 (bif decide (((List.length x1.2.2.2.2.2.2.2.2.2.2.2.2.1:Nat):Int)=x1.2.2.2.2.2.2.2.2.2.2.2.1)then
 ((fF x1.2.2.2.2.2.2.2.2.2.2.2.2.1).bind λ r2=>
 (lQ (x1.1,x1.2.1,x1.2.2.1,x1.2.2.2.1,x1.2.2.2.2.1,x1.2.2.2.2.2.1,x1.2.2.2.2.2.2.1,x1.2.2.2.2.2.2.2.1,x1.2.2.2.2.2.2.2.2.1,x1.2.2.2.2.2.2.2.2.2.1,x1.2.2.2.2.2.2.2.2.2.2.2.2.2.1)).bind λ r3=>
 bif decide (List.length x1.2.2.2.2.2.2.1+List.length ([(x1.2.2.2.2.2.2.2.2.2.2.1,r2.1,r3.1)]:List Ru)<=au)then
 (bif decide ((20000:Int)<((List.length (List.append x1.2.2.2.2.2.2.1 ([(x1.2.2.2.2.2.2.2.2.2.2.1,r2.1,r3.1)]:List Ru)):Nat):Int))then
 (some (r3.2.1,r3.2.2.1,r3.2.2.2.1,r3.2.2.2.2.1,r3.2.2.2.2.2.1,r3.2.2.2.2.2.2.1,List.append x1.2.2.2.2.2.2.1 ([(x1.2.2.2.2.2.2.2.2.2.2.1,r2.1,r3.1)]:List Ru),r3.2.2.2.2.2.2.2.2.1,r3.2.2.2.2.2.2.2.2.2.1,true,r2.2))
 else
 (some (r3.2.1,r3.2.2.1,r3.2.2.2.1,r3.2.2.2.2.1,r3.2.2.2.2.2.1,r3.2.2.2.2.2.2.1,List.append x1.2.2.2.2.2.2.1 ([(x1.2.2.2.2.2.2.2.2.2.2.1,r2.1,r3.1)]:List Ru),r3.2.2.2.2.2.2.2.2.1,r3.2.2.2.2.2.2.2.2.2.1,decide ((300:Int)<((List.length r3.2.2.2.2.2.1:Nat):Int)),r2.2))).bind λ x4=>
 some (x4.1,x4.2.1,x4.2.2.1,x4.2.2.2.1,x4.2.2.2.2.1,x4.2.2.2.2.2.1,x4.2.2.2.2.2.2.1,x4.2.2.2.2.2.2.2.1,x4.2.2.2.2.2.2.2.2.1,x4.2.2.2.2.2.2.2.2.2.1,x4.2.2.2.2.2.2.2.2.2.2)
 else none)
 else
 ((bif !x1.2.2.2.2.2.2.2.2.2.2.2.2.2.2.1 then
 (some (x1.1,x1.2.1,x1.2.2.1,x1.2.2.2.1,x1.2.2.2.2.1,x1.2.2.2.2.2.1,x1.2.2.2.2.2.2.1,x1.2.2.2.2.2.2.2.1,x1.2.2.2.2.2.2.2.2.1,x1.2.2.2.2.2.2.2.2.2.1,x1.2.2.2.2.2.2.2.2.2.2.1,x1.2.2.2.2.2.2.2.2.2.2.2.1,x1.2.2.2.2.2.2.2.2.2.2.2.2.1,x1.2.2.2.2.2.2.2.2.2.2.2.2.2.1,x1.2.2.2.2.2.2.2.2.2.2.2.2.2.2.1,(0:Int),decide (((List.length x1.2.2.2.2.2.2.2.2.2.2.2.2.1:Nat):Int)=(IntKind.wrap .i64 (x1.2.2.2.2.2.2.2.2.2.2.2.1-(1:Int))))))
 else
 (some (x1.1,x1.2.1,x1.2.2.1,x1.2.2.2.1,x1.2.2.2.2.1,x1.2.2.2.2.2.1,x1.2.2.2.2.2.2.1,x1.2.2.2.2.2.2.2.1,x1.2.2.2.2.2.2.2.2.1,x1.2.2.2.2.2.2.2.2.2.1,x1.2.2.2.2.2.2.2.2.2.2.1,x1.2.2.2.2.2.2.2.2.2.2.2.1,x1.2.2.2.2.2.2.2.2.2.2.2.2.1,x1.2.2.2.2.2.2.2.2.2.2.2.2.2.1,x1.2.2.2.2.2.2.2.2.2.2.2.2.2.2.1,(0:Int),false))).bind λ x5=>
 (bif x5.2.2.2.2.2.2.2.2.2.2.2.2.2.2.2.2 then
 (some (x5.1,x5.2.1,x5.2.2.1,x5.2.2.2.1,x5.2.2.2.2.1,x5.2.2.2.2.2.1,x5.2.2.2.2.2.2.1,x5.2.2.2.2.2.2.2.1,x5.2.2.2.2.2.2.2.2.1,x5.2.2.2.2.2.2.2.2.2.1,x5.2.2.2.2.2.2.2.2.2.2.1,x5.2.2.2.2.2.2.2.2.2.2.2.1,x5.2.2.2.2.2.2.2.2.2.2.2.2.1,x5.2.2.2.2.2.2.2.2.2.2.2.2.2.1,x5.2.2.2.2.2.2.2.2.2.2.2.2.2.2.1,x5.2.2.2.2.2.2.2.1))
 else
 (some (x5.1,x5.2.1,x5.2.2.1,x5.2.2.2.1,x5.2.2.2.2.1,x5.2.2.2.2.2.1,x5.2.2.2.2.2.2.1,x5.2.2.2.2.2.2.2.1,x5.2.2.2.2.2.2.2.2.1,x5.2.2.2.2.2.2.2.2.2.1,x5.2.2.2.2.2.2.2.2.2.2.1,x5.2.2.2.2.2.2.2.2.2.2.2.1,x5.2.2.2.2.2.2.2.2.2.2.2.2.1,x5.2.2.2.2.2.2.2.2.2.2.2.2.2.1,x5.2.2.2.2.2.2.2.2.2.2.2.2.2.2.1,x5.2.2.2.2.2.2.2.2.2.2.2.2.2.2.2.1))).bind λ x6=>
 (cu (bJ.L2 dG n bG) n (x6.1,x6.2.1,x6.2.2.1,x6.2.2.2.1,x6.2.2.2.2.1,x6.2.2.2.2.2.1,x6.2.2.2.2.2.2.1,x6.2.2.2.2.2.2.2.1,x6.2.2.2.2.2.2.2.2.1,x6.2.2.2.2.2.2.2.2.2.1,x6.2.2.2.2.2.2.2.2.2.2.1,x6.2.2.2.2.2.2.2.2.2.2.2.1,x6.2.2.2.2.2.2.2.2.2.2.2.2.1,x6.2.2.2.2.2.2.2.2.2.2.2.2.2.1,x6.2.2.2.2.2.2.2.2.2.2.2.2.2.2.1,x6.2.2.2.2.2.2.2.2.2.2.2.2.2.2.2)).bind λ x21=>
 some (x21.1,x21.2.1,x21.2.2.1,x21.2.2.2.1,x21.2.2.2.2.1,x21.2.2.2.2.2.1,x21.2.2.2.2.2.2.1,x21.2.2.2.2.2.2.2.1,x21.2.2.2.2.2.2.2.2.1,x21.2.2.2.2.2.2.2.2.2.1,x21.2.2.2.2.2.2.2.2.2.2)))
def lJ.L1 (x1:A87) (rec2:(A87)->Option (List Bool)):Option (List Bool):=
 bif decide (x1.2.2.2<x1.2.2.1)then
 ((nth? x1.2.1 x1.2.2.2).bind λ e3=>
 bif decide (0<=e3)&&decide (e3<((List.length x1.1:Nat):Int))then
 (at? x1.1 (Int.toNat e3)).bind λ e4=>
 rec2 (List.set x1.1 (Int.toNat e3) true,x1.2.1,x1.2.2.1,IntKind.wrap .i64 (x1.2.2.2+(1:Int)))
 else none)
 else
 (some x1.1)
def lJ.P (n:Nat) (x:A0):Option (List Bool):=
 bif decide (0<=x.1)&&decide (x.1<=x.1)&&decide (x.1<=((au:Nat):Int))then
 (cu (lJ.L1) n (List.replicate (Int.toNat x.1) (false:Bool),x.2.1,((List.length x.2.1:Nat):Int),(0:Int))).bind λ x5=>
 some x5
 else none
def iq.L1 (dG:(A15)->Option Bool) (x1:A10) (rec2:(A10)->Option LI):Option LI:=
 bif decide (x1.2.2.2<x1.2.2.1)then
 ((dG (x1.1,x1.2.2.2)).bind λ r3=>
 (bif r3 then
 (bif decide (List.length x1.2.1+List.length ([x1.2.2.2]:List Int)<=au)then
 some (x1.1,List.append x1.2.1 ([x1.2.2.2]:List Int),x1.2.2.1,x1.2.2.2)
 else none)
 else
 (some (x1.1,x1.2.1,x1.2.2.1,x1.2.2.2))).bind λ x4=>
 rec2 (x4.1,x4.2.1,x4.2.2.1,IntKind.wrap .i64 (x4.2.2.2+(1:Int))))
 else
 (some x1.2.1)
def iq.P (dG:(A15)->Option Bool) (n:Nat) (x:List Int):Option LI:=
 (cu (iq.L1 dG) n (x,([]:List Int),IntKind.wrap .i64 ((64:Int)*((List.length x:Nat):Int)),(0:Int))).bind λ x5=>
 some x5
def pI.P (n:Nat) (x:A14):Option Bool:=
 (nth? x.2 x.1).bind λ e1=>
 some e1
def bM.L1 (jT:(A14)->Option Bool) (x1:A42) (rec2:(A42)->Option (Sum Unit Int)):Option (Sum Unit Int):=
 bif decide (x1.2.2.2<x1.2.2.1)then
 ((nth? x1.1 x1.2.2.2).bind λ e3=>
 (jT (e3,x1.2.1)).bind λ r4=>
 bif r4 then
 ((some x1.2.2.2).bind λ r=>some (Sum.inr r))
 else
 (rec2 (x1.1,x1.2.1,x1.2.2.1,IntKind.wrap .i64 (x1.2.2.2+(1:Int)))))
 else
 (some (Sum.inl ()))
def bM.P (jT:(A14)->Option Bool) (n:Nat) (x:A5):Option Int:=
 (cu (bM.L1 jT) n (x.1,x.2,((List.length x.1:Nat):Int),(0:Int))).bind λ q=>match q with
 |Sum.inl x5=>(some (-1:Int))
 |Sum.inr r=>some r
def dF.P (bW:(A5)->Option Int) (n:Nat) (x:A5):Option Bool:=
 (bW (x.1,x.2)).bind λ r1=>
 some (decide ((0:Int)<=r1))
def dL.L1 (bG:(Int×LI×LR×LL×LL×(Option (List (ByteArray×Int)))×LR×Int×Int×Bool×Int×Int×LI×LI×Bool)->Option (Int×LI×LR×LL×LL×(Option (List (ByteArray×Int)))×LR×Int×Int×Bool×LI)) (x6:LI×Int×LI×LR×Int×LI×LR×Int×Int×LI×LR×LL×LL×(Option (List (ByteArray×Int)))×LR×Int×Int×Bool×LI×Int×Int) (rec7:(LI×Int×LI×LR×Int×LI×LR×Int×Int×LI×LR×LL×LL×(Option (List (ByteArray×Int)))×LR×Int×Int×Bool×LI×Int×Int)->Option (LI×Int×LI×LR×Int×LI×LR×Int×Int×LI×LR×LL×LL×(Option (List (ByteArray×Int)))×LR×Int×Int×Bool)):Option (LI×Int×LI×LR×Int×LI×LR×Int×Int×LI×LR×LL×LL×(Option (List (ByteArray×Int)))×LR×Int×Int×Bool):=
 bif decide (x6.2.2.2.2.2.2.2.2.2.2.2.2.2.2.2.2.2.2.2.2<x6.2.2.2.2.2.2.2.2.2.2.2.2.2.2.2.2.2.2.2.1)then
 ((nth? x6.2.2.2.2.2.2.2.2.2.2.2.2.2.2.2.2.2.2.1 x6.2.2.2.2.2.2.2.2.2.2.2.2.2.2.2.2.2.2.2.2).bind λ e8=>
 (bif (decide (e8=(0:Int)))==(decide (x6.2.2.2.2.2.2.2.1=(0:Int)))then
 ((nth? x6.2.2.2.2.2.2.2.2.2.2.2.1 x6.2.2.2.2.2.2.2.2.2.2.2.2.2.2.2.2.2.2.2.2).bind λ e9=>
 (bG (x6.2.2.2.2.2.2.2.2.1,x6.2.2.2.2.2.2.2.2.2.1,x6.2.2.2.2.2.2.2.2.2.2.1,x6.2.2.2.2.2.2.2.2.2.2.2.1,x6.2.2.2.2.2.2.2.2.2.2.2.2.1,x6.2.2.2.2.2.2.2.2.2.2.2.2.2.1,x6.2.2.2.2.2.2.2.2.2.2.2.2.2.2.1,x6.2.2.2.2.2.2.2.2.2.2.2.2.2.2.2.1,x6.2.2.2.2.2.2.2.2.2.2.2.2.2.2.2.2.1,x6.2.2.2.2.2.2.2.2.2.2.2.2.2.2.2.2.2.1,x6.2.2.2.2.2.2.2.2.2.2.2.2.2.2.2.2.2.2.2.2,e8,([]:List Int),e9,decide (e8=(0:Int)))).bind λ r10=>
 some (x6.1,x6.2.1,x6.2.2.1,x6.2.2.2.1,x6.2.2.2.2.1,x6.2.2.2.2.2.1,x6.2.2.2.2.2.2.1,x6.2.2.2.2.2.2.2.1,r10.1,r10.2.1,r10.2.2.1,r10.2.2.2.1,r10.2.2.2.2.1,r10.2.2.2.2.2.1,r10.2.2.2.2.2.2.1,r10.2.2.2.2.2.2.2.1,r10.2.2.2.2.2.2.2.2.1,r10.2.2.2.2.2.2.2.2.2.1,x6.2.2.2.2.2.2.2.2.2.2.2.2.2.2.2.2.2.2.1,x6.2.2.2.2.2.2.2.2.2.2.2.2.2.2.2.2.2.2.2.1,x6.2.2.2.2.2.2.2.2.2.2.2.2.2.2.2.2.2.2.2.2))
 else
 (some (x6.1,x6.2.1,x6.2.2.1,x6.2.2.2.1,x6.2.2.2.2.1,x6.2.2.2.2.2.1,x6.2.2.2.2.2.2.1,x6.2.2.2.2.2.2.2.1,x6.2.2.2.2.2.2.2.2.1,x6.2.2.2.2.2.2.2.2.2.1,x6.2.2.2.2.2.2.2.2.2.2.1,x6.2.2.2.2.2.2.2.2.2.2.2.1,x6.2.2.2.2.2.2.2.2.2.2.2.2.1,x6.2.2.2.2.2.2.2.2.2.2.2.2.2.1,x6.2.2.2.2.2.2.2.2.2.2.2.2.2.2.1,x6.2.2.2.2.2.2.2.2.2.2.2.2.2.2.2.1,x6.2.2.2.2.2.2.2.2.2.2.2.2.2.2.2.2.1,x6.2.2.2.2.2.2.2.2.2.2.2.2.2.2.2.2.2.1,x6.2.2.2.2.2.2.2.2.2.2.2.2.2.2.2.2.2.2.1,x6.2.2.2.2.2.2.2.2.2.2.2.2.2.2.2.2.2.2.2.1,x6.2.2.2.2.2.2.2.2.2.2.2.2.2.2.2.2.2.2.2.2))).bind λ x11=>
 rec7 (x11.1,x11.2.1,x11.2.2.1,x11.2.2.2.1,x11.2.2.2.2.1,x11.2.2.2.2.2.1,x11.2.2.2.2.2.2.1,x11.2.2.2.2.2.2.2.1,x11.2.2.2.2.2.2.2.2.1,x11.2.2.2.2.2.2.2.2.2.1,x11.2.2.2.2.2.2.2.2.2.2.1,x11.2.2.2.2.2.2.2.2.2.2.2.1,x11.2.2.2.2.2.2.2.2.2.2.2.2.1,x11.2.2.2.2.2.2.2.2.2.2.2.2.2.1,x11.2.2.2.2.2.2.2.2.2.2.2.2.2.2.1,x11.2.2.2.2.2.2.2.2.2.2.2.2.2.2.2.1,x11.2.2.2.2.2.2.2.2.2.2.2.2.2.2.2.2.1,x11.2.2.2.2.2.2.2.2.2.2.2.2.2.2.2.2.2.1,x11.2.2.2.2.2.2.2.2.2.2.2.2.2.2.2.2.2.2.1,x11.2.2.2.2.2.2.2.2.2.2.2.2.2.2.2.2.2.2.2.1,IntKind.wrap .i64 (x11.2.2.2.2.2.2.2.2.2.2.2.2.2.2.2.2.2.2.2.2+(1:Int))))
 else
 (some (x6.1,x6.2.1,x6.2.2.1,x6.2.2.2.1,x6.2.2.2.2.1,x6.2.2.2.2.2.1,x6.2.2.2.2.2.2.1,x6.2.2.2.2.2.2.2.1,x6.2.2.2.2.2.2.2.2.1,x6.2.2.2.2.2.2.2.2.2.1,x6.2.2.2.2.2.2.2.2.2.2.1,x6.2.2.2.2.2.2.2.2.2.2.2.1,x6.2.2.2.2.2.2.2.2.2.2.2.2.1,x6.2.2.2.2.2.2.2.2.2.2.2.2.2.1,x6.2.2.2.2.2.2.2.2.2.2.2.2.2.2.1,x6.2.2.2.2.2.2.2.2.2.2.2.2.2.2.2.1,x6.2.2.2.2.2.2.2.2.2.2.2.2.2.2.2.2.1,x6.2.2.2.2.2.2.2.2.2.2.2.2.2.2.2.2.2.1))
def dL.L2 (bG:(Int×LI×LR×LL×LL×(Option (List (ByteArray×Int)))×LR×Int×Int×Bool×Int×Int×LI×LI×Bool)->Option (Int×LI×LR×LL×LL×(Option (List (ByteArray×Int)))×LR×Int×Int×Bool×LI)) (n:Nat) (x3:LI×Int×LI×LR×Int×LI×LR×Int×Int×LI×LR×LL×LL×(Option (List (ByteArray×Int)))×LR×Int×Int×Bool) (rec4:(LI×Int×LI×LR×Int×LI×LR×Int×Int×LI×LR×LL×LL×(Option (List (ByteArray×Int)))×LR×Int×Int×Bool)->Option (Sum (Int×LI×LR×Int×LI×LR×Int×LI×LR×LL×LL×(Option (List (ByteArray×Int)))×LR×Int×Int×Bool) (A59))):Option (Sum (Int×LI×LR×Int×LI×LR×Int×LI×LR×LL×LL×(Option (List (ByteArray×Int)))×LR×Int×Int×Bool) (A59)):=
 (bif decide (x3.2.2.2.2.2.2.2.1=(0:Int))then
 (some (x3.1,x3.2.1,x3.2.2.1,x3.2.2.2.1,x3.2.2.2.2.1,x3.2.2.2.2.2.1,x3.2.2.2.2.2.2.1,x3.2.2.2.2.2.2.2.1,x3.2.2.2.2.2.2.2.2.1,x3.2.2.2.2.2.2.2.2.2.1,x3.2.2.2.2.2.2.2.2.2.2.1,x3.2.2.2.2.2.2.2.2.2.2.2.1,x3.2.2.2.2.2.2.2.2.2.2.2.2.1,x3.2.2.2.2.2.2.2.2.2.2.2.2.2.1,x3.2.2.2.2.2.2.2.2.2.2.2.2.2.2.1,x3.2.2.2.2.2.2.2.2.2.2.2.2.2.2.2.1,x3.2.2.2.2.2.2.2.2.2.2.2.2.2.2.2.2.1,x3.2.2.2.2.2.2.2.2.2.2.2.2.2.2.2.2.2,true))
 else
 (some (x3.1,x3.2.1,x3.2.2.1,x3.2.2.2.1,x3.2.2.2.2.1,x3.2.2.2.2.2.1,x3.2.2.2.2.2.2.1,x3.2.2.2.2.2.2.2.1,x3.2.2.2.2.2.2.2.2.1,x3.2.2.2.2.2.2.2.2.2.1,x3.2.2.2.2.2.2.2.2.2.2.1,x3.2.2.2.2.2.2.2.2.2.2.2.1,x3.2.2.2.2.2.2.2.2.2.2.2.2.1,x3.2.2.2.2.2.2.2.2.2.2.2.2.2.1,x3.2.2.2.2.2.2.2.2.2.2.2.2.2.2.1,x3.2.2.2.2.2.2.2.2.2.2.2.2.2.2.2.1,x3.2.2.2.2.2.2.2.2.2.2.2.2.2.2.2.2.1,x3.2.2.2.2.2.2.2.2.2.2.2.2.2.2.2.2.2,decide (x3.2.2.2.2.2.2.2.2.2.2.2.2.2.2.2.1<x3.2.2.2.2.2.2.2.2.2.2.2.2.2.2.2.2.1)))).bind λ x5=>
 bif x5.2.2.2.2.2.2.2.2.2.2.2.2.2.2.2.2.2.2 then
 ((cu (dL.L1 bG) n (x5.1,x5.2.1,x5.2.2.1,x5.2.2.2.1,x5.2.2.2.2.1,x5.2.2.2.2.2.1,x5.2.2.2.2.2.2.1,x5.2.2.2.2.2.2.2.1,x5.2.2.2.2.2.2.2.2.1,x5.2.2.2.2.2.2.2.2.2.1,x5.2.2.2.2.2.2.2.2.2.2.1,x5.2.2.2.2.2.2.2.2.2.2.2.1,x5.2.2.2.2.2.2.2.2.2.2.2.2.1,x5.2.2.2.2.2.2.2.2.2.2.2.2.2.1,x5.2.2.2.2.2.2.2.2.2.2.2.2.2.2.1,x5.2.2.2.2.2.2.2.2.2.2.2.2.2.2.2.1,x5.2.2.2.2.2.2.2.2.2.2.2.2.2.2.2.2.1,x5.2.2.2.2.2.2.2.2.2.2.2.2.2.2.2.2.2.1,x5.1,((List.length x5.1:Nat):Int),(0:Int))).bind λ x12=>
 bif x12.2.2.2.2.2.2.2.2.2.2.2.2.2.2.2.2.2 then
 ((some ((0:Int),([]:List Int),([]:List Ru),([]:List LI),(3:Int))).bind λ r=>some (Sum.inr r))
 else
 (rec4 (x12.1,x12.2.1,x12.2.2.1,x12.2.2.2.1,x12.2.2.2.2.1,x12.2.2.2.2.2.1,x12.2.2.2.2.2.2.1,IntKind.wrap .i64 (x12.2.2.2.2.2.2.2.1+(1:Int)),x12.2.2.2.2.2.2.2.2.1,x12.2.2.2.2.2.2.2.2.2.1,x12.2.2.2.2.2.2.2.2.2.2.1,x12.2.2.2.2.2.2.2.2.2.2.2.1,x12.2.2.2.2.2.2.2.2.2.2.2.2.1,x12.2.2.2.2.2.2.2.2.2.2.2.2.2.1,x12.2.2.2.2.2.2.2.2.2.2.2.2.2.2.1,x12.2.2.2.2.2.2.2.2.2.2.2.2.2.2.2.2.1,((List.length x12.2.2.2.2.2.2.2.2.2.2.2.2.1:Nat):Int),x12.2.2.2.2.2.2.2.2.2.2.2.2.2.2.2.2.2)))
 else
 (some (Sum.inl (x5.2.1,x5.2.2.1,x5.2.2.2.1,x5.2.2.2.2.1,x5.2.2.2.2.2.1,x5.2.2.2.2.2.2.1,x5.2.2.2.2.2.2.2.2.1,x5.2.2.2.2.2.2.2.2.2.1,x5.2.2.2.2.2.2.2.2.2.2.1,x5.2.2.2.2.2.2.2.2.2.2.2.1,x5.2.2.2.2.2.2.2.2.2.2.2.2.1,x5.2.2.2.2.2.2.2.2.2.2.2.2.2.1,x5.2.2.2.2.2.2.2.2.2.2.2.2.2.2.1,x5.2.2.2.2.2.2.2.2.2.2.2.2.2.2.2.1,x5.2.2.2.2.2.2.2.2.2.2.2.2.2.2.2.2.1,x5.2.2.2.2.2.2.2.2.2.2.2.2.2.2.2.2.2.1)))
def dL.L3 (jl:List Int->Option LI) (aO:(A5)->Option Bool) (x16:Int×LI×LR×Int×LI×LR×(List Bool)×LL×Int×LI×LR×LL×LL×(Option (List (ByteArray×Int)))×LR×Int×Int×Bool×Int×Int) (rec17:(Int×LI×LR×Int×LI×LR×(List Bool)×LL×Int×LI×LR×LL×LL×(Option (List (ByteArray×Int)))×LR×Int×Int×Bool×Int×Int)->Option (A82)):Option (A82):=
 bif decide (x16.2.2.2.2.2.2.2.2.2.2.2.2.2.2.2.2.2.2.2<x16.2.2.2.2.2.2.2.2.2.2.2.2.2.2.2.2.2.2.1)then
 (bif decide (0<=x16.2.2.2.2.2.2.2.2.2.2.2.2.2.2.2.2.2.2.2)&&decide (x16.2.2.2.2.2.2.2.2.2.2.2.2.2.2.2.2.2.2.2<((List.length x16.2.2.2.2.2.2.2.2.2.2.2.2.1:Nat):Int))then
 (at? x16.2.2.2.2.2.2.2.2.2.2.2.2.1 (Int.toNat x16.2.2.2.2.2.2.2.2.2.2.2.2.2.2.2.2.2.2.2)).bind λ e18=>
 (jl e18).bind λ r19=>
 bif decide (List.length x16.2.2.2.2.2.2.2.1+List.length ([r19]:List LI)<=au)then
 (aO (r19,x16.2.2.2.2.2.2.1)).bind λ r20=>
 (bif r20 then
 (bif decide (List.length x16.2.2.2.2.1+List.length ([x16.2.2.2.2.2.2.2.2.2.2.2.2.2.2.2.2.2.2.2]:List Int)<=au)then
 some (x16.1,x16.2.1,x16.2.2.1,x16.2.2.2.1,List.append x16.2.2.2.2.1 ([x16.2.2.2.2.2.2.2.2.2.2.2.2.2.2.2.2.2.2.2]:List Int),x16.2.2.2.2.2.1,x16.2.2.2.2.2.2.1,List.append x16.2.2.2.2.2.2.2.1 ([r19]:List LI),x16.2.2.2.2.2.2.2.2.1,x16.2.2.2.2.2.2.2.2.2.1,x16.2.2.2.2.2.2.2.2.2.2.1,x16.2.2.2.2.2.2.2.2.2.2.2.1,x16.2.2.2.2.2.2.2.2.2.2.2.2.1,x16.2.2.2.2.2.2.2.2.2.2.2.2.2.1,x16.2.2.2.2.2.2.2.2.2.2.2.2.2.2.1,x16.2.2.2.2.2.2.2.2.2.2.2.2.2.2.2.1,x16.2.2.2.2.2.2.2.2.2.2.2.2.2.2.2.2.1,x16.2.2.2.2.2.2.2.2.2.2.2.2.2.2.2.2.2.1,x16.2.2.2.2.2.2.2.2.2.2.2.2.2.2.2.2.2.2.1,x16.2.2.2.2.2.2.2.2.2.2.2.2.2.2.2.2.2.2.2)
 else none)
 else
 (some (x16.1,x16.2.1,x16.2.2.1,x16.2.2.2.1,x16.2.2.2.2.1,x16.2.2.2.2.2.1,x16.2.2.2.2.2.2.1,List.append x16.2.2.2.2.2.2.2.1 ([r19]:List LI),x16.2.2.2.2.2.2.2.2.1,x16.2.2.2.2.2.2.2.2.2.1,x16.2.2.2.2.2.2.2.2.2.2.1,x16.2.2.2.2.2.2.2.2.2.2.2.1,x16.2.2.2.2.2.2.2.2.2.2.2.2.1,x16.2.2.2.2.2.2.2.2.2.2.2.2.2.1,x16.2.2.2.2.2.2.2.2.2.2.2.2.2.2.1,x16.2.2.2.2.2.2.2.2.2.2.2.2.2.2.2.1,x16.2.2.2.2.2.2.2.2.2.2.2.2.2.2.2.2.1,x16.2.2.2.2.2.2.2.2.2.2.2.2.2.2.2.2.2.1,x16.2.2.2.2.2.2.2.2.2.2.2.2.2.2.2.2.2.2.1,x16.2.2.2.2.2.2.2.2.2.2.2.2.2.2.2.2.2.2.2))).bind λ x21=>
 rec17 (x21.1,x21.2.1,x21.2.2.1,x21.2.2.2.1,x21.2.2.2.2.1,x21.2.2.2.2.2.1,x21.2.2.2.2.2.2.1,x21.2.2.2.2.2.2.2.1,x21.2.2.2.2.2.2.2.2.1,x21.2.2.2.2.2.2.2.2.2.1,x21.2.2.2.2.2.2.2.2.2.2.1,x21.2.2.2.2.2.2.2.2.2.2.2.1,x21.2.2.2.2.2.2.2.2.2.2.2.2.1,x21.2.2.2.2.2.2.2.2.2.2.2.2.2.1,x21.2.2.2.2.2.2.2.2.2.2.2.2.2.2.1,x21.2.2.2.2.2.2.2.2.2.2.2.2.2.2.2.1,x21.2.2.2.2.2.2.2.2.2.2.2.2.2.2.2.2.1,x21.2.2.2.2.2.2.2.2.2.2.2.2.2.2.2.2.2.1,x21.2.2.2.2.2.2.2.2.2.2.2.2.2.2.2.2.2.2.1,IntKind.wrap .i64 (x21.2.2.2.2.2.2.2.2.2.2.2.2.2.2.2.2.2.2.2+(1:Int)))
 else none
 else none)
 else
 (some (x16.1,x16.2.1,x16.2.2.1,x16.2.2.2.1,x16.2.2.2.2.1,x16.2.2.2.2.2.1,x16.2.2.2.2.2.2.2.1))
def dL.P (xY:(A1)->Option LL) (kV:(A0)->Option (List Bool)) (gU:List Ru->Option LR) (fC:(A1)->Option Bool) (jl:List Int->Option LI) (bG:(Int×LI×LR×LL×LL×(Option (List (ByteArray×Int)))×LR×Int×Int×Bool×Int×Int×LI×LI×Bool)->Option (Int×LI×LR×LL×LL×(Option (List (ByteArray×Int)))×LR×Int×Int×Bool×LI)) (aO:(A5)->Option Bool) (n:Nat) (x:A1):Option (A59):=
 (fC (x.1,x.2.1,x.2.2.1,x.2.2.2)).bind λ r1=>
 bif !r1 then
 (some ((0:Int),([]:List Int),([]:List Ru),([]:List LI),(1:Int)))
 else
 ((xY (x.1,x.2.1,x.2.2.1,x.2.2.2)).bind λ r2=>
 (cu (dL.L2 bG n) n (x.1,x.2.1,x.2.2.1,x.2.2.2,(0:Int),([]:List Int),([]:List Ru),(0:Int),x.2.1,x.2.2.1,x.2.2.2,r2,([]:List LI),(some []:Option (List (ByteArray×Int))),([]:List Ru),(0:Int),(0:Int),false)).bind λ q=>match q with
 |Sum.inl x13=>((gU x13.2.2.2.2.2.2.2.2.2.2.2.2.1).bind λ r14=>
 (kV (x13.1,x13.2.1,x13.2.2.1)).bind λ r15=>
 (cu (dL.L3 jl aO) n (x13.2.2.2.1,x13.2.2.2.2.1,x13.2.2.2.2.2.1,((List.length x13.2.2.2.2.2.2.2.2.2.2.1:Nat):Int),([]:List Int),r14,r15,([]:List LI),x13.2.2.2.2.2.2.1,x13.2.2.2.2.2.2.2.1,x13.2.2.2.2.2.2.2.2.1,x13.2.2.2.2.2.2.2.2.2.1,x13.2.2.2.2.2.2.2.2.2.2.1,x13.2.2.2.2.2.2.2.2.2.2.2.1,x13.2.2.2.2.2.2.2.2.2.2.2.2.1,x13.2.2.2.2.2.2.2.2.2.2.2.2.2.1,x13.2.2.2.2.2.2.2.2.2.2.2.2.2.2.1,x13.2.2.2.2.2.2.2.2.2.2.2.2.2.2.2,((List.length x13.2.2.2.2.2.2.2.2.2.2.1:Nat):Int),(0:Int))).bind λ x22=>
 some (x22.2.2.2.1,x22.2.2.2.2.1,x22.2.2.2.2.2.1,x22.2.2.2.2.2.2,(0:Int)))
 |Sum.inr r=>some r)
def xP.P (vG:(A0)->Option (A0)) (jV:(A1)->Option (A58)) (vH:(A1)->Option (A23)) (nD:(A1)->Option (A59)) (n:Nat) (x:A1):Option (A23):=
 (jV (x.1,x.2.1,x.2.2.1,x.2.2.2)).bind λ r1=>
 bif !decide (r1.2=(0:Int))then
 (some ((0:Int),([]:List Int),([]:List Ru),r1.2))
 else
 (bif r1.1 then
 ((vG (x.2.1,x.2.2.1,x.2.2.2)).bind λ r2=>
 some (r2.1,r2.2.1,r2.2.2,(0:Int)))
 else
 ((vH (x.1,x.2.1,x.2.2.1,x.2.2.2)).bind λ r3=>
 bif !decide (r3.2.2.2=(0:Int))then
 (some ((0:Int),([]:List Int),([]:List Ru),r3.2.2.2))
 else
 ((nD (x.1,r3.1,r3.2.1,r3.2.2.1)).bind λ r4=>
 some (r4.1,r4.2.1,r4.2.2.1,r4.2.2.2.2))))
def xM.P (mF:(A12)->Option (A0)) (jY:(A0)->Option (List Bool)) (n:Nat) (x:A0):Option (A0):=
 (jY (x.1,x.2.1,x.2.2)).bind λ r1=>
 (mF (x.1,x.2.1,x.2.2,r1)).bind λ r2=>
 some (r2.1,r2.2.1,r2.2.2)
def kS.L1 (x1:(Option (List (A58)))×LI×(List Bool)×Int×Int) (rec2:((Option (List (A58)))×LI×(List Bool)×Int×Int)->Option ((Option (List (A58)))×LI)):Option ((Option (List (A58)))×LI):=
 bif decide (x1.2.2.2.2<x1.2.2.2.1)then
 ((nth? x1.2.2.1 x1.2.2.2.2).bind λ e3=>
 (bif !(Option.isSome (og afR e3 (l9 x1.1)))then
 ((x1.1).bind λ m4=>
 some (some (E5 afR e3 ((VB x1.1:Nat):Int) m4),x1.2.1,((VB x1.1:Nat):Int),x1.2.2.1,x1.2.2.2.1,x1.2.2.2.2))
 else
 (some (x1.1,x1.2.1,Option.getD (og afR e3 (l9 x1.1)) (0:Int),x1.2.2.1,x1.2.2.2.1,x1.2.2.2.2))).bind λ x5=>
 bif decide (List.length x5.2.1+List.length ([x5.2.2.1]:List Int)<=au)then
 rec2 (x5.1,List.append x5.2.1 ([x5.2.2.1]:List Int),x5.2.2.2.1,x5.2.2.2.2.1,IntKind.wrap .i64 (x5.2.2.2.2.2+(1:Int)))
 else none)
 else
 (some (x1.1,x1.2.1))
def kS.P (n:Nat) (x:List Bool):Option (A15):=
 (cu (kS.L1) n ((some []:Option (List (A58))),([]:List Int),x,((List.length x:Nat):Int),(0:Int))).bind λ x6=>
 some (x6.2,((VB x6.1:Nat):Int))
def D6.P (kR:(A65)->Option ByteArray) (n:Nat) (x:A65):Option ByteArray:=
 (kR (x.1,x.2)).bind λ r1=>
 some r1
def iD.L1 (bC:List Int->Option LI) (nC:(A65)->Option ByteArray) (x4:(Option (List (ByteArray×Int)))×(List (Option (List (A7))))×Int×LI×Int×LR×Int×Int×LI×Int×Int) (rec5:((Option (List (ByteArray×Int)))×(List (Option (List (A7))))×Int×LI×Int×LR×Int×Int×LI×Int×Int)->Option ((Option (List (ByteArray×Int)))×(List (Option (List (A7))))×LR×Int×Int)):Option ((Option (List (ByteArray×Int)))×(List (Option (List (A7))))×LR×Int×Int):=
 bif decide (x4.2.2.2.2.2.2.2.2.2.2<x4.2.2.2.2.2.2.2.2.2.1)then
 ((nth? x4.2.2.2.2.2.2.2.2.1 x4.2.2.2.2.2.2.2.2.2.2).bind λ e6=>
 (bC x4.2.2.2.1).bind λ r7=>
 bif decide (0<=x4.2.2.2.2.2.2.2.2.2.2)&&decide (x4.2.2.2.2.2.2.2.2.2.2<((List.length r7:Nat):Int))then
 (at? r7 (Int.toNat x4.2.2.2.2.2.2.2.2.2.2)).bind λ e8=>
 (nC (x4.2.2.1,List.set r7 (Int.toNat x4.2.2.2.2.2.2.2.2.2.2) (-1:Int))).bind λ r9=>
 (bif !(Option.isSome (og seq r9 (l9 x4.1)))then
 ((x4.1).bind λ m10=>
 some (some (E5 seq r9 ((VB x4.1:Nat):Int) m10),x4.2.1,x4.2.2.1,x4.2.2.2.1,x4.2.2.2.2.1,e6,((VB x4.1:Nat):Int),x4.2.2.2.2.2.1,x4.2.2.2.2.2.2.1,x4.2.2.2.2.2.2.2.1,x4.2.2.2.2.2.2.2.2.1,x4.2.2.2.2.2.2.2.2.2.1,x4.2.2.2.2.2.2.2.2.2.2))
 else
 (some (x4.1,x4.2.1,x4.2.2.1,x4.2.2.2.1,x4.2.2.2.2.1,e6,Option.getD (og seq r9 (l9 x4.1)) (0:Int),x4.2.2.2.2.2.1,x4.2.2.2.2.2.2.1,x4.2.2.2.2.2.2.2.1,x4.2.2.2.2.2.2.2.2.1,x4.2.2.2.2.2.2.2.2.2.1,x4.2.2.2.2.2.2.2.2.2.2))).bind λ x11=>
 bif decide (0<=x11.2.2.2.2.2.1)&&decide (x11.2.2.2.2.2.1<((List.length x11.2.1:Nat):Int))then
 (rowAt? x11.2.1 (Int.toNat x11.2.2.2.2.2.1)).bind λ e12=>
 (rowAt? x11.2.1 (Int.toNat x11.2.2.2.2.2.1)).bind λ e13=>
 bif decide (List.length e13+List.length ([(x11.2.2.2.2.2.2.1,x11.2.2.2.2.1)]:List (A7))<=au)then
 bif decide (0<=x11.2.2.2.2.2.1)&&decide (x11.2.2.2.2.2.1<((List.length (List.set x11.2.1 (Int.toNat x11.2.2.2.2.2.1) none):Nat):Int))then
 rec5 (x11.1,List.set (List.set x11.2.1 (Int.toNat x11.2.2.2.2.2.1) none) (Int.toNat x11.2.2.2.2.2.1) (some (List.append e13 ([(x11.2.2.2.2.2.2.1,x11.2.2.2.2.1)]:List (A7)))),x11.2.2.1,x11.2.2.2.1,x11.2.2.2.2.1,x11.2.2.2.2.2.2.2.1,x11.2.2.2.2.2.2.2.2.1,x11.2.2.2.2.2.2.2.2.2.1,x11.2.2.2.2.2.2.2.2.2.2.1,x11.2.2.2.2.2.2.2.2.2.2.2.1,IntKind.wrap .i64 (x11.2.2.2.2.2.2.2.2.2.2.2.2+(1:Int)))
 else none
 else none
 else none
 else none)
 else
 (some (x4.1,x4.2.1,x4.2.2.2.2.2.1,x4.2.2.2.2.2.2.1,x4.2.2.2.2.2.2.2.1))
def iD.L2 (bC:List Int->Option LI) (nC:(A65)->Option ByteArray) (n:Nat) (x1:(Option (List (ByteArray×Int)))×(List (Option (List (A7))))×LR×Int×Int) (rec2:((Option (List (ByteArray×Int)))×(List (Option (List (A7))))×LR×Int×Int)->Option (List (Option (List (A7))))):Option (List (Option (List (A7)))):=
 bif decide (x1.2.2.2.2<x1.2.2.2.1)then
 ((nth? x1.2.2.1 x1.2.2.2.2).bind λ e3=>
 (cu (iD.L1 bC nC) n (x1.1,x1.2.1,e3.1,e3.2.1,e3.2.2,x1.2.2.1,x1.2.2.2.1,x1.2.2.2.2,e3.2.1,((List.length e3.2.1:Nat):Int),(0:Int))).bind λ x14=>
 rec2 (x14.1,x14.2.1,x14.2.2.1,x14.2.2.2.1,IntKind.wrap .i64 (x14.2.2.2.2+(1:Int))))
 else
 (some x1.2.1)
def iD.L3 (aK:List (A7)->Option (List (A7))) (x16:(List (Option (List (A7))))×Int×Int) (rec17:((List (Option (List (A7))))×Int×Int)->Option (List (Option (List (A7))))):Option (List (Option (List (A7)))):=
 bif decide (x16.2.2<x16.2.1)then
 (bif decide (0<=x16.2.2)&&decide (x16.2.2<((List.length x16.1:Nat):Int))then
 (rowAt? x16.1 (Int.toNat x16.2.2)).bind λ e18=>
 (rowAt? x16.1 (Int.toNat x16.2.2)).bind λ e19=>
 (aK e19).bind λ r20=>
 rec17 (List.set (List.set x16.1 (Int.toNat x16.2.2) none) (Int.toNat x16.2.2) (some r20),x16.2.1,IntKind.wrap .i64 (x16.2.2+(1:Int)))
 else none)
 else
 (some x16.1)
def iD.P (nC:(A65)->Option ByteArray) (bC:List Int->Option LI) (aK:List (A7)->Option (List (A7))) (n:Nat) (x:A0):Option (List (Option (List (A7)))):=
 bif decide (0<=x.1)&&decide (x.1<=x.1)&&decide (x.1<=((au:Nat):Int))then
 (cu (iD.L2 bC nC n) n ((some []:Option (List (ByteArray×Int))),List.replicate (Int.toNat x.1) (some ([]:List (A7))),x.2.2,((List.length x.2.2:Nat):Int),(0:Int))).bind λ x15=>
 (cu (iD.L3 aK) n (x15,((List.length x15:Nat):Int),(0:Int))).bind λ x21=>
 some x21
 else none
def jP.L1 (x1:(Option (List (ByteArray×Int)))×LI×(List ByteArray)×Int×Int) (rec2:((Option (List (ByteArray×Int)))×LI×(List ByteArray)×Int×Int)->Option ((Option (List (ByteArray×Int)))×LI)):Option ((Option (List (ByteArray×Int)))×LI):=
 bif decide (x1.2.2.2.2<x1.2.2.2.1)then
 ((nth? x1.2.2.1 x1.2.2.2.2).bind λ e3=>
 (bif !(Option.isSome (og seq e3 (l9 x1.1)))then
 ((x1.1).bind λ m4=>
 some (some (E5 seq e3 ((VB x1.1:Nat):Int) m4),x1.2.1,((VB x1.1:Nat):Int),x1.2.2.1,x1.2.2.2.1,x1.2.2.2.2))
 else
 (some (x1.1,x1.2.1,Option.getD (og seq e3 (l9 x1.1)) (0:Int),x1.2.2.1,x1.2.2.2.1,x1.2.2.2.2))).bind λ x5=>
 bif decide (List.length x5.2.1+List.length ([x5.2.2.1]:List Int)<=au)then
 rec2 (x5.1,List.append x5.2.1 ([x5.2.2.1]:List Int),x5.2.2.2.1,x5.2.2.2.2.1,IntKind.wrap .i64 (x5.2.2.2.2.2+(1:Int)))
 else none)
 else
 (some (x1.1,x1.2.1))
def jP.P (n:Nat) (x:List ByteArray):Option (A15):=
 (cu (jP.L1) n ((some []:Option (List (ByteArray×Int))),([]:List Int),x,((List.length x:Nat):Int),(0:Int))).bind λ x6=>
 some (x6.2,((VB x6.1:Nat):Int))
def dP.L1 (aY:(A8)->Option LI) (x12:Int×LI×LR×LI×Int×(List (List (A7)))×(List ByteArray)×Int×LI×Int×Int×(List (A7))×Int×Int) (rec13:(Int×LI×LR×LI×Int×(List (List (A7)))×(List ByteArray)×Int×LI×Int×Int×(List (A7))×Int×Int)->Option (Int×LI×LR×LI×Int×(List (List (A7)))×(List ByteArray)×Int×LI×Int×Int)):Option (Int×LI×LR×LI×Int×(List (List (A7)))×(List ByteArray)×Int×LI×Int×Int):=
 bif decide (x12.2.2.2.2.2.2.2.2.2.2.2.2.2<x12.2.2.2.2.2.2.2.2.2.2.2.2.1)then
 ((nth? x12.2.2.2.2.2.2.2.2.2.2.2.1 x12.2.2.2.2.2.2.2.2.2.2.2.2.2).bind λ e14=>
 bif decide (List.length x12.2.2.2.2.2.2.2.2.1+List.length ([(32:Int)]:List Int)<=au)then
 (aY (List.append x12.2.2.2.2.2.2.2.2.1 ([(32:Int)]:List Int),e14.1,(10:Int))).bind λ r15=>
 bif decide (List.length r15+List.length ([(58:Int)]:List Int)<=au)then
 (nth? x12.2.2.2.1 e14.2).bind λ e16=>
 (aY (List.append r15 ([(58:Int)]:List Int),e16,(10:Int))).bind λ r17=>
 rec13 (x12.1,x12.2.1,x12.2.2.1,x12.2.2.2.1,x12.2.2.2.2.1,x12.2.2.2.2.2.1,x12.2.2.2.2.2.2.1,x12.2.2.2.2.2.2.2.1,r17,x12.2.2.2.2.2.2.2.2.2.1,x12.2.2.2.2.2.2.2.2.2.2.1,x12.2.2.2.2.2.2.2.2.2.2.2.1,x12.2.2.2.2.2.2.2.2.2.2.2.2.1,IntKind.wrap .i64 (x12.2.2.2.2.2.2.2.2.2.2.2.2.2+(1:Int)))
 else none
 else none)
 else
 (some (x12.1,x12.2.1,x12.2.2.1,x12.2.2.2.1,x12.2.2.2.2.1,x12.2.2.2.2.2.1,x12.2.2.2.2.2.2.1,x12.2.2.2.2.2.2.2.1,x12.2.2.2.2.2.2.2.2.1,x12.2.2.2.2.2.2.2.2.2.1,x12.2.2.2.2.2.2.2.2.2.2.1))
def dP.L2 (aY:(A8)->Option LI) (n:Nat) (x7:Int×LI×LR×LI×Int×(List (List (A7)))×(List ByteArray)×Int×Int) (rec8:(Int×LI×LR×LI×Int×(List (List (A7)))×(List ByteArray)×Int×Int)->Option (Int×LI×LR×Int×(List (List (A7)))×(List ByteArray))):Option (Int×LI×LR×Int×(List (List (A7)))×(List ByteArray)):=
 bif decide (x7.2.2.2.2.2.2.2.2<x7.2.2.2.2.2.2.2.1)then
 ((nth? x7.2.2.2.1 x7.2.2.2.2.2.2.2.2).bind λ e9=>
 (aY (([]:List Int),e9,(10:Int))).bind λ r10=>
 bif decide (0<=x7.2.2.2.2.2.2.2.2)&&decide (x7.2.2.2.2.2.2.2.2<((List.length x7.2.2.2.2.2.1:Nat):Int))then
 (at? x7.2.2.2.2.2.1 (Int.toNat x7.2.2.2.2.2.2.2.2)).bind λ e11=>
 (cu (dP.L1 aY) n (x7.1,x7.2.1,x7.2.2.1,x7.2.2.2.1,x7.2.2.2.2.1,x7.2.2.2.2.2.1,x7.2.2.2.2.2.2.1,x7.2.2.2.2.2.2.2.2,r10,x7.2.2.2.2.2.2.2.1,x7.2.2.2.2.2.2.2.2,e11,((List.length e11:Nat):Int),(0:Int))).bind λ x18=>
 bif decide (0<=x18.2.2.2.2.2.2.2.1)&&decide (x18.2.2.2.2.2.2.2.1<((List.length x18.2.2.2.2.2.2.1:Nat):Int))then
 (at? x18.2.2.2.2.2.2.1 (Int.toNat x18.2.2.2.2.2.2.2.1)).bind λ e19=>
 rec8 (x18.1,x18.2.1,x18.2.2.1,x18.2.2.2.1,x18.2.2.2.2.1,x18.2.2.2.2.2.1,List.set x18.2.2.2.2.2.2.1 (Int.toNat x18.2.2.2.2.2.2.2.1) (wo x18.2.2.2.2.2.2.2.2.1),x18.2.2.2.2.2.2.2.2.2.1,IntKind.wrap .i64 (x18.2.2.2.2.2.2.2.2.2.2+(1:Int)))
 else none
 else none)
 else
 (some (x7.1,x7.2.1,x7.2.2.1,x7.2.2.2.2.1,x7.2.2.2.2.2.1,x7.2.2.2.2.2.2.1))
def dP.L3 (aY:(A8)->Option LI) (n:Nat) (fP:List ByteArray->Option (A15)) (x5:Int×LI×LR×LI×Int×(List (List (A7)))) (rec6:(Int×LI×LR×LI×Int×(List (List (A7))))->Option (Sum Unit LI)):Option (Sum Unit LI):=
 bif decide (0<=x5.1)&&decide (x5.1<=x5.1)&&decide (x5.1<=((au:Nat):Int))then
 (cu (dP.L2 aY n) n (x5.1,x5.2.1,x5.2.2.1,x5.2.2.2.1,x5.2.2.2.2.1,x5.2.2.2.2.2,List.replicate (Int.toNat x5.1) (ByteArray.empty:ByteArray),((List.length (List.replicate (Int.toNat x5.1) (ByteArray.empty:ByteArray)):Nat):Int),(0:Int))).bind λ x20=>
 (fP x20.2.2.2.2.2).bind λ r21=>
 bif decide (r21.2=x20.2.2.2.1)then
 ((some r21.1).bind λ r=>some (Sum.inr r))
 else
 (rec6 (x20.1,x20.2.1,x20.2.2.1,r21.1,r21.2,x20.2.2.2.2.1))
 else none
def dP.P (kV:(A0)->Option (List Bool)) (jO:List Bool->Option (A15)) (fP:List ByteArray->Option (A15)) (su:(A0)->Option (List (Option (List (A7))))) (aY:(A8)->Option LI) (n:Nat) (x:A0):Option LI:=
 (kV (x.1,x.2.1,x.2.2)).bind λ r1=>
 (jO r1).bind λ r2=>
 (su (x.1,x.2.1,x.2.2)).bind λ r3=>
 (qX r3).bind λ e4=>
 (cu (dP.L3 aY n fP) n (x.1,x.2.1,x.2.2,r2.1,r2.2,e4)).bind λ q=>match q with
 |Sum.inl (_:Unit)=>none
 |Sum.inr r=>some r
def bP.L1 (x5:A89) (rec6:(A89)->Option (A15)):Option (A15):=
 bif decide (x5.2.2.2.2<((List.length (List.drop (Int.toNat x5.2.2.1) (List.take (Int.toNat x5.2.2.2.1) x5.1)):Nat):Int))then
 (bif decide (0<=x5.2.2.2.2)&&decide (x5.2.2.2.2<(((Int.toNat x5.2.2.2.1)-(Int.toNat x5.2.2.1):Nat):Int))then
 (at? x5.1 ((Int.toNat x5.2.2.1)+Int.toNat x5.2.2.2.2)).bind λ e7=>
 bif decide (0<=(IntKind.wrap .i64 (x5.2.2.2.2-(1:Int))))&&decide ((IntKind.wrap .i64 (x5.2.2.2.2-(1:Int)))<(((Int.toNat x5.2.2.2.1)-(Int.toNat x5.2.2.1):Nat):Int))then
 (at? x5.1 ((Int.toNat x5.2.2.1)+Int.toNat (IntKind.wrap .i64 (x5.2.2.2.2-(1:Int))))).bind λ e8=>
 (bif !decide (e7=e8)then
 (bif decide (0<=x5.2.2.2.2)&&decide (x5.2.2.2.2<(((Int.toNat x5.2.2.2.1)-(Int.toNat x5.2.2.1):Nat):Int))then
 (at? x5.1 ((Int.toNat x5.2.2.1)+Int.toNat x5.2.2.2.2)).bind λ e9=>
 bif decide (0<=x5.2.1)&&decide (x5.2.1<((List.length x5.1:Nat):Int))then
 (at? x5.1 (Int.toNat x5.2.1)).bind λ e10=>
 some (List.set x5.1 (Int.toNat x5.2.1) e9,IntKind.wrap .i64 (x5.2.1+(1:Int)),((Int.toNat x5.2.2.1:Nat):Int),((Int.toNat x5.2.2.2.1:Nat):Int),x5.2.2.2.2)
 else none
 else none)
 else
 (some (x5.1,x5.2.1,((Int.toNat x5.2.2.1:Nat):Int),((Int.toNat x5.2.2.2.1:Nat):Int),x5.2.2.2.2))).bind λ x11=>
 rec6 (x11.1,x11.2.1,((Int.toNat x11.2.2.1:Nat):Int),((Int.toNat x11.2.2.2.1:Nat):Int),IntKind.wrap .i64 (x11.2.2.2.2+(1:Int)))
 else none
 else none)
 else
 (some (x5.1,x5.2.1))
def bP.L2 (n:Nat) (x1:A15) (rec2:(A15)->Option (Sum LI LI)):Option (Sum LI LI):=
 bif decide (x1.2<((List.length x1.1:Nat):Int))then
 (bif decide (0<=x1.2)&&decide (x1.2<((List.length x1.1:Nat):Int))then
 (at? x1.1 (Int.toNat x1.2)).bind λ e3=>
 bif decide (0<=(IntKind.wrap .i64 (x1.2-(1:Int))))&&decide ((IntKind.wrap .i64 (x1.2-(1:Int)))<((List.length x1.1:Nat):Int))then
 (at? x1.1 (Int.toNat (IntKind.wrap .i64 (x1.2-(1:Int))))).bind λ e4=>
 bif decide (e3=e4)then
 (bif decide (0<=x1.2)&&decide (x1.2<=((List.length x1.1:Nat):Int))&&decide (((List.length x1.1:Nat):Int)<=((List.length x1.1:Nat):Int))then
 (cu (bP.L1) n (x1.1,x1.2,((Int.toNat x1.2:Nat):Int),((Int.toNat ((List.length x1.1:Nat):Int):Nat):Int),(1:Int))).bind λ x12=>
 bif decide (0<=x12.2)&&decide (x12.2<=((List.length x12.1:Nat):Int))&&decide (((List.length x12.1:Nat):Int)<=((List.length x12.1:Nat):Int))then
 bif decide (0<=0)&&decide (0<=x12.2)&&decide (x12.2<=((List.length (List.append (List.append (List.take (Int.toNat x12.2) x12.1) (List.replicate ((Int.toNat ((List.length x12.1:Nat):Int))-(Int.toNat x12.2)) ((0:Int):Int))) (List.drop (Int.toNat ((List.length x12.1:Nat):Int)) x12.1)):Nat):Int))then
 (some (List.drop (Int.toNat 0) (List.take (Int.toNat x12.2) (List.append (List.append (List.take (Int.toNat x12.2) x12.1) (List.replicate ((Int.toNat ((List.length x12.1:Nat):Int))-(Int.toNat x12.2)) ((0:Int):Int))) (List.drop (Int.toNat ((List.length x12.1:Nat):Int)) x12.1))))).bind λ r=>some (Sum.inr r)
 else none
 else none
 else none)
 else
 (rec2 (x1.1,IntKind.wrap .i64 (x1.2+(1:Int))))
 else none
 else none)
 else
 (some (Sum.inl x1.1))
def bP.P (n:Nat) (x:List Int):Option LI:=
 bif decide (((List.length x:Nat):Int)<(2:Int))then
 (some x)
 else
 ((cu (bP.L2 n) n (x,(1:Int))).bind λ q=>match q with
 |Sum.inl x13=>(some x13)
 |Sum.inr r=>some r)
def eF.L1 (x1:A50) (rec2:(A50)->Option (A68)):Option (A68):=
 bif decide (x1.2.2.2.2.2.2.2.2.2.2.2.2<x1.2.2.2.2.2.2.2.2.2.2.2.1)then
 ((nth? x1.2.2.2.2.2.2.2.2.2.2.1 x1.2.2.2.2.2.2.2.2.2.2.2.2).bind λ e3=>
 (nth? x1.1 e3).bind λ e4=>
 bif decide (List.length x1.2.2.2.2.2.2.2.2.1+List.length ([e4]:List Int)<=au)then
 rec2 (x1.1,x1.2.1,x1.2.2.1,x1.2.2.2.1,x1.2.2.2.2.1,x1.2.2.2.2.2.1,x1.2.2.2.2.2.2.1,x1.2.2.2.2.2.2.2.1,List.append x1.2.2.2.2.2.2.2.2.1 ([e4]:List Int),x1.2.2.2.2.2.2.2.2.2.1,x1.2.2.2.2.2.2.2.2.2.2.1,x1.2.2.2.2.2.2.2.2.2.2.2.1,IntKind.wrap .i64 (x1.2.2.2.2.2.2.2.2.2.2.2.2+(1:Int)))
 else none)
 else
 (some (x1.1,x1.2.1,x1.2.2.1,x1.2.2.2.1,x1.2.2.2.2.1,x1.2.2.2.2.2.1,x1.2.2.2.2.2.2.1,x1.2.2.2.2.2.2.2.1,x1.2.2.2.2.2.2.2.2.1,x1.2.2.2.2.2.2.2.2.2.1))
def eF.L2 (x12:A36) (rec13:(A36)->Option (A48)):Option (A48):=
 bif decide (x12.2.2.2.2.2.2.2.2.2.2.2.2.2.2.2<x12.2.2.2.2.2.2.2.2.2.2.2.2.2.2.1)then
 ((nth? x12.2.2.2.2.2.2.2.2.2.2.2.2.2.1 x12.2.2.2.2.2.2.2.2.2.2.2.2.2.2.2).bind λ e14=>
 (nth? x12.1 e14).bind λ e15=>
 bif decide (List.length x12.2.2.2.2.2.2.2.2.1+List.length ([e15]:List Int)<=au)then
 rec13 (x12.1,x12.2.1,x12.2.2.1,x12.2.2.2.1,x12.2.2.2.2.1,x12.2.2.2.2.2.1,x12.2.2.2.2.2.2.1,x12.2.2.2.2.2.2.2.1,List.append x12.2.2.2.2.2.2.2.2.1 ([e15]:List Int),x12.2.2.2.2.2.2.2.2.2.1,x12.2.2.2.2.2.2.2.2.2.2.1,x12.2.2.2.2.2.2.2.2.2.2.2.1,x12.2.2.2.2.2.2.2.2.2.2.2.2.1,x12.2.2.2.2.2.2.2.2.2.2.2.2.2.1,x12.2.2.2.2.2.2.2.2.2.2.2.2.2.2.1,IntKind.wrap .i64 (x12.2.2.2.2.2.2.2.2.2.2.2.2.2.2.2+(1:Int)))
 else none)
 else
 (some (x12.1,x12.2.1,x12.2.2.1,x12.2.2.2.1,x12.2.2.2.2.1,x12.2.2.2.2.2.1,x12.2.2.2.2.2.2.1,x12.2.2.2.2.2.2.2.1,x12.2.2.2.2.2.2.2.2.1,x12.2.2.2.2.2.2.2.2.2.1,x12.2.2.2.2.2.2.2.2.2.2.1,x12.2.2.2.2.2.2.2.2.2.2.2.1,x12.2.2.2.2.2.2.2.2.2.2.2.2.1))
def eF.L3 (n:Nat) (x8:A67) (rec9:(A67)->Option (A3)):Option (A3):=
 bif decide (x8.2.2.2.2.2.2.2.2.2<x8.2.2.2.2.2.2.2.2.1)then
 ((nth? x8.2.2.2.2.2.2.2.1 x8.2.2.2.2.2.2.2.2.2).bind λ e10=>
 (nth? x8.1 e10.2.2).bind λ e11=>
 (cu (eF.L2) n (x8.1,x8.2.1,x8.2.2.1,x8.2.2.2.1,x8.2.2.2.2.1,x8.2.2.2.2.2.1,x8.2.2.2.2.2.2.1,e10.1,([]:List Int),e11,x8.2.2.2.2.2.2.2.1,x8.2.2.2.2.2.2.2.2.1,x8.2.2.2.2.2.2.2.2.2,e10.2.1,((List.length e10.2.1:Nat):Int),(0:Int))).bind λ x16=>
 bif decide (List.length x16.2.2.2.2.2.2.1+List.length ([(x16.2.2.2.2.2.2.2.1,x16.2.2.2.2.2.2.2.2.1,x16.2.2.2.2.2.2.2.2.2.1)]:List Ru)<=au)then
 rec9 (x16.1,x16.2.1,x16.2.2.1,x16.2.2.2.1,x16.2.2.2.2.1,x16.2.2.2.2.2.1,List.append x16.2.2.2.2.2.2.1 ([(x16.2.2.2.2.2.2.2.1,x16.2.2.2.2.2.2.2.2.1,x16.2.2.2.2.2.2.2.2.2.1)]:List Ru),x16.2.2.2.2.2.2.2.2.2.2.1,x16.2.2.2.2.2.2.2.2.2.2.2.1,IntKind.wrap .i64 (x16.2.2.2.2.2.2.2.2.2.2.2.2+(1:Int)))
 else none)
 else
 (some (x8.2.1,x8.2.2.1,x8.2.2.2.1,x8.2.2.2.2.1,x8.2.2.2.2.2.1,x8.2.2.2.2.2.2.1))
def eF.P (gU:List Ru->Option LR) (gq:List Int->Option LI) (iL:List Int->Option LI) (n:Nat) (x:A60):Option (A0):=
 (cu (eF.L1) n (x.2.2.2.2,x.1,x.2.1,x.2.2.1,(0:Int),([]:List Int),([]:List Ru),x.2.2.2.1,([]:List Int),([]:List Ru),x.2.1,((List.length x.2.1:Nat):Int),(0:Int))).bind λ x5=>
 (iL x5.2.2.2.2.2.2.2.2.1).bind λ r6=>
 (gq r6).bind λ r7=>
 (cu (eF.L3 n) n (x5.1,x5.2.2.2.2.1,x5.2.2.2.2.2.1,x5.2.2.2.2.2.2.1,x5.2.2.2.2.2.2.2.1,r7,x5.2.2.2.2.2.2.2.2.2,x5.2.2.2.1,((List.length x5.2.2.2.1:Nat):Int),(0:Int))).bind λ x17=>
 (gU x17.2.2.2.2.2).bind λ r18=>
 some (x17.2.2.2.1,x17.2.2.2.2.1,r18)
def bH.L1 (x1:A84) (rec2:(A84)->Option (Int×LI×LR×LI)):Option (Int×LI×LR×LI):=
 bif decide (x1.2.2.2.2.2<x1.2.2.2.2.1)then
 (bif decide (0<=x1.2.2.2.2.2)&&decide (x1.2.2.2.2.2<((List.length x1.2.2.2.1:Nat):Int))then
 (at? x1.2.2.2.1 (Int.toNat x1.2.2.2.2.2)).bind λ e3=>
 rec2 (x1.1,x1.2.1,x1.2.2.1,List.set x1.2.2.2.1 (Int.toNat x1.2.2.2.2.2) (-1:Int),x1.2.2.2.2.1,IntKind.wrap .i64 (x1.2.2.2.2.2+(1:Int)))
 else none)
 else
 (some (x1.1,x1.2.1,x1.2.2.1,x1.2.2.2.1))
def bH.L2 (rec8:(A47)->Option (A45)) (x11:A40) (rec12:(A40)->Option (Sum (A57) (A45))):Option (Sum (A57) (A45)):=
 bif decide (x11.2.2.2.2.2.2.2.2.2.2.2.2.2.2<x11.2.2.2.2.2.2.2.2.2.2.2.2.2.1)then
 ((nth? x11.2.2.2.2.2.2.2.2.2.2.2.2.1 x11.2.2.2.2.2.2.2.2.2.2.2.2.2.2).bind λ e13=>
 bif decide (0<=e13)&&decide (e13<((List.length x11.2.2.2.1:Nat):Int))then
 (at? x11.2.2.2.1 (Int.toNat e13)).bind λ e14=>
 bif decide (e14<(0:Int))then
 ((rec8 (x11.1,x11.2.1,x11.2.2.1,x11.2.2.2.1,x11.2.2.2.2.1,x11.2.2.2.2.2.1,x11.2.2.2.2.2.2.2.2.2.1,x11.2.2.2.2.2.2.2.2.2.2.1,IntKind.wrap .i64 (x11.2.2.2.2.2.2.2.2.2.2.2.1+(1:Int)))).bind λ r=>some (Sum.inr r))
 else
 (bif decide (0<=e13)&&decide (e13<((List.length x11.2.2.2.1:Nat):Int))then
 (at? x11.2.2.2.1 (Int.toNat e13)).bind λ e15=>
 bif decide (List.length x11.2.2.2.2.2.2.2.1+List.length ([e15]:List Int)<=au)then
 rec12 (x11.1,x11.2.1,x11.2.2.1,x11.2.2.2.1,x11.2.2.2.2.1,x11.2.2.2.2.2.1,x11.2.2.2.2.2.2.1,List.append x11.2.2.2.2.2.2.2.1 ([e15]:List Int),x11.2.2.2.2.2.2.2.2.1,x11.2.2.2.2.2.2.2.2.2.1,x11.2.2.2.2.2.2.2.2.2.2.1,x11.2.2.2.2.2.2.2.2.2.2.2.1,x11.2.2.2.2.2.2.2.2.2.2.2.2.1,x11.2.2.2.2.2.2.2.2.2.2.2.2.2.1,IntKind.wrap .i64 (x11.2.2.2.2.2.2.2.2.2.2.2.2.2.2+(1:Int)))
 else none
 else none)
 else none)
 else
 (some (Sum.inl (x11.1,x11.2.1,x11.2.2.1,x11.2.2.2.1,x11.2.2.2.2.1,x11.2.2.2.2.2.1,x11.2.2.2.2.2.2.1,x11.2.2.2.2.2.2.2.1,x11.2.2.2.2.2.2.2.2.1,x11.2.2.2.2.2.2.2.2.2.1,x11.2.2.2.2.2.2.2.2.2.2.1,x11.2.2.2.2.2.2.2.2.2.2.2.1)))
def bH.L3 (n:Nat) (x7:A47) (rec8:(A47)->Option (A45)):Option (A45):=
 bif decide (x7.2.2.2.2.2.2.2.2<x7.2.2.2.2.2.2.2.1)then
 ((nth? x7.2.2.2.2.2.2.1 x7.2.2.2.2.2.2.2.2).bind λ e9=>
 bif decide (0<=e9.2.2)&&decide (e9.2.2<((List.length x7.2.2.2.1:Nat):Int))then
 (at? x7.2.2.2.1 (Int.toNat e9.2.2)).bind λ e10=>
 bif decide ((0:Int)<=e10)then
 (rec8 (x7.1,x7.2.1,x7.2.2.1,x7.2.2.2.1,x7.2.2.2.2.1,x7.2.2.2.2.2.1,x7.2.2.2.2.2.2.1,x7.2.2.2.2.2.2.2.1,IntKind.wrap .i64 (x7.2.2.2.2.2.2.2.2+(1:Int))))
 else
 ((cu (bH.L2 rec8) n (x7.1,x7.2.1,x7.2.2.1,x7.2.2.2.1,x7.2.2.2.2.1,x7.2.2.2.2.2.1,e9.1,([]:List Int),e9.2.2,x7.2.2.2.2.2.2.1,x7.2.2.2.2.2.2.2.1,x7.2.2.2.2.2.2.2.2,e9.2.1,((List.length e9.2.1:Nat):Int),(0:Int))).bind λ q=>match q with
 |Sum.inl x16=>(bif decide (List.length x16.2.2.2.2.2.1+List.length ([(x16.2.2.2.2.2.2.1,x16.2.2.2.2.2.2.2.1,x16.2.2.2.2.2.2.2.2.1)]:List Ru)<=au)then
 rec8 (x16.1,x16.2.1,x16.2.2.1,x16.2.2.2.1,x16.2.2.2.2.1,List.append x16.2.2.2.2.2.1 ([(x16.2.2.2.2.2.2.1,x16.2.2.2.2.2.2.2.1,x16.2.2.2.2.2.2.2.2.1)]:List Ru),x16.2.2.2.2.2.2.2.2.2.1,x16.2.2.2.2.2.2.2.2.2.2.1,IntKind.wrap .i64 (x16.2.2.2.2.2.2.2.2.2.2.2+(1:Int)))
 else none)
 |Sum.inr r=>some r)
 else none)
 else
 (some (x7.1,x7.2.1,x7.2.2.1,x7.2.2.2.1,x7.2.2.2.2.1,x7.2.2.2.2.2.1))
def bH.L4 (x19:A75) (rec20:(A75)->Option (A70)):Option (A70):=
 bif decide (x19.2.2.2.2.2.2.2<x19.2.2.2.2.2.2.1)then
 (bif decide (0<=x19.2.2.2.2.2.2.2)&&decide (x19.2.2.2.2.2.2.2<((List.length x19.2.2.2.2.2.1:Nat):Int))then
 (at? x19.2.2.2.2.2.1 (Int.toNat x19.2.2.2.2.2.2.2)).bind λ e21=>
 bif decide (0<=e21.2.2)&&decide (e21.2.2<((List.length x19.2.2.2.1:Nat):Int))then
 (at? x19.2.2.2.1 (Int.toNat e21.2.2)).bind λ e22=>
 (bif decide (e22<(0:Int))then
 (bif decide (0<=e21.2.2)&&decide (e21.2.2<((List.length x19.2.2.2.1:Nat):Int))then
 (at? x19.2.2.2.1 (Int.toNat e21.2.2)).bind λ e23=>
 some (x19.1,x19.2.1,x19.2.2.1,List.set x19.2.2.2.1 (Int.toNat e21.2.2) x19.2.2.2.2.1,IntKind.wrap .i64 (x19.2.2.2.2.1+(1:Int)),x19.2.2.2.2.2.1,x19.2.2.2.2.2.2.1,x19.2.2.2.2.2.2.2)
 else none)
 else
 (some (x19.1,x19.2.1,x19.2.2.1,x19.2.2.2.1,x19.2.2.2.2.1,x19.2.2.2.2.2.1,x19.2.2.2.2.2.2.1,x19.2.2.2.2.2.2.2))).bind λ x24=>
 rec20 (x24.1,x24.2.1,x24.2.2.1,x24.2.2.2.1,x24.2.2.2.2.1,x24.2.2.2.2.2.1,x24.2.2.2.2.2.2.1,IntKind.wrap .i64 (x24.2.2.2.2.2.2.2+(1:Int)))
 else none
 else none)
 else
 (some (x19.1,x19.2.1,x19.2.2.1,x19.2.2.2.1,x19.2.2.2.2.1))
def bH.L5 (n:Nat) (dX:List Ru->Option LR) (x5:A70) (rec6:(A70)->Option LI):Option LI:=
 bif decide (x5.2.2.2.2<x5.1)then
 ((cu (bH.L3 n) n (x5.1,x5.2.1,x5.2.2.1,x5.2.2.2.1,x5.2.2.2.2,([]:List Ru),x5.2.2.1,((List.length x5.2.2.1:Nat):Int),(0:Int))).bind λ x17=>
 bif decide (((List.length x17.2.2.2.2.2:Nat):Int)=(0:Int))then
 (some x17.2.2.2.1)
 else
 ((dX x17.2.2.2.2.2).bind λ r18=>
 (cu (bH.L4) n (x17.1,x17.2.1,x17.2.2.1,x17.2.2.2.1,x17.2.2.2.2.1,r18,((List.length r18:Nat):Int),(0:Int))).bind λ x25=>
 rec6 (x25.1,x25.2.1,x25.2.2.1,x25.2.2.2.1,x25.2.2.2.2)))
 else
 (some x5.2.2.2.1)
def bH.P (dX:List Ru->Option LR) (n:Nat) (x:A0):Option LI:=
 bif decide (0<=x.1)&&decide (x.1<=x.1)&&decide (x.1<=((au:Nat):Int))then
 (cu (bH.L1) n (x.1,x.2.1,x.2.2,List.replicate (Int.toNat x.1) ((0:Int):Int),((List.length (List.replicate (Int.toNat x.1) ((0:Int):Int)):Nat):Int),(0:Int))).bind λ x4=>
 (cu (bH.L5 n dX) n (x4.1,x4.2.1,x4.2.2.1,x4.2.2.2,(0:Int))).bind λ x26=>
 some x26
 else none
def jL.L1 (x4:A63) (rec5:(A63)->Option (A76)):Option (A76):=
 bif decide (x4.2.2.2.2.2.2.2.2.2.2<x4.2.2.2.2.2.2.2.2.2.1)then
 ((nth? x4.2.2.2.2.2.2.2.2.1 x4.2.2.2.2.2.2.2.2.2.2).bind λ e6=>
 rec5 (x4.1,x4.2.1,x4.2.2.1,x4.2.2.2.1,x4.2.2.2.2.1,x4.2.2.2.2.2.1,x4.2.2.2.2.2.2.1,max x4.2.2.2.2.2.2.2.1 (IntKind.wrap .i64 (e6+(1:Int))),x4.2.2.2.2.2.2.2.2.1,x4.2.2.2.2.2.2.2.2.2.1,IntKind.wrap .i64 (x4.2.2.2.2.2.2.2.2.2.2+(1:Int))))
 else
 (some (x4.1,x4.2.1,x4.2.2.1,x4.2.2.2.1,x4.2.2.2.2.1,x4.2.2.2.2.2.1,x4.2.2.2.2.2.2.1,x4.2.2.2.2.2.2.2.1))
def jL.P (rY:(A0)->Option (A0)) (rZ:(A1)->Option (A23)) (pJ:(A0)->Option LI) (nH:(A0)->Option LI) (mJ:(A60)->Option (A0)) (n:Nat) (x:A1):Option (A23):=
 (rZ (x.1,x.2.1,x.2.2.1,x.2.2.2)).bind λ r1=>
 bif !decide (r1.2.2.2=(0:Int))then
 (some ((0:Int),([]:List Int),([]:List Ru),r1.2.2.2))
 else
 ((rY (r1.1,r1.2.1,r1.2.2.1)).bind λ r2=>
 (nH (r2.1,r2.2.1,r2.2.2)).bind λ r3=>
 (cu (jL.L1) n ((0:Int),([]:List Int),([]:List Ru),r2.1,r2.2.1,r2.2.2,r3,(0:Int),r3,((List.length r3:Nat):Int),(0:Int))).bind λ x7=>
 (mJ (x7.2.2.2.1,x7.2.2.2.2.1,x7.2.2.2.2.2.1,x7.2.2.2.2.2.2.2,x7.2.2.2.2.2.2.1)).bind λ r8=>
 (pJ (r8.1,r8.2.1,r8.2.2)).bind λ r9=>
 (mJ (r8.1,r8.2.1,r8.2.2,x7.2.2.2.2.2.2.2,r9)).bind λ r10=>
 some (r10.1,r10.2.1,r10.2.2,(0:Int)))
def nM.L1 (x1:A10) (rec2:(A10)->Option (Sum Unit Bool)):Option (Sum Unit Bool):=
 bif decide (x1.2.2.2<x1.2.2.1)then
 ((nth? x1.1 x1.2.2.2).bind λ e3=>
 (nth? x1.2.1 x1.2.2.2).bind λ e4=>
 bif !decide (e3=e4)then
 ((some false).bind λ r=>some (Sum.inr r))
 else
 (rec2 (x1.1,x1.2.1,x1.2.2.1,IntKind.wrap .i64 (x1.2.2.2+(1:Int)))))
 else
 (some (Sum.inl ()))
def nM.P (n:Nat) (x:A19):Option Bool:=
 bif !decide (((List.length x.1:Nat):Int)=((List.length x.2:Nat):Int))then
 (some false)
 else
 ((cu (nM.L1) n (x.1,x.2,((List.length x.1:Nat):Int),(0:Int))).bind λ q=>match q with
 |Sum.inl x5=>(some true)
 |Sum.inr r=>some r)
def yx.L1 (gI:(A19)->Option Bool) (x3:A31) (rec4:(A31)->Option (Sum Unit Bool)):Option (Sum Unit Bool):=
 bif decide (x3.2.2.2.2.2<x3.2.2.2.2.1)then
 ((nth? x3.2.2.2.1 x3.2.2.2.2.2).bind λ e5=>
 ((nth? x3.2.2.1 x3.2.2.2.2.2).bind λ e6=>
 bif !decide (e5.1=e6.1)then
 (some (x3.1,x3.2.1,x3.2.2.1,x3.2.2.2.1,x3.2.2.2.2.1,x3.2.2.2.2.2,true))
 else
 ((nth? x3.2.2.1 x3.2.2.2.2.2).bind λ e7=>
 bif !decide (e5.2.2=e7.2.2)then
 (some (x3.1,x3.2.1,x3.2.2.1,x3.2.2.2.1,x3.2.2.2.2.1,x3.2.2.2.2.2,true))
 else
 ((nth? x3.2.2.1 x3.2.2.2.2.2).bind λ e8=>
 (gI (e5.2.1,e8.2.1)).bind λ r9=>
 some (x3.1,x3.2.1,x3.2.2.1,x3.2.2.2.1,x3.2.2.2.2.1,x3.2.2.2.2.2, !r9)))).bind λ x10=>
 bif x10.2.2.2.2.2.2 then
 ((some false).bind λ r=>some (Sum.inr r))
 else
 (rec4 (x10.1,x10.2.1,x10.2.2.1,x10.2.2.2.1,x10.2.2.2.2.1,IntKind.wrap .i64 (x10.2.2.2.2.2.1+(1:Int)))))
 else
 (some (Sum.inl ()))
def yx.P (gI:(A19)->Option Bool) (n:Nat) (x:A3):Option Bool:=
 (bif !decide (x.1=x.2.2.2.1)then
 (some (x.1,x.2.1,x.2.2.1,x.2.2.2.1,x.2.2.2.2.1,x.2.2.2.2.2,true))
 else
 ((gI (x.2.1,x.2.2.2.2.1)).bind λ r1=>
 bif !r1 then
 (some (x.1,x.2.1,x.2.2.1,x.2.2.2.1,x.2.2.2.2.1,x.2.2.2.2.2,true))
 else
 (some (x.1,x.2.1,x.2.2.1,x.2.2.2.1,x.2.2.2.2.1,x.2.2.2.2.2, !decide (((List.length x.2.2.1:Nat):Int)=((List.length x.2.2.2.2.2:Nat):Int)))))).bind λ x2=>
 bif x2.2.2.2.2.2.2 then
 (some false)
 else
 ((cu (yx.L1 gI) n (x2.2.2.2.1,x2.2.2.2.2.1,x2.2.2.2.2.2.1,x2.2.2.1,((List.length x2.2.2.1:Nat):Int),(0:Int))).bind λ q=>match q with
 |Sum.inl x11=>(some true)
 |Sum.inr r=>some r)
def DR.P (tq:Unit->Option (A0)) (dQ:(A1)->Option (A23)) (tu:(A3)->Option Bool) (n:Nat) (x:Unit):Option Bool:=
 (tq ()).bind λ r1=>
 (dQ (([0,0,2]:List Int),r1.1,r1.2.1,r1.2.2)).bind λ r2=>
 (bif decide (r2.2.2.2=(0:Int))then
 ((tu (r2.1,r2.2.1,r2.2.2.1,(2:Int),([(1:Int)]:List Int),([((0:Int),([]:List Int),(0:Int)),((1:Int),([]:List Int),(1:Int)),((2:Int),([(0:Int),(0:Int)]:List Int),(0:Int)),((2:Int),([(0:Int),(1:Int)]:List Int),(1:Int)),((2:Int),([(1:Int),(0:Int)]:List Int),(1:Int)),((2:Int),([(1:Int),(1:Int)]:List Int),(1:Int))]:List Ru))).bind λ r3=>
 some r3)
 else
 (some false)).bind λ x4=>
 some x4
def dh.L1 (x1:A8) (rec2:(A8)->Option (Sum Unit Bool)):Option (Sum Unit Bool):=
 bif decide (x1.2.2<x1.2.1)then
 ((nth? x1.1 x1.2.2).bind λ e3=>
 (bif decide (e3<(0:Int))then
 (some (x1.1,x1.2.1,x1.2.2,true))
 else
 (some (x1.1,x1.2.1,x1.2.2,decide ((3:Int)<e3)))).bind λ x4=>
 bif x4.2.2.2 then
 ((some false).bind λ r=>some (Sum.inr r))
 else
 (rec2 (x4.1,x4.2.1,IntKind.wrap .i64 (x4.2.2.1+(1:Int)))))
 else
 (some (Sum.inl ()))
def dh.P (n:Nat) (x:List Int):Option Bool:=
 bif decide ((12:Int)<((List.length x:Nat):Int))then
 (some false)
 else
 ((cu (dh.L1) n (x,((List.length x:Nat):Int),(0:Int))).bind λ q=>match q with
 |Sum.inl x5=>(some true)
 |Sum.inr r=>some r)
def fA.L1 (x3:A46) (rec4:(A46)->Option (Sum (A1) Bool)):Option (Sum (A1) Bool):=
 bif decide (x3.2.2.2.2.2.2<x3.2.2.2.2.2.1)then
 ((nth? x3.2.2.2.2.1 x3.2.2.2.2.2.2).bind λ e5=>
 (bif decide (e5<(0:Int))then
 (some (x3.1,x3.2.1,x3.2.2.1,x3.2.2.2.1,x3.2.2.2.2.1,x3.2.2.2.2.2.1,x3.2.2.2.2.2.2,true))
 else
 (bif decide (x3.2.1<=e5)then
 (some (x3.1,x3.2.1,x3.2.2.1,x3.2.2.2.1,x3.2.2.2.2.1,x3.2.2.2.2.2.1,x3.2.2.2.2.2.2,true))
 else
 (bif decide ((0:Int)<x3.2.2.2.2.2.2)then
 ((nth? x3.2.2.1 (IntKind.wrap .i64 (x3.2.2.2.2.2.2-(1:Int)))).bind λ e6=>
 some (x3.1,x3.2.1,x3.2.2.1,x3.2.2.2.1,x3.2.2.2.2.1,x3.2.2.2.2.2.1,x3.2.2.2.2.2.2,decide (e5<=e6)))
 else
 (some (x3.1,x3.2.1,x3.2.2.1,x3.2.2.2.1,x3.2.2.2.2.1,x3.2.2.2.2.2.1,x3.2.2.2.2.2.2,false))))).bind λ x7=>
 bif x7.2.2.2.2.2.2.2 then
 ((some false).bind λ r=>some (Sum.inr r))
 else
 (rec4 (x7.1,x7.2.1,x7.2.2.1,x7.2.2.2.1,x7.2.2.2.2.1,x7.2.2.2.2.2.1,IntKind.wrap .i64 (x7.2.2.2.2.2.2.1+(1:Int)))))
 else
 (some (Sum.inl (x3.1,x3.2.1,x3.2.2.1,x3.2.2.2.1)))
def fA.L2 (x14:A22) (rec15:(A22)->Option (Sum (A13) (Sum Unit Bool))):Option (Sum (A13) (Sum Unit Bool)):=
 bif decide (x14.2.2.2.2.2.2.2.2.2<x14.2.2.2.2.2.2.2.2.1)then
 ((nth? x14.2.2.2.2.2.2.2.1 x14.2.2.2.2.2.2.2.2.2).bind λ e16=>
 (bif decide (e16<(0:Int))then
 (some (x14.1,x14.2.1,x14.2.2.1,x14.2.2.2.1,x14.2.2.2.2.1,x14.2.2.2.2.2.1,x14.2.2.2.2.2.2.1,x14.2.2.2.2.2.2.2.1,x14.2.2.2.2.2.2.2.2.1,x14.2.2.2.2.2.2.2.2.2,true))
 else
 (some (x14.1,x14.2.1,x14.2.2.1,x14.2.2.2.1,x14.2.2.2.2.1,x14.2.2.2.2.2.1,x14.2.2.2.2.2.2.1,x14.2.2.2.2.2.2.2.1,x14.2.2.2.2.2.2.2.2.1,x14.2.2.2.2.2.2.2.2.2,decide (x14.2.1<=e16)))).bind λ x17=>
 bif x17.2.2.2.2.2.2.2.2.2.2 then
 (((some false).bind λ r=>some (Sum.inr r)).bind λ r=>some (Sum.inr r))
 else
 (rec15 (x17.1,x17.2.1,x17.2.2.1,x17.2.2.2.1,x17.2.2.2.2.1,x17.2.2.2.2.2.1,x17.2.2.2.2.2.2.1,x17.2.2.2.2.2.2.2.1,x17.2.2.2.2.2.2.2.2.1,IntKind.wrap .i64 (x17.2.2.2.2.2.2.2.2.2.1+(1:Int)))))
 else
 (some (Sum.inl (x14.1,x14.2.1,x14.2.2.1,x14.2.2.2.1,x14.2.2.2.2.1,x14.2.2.2.2.2.1,x14.2.2.2.2.2.2.1)))
def fA.L3 (n:Nat) (x9:A13) (rec10:(A13)->Option (Sum Unit Bool)):Option (Sum Unit Bool):=
 bif decide (x9.2.2.2.2.2.2<x9.2.2.2.2.2.1)then
 ((nth? x9.2.2.2.2.1 x9.2.2.2.2.2.2).bind λ e11=>
 (bif decide (e11.1<(0:Int))then
 (some (x9.1,x9.2.1,x9.2.2.1,x9.2.2.2.1,e11.1,e11.2.1,e11.2.2,x9.2.2.2.2.1,x9.2.2.2.2.2.1,x9.2.2.2.2.2.2,true))
 else
 (bif decide (((List.length x9.1:Nat):Int)<=e11.1)then
 (some (x9.1,x9.2.1,x9.2.2.1,x9.2.2.2.1,e11.1,e11.2.1,e11.2.2,x9.2.2.2.2.1,x9.2.2.2.2.2.1,x9.2.2.2.2.2.2,true))
 else
 ((nth? x9.1 e11.1).bind λ e12=>
 bif !decide (((List.length e11.2.1:Nat):Int)=e12)then
 (some (x9.1,x9.2.1,x9.2.2.1,x9.2.2.2.1,e11.1,e11.2.1,e11.2.2,x9.2.2.2.2.1,x9.2.2.2.2.2.1,x9.2.2.2.2.2.2,true))
 else
 (bif decide (e11.2.2<(0:Int))then
 (some (x9.1,x9.2.1,x9.2.2.1,x9.2.2.2.1,e11.1,e11.2.1,e11.2.2,x9.2.2.2.2.1,x9.2.2.2.2.2.1,x9.2.2.2.2.2.2,true))
 else
 (some (x9.1,x9.2.1,x9.2.2.1,x9.2.2.2.1,e11.1,e11.2.1,e11.2.2,x9.2.2.2.2.1,x9.2.2.2.2.2.1,x9.2.2.2.2.2.2,decide (x9.2.1<=e11.2.2))))))).bind λ x13=>
 bif x13.2.2.2.2.2.2.2.2.2.2 then
 ((some false).bind λ r=>some (Sum.inr r))
 else
 ((cu (fA.L2) n (x13.1,x13.2.1,x13.2.2.1,x13.2.2.2.1,x13.2.2.2.2.2.2.2.1,x13.2.2.2.2.2.2.2.2.1,x13.2.2.2.2.2.2.2.2.2.1,x13.2.2.2.2.2.1,((List.length x13.2.2.2.2.2.1:Nat):Int),(0:Int))).bind λ q=>match q with
 |Sum.inl x18=>(rec10 (x18.1,x18.2.1,x18.2.2.1,x18.2.2.2.1,x18.2.2.2.2.1,x18.2.2.2.2.2.1,IntKind.wrap .i64 (x18.2.2.2.2.2.2+(1:Int))))
 |Sum.inr r=>some r))
 else
 (some (Sum.inl ()))
def fA.P (gJ:List Int->Option Bool) (n:Nat) (x:A1):Option Bool:=
 ((gJ x.1).bind λ r1=>
 bif !r1 then
 (some (x.1,x.2.1,x.2.2.1,x.2.2.2,true))
 else
 (bif decide (x.2.1<(0:Int))then
 (some (x.1,x.2.1,x.2.2.1,x.2.2.2,true))
 else
 (bif decide ((300:Int)<x.2.1)then
 (some (x.1,x.2.1,x.2.2.1,x.2.2.2,true))
 else
 (some (x.1,x.2.1,x.2.2.1,x.2.2.2,decide ((20000:Int)<((List.length x.2.2.2:Nat):Int))))))).bind λ x2=>
 bif x2.2.2.2.2 then
 (some false)
 else
 ((cu (fA.L1) n (x2.1,x2.2.1,x2.2.2.1,x2.2.2.2.1,x2.2.2.1,((List.length x2.2.2.1:Nat):Int),(0:Int))).bind λ q=>match q with
 |Sum.inl x8=>((cu (fA.L3 n) n (x8.1,x8.2.1,x8.2.2.1,x8.2.2.2,x8.2.2.2,((List.length x8.2.2.2:Nat):Int),(0:Int))).bind λ q=>match q with
 |Sum.inl x19=>(some true)
 |Sum.inr r=>some r)
 |Sum.inr r=>some r)
def eY.L1 (x1:A10) (rec2:(A10)->Option (Sum Unit Bool)):Option (Sum Unit Bool):=
 bif decide (x1.2.2.2<x1.2.2.1)then
 ((nth? x1.1 x1.2.2.2).bind λ e3=>
 (nth? x1.2.1 x1.2.2.2).bind λ e4=>
 bif !decide (e3=e4)then
 ((some false).bind λ r=>some (Sum.inr r))
 else
 (rec2 (x1.1,x1.2.1,x1.2.2.1,IntKind.wrap .i64 (x1.2.2.2+(1:Int)))))
 else
 (some (Sum.inl ()))
def eY.P (n:Nat) (x:A19):Option Bool:=
 bif !decide (((List.length x.1:Nat):Int)=((List.length x.2:Nat):Int))then
 (some false)
 else
 ((cu (eY.L1) n (x.1,x.2,((List.length x.1:Nat):Int),(0:Int))).bind λ q=>match q with
 |Sum.inl x5=>(some true)
 |Sum.inr r=>some r)
def tV.P (kW:(A2)->Option Int) (n:Nat) (x:A2):Option Bool:=
 (kW (x.1,x.2.1,x.2.2.1,x.2.2.2.1,x.2.2.2.2.1,x.2.2.2.2.2)).bind λ r1=>
 some (decide (r1=(0:Int)))
def ay.L1 (nG:(A2)->Option Bool) (x1:A80) (rec2:(A80)->Option (Sum Unit Bool)):Option (Sum Unit Bool):=
 bif decide (x1.2.2.2<x1.2.2.1)then
 ((nth? x1.2.1 x1.2.2.2).bind λ e3=>
 (nth? x1.1 x1.2.2.2).bind λ e4=>
 (nG (e3.1,e3.2.1,e3.2.2,e4.1,e4.2.1,e4.2.2)).bind λ r5=>
 bif !r5 then
 ((some false).bind λ r=>some (Sum.inr r))
 else
 (rec2 (x1.1,x1.2.1,x1.2.2.1,IntKind.wrap .i64 (x1.2.2.2+(1:Int)))))
 else
 (some (Sum.inl ()))
def ay.P (nG:(A2)->Option Bool) (n:Nat) (x:A91):Option Bool:=
 bif !decide (((List.length x.1:Nat):Int)=((List.length x.2:Nat):Int))then
 (some false)
 else
 ((cu (ay.L1 nG) n (x.2,x.1,((List.length x.1:Nat):Int),(0:Int))).bind λ q=>match q with
 |Sum.inl x6=>(some true)
 |Sum.inr r=>some r)
def yt.P (bf:(A91)->Option Bool) (kP:(A19)->Option Bool) (n:Nat) (x:A3):Option Bool:=
 (bif decide (x.1=x.2.2.2.1)then
 ((kP (x.2.1,x.2.2.2.2.1)).bind λ r1=>
 bif r1 then
 ((bf (x.2.2.1,x.2.2.2.2.2)).bind λ r2=>
 some r2)
 else
 (some false))
 else
 (some false)).bind λ x3=>
 some x3
def Az.P (fC:(A1)->Option Bool) (kX:(A3)->Option Bool) (dQ:(A1)->Option (A23)) (n:Nat) (x:A37):Option (A58):=
 ((fC (x.1,x.2.1,x.2.2.1,x.2.2.2.1)).bind λ r1=>
 bif !r1 then
 (some (x.1,x.2.1,x.2.2.1,x.2.2.2.1,x.2.2.2.2.1,x.2.2.2.2.2.1,x.2.2.2.2.2.2,true))
 else
 ((fC (x.1,x.2.2.2.2.1,x.2.2.2.2.2.1,x.2.2.2.2.2.2)).bind λ r2=>
 some (x.1,x.2.1,x.2.2.1,x.2.2.2.1,x.2.2.2.2.1,x.2.2.2.2.2.1,x.2.2.2.2.2.2, !r2))).bind λ x3=>
 bif x3.2.2.2.2.2.2.2 then
 (some (false,(1:Int)))
 else
 ((dQ (x3.1,x3.2.1,x3.2.2.1,x3.2.2.2.1)).bind λ r4=>
 bif !decide (r4.2.2.2=(0:Int))then
 (some (false,r4.2.2.2))
 else
 ((dQ (x3.1,x3.2.2.2.2.1,x3.2.2.2.2.2.1,x3.2.2.2.2.2.2.1)).bind λ r5=>
 bif !decide (r5.2.2.2=(0:Int))then
 (some (false,r5.2.2.2))
 else
 ((kX (r4.1,r4.2.1,r4.2.2.1,r5.1,r5.2.1,r5.2.2.1)).bind λ r6=>
 some (r6,(0:Int)))))
def lV.L1 (gI:(A19)->Option Bool) (x4:A55) (rec5:(A55)->Option (Sum (A31) (Sum Unit Bool))):Option (Sum (A31) (Sum Unit Bool)):=
 bif decide (x4.2.2.2.2.2.2.2.2.2.2.2<x4.2.2.2.2.2.2.2.2.2.2.1)then
 ((nth? x4.2.2.2.2.2.2.2.2.2.1 x4.2.2.2.2.2.2.2.2.2.2.2).bind λ e6=>
 (bif decide (x4.2.2.2.1=e6.1)then
 ((gI (x4.2.2.2.2.1,e6.2.1)).bind λ r7=>
 some (x4.1,x4.2.1,x4.2.2.1,x4.2.2.2.1,x4.2.2.2.2.1,x4.2.2.2.2.2.1,x4.2.2.2.2.2.2.1,x4.2.2.2.2.2.2.2.1,x4.2.2.2.2.2.2.2.2.1,x4.2.2.2.2.2.2.2.2.2.1,x4.2.2.2.2.2.2.2.2.2.2.1,x4.2.2.2.2.2.2.2.2.2.2.2,r7))
 else
 (some (x4.1,x4.2.1,x4.2.2.1,x4.2.2.2.1,x4.2.2.2.2.1,x4.2.2.2.2.2.1,x4.2.2.2.2.2.2.1,x4.2.2.2.2.2.2.2.1,x4.2.2.2.2.2.2.2.2.1,x4.2.2.2.2.2.2.2.2.2.1,x4.2.2.2.2.2.2.2.2.2.2.1,x4.2.2.2.2.2.2.2.2.2.2.2,false))).bind λ x8=>
 bif x8.2.2.2.2.2.2.2.2.2.2.2.2 then
 (((some false).bind λ r=>some (Sum.inr r)).bind λ r=>some (Sum.inr r))
 else
 (rec5 (x8.1,x8.2.1,x8.2.2.1,x8.2.2.2.1,x8.2.2.2.2.1,x8.2.2.2.2.2.1,x8.2.2.2.2.2.2.1,x8.2.2.2.2.2.2.2.1,x8.2.2.2.2.2.2.2.2.1,x8.2.2.2.2.2.2.2.2.2.1,x8.2.2.2.2.2.2.2.2.2.2.1,IntKind.wrap .i64 (x8.2.2.2.2.2.2.2.2.2.2.2.1+(1:Int)))))
 else
 (some (Sum.inl (x4.1,x4.2.1,x4.2.2.1,x4.2.2.2.2.2.2.1,x4.2.2.2.2.2.2.2.1,x4.2.2.2.2.2.2.2.2.1)))
def lV.L2 (gI:(A19)->Option Bool) (n:Nat) (x1:A31) (rec2:(A31)->Option (Sum Unit Bool)):Option (Sum Unit Bool):=
 bif decide (x1.2.2.2.2.2<x1.2.2.2.2.1)then
 ((nth? x1.2.2.2.1 x1.2.2.2.2.2).bind λ e3=>
 bif decide (0<=0)&&decide (0<=x1.2.2.2.2.2)&&decide (x1.2.2.2.2.2<=((List.length x1.2.2.1:Nat):Int))then
 (cu (lV.L1 gI) n (x1.1,x1.2.1,x1.2.2.1,e3.1,e3.2.1,e3.2.2,x1.2.2.2.1,x1.2.2.2.2.1,x1.2.2.2.2.2,List.drop (Int.toNat 0) (List.take (Int.toNat x1.2.2.2.2.2) x1.2.2.1),((List.length (List.drop (Int.toNat 0) (List.take (Int.toNat x1.2.2.2.2.2) x1.2.2.1)):Nat):Int),(0:Int))).bind λ q=>match q with
 |Sum.inl x9=>(rec2 (x9.1,x9.2.1,x9.2.2.1,x9.2.2.2.1,x9.2.2.2.2.1,IntKind.wrap .i64 (x9.2.2.2.2.2+(1:Int))))
 |Sum.inr r=>some r
 else none)
 else
 (some (Sum.inl ()))
def lV.P (gI:(A19)->Option Bool) (n:Nat) (x:A0):Option Bool:=
 (cu (lV.L2 gI n) n (x.1,x.2.1,x.2.2,x.2.2,((List.length x.2.2:Nat):Int),(0:Int))).bind λ q=>match q with
 |Sum.inl x10=>(some true)
 |Sum.inr r=>some r
def eX.L1 (x6:A29) (rec7:(A29)->Option (A44)):Option (A44):=
 bif decide (x6.2.2.2.2.2.2.2.2.2.2.2.2.2.2<x6.2.2.2.2.2.2.2.2.2.2.2.2.2.1)then
 ((nth? x6.2.2.2.2.2.2.2.2.2.2.2.2.1 x6.2.2.2.2.2.2.2.2.2.2.2.2.2.2).bind λ e8=>
 (bif x6.2.2.2.2.2.2.2.2.1 then
 (bif decide (0<=e8)&&decide (e8<((List.length x6.2.2.2.1:Nat):Int))then
 (at? x6.2.2.2.1 (Int.toNat e8)).bind λ e9=>
 some (x6.1,x6.2.1,x6.2.2.1,x6.2.2.2.1,x6.2.2.2.2.1,x6.2.2.2.2.2.1,x6.2.2.2.2.2.2.1,x6.2.2.2.2.2.2.2.1,e9,x6.2.2.2.2.2.2.2.2.2.1,x6.2.2.2.2.2.2.2.2.2.2.1,x6.2.2.2.2.2.2.2.2.2.2.2.1,x6.2.2.2.2.2.2.2.2.2.2.2.2.1,x6.2.2.2.2.2.2.2.2.2.2.2.2.2.1,x6.2.2.2.2.2.2.2.2.2.2.2.2.2.2)
 else none)
 else
 (some (x6.1,x6.2.1,x6.2.2.1,x6.2.2.2.1,x6.2.2.2.2.1,x6.2.2.2.2.2.1,x6.2.2.2.2.2.2.1,x6.2.2.2.2.2.2.2.1,false,x6.2.2.2.2.2.2.2.2.2.1,x6.2.2.2.2.2.2.2.2.2.2.1,x6.2.2.2.2.2.2.2.2.2.2.2.1,x6.2.2.2.2.2.2.2.2.2.2.2.2.1,x6.2.2.2.2.2.2.2.2.2.2.2.2.2.1,x6.2.2.2.2.2.2.2.2.2.2.2.2.2.2))).bind λ x10=>
 rec7 (x10.1,x10.2.1,x10.2.2.1,x10.2.2.2.1,x10.2.2.2.2.1,x10.2.2.2.2.2.1,x10.2.2.2.2.2.2.1,x10.2.2.2.2.2.2.2.1,x10.2.2.2.2.2.2.2.2.1,x10.2.2.2.2.2.2.2.2.2.1,x10.2.2.2.2.2.2.2.2.2.2.1,x10.2.2.2.2.2.2.2.2.2.2.2.1,x10.2.2.2.2.2.2.2.2.2.2.2.2.1,x10.2.2.2.2.2.2.2.2.2.2.2.2.2.1,IntKind.wrap .i64 (x10.2.2.2.2.2.2.2.2.2.2.2.2.2.2+(1:Int))))
 else
 (some (x6.1,x6.2.1,x6.2.2.1,x6.2.2.2.1,x6.2.2.2.2.1,x6.2.2.2.2.2.1,x6.2.2.2.2.2.2.1,x6.2.2.2.2.2.2.2.1,x6.2.2.2.2.2.2.2.2.1,x6.2.2.2.2.2.2.2.2.2.1,x6.2.2.2.2.2.2.2.2.2.2.1,x6.2.2.2.2.2.2.2.2.2.2.2.1))
def eX.L2 (n:Nat) (x3:A69) (rec4:(A69)->Option (A52)):Option (A52):=
 bif decide (x3.2.2.2.2.2.2.2<x3.2.2.2.2.2.2.1)then
 ((nth? x3.2.2.2.2.2.1 x3.2.2.2.2.2.2.2).bind λ e5=>
 (cu (eX.L1) n (x3.1,x3.2.1,x3.2.2.1,x3.2.2.2.1,x3.2.2.2.2.1,e5.1,e5.2.1,e5.2.2,true,x3.2.2.2.2.2.1,x3.2.2.2.2.2.2.1,x3.2.2.2.2.2.2.2,e5.2.1,((List.length e5.2.1:Nat):Int),(0:Int))).bind λ x11=>
 (bif x11.2.2.2.2.2.2.2.2.1 then
 (bif decide (0<=x11.2.2.2.2.2.2.2.1)&&decide (x11.2.2.2.2.2.2.2.1<((List.length x11.2.2.2.1:Nat):Int))then
 (at? x11.2.2.2.1 (Int.toNat x11.2.2.2.2.2.2.2.1)).bind λ e12=>
 some (x11.1,x11.2.1,x11.2.2.1,x11.2.2.2.1,x11.2.2.2.2.1,x11.2.2.2.2.2.1,x11.2.2.2.2.2.2.1,x11.2.2.2.2.2.2.2.1,x11.2.2.2.2.2.2.2.2.2.1,x11.2.2.2.2.2.2.2.2.2.2.1,x11.2.2.2.2.2.2.2.2.2.2.2, !e12)
 else none)
 else
 (some (x11.1,x11.2.1,x11.2.2.1,x11.2.2.2.1,x11.2.2.2.2.1,x11.2.2.2.2.2.1,x11.2.2.2.2.2.2.1,x11.2.2.2.2.2.2.2.1,x11.2.2.2.2.2.2.2.2.2.1,x11.2.2.2.2.2.2.2.2.2.2.1,x11.2.2.2.2.2.2.2.2.2.2.2,false))).bind λ x13=>
 (bif x13.2.2.2.2.2.2.2.2.2.2.2 then
 (bif decide (0<=x13.2.2.2.2.2.2.2.1)&&decide (x13.2.2.2.2.2.2.2.1<((List.length x13.2.2.2.1:Nat):Int))then
 (at? x13.2.2.2.1 (Int.toNat x13.2.2.2.2.2.2.2.1)).bind λ e14=>
 some (x13.1,x13.2.1,x13.2.2.1,List.set x13.2.2.2.1 (Int.toNat x13.2.2.2.2.2.2.2.1) true,true,x13.2.2.2.2.2.2.2.2.1,x13.2.2.2.2.2.2.2.2.2.1,x13.2.2.2.2.2.2.2.2.2.2.1)
 else none)
 else
 (some (x13.1,x13.2.1,x13.2.2.1,x13.2.2.2.1,x13.2.2.2.2.1,x13.2.2.2.2.2.2.2.2.1,x13.2.2.2.2.2.2.2.2.2.1,x13.2.2.2.2.2.2.2.2.2.2.1))).bind λ x15=>
 rec4 (x15.1,x15.2.1,x15.2.2.1,x15.2.2.2.1,x15.2.2.2.2.1,x15.2.2.2.2.2.1,x15.2.2.2.2.2.2.1,IntKind.wrap .i64 (x15.2.2.2.2.2.2.2+(1:Int))))
 else
 (some (x3.1,x3.2.1,x3.2.2.1,x3.2.2.2.1,x3.2.2.2.2.1))
def eX.L3 (n:Nat) (x1:A52) (rec2:(A52)->Option (List Bool)):Option (List Bool):=
 bif x1.2.2.2.2 then
 ((cu (eX.L2 n) n (x1.1,x1.2.1,x1.2.2.1,x1.2.2.2.1,false,x1.2.2.1,((List.length x1.2.2.1:Nat):Int),(0:Int))).bind λ x16=>
 rec2 (x16.1,x16.2.1,x16.2.2.1,x16.2.2.2.1,x16.2.2.2.2))
 else
 (some x1.2.2.2.1)
def eX.P (n:Nat) (x:A0):Option (List Bool):=
 bif decide (0<=x.1)&&decide (x.1<=x.1)&&decide (x.1<=((au:Nat):Int))then
 (cu (eX.L3 n) n (x.1,x.2.1,x.2.2,List.replicate (Int.toNat x.1) (false:Bool),true)).bind λ x17=>
 some x17
 else none
def eP.L1 (x2:A64) (rec3:(A64)->Option (A79)):Option (A79):=
 bif decide (x2.2.2.2.2.2.2.2<x2.2.2.2.2.2.2.1)then
 ((nth? x2.2.2.2.2.2.1 x2.2.2.2.2.2.2.2).bind λ e4=>
 bif decide (0<=e4)&&decide (e4<((List.length x2.2.2.2.1:Nat):Int))then
 (at? x2.2.2.2.1 (Int.toNat e4)).bind λ e5=>
 bif decide (0<=e4)&&decide (e4<((List.length x2.2.2.2.2.1:Nat):Int))then
 (at? x2.2.2.2.2.1 (Int.toNat e4)).bind λ e6=>
 rec3 (x2.1,x2.2.1,x2.2.2.1,x2.2.2.2.1,List.set x2.2.2.2.2.1 (Int.toNat e4) e5,x2.2.2.2.2.2.1,x2.2.2.2.2.2.2.1,IntKind.wrap .i64 (x2.2.2.2.2.2.2.2+(1:Int)))
 else none
 else none)
 else
 (some (x2.1,x2.2.1,x2.2.2.1,x2.2.2.2.1,x2.2.2.2.2.1))
def eP.L2 (x14:A24) (rec15:(A24)->Option (A34)):Option (A34):=
 bif decide (x14.2.2.2.2.2.2.2.2.2.2.2.2.2.2.2<x14.2.2.2.2.2.2.2.2.2.2.2.2.2.2.1)then
 ((nth? x14.2.2.2.2.2.2.2.2.2.2.2.2.2.1 x14.2.2.2.2.2.2.2.2.2.2.2.2.2.2.2).bind λ e16=>
 (bif x14.2.2.2.2.2.2.2.2.2.1 then
 (bif decide (0<=e16)&&decide (e16<((List.length x14.2.2.2.1:Nat):Int))then
 (at? x14.2.2.2.1 (Int.toNat e16)).bind λ e17=>
 some (x14.1,x14.2.1,x14.2.2.1,x14.2.2.2.1,x14.2.2.2.2.1,x14.2.2.2.2.2.1,x14.2.2.2.2.2.2.1,x14.2.2.2.2.2.2.2.1,x14.2.2.2.2.2.2.2.2.1,e17,x14.2.2.2.2.2.2.2.2.2.2.1,x14.2.2.2.2.2.2.2.2.2.2.2.1,x14.2.2.2.2.2.2.2.2.2.2.2.2.1,x14.2.2.2.2.2.2.2.2.2.2.2.2.2.1,x14.2.2.2.2.2.2.2.2.2.2.2.2.2.2.1,x14.2.2.2.2.2.2.2.2.2.2.2.2.2.2.2)
 else none)
 else
 (some (x14.1,x14.2.1,x14.2.2.1,x14.2.2.2.1,x14.2.2.2.2.1,x14.2.2.2.2.2.1,x14.2.2.2.2.2.2.1,x14.2.2.2.2.2.2.2.1,x14.2.2.2.2.2.2.2.2.1,false,x14.2.2.2.2.2.2.2.2.2.2.1,x14.2.2.2.2.2.2.2.2.2.2.2.1,x14.2.2.2.2.2.2.2.2.2.2.2.2.1,x14.2.2.2.2.2.2.2.2.2.2.2.2.2.1,x14.2.2.2.2.2.2.2.2.2.2.2.2.2.2.1,x14.2.2.2.2.2.2.2.2.2.2.2.2.2.2.2))).bind λ x18=>
 rec15 (x18.1,x18.2.1,x18.2.2.1,x18.2.2.2.1,x18.2.2.2.2.1,x18.2.2.2.2.2.1,x18.2.2.2.2.2.2.1,x18.2.2.2.2.2.2.2.1,x18.2.2.2.2.2.2.2.2.1,x18.2.2.2.2.2.2.2.2.2.1,x18.2.2.2.2.2.2.2.2.2.2.1,x18.2.2.2.2.2.2.2.2.2.2.2.1,x18.2.2.2.2.2.2.2.2.2.2.2.2.1,x18.2.2.2.2.2.2.2.2.2.2.2.2.2.1,x18.2.2.2.2.2.2.2.2.2.2.2.2.2.2.1,IntKind.wrap .i64 (x18.2.2.2.2.2.2.2.2.2.2.2.2.2.2.2+(1:Int))))
 else
 (some (x14.1,x14.2.1,x14.2.2.1,x14.2.2.2.1,x14.2.2.2.2.1,x14.2.2.2.2.2.1,x14.2.2.2.2.2.2.1,x14.2.2.2.2.2.2.2.1,x14.2.2.2.2.2.2.2.2.1,x14.2.2.2.2.2.2.2.2.2.1,x14.2.2.2.2.2.2.2.2.2.2.1,x14.2.2.2.2.2.2.2.2.2.2.2.1,x14.2.2.2.2.2.2.2.2.2.2.2.2.1))
def eP.L3 (x20:A35) (rec21:(A35)->Option (A18)):Option (A18):=
 bif decide (x20.2.2.2.2.2.2.2.2.2.2.2.2<x20.2.2.2.2.2.2.2.2.2.2.2.1)then
 ((nth? x20.2.2.2.2.2.2.2.2.2.2.1 x20.2.2.2.2.2.2.2.2.2.2.2.2).bind λ e22=>
 (bif x20.2.2.2.2.2.2.1 then
 (bif decide (0<=e22)&&decide (e22<((List.length x20.2.2.2.2.1:Nat):Int))then
 (at? x20.2.2.2.2.1 (Int.toNat e22)).bind λ e23=>
 some (x20.1,x20.2.1,x20.2.2.1,x20.2.2.2.1,x20.2.2.2.2.1,x20.2.2.2.2.2.1,x20.2.2.2.2.2.2.1,e22,x20.2.2.2.2.2.2.2.1,x20.2.2.2.2.2.2.2.2.1,x20.2.2.2.2.2.2.2.2.2.1,x20.2.2.2.2.2.2.2.2.2.2.1,x20.2.2.2.2.2.2.2.2.2.2.2.1,x20.2.2.2.2.2.2.2.2.2.2.2.2, !e23)
 else none)
 else
 (some (x20.1,x20.2.1,x20.2.2.1,x20.2.2.2.1,x20.2.2.2.2.1,x20.2.2.2.2.2.1,x20.2.2.2.2.2.2.1,e22,x20.2.2.2.2.2.2.2.1,x20.2.2.2.2.2.2.2.2.1,x20.2.2.2.2.2.2.2.2.2.1,x20.2.2.2.2.2.2.2.2.2.2.1,x20.2.2.2.2.2.2.2.2.2.2.2.1,x20.2.2.2.2.2.2.2.2.2.2.2.2,false))).bind λ x24=>
 (bif x24.2.2.2.2.2.2.2.2.2.2.2.2.2.2 then
 (bif decide (0<=x24.2.2.2.2.2.2.2.1)&&decide (x24.2.2.2.2.2.2.2.1<((List.length x24.2.2.2.2.1:Nat):Int))then
 (at? x24.2.2.2.2.1 (Int.toNat x24.2.2.2.2.2.2.2.1)).bind λ e25=>
 some (x24.1,x24.2.1,x24.2.2.1,x24.2.2.2.1,List.set x24.2.2.2.2.1 (Int.toNat x24.2.2.2.2.2.2.2.1) true,true,x24.2.2.2.2.2.2.1,x24.2.2.2.2.2.2.2.2.1,x24.2.2.2.2.2.2.2.2.2.1,x24.2.2.2.2.2.2.2.2.2.2.1,x24.2.2.2.2.2.2.2.2.2.2.2.1,x24.2.2.2.2.2.2.2.2.2.2.2.2.1,x24.2.2.2.2.2.2.2.2.2.2.2.2.2.1)
 else none)
 else
 (some (x24.1,x24.2.1,x24.2.2.1,x24.2.2.2.1,x24.2.2.2.2.1,x24.2.2.2.2.2.1,x24.2.2.2.2.2.2.1,x24.2.2.2.2.2.2.2.2.1,x24.2.2.2.2.2.2.2.2.2.1,x24.2.2.2.2.2.2.2.2.2.2.1,x24.2.2.2.2.2.2.2.2.2.2.2.1,x24.2.2.2.2.2.2.2.2.2.2.2.2.1,x24.2.2.2.2.2.2.2.2.2.2.2.2.2.1))).bind λ x26=>
 rec21 (x26.1,x26.2.1,x26.2.2.1,x26.2.2.2.1,x26.2.2.2.2.1,x26.2.2.2.2.2.1,x26.2.2.2.2.2.2.1,x26.2.2.2.2.2.2.2.1,x26.2.2.2.2.2.2.2.2.1,x26.2.2.2.2.2.2.2.2.2.1,x26.2.2.2.2.2.2.2.2.2.2.1,x26.2.2.2.2.2.2.2.2.2.2.2.1,IntKind.wrap .i64 (x26.2.2.2.2.2.2.2.2.2.2.2.2+(1:Int))))
 else
 (some (x20.1,x20.2.1,x20.2.2.1,x20.2.2.2.1,x20.2.2.2.2.1,x20.2.2.2.2.2.1,x20.2.2.2.2.2.2.2.1,x20.2.2.2.2.2.2.2.2.1,x20.2.2.2.2.2.2.2.2.2.1))
def eP.L4 (n:Nat) (x10:A18) (rec11:(A18)->Option (A30)):Option (A30):=
 bif decide (x10.2.2.2.2.2.2.2.2<x10.2.2.2.2.2.2.2.1)then
 ((nth? x10.2.2.2.2.2.2.1 x10.2.2.2.2.2.2.2.2).bind λ e12=>
 bif decide (0<=e12.2.2)&&decide (e12.2.2<((List.length x10.2.2.2.2.1:Nat):Int))then
 (at? x10.2.2.2.2.1 (Int.toNat e12.2.2)).bind λ e13=>
 (cu (eP.L2) n (x10.1,x10.2.1,x10.2.2.1,x10.2.2.2.1,x10.2.2.2.2.1,x10.2.2.2.2.2.1,e12.1,e12.2.1,e12.2.2,e13,x10.2.2.2.2.2.2.1,x10.2.2.2.2.2.2.2.1,x10.2.2.2.2.2.2.2.2,e12.2.1,((List.length e12.2.1:Nat):Int),(0:Int))).bind λ x19=>
 (cu (eP.L3) n (x19.1,x19.2.1,x19.2.2.1,x19.2.2.2.1,x19.2.2.2.2.1,x19.2.2.2.2.2.1,x19.2.2.2.2.2.2.2.2.2.1,x19.2.2.2.2.2.2.2.2.2.2.1,x19.2.2.2.2.2.2.2.2.2.2.2.1,x19.2.2.2.2.2.2.2.2.2.2.2.2,x19.2.2.2.2.2.2.2.1,((List.length x19.2.2.2.2.2.2.2.1:Nat):Int),(0:Int))).bind λ x27=>
 rec11 (x27.1,x27.2.1,x27.2.2.1,x27.2.2.2.1,x27.2.2.2.2.1,x27.2.2.2.2.2.1,x27.2.2.2.2.2.2.1,x27.2.2.2.2.2.2.2.1,IntKind.wrap .i64 (x27.2.2.2.2.2.2.2.2+(1:Int)))
 else none)
 else
 (some (x10.1,x10.2.1,x10.2.2.1,x10.2.2.2.1,x10.2.2.2.2.1,x10.2.2.2.2.2.1))
def eP.L5 (n:Nat) (x8:A30) (rec9:(A30)->Option (List Bool)):Option (List Bool):=
 bif x8.2.2.2.2.2 then
 ((cu (eP.L4 n) n (x8.1,x8.2.1,x8.2.2.1,x8.2.2.2.1,x8.2.2.2.2.1,false,x8.2.2.1,((List.length x8.2.2.1:Nat):Int),(0:Int))).bind λ x28=>
 rec9 (x28.1,x28.2.1,x28.2.2.1,x28.2.2.2.1,x28.2.2.2.2.1,x28.2.2.2.2.2))
 else
 (some x8.2.2.2.2.1)
def eP.P (qK:(A0)->Option (List Bool)) (n:Nat) (x:A0):Option (List Bool):=
 (qK (x.1,x.2.1,x.2.2)).bind λ r1=>
 bif decide (0<=x.1)&&decide (x.1<=x.1)&&decide (x.1<=((au:Nat):Int))then
 (cu (eP.L1) n (x.1,x.2.1,x.2.2,r1,List.replicate (Int.toNat x.1) (false:Bool),x.2.1,((List.length x.2.1:Nat):Int),(0:Int))).bind λ x7=>
 (cu (eP.L5 n) n (x7.1,x7.2.1,x7.2.2.1,x7.2.2.2.1,x7.2.2.2.2,true)).bind λ x29=>
 some x29
 else none
def AZ.P (n:Nat) (x:A74):Option LI:=
 bif decide (List.length ([x.1]:List Int)+List.length x.2.1<=au)then
 bif decide (List.length (List.append ([x.1]:List Int) x.2.1)+List.length ([x.2.2]:List Int)<=au)then
 some (List.append (List.append ([x.1]:List Int) x.2.1) ([x.2.2]:List Int))
 else none
 else none
def oL.L1 (x1:A10) (rec2:(A10)->Option (Sum (A19) Int)):Option (Sum (A19) Int):=
 bif decide (x1.2.2.2<x1.2.2.1)then
 ((nth? x1.1 x1.2.2.2).bind λ e3=>
 (nth? x1.2.1 x1.2.2.2).bind λ e4=>
 bif decide (e3<e4)then
 ((some (-1:Int)).bind λ r=>some (Sum.inr r))
 else
 ((nth? x1.1 x1.2.2.2).bind λ e5=>
 (nth? x1.2.1 x1.2.2.2).bind λ e6=>
 bif decide (e6<e5)then
 ((some (1:Int)).bind λ r=>some (Sum.inr r))
 else
 (rec2 (x1.1,x1.2.1,x1.2.2.1,IntKind.wrap .i64 (x1.2.2.2+(1:Int))))))
 else
 (some (Sum.inl (x1.1,x1.2.1)))
def oL.P (n:Nat) (x:A19):Option Int:=
 (cu (oL.L1) n (x.1,x.2,min ((List.length x.1:Nat):Int) ((List.length x.2:Nat):Int),(0:Int))).bind λ q=>match q with
 |Sum.inl x7=>(bif decide (((List.length x7.1:Nat):Int)<((List.length x7.2:Nat):Int))then
 (some (-1:Int))
 else
 (bif decide (((List.length x7.2:Nat):Int)<((List.length x7.1:Nat):Int))then
 (some (1:Int))
 else
 (some (0:Int))))
 |Sum.inr r=>some r
def kT.L1 (kH:Ru->Option LI) (kY:(A19)->Option Int) (x4:A71) (rec5:(A71)->Option (A73)):Option (A73):=
 bif decide (x4.2.2.2.2.1<x4.2.2.2.2.2.1)then
 (bif !decide ((2:Int)=0)then
 bif decide (0<=(IntKind.wrap .i64 (Int.tdiv (IntKind.wrap .i64 (x4.2.2.2.2.1+x4.2.2.2.2.2.1)) (2:Int))))&&decide ((IntKind.wrap .i64 (Int.tdiv (IntKind.wrap .i64 (x4.2.2.2.2.1+x4.2.2.2.2.2.1)) (2:Int)))<((List.length x4.1:Nat):Int))then
 (at? x4.1 (Int.toNat (IntKind.wrap .i64 (Int.tdiv (IntKind.wrap .i64 (x4.2.2.2.2.1+x4.2.2.2.2.2.1)) (2:Int))))).bind λ e6=>
 (kH (e6.1,e6.2.1,e6.2.2)).bind λ r7=>
 (kH (x4.2.1,x4.2.2.1,x4.2.2.2.1)).bind λ r8=>
 (kY (r7,r8)).bind λ r9=>
 (bif decide (r9<(0:Int))then
 (some (x4.1,x4.2.1,x4.2.2.1,x4.2.2.2.1,IntKind.wrap .i64 ((IntKind.wrap .i64 (Int.tdiv (IntKind.wrap .i64 (x4.2.2.2.2.1+x4.2.2.2.2.2.1)) (2:Int)))+(1:Int)),x4.2.2.2.2.2.1,x4.2.2.2.2.2.2.1,x4.2.2.2.2.2.2.2.1,x4.2.2.2.2.2.2.2.2))
 else
 (some (x4.1,x4.2.1,x4.2.2.1,x4.2.2.2.1,x4.2.2.2.2.1,IntKind.wrap .i64 (Int.tdiv (IntKind.wrap .i64 (x4.2.2.2.2.1+x4.2.2.2.2.2.1)) (2:Int)),x4.2.2.2.2.2.2.1,x4.2.2.2.2.2.2.2.1,x4.2.2.2.2.2.2.2.2))).bind λ x10=>
 rec5 (x10.1,x10.2.1,x10.2.2.1,x10.2.2.2.1,x10.2.2.2.2.1,x10.2.2.2.2.2.1,x10.2.2.2.2.2.2.1,x10.2.2.2.2.2.2.2.1,x10.2.2.2.2.2.2.2.2)
 else none
 else none)
 else
 (some (x4.1,x4.2.1,x4.2.2.1,x4.2.2.2.1,x4.2.2.2.2.1,x4.2.2.2.2.2.2.1,x4.2.2.2.2.2.2.2.1,x4.2.2.2.2.2.2.2.2))
def kT.L2 (kH:Ru->Option LI) (kY:(A19)->Option Int) (n:Nat) (x1:A80) (rec2:(A80)->Option LR):Option LR:=
 bif decide (x1.2.2.2<x1.2.2.1)then
 ((nth? x1.2.1 x1.2.2.2).bind λ e3=>
 (cu (kT.L1 kH kY) n (x1.1,e3.1,e3.2.1,e3.2.2,(0:Int),((List.length x1.1:Nat):Int),x1.2.1,x1.2.2.1,x1.2.2.2)).bind λ x11=>
 (bif decide (x11.2.2.2.2.1=((List.length x11.1:Nat):Int))then
 (some (x11.1,x11.2.1,x11.2.2.1,x11.2.2.2.1,x11.2.2.2.2.1,x11.2.2.2.2.2.1,x11.2.2.2.2.2.2.1,x11.2.2.2.2.2.2.2,true))
 else
 (bif decide (0<=x11.2.2.2.2.1)&&decide (x11.2.2.2.2.1<((List.length x11.1:Nat):Int))then
 (at? x11.1 (Int.toNat x11.2.2.2.2.1)).bind λ e12=>
 (kH (e12.1,e12.2.1,e12.2.2)).bind λ r13=>
 (kH (x11.2.1,x11.2.2.1,x11.2.2.2.1)).bind λ r14=>
 (kY (r13,r14)).bind λ r15=>
 some (x11.1,x11.2.1,x11.2.2.1,x11.2.2.2.1,x11.2.2.2.2.1,x11.2.2.2.2.2.1,x11.2.2.2.2.2.2.1,x11.2.2.2.2.2.2.2, !decide (r15=(0:Int)))
 else none)).bind λ x16=>
 (bif x16.2.2.2.2.2.2.2.2 then
 (bif decide (List.length x16.1+List.length ([((0:Int),([]:List Int),(0:Int))]:List Ru)<=au)then
 bif decide (0<=(IntKind.wrap .i64 (x16.2.2.2.2.1+(1:Int))))&&decide ((IntKind.wrap .i64 (x16.2.2.2.2.1+(1:Int)))<=((List.length (List.append x16.1 ([((0:Int),([]:List Int),(0:Int))]:List Ru)):Nat):Int))&&decide (((List.length (List.append x16.1 ([((0:Int),([]:List Int),(0:Int))]:List Ru)):Nat):Int)<=((List.length (List.append x16.1 ([((0:Int),([]:List Int),(0:Int))]:List Ru)):Nat):Int))then
 bif decide (0<=x16.2.2.2.2.1)&&decide (x16.2.2.2.2.1<=((List.length (List.append x16.1 ([((0:Int),([]:List Int),(0:Int))]:List Ru)):Nat):Int))&&decide (((List.length (List.append x16.1 ([((0:Int),([]:List Int),(0:Int))]:List Ru)):Nat):Int)<=((List.length (List.append x16.1 ([((0:Int),([]:List Int),(0:Int))]:List Ru)):Nat):Int))then
 bif decide (0<=x16.2.2.2.2.1)&&decide (x16.2.2.2.2.1<((List.length (List.append (List.append (List.take (Int.toNat (IntKind.wrap .i64 (x16.2.2.2.2.1+(1:Int)))) (List.append x16.1 ([((0:Int),([]:List Int),(0:Int))]:List Ru))) (List.take (Nat.min (List.length (List.drop (Int.toNat x16.2.2.2.2.1) (List.take (Int.toNat ((List.length (List.append x16.1 ([((0:Int),([]:List Int),(0:Int))]:List Ru)):Nat):Int)) (List.append x16.1 ([((0:Int),([]:List Int),(0:Int))]:List Ru))))) ((Int.toNat ((List.length (List.append x16.1 ([((0:Int),([]:List Int),(0:Int))]:List Ru)):Nat):Int))-(Int.toNat (IntKind.wrap .i64 (x16.2.2.2.2.1+(1:Int)))))) (List.drop (Int.toNat x16.2.2.2.2.1) (List.take (Int.toNat ((List.length (List.append x16.1 ([((0:Int),([]:List Int),(0:Int))]:List Ru)):Nat):Int)) (List.append x16.1 ([((0:Int),([]:List Int),(0:Int))]:List Ru)))))) (List.drop ((Int.toNat (IntKind.wrap .i64 (x16.2.2.2.2.1+(1:Int))))+(Nat.min (List.length (List.drop (Int.toNat x16.2.2.2.2.1) (List.take (Int.toNat ((List.length (List.append x16.1 ([((0:Int),([]:List Int),(0:Int))]:List Ru)):Nat):Int)) (List.append x16.1 ([((0:Int),([]:List Int),(0:Int))]:List Ru))))) ((Int.toNat ((List.length (List.append x16.1 ([((0:Int),([]:List Int),(0:Int))]:List Ru)):Nat):Int))-(Int.toNat (IntKind.wrap .i64 (x16.2.2.2.2.1+(1:Int))))))) (List.append x16.1 ([((0:Int),([]:List Int),(0:Int))]:List Ru)))):Nat):Int))then
 (at? (List.append (List.append (List.take (Int.toNat (IntKind.wrap .i64 (x16.2.2.2.2.1+(1:Int)))) (List.append x16.1 ([((0:Int),([]:List Int),(0:Int))]:List Ru))) (List.take (Nat.min (List.length (List.drop (Int.toNat x16.2.2.2.2.1) (List.take (Int.toNat ((List.length (List.append x16.1 ([((0:Int),([]:List Int),(0:Int))]:List Ru)):Nat):Int)) (List.append x16.1 ([((0:Int),([]:List Int),(0:Int))]:List Ru))))) ((Int.toNat ((List.length (List.append x16.1 ([((0:Int),([]:List Int),(0:Int))]:List Ru)):Nat):Int))-(Int.toNat (IntKind.wrap .i64 (x16.2.2.2.2.1+(1:Int)))))) (List.drop (Int.toNat x16.2.2.2.2.1) (List.take (Int.toNat ((List.length (List.append x16.1 ([((0:Int),([]:List Int),(0:Int))]:List Ru)):Nat):Int)) (List.append x16.1 ([((0:Int),([]:List Int),(0:Int))]:List Ru)))))) (List.drop ((Int.toNat (IntKind.wrap .i64 (x16.2.2.2.2.1+(1:Int))))+(Nat.min (List.length (List.drop (Int.toNat x16.2.2.2.2.1) (List.take (Int.toNat ((List.length (List.append x16.1 ([((0:Int),([]:List Int),(0:Int))]:List Ru)):Nat):Int)) (List.append x16.1 ([((0:Int),([]:List Int),(0:Int))]:List Ru))))) ((Int.toNat ((List.length (List.append x16.1 ([((0:Int),([]:List Int),(0:Int))]:List Ru)):Nat):Int))-(Int.toNat (IntKind.wrap .i64 (x16.2.2.2.2.1+(1:Int))))))) (List.append x16.1 ([((0:Int),([]:List Int),(0:Int))]:List Ru)))) (Int.toNat x16.2.2.2.2.1)).bind λ e17=>
 some (List.set (List.append (List.append (List.take (Int.toNat (IntKind.wrap .i64 (x16.2.2.2.2.1+(1:Int)))) (List.append x16.1 ([((0:Int),([]:List Int),(0:Int))]:List Ru))) (List.take (Nat.min (List.length (List.drop (Int.toNat x16.2.2.2.2.1) (List.take (Int.toNat ((List.length (List.append x16.1 ([((0:Int),([]:List Int),(0:Int))]:List Ru)):Nat):Int)) (List.append x16.1 ([((0:Int),([]:List Int),(0:Int))]:List Ru))))) ((Int.toNat ((List.length (List.append x16.1 ([((0:Int),([]:List Int),(0:Int))]:List Ru)):Nat):Int))-(Int.toNat (IntKind.wrap .i64 (x16.2.2.2.2.1+(1:Int)))))) (List.drop (Int.toNat x16.2.2.2.2.1) (List.take (Int.toNat ((List.length (List.append x16.1 ([((0:Int),([]:List Int),(0:Int))]:List Ru)):Nat):Int)) (List.append x16.1 ([((0:Int),([]:List Int),(0:Int))]:List Ru)))))) (List.drop ((Int.toNat (IntKind.wrap .i64 (x16.2.2.2.2.1+(1:Int))))+(Nat.min (List.length (List.drop (Int.toNat x16.2.2.2.2.1) (List.take (Int.toNat ((List.length (List.append x16.1 ([((0:Int),([]:List Int),(0:Int))]:List Ru)):Nat):Int)) (List.append x16.1 ([((0:Int),([]:List Int),(0:Int))]:List Ru))))) ((Int.toNat ((List.length (List.append x16.1 ([((0:Int),([]:List Int),(0:Int))]:List Ru)):Nat):Int))-(Int.toNat (IntKind.wrap .i64 (x16.2.2.2.2.1+(1:Int))))))) (List.append x16.1 ([((0:Int),([]:List Int),(0:Int))]:List Ru)))) (Int.toNat x16.2.2.2.2.1) (x16.2.1,x16.2.2.1,x16.2.2.2.1),x16.2.2.2.2.2.1,x16.2.2.2.2.2.2.1,x16.2.2.2.2.2.2.2.1)
 else none
 else none
 else none
 else none)
 else
 (some (x16.1,x16.2.2.2.2.2.1,x16.2.2.2.2.2.2.1,x16.2.2.2.2.2.2.2.1))).bind λ x18=>
 rec2 (x18.1,x18.2.1,x18.2.2.1,IntKind.wrap .i64 (x18.2.2.2+(1:Int))))
 else
 (some x1.1)
def kT.P (kY:(A19)->Option Int) (kH:Ru->Option LI) (n:Nat) (x:List Ru):Option LR:=
 (cu (kT.L2 kH kY n) n (([]:List Ru),x,((List.length x:Nat):Int),(0:Int))).bind λ x19=>
 some x19
def fM.L1 (x1:A33) (rec2:(A33)->Option (A17)):Option (A17):=
 bif decide (x1.2.2.2.2.2.2.2.2.2.2.2.2.2<x1.2.2.2.2.2.2.2.2.2.2.2.2.1)then
 ((nth? x1.2.2.2.2.2.2.2.2.2.2.2.1 x1.2.2.2.2.2.2.2.2.2.2.2.2.2).bind λ e3=>
 (bif e3 then
 (bif decide (0<=x1.2.2.2.2.2.2.2.2.2.2.2.2.2)&&decide (x1.2.2.2.2.2.2.2.2.2.2.2.2.2<((List.length x1.2.2.2.2.2.2.2.1:Nat):Int))then
 (at? x1.2.2.2.2.2.2.2.1 (Int.toNat x1.2.2.2.2.2.2.2.2.2.2.2.2.2)).bind λ e4=>
 some (x1.1,x1.2.1,x1.2.2.1,x1.2.2.2.1,x1.2.2.2.2.1,x1.2.2.2.2.2.1,x1.2.2.2.2.2.2.1,List.set x1.2.2.2.2.2.2.2.1 (Int.toNat x1.2.2.2.2.2.2.2.2.2.2.2.2.2) x1.2.2.2.2.2.2.2.2.1,IntKind.wrap .i64 (x1.2.2.2.2.2.2.2.2.1+(1:Int)),x1.2.2.2.2.2.2.2.2.2.1,x1.2.2.2.2.2.2.2.2.2.2.1,x1.2.2.2.2.2.2.2.2.2.2.2.1,x1.2.2.2.2.2.2.2.2.2.2.2.2.1,x1.2.2.2.2.2.2.2.2.2.2.2.2.2)
 else none)
 else
 (some (x1.1,x1.2.1,x1.2.2.1,x1.2.2.2.1,x1.2.2.2.2.1,x1.2.2.2.2.2.1,x1.2.2.2.2.2.2.1,x1.2.2.2.2.2.2.2.1,x1.2.2.2.2.2.2.2.2.1,x1.2.2.2.2.2.2.2.2.2.1,x1.2.2.2.2.2.2.2.2.2.2.1,x1.2.2.2.2.2.2.2.2.2.2.2.1,x1.2.2.2.2.2.2.2.2.2.2.2.2.1,x1.2.2.2.2.2.2.2.2.2.2.2.2.2))).bind λ x5=>
 rec2 (x5.1,x5.2.1,x5.2.2.1,x5.2.2.2.1,x5.2.2.2.2.1,x5.2.2.2.2.2.1,x5.2.2.2.2.2.2.1,x5.2.2.2.2.2.2.2.1,x5.2.2.2.2.2.2.2.2.1,x5.2.2.2.2.2.2.2.2.2.1,x5.2.2.2.2.2.2.2.2.2.2.1,x5.2.2.2.2.2.2.2.2.2.2.2.1,x5.2.2.2.2.2.2.2.2.2.2.2.2.1,IntKind.wrap .i64 (x5.2.2.2.2.2.2.2.2.2.2.2.2.2+(1:Int))))
 else
 (some (x1.1,x1.2.1,x1.2.2.1,x1.2.2.2.1,x1.2.2.2.2.1,x1.2.2.2.2.2.1,x1.2.2.2.2.2.2.1,x1.2.2.2.2.2.2.2.1,x1.2.2.2.2.2.2.2.2.1,x1.2.2.2.2.2.2.2.2.2.1,x1.2.2.2.2.2.2.2.2.2.2.1))
def fM.L2 (x7:A41) (rec8:(A41)->Option (A17)):Option (A17):=
 bif decide (x7.2.2.2.2.2.2.2.2.2.2.2.2.2<x7.2.2.2.2.2.2.2.2.2.2.2.2.1)then
 ((nth? x7.2.2.2.2.2.2.2.2.2.2.2.1 x7.2.2.2.2.2.2.2.2.2.2.2.2.2).bind λ e9=>
 (nth? x7.1 e9).bind λ e10=>
 (bif e10 then
 (bif decide (0<=e9)&&decide (e9<((List.length x7.2.2.2.2.2.2.2.1:Nat):Int))then
 (at? x7.2.2.2.2.2.2.2.1 (Int.toNat e9)).bind λ e11=>
 bif decide (List.length x7.2.2.2.2.2.2.2.2.2.1+List.length ([e11]:List Int)<=au)then
 some (x7.1,x7.2.1,x7.2.2.1,x7.2.2.2.1,x7.2.2.2.2.1,x7.2.2.2.2.2.1,x7.2.2.2.2.2.2.1,x7.2.2.2.2.2.2.2.1,x7.2.2.2.2.2.2.2.2.1,List.append x7.2.2.2.2.2.2.2.2.2.1 ([e11]:List Int),x7.2.2.2.2.2.2.2.2.2.2.1,x7.2.2.2.2.2.2.2.2.2.2.2.1,x7.2.2.2.2.2.2.2.2.2.2.2.2.1,x7.2.2.2.2.2.2.2.2.2.2.2.2.2)
 else none
 else none)
 else
 (some (x7.1,x7.2.1,x7.2.2.1,x7.2.2.2.1,x7.2.2.2.2.1,x7.2.2.2.2.2.1,x7.2.2.2.2.2.2.1,x7.2.2.2.2.2.2.2.1,x7.2.2.2.2.2.2.2.2.1,x7.2.2.2.2.2.2.2.2.2.1,x7.2.2.2.2.2.2.2.2.2.2.1,x7.2.2.2.2.2.2.2.2.2.2.2.1,x7.2.2.2.2.2.2.2.2.2.2.2.2.1,x7.2.2.2.2.2.2.2.2.2.2.2.2.2))).bind λ x12=>
 rec8 (x12.1,x12.2.1,x12.2.2.1,x12.2.2.2.1,x12.2.2.2.2.1,x12.2.2.2.2.2.1,x12.2.2.2.2.2.2.1,x12.2.2.2.2.2.2.2.1,x12.2.2.2.2.2.2.2.2.1,x12.2.2.2.2.2.2.2.2.2.1,x12.2.2.2.2.2.2.2.2.2.2.1,x12.2.2.2.2.2.2.2.2.2.2.2.1,x12.2.2.2.2.2.2.2.2.2.2.2.2.1,IntKind.wrap .i64 (x12.2.2.2.2.2.2.2.2.2.2.2.2.2+(1:Int))))
 else
 (some (x7.1,x7.2.1,x7.2.2.1,x7.2.2.2.1,x7.2.2.2.2.1,x7.2.2.2.2.2.1,x7.2.2.2.2.2.2.1,x7.2.2.2.2.2.2.2.1,x7.2.2.2.2.2.2.2.2.1,x7.2.2.2.2.2.2.2.2.2.1,x7.2.2.2.2.2.2.2.2.2.2.1))
def fM.L3 (x18:A21) (rec19:(A21)->Option (A28)):Option (A28):=
 bif decide (x18.2.2.2.2.2.2.2.2.2.2.2.2.2.2.2.2.2.2<x18.2.2.2.2.2.2.2.2.2.2.2.2.2.2.2.2.2.1)then
 ((nth? x18.2.2.2.2.2.2.2.2.2.2.2.2.2.2.2.2.1 x18.2.2.2.2.2.2.2.2.2.2.2.2.2.2.2.2.2.2).bind λ e20=>
 (bif x18.2.2.2.2.2.2.2.2.2.2.2.1 then
 ((nth? x18.1 e20).bind λ e21=>
 some (x18.1,x18.2.1,x18.2.2.1,x18.2.2.2.1,x18.2.2.2.2.1,x18.2.2.2.2.2.1,x18.2.2.2.2.2.2.1,x18.2.2.2.2.2.2.2.1,x18.2.2.2.2.2.2.2.2.1,x18.2.2.2.2.2.2.2.2.2.1,x18.2.2.2.2.2.2.2.2.2.2.1,e21,x18.2.2.2.2.2.2.2.2.2.2.2.2.1,e20,x18.2.2.2.2.2.2.2.2.2.2.2.2.2.1,x18.2.2.2.2.2.2.2.2.2.2.2.2.2.2.1,x18.2.2.2.2.2.2.2.2.2.2.2.2.2.2.2.1,x18.2.2.2.2.2.2.2.2.2.2.2.2.2.2.2.2.1,x18.2.2.2.2.2.2.2.2.2.2.2.2.2.2.2.2.2.1,x18.2.2.2.2.2.2.2.2.2.2.2.2.2.2.2.2.2.2))
 else
 (some (x18.1,x18.2.1,x18.2.2.1,x18.2.2.2.1,x18.2.2.2.2.1,x18.2.2.2.2.2.1,x18.2.2.2.2.2.2.1,x18.2.2.2.2.2.2.2.1,x18.2.2.2.2.2.2.2.2.1,x18.2.2.2.2.2.2.2.2.2.1,x18.2.2.2.2.2.2.2.2.2.2.1,false,x18.2.2.2.2.2.2.2.2.2.2.2.2.1,e20,x18.2.2.2.2.2.2.2.2.2.2.2.2.2.1,x18.2.2.2.2.2.2.2.2.2.2.2.2.2.2.1,x18.2.2.2.2.2.2.2.2.2.2.2.2.2.2.2.1,x18.2.2.2.2.2.2.2.2.2.2.2.2.2.2.2.2.1,x18.2.2.2.2.2.2.2.2.2.2.2.2.2.2.2.2.2.1,x18.2.2.2.2.2.2.2.2.2.2.2.2.2.2.2.2.2.2))).bind λ x22=>
 bif decide (0<=x22.2.2.2.2.2.2.2.2.2.2.2.2.2.1)&&decide (x22.2.2.2.2.2.2.2.2.2.2.2.2.2.1<((List.length x22.2.2.2.2.1:Nat):Int))then
 (at? x22.2.2.2.2.1 (Int.toNat x22.2.2.2.2.2.2.2.2.2.2.2.2.2.1)).bind λ e23=>
 bif decide (List.length x22.2.2.2.2.2.2.2.2.2.2.2.2.1+List.length ([e23]:List Int)<=au)then
 rec19 (x22.1,x22.2.1,x22.2.2.1,x22.2.2.2.1,x22.2.2.2.2.1,x22.2.2.2.2.2.1,x22.2.2.2.2.2.2.1,x22.2.2.2.2.2.2.2.1,x22.2.2.2.2.2.2.2.2.1,x22.2.2.2.2.2.2.2.2.2.1,x22.2.2.2.2.2.2.2.2.2.2.1,x22.2.2.2.2.2.2.2.2.2.2.2.1,List.append x22.2.2.2.2.2.2.2.2.2.2.2.2.1 ([e23]:List Int),x22.2.2.2.2.2.2.2.2.2.2.2.2.2.2.1,x22.2.2.2.2.2.2.2.2.2.2.2.2.2.2.2.1,x22.2.2.2.2.2.2.2.2.2.2.2.2.2.2.2.2.1,x22.2.2.2.2.2.2.2.2.2.2.2.2.2.2.2.2.2.1,x22.2.2.2.2.2.2.2.2.2.2.2.2.2.2.2.2.2.2.1,IntKind.wrap .i64 (x22.2.2.2.2.2.2.2.2.2.2.2.2.2.2.2.2.2.2.2+(1:Int)))
 else none
 else none)
 else
 (some (x18.1,x18.2.1,x18.2.2.1,x18.2.2.2.1,x18.2.2.2.2.1,x18.2.2.2.2.2.1,x18.2.2.2.2.2.2.1,x18.2.2.2.2.2.2.2.1,x18.2.2.2.2.2.2.2.2.1,x18.2.2.2.2.2.2.2.2.2.1,x18.2.2.2.2.2.2.2.2.2.2.1,x18.2.2.2.2.2.2.2.2.2.2.2.1,x18.2.2.2.2.2.2.2.2.2.2.2.2.1,x18.2.2.2.2.2.2.2.2.2.2.2.2.2.1,x18.2.2.2.2.2.2.2.2.2.2.2.2.2.2.1,x18.2.2.2.2.2.2.2.2.2.2.2.2.2.2.2.1))
def fM.L4 (n:Nat) (x14:A56) (rec15:(A56)->Option (A3)):Option (A3):=
 bif decide (x14.2.2.2.2.2.2.2.2.2.2<x14.2.2.2.2.2.2.2.2.2.1)then
 ((nth? x14.2.2.2.2.2.2.2.2.1 x14.2.2.2.2.2.2.2.2.2.2).bind λ e16=>
 (nth? x14.1 e16.2.2).bind λ e17=>
 (cu (fM.L3) n (x14.1,x14.2.1,x14.2.2.1,x14.2.2.2.1,x14.2.2.2.2.1,x14.2.2.2.2.2.1,x14.2.2.2.2.2.2.1,x14.2.2.2.2.2.2.2.1,e16.1,e16.2.1,e16.2.2,e17,([]:List Int),x14.2.2.2.2.2.2.2.2.1,x14.2.2.2.2.2.2.2.2.2.1,x14.2.2.2.2.2.2.2.2.2.2,e16.2.1,((List.length e16.2.1:Nat):Int),(0:Int))).bind λ x24=>
 (bif x24.2.2.2.2.2.2.2.2.2.2.2.1 then
 (bif decide (0<=x24.2.2.2.2.2.2.2.2.2.2.1)&&decide (x24.2.2.2.2.2.2.2.2.2.2.1<((List.length x24.2.2.2.2.1:Nat):Int))then
 (at? x24.2.2.2.2.1 (Int.toNat x24.2.2.2.2.2.2.2.2.2.2.1)).bind λ e25=>
 bif decide (List.length x24.2.2.2.2.2.2.2.1+List.length ([(x24.2.2.2.2.2.2.2.2.1,x24.2.2.2.2.2.2.2.2.2.2.2.2.1,e25)]:List Ru)<=au)then
 some (x24.1,x24.2.1,x24.2.2.1,x24.2.2.2.1,x24.2.2.2.2.1,x24.2.2.2.2.2.1,x24.2.2.2.2.2.2.1,List.append x24.2.2.2.2.2.2.2.1 ([(x24.2.2.2.2.2.2.2.2.1,x24.2.2.2.2.2.2.2.2.2.2.2.2.1,e25)]:List Ru),x24.2.2.2.2.2.2.2.2.2.2.2.2.2.1,x24.2.2.2.2.2.2.2.2.2.2.2.2.2.2.1,x24.2.2.2.2.2.2.2.2.2.2.2.2.2.2.2)
 else none
 else none)
 else
 (some (x24.1,x24.2.1,x24.2.2.1,x24.2.2.2.1,x24.2.2.2.2.1,x24.2.2.2.2.2.1,x24.2.2.2.2.2.2.1,x24.2.2.2.2.2.2.2.1,x24.2.2.2.2.2.2.2.2.2.2.2.2.2.1,x24.2.2.2.2.2.2.2.2.2.2.2.2.2.2.1,x24.2.2.2.2.2.2.2.2.2.2.2.2.2.2.2))).bind λ x26=>
 rec15 (x26.1,x26.2.1,x26.2.2.1,x26.2.2.2.1,x26.2.2.2.2.1,x26.2.2.2.2.2.1,x26.2.2.2.2.2.2.1,x26.2.2.2.2.2.2.2.1,x26.2.2.2.2.2.2.2.2.1,x26.2.2.2.2.2.2.2.2.2.1,IntKind.wrap .i64 (x26.2.2.2.2.2.2.2.2.2.2+(1:Int))))
 else
 (some (x14.2.1,x14.2.2.1,x14.2.2.2.1,x14.2.2.2.2.2.1,x14.2.2.2.2.2.2.1,x14.2.2.2.2.2.2.2.1))
def fM.P (tC:List Ru->Option LR) (n:Nat) (x:A12):Option (A0):=
 bif decide (0<=x.1)&&decide (x.1<=x.1)&&decide (x.1<=((au:Nat):Int))then
 (cu (fM.L1) n (x.2.2.2,x.1,x.2.1,x.2.2.1,(0:Int),([]:List Int),([]:List Ru),List.replicate (Int.toNat x.1) ((0:Int):Int),(0:Int),([]:List Int),([]:List Ru),x.2.2.2,((List.length x.2.2.2:Nat):Int),(0:Int))).bind λ x6=>
 (cu (fM.L2) n (x6.1,x6.2.1,x6.2.2.1,x6.2.2.2.1,x6.2.2.2.2.1,x6.2.2.2.2.2.1,x6.2.2.2.2.2.2.1,x6.2.2.2.2.2.2.2.1,x6.2.2.2.2.2.2.2.2.1,x6.2.2.2.2.2.2.2.2.2.1,x6.2.2.2.2.2.2.2.2.2.2,x6.2.2.1,((List.length x6.2.2.1:Nat):Int),(0:Int))).bind λ x13=>
 (cu (fM.L4 n) n (x13.1,x13.2.2.2.2.1,x13.2.2.2.2.2.1,x13.2.2.2.2.2.2.1,x13.2.2.2.2.2.2.2.1,x13.2.2.2.2.2.2.2.2.1,x13.2.2.2.2.2.2.2.2.2.1,x13.2.2.2.2.2.2.2.2.2.2,x13.2.2.2.1,((List.length x13.2.2.2.1:Nat):Int),(0:Int))).bind λ x27=>
 (tC x27.2.2.2.2.2).bind λ r28=>
 some (x27.2.2.2.1,x27.2.2.2.2.1,r28)
 else none
def qW.P (wI:(A12)->Option (A0)) (wL:(A0)->Option (List Bool)) (n:Nat) (x:A0):Option (A0):=
 (wL (x.1,x.2.1,x.2.2)).bind λ r1=>
 (wI (x.1,x.2.1,x.2.2,r1)).bind λ r2=>
 some (r2.1,r2.2.1,r2.2.2)
def fQ.L1 (jG:(A11)->Option Bool) (x3:A85) (rec4:(A85)->Option (Sum Unit Bool)):Option (Sum Unit Bool):=
 bif decide (x3.2.2.2<x3.2.2.1)then
 ((nth? x3.2.1 x3.2.2.2).bind λ e5=>
 (jG (x3.1,RT.a e5,RT.kids e5)).bind λ r6=>
 bif !r6 then
 ((some false).bind λ r=>some (Sum.inr r))
 else
 (rec4 (x3.1,x3.2.1,x3.2.2.1,IntKind.wrap .i64 (x3.2.2.2+(1:Int)))))
 else
 (some (Sum.inl ()))
def fQ.P (jG:(A11)->Option Bool) (n:Nat) (x:A11):Option Bool:=
 (bif decide (x.2.1<(0:Int))then
 (some (x.1,x.2.1,x.2.2,true))
 else
 (bif decide (((List.length x.1:Nat):Int)<=x.2.1)then
 (some (x.1,x.2.1,x.2.2,true))
 else
 ((nth? x.1 x.2.1).bind λ e1=>
 some (x.1,x.2.1,x.2.2, !decide (((List.length x.2.2:Nat):Int)=e1))))).bind λ x2=>
 bif x2.2.2.2 then
 (some false)
 else
 ((cu (fQ.L1 jG) n (x2.1,x2.2.2.1,((List.length x2.2.2.1:Nat):Int),(0:Int))).bind λ q=>match q with
 |Sum.inl x7=>(some true)
 |Sum.inr r=>some r)
def sJ.P (ou:(A9)->Option Bool) (gJ:List Int->Option Bool) (jG:(A11)->Option Bool) (n:Nat) (x:A11):Option Bool:=
 ((gJ x.1).bind λ r1=>
 bif r1 then
 ((ou (x.2.1,x.2.2,(300:Int))).bind λ r2=>
 bif r2 then
 ((jG (x.1,x.2.1,x.2.2)).bind λ r3=>
 some r3)
 else
 (some false))
 else
 (some false)).bind λ x4=>
 some x4
def uX.L1 (x1:A78) (rec2:(A78)->Option (Sum Unit Bool)):Option (Sum Unit Bool):=
 bif decide (x1.2.2.2<x1.2.2.1)then
 ((nth? x1.2.1 x1.2.2.2).bind λ e3=>
 bif decide (e3=x1.1)then
 ((some true).bind λ r=>some (Sum.inr r))
 else
 (rec2 (x1.1,x1.2.1,x1.2.2.1,IntKind.wrap .i64 (x1.2.2.2+(1:Int)))))
 else
 (some (Sum.inl ()))
def uX.P (n:Nat) (x:A15):Option Bool:=
 (cu (uX.L1) n (x.2,x.1,((List.length x.1:Nat):Int),(0:Int))).bind λ q=>match q with
 |Sum.inl x4=>(some false)
 |Sum.inr r=>some r
def jm.L1 (x1:A8) (rec2:(A8)->Option (A8)):Option (A8):=
 (bif decide (x1.2.2<((List.length x1.1:Nat):Int))then
 ((nth? x1.1 x1.2.2).bind λ e3=>
 some (x1.1,x1.2.1,x1.2.2,decide (e3<x1.2.1)))
 else
 (some (x1.1,x1.2.1,x1.2.2,false))).bind λ x4=>
 bif x4.2.2.2 then
 (rec2 (x4.1,x4.2.1,IntKind.wrap .i64 (x4.2.2.1+(1:Int))))
 else
 (some (x4.1,x4.2.1,x4.2.2.1))
def jm.P (n:Nat) (x:A15):Option LI:=
 (cu (jm.L1) n (x.1,x.2,(0:Int))).bind λ x5=>
 (bif decide (x5.2.2<((List.length x5.1:Nat):Int))then
 ((nth? x5.1 x5.2.2).bind λ e6=>
 some (x5.1,x5.2.1,x5.2.2,decide (e6=x5.2.1)))
 else
 (some (x5.1,x5.2.1,x5.2.2,false))).bind λ x7=>
 bif x7.2.2.2 then
 (some x7.1)
 else
 (bif decide (0<=0)&&decide (0<=x7.2.2.1)&&decide (x7.2.2.1<=((List.length x7.1:Nat):Int))then
 bif decide (List.length ([]:List Int)+List.length (List.drop (Int.toNat 0) (List.take (Int.toNat x7.2.2.1) x7.1))<=au)then
 bif decide (List.length (List.append ([]:List Int) (List.drop (Int.toNat 0) (List.take (Int.toNat x7.2.2.1) x7.1)))+List.length ([x7.2.1]:List Int)<=au)then
 bif decide (0<=x7.2.2.1)&&decide (x7.2.2.1<=((List.length x7.1:Nat):Int))&&decide (((List.length x7.1:Nat):Int)<=((List.length x7.1:Nat):Int))then
 bif decide (List.length (List.append (List.append ([]:List Int) (List.drop (Int.toNat 0) (List.take (Int.toNat x7.2.2.1) x7.1))) ([x7.2.1]:List Int))+List.length (List.drop (Int.toNat x7.2.2.1) (List.take (Int.toNat ((List.length x7.1:Nat):Int)) x7.1))<=au)then
 some (List.append (List.append (List.append ([]:List Int) (List.drop (Int.toNat 0) (List.take (Int.toNat x7.2.2.1) x7.1))) ([x7.2.1]:List Int)) (List.drop (Int.toNat x7.2.2.1) (List.take (Int.toNat ((List.length x7.1:Nat):Int)) x7.1)))
 else none
 else none
 else none
 else none
 else none)
def jk.L1 (ku:(A15)->Option Bool) (x4:A61) (rec5:(A61)->Option (A66)):Option (A66):=
 (bif x4.2.2.2.2.2.2.1 then
 (some (x4.1,x4.2.1,x4.2.2.1,x4.2.2.2.1,x4.2.2.2.2.1,x4.2.2.2.2.2.1,x4.2.2.2.2.2.2.1,x4.2.2.2.2.2.2.2.1,x4.2.2.2.2.2.2.2.2.1,x4.2.2.2.2.2.2.2.2.2.1,x4.2.2.2.2.2.2.2.2.2.2,decide (x4.2.2.2.2.2.2.2.1<((List.length x4.2.1:Nat):Int))))
 else
 (some (x4.1,x4.2.1,x4.2.2.1,x4.2.2.2.1,x4.2.2.2.2.1,x4.2.2.2.2.2.1,x4.2.2.2.2.2.2.1,x4.2.2.2.2.2.2.2.1,x4.2.2.2.2.2.2.2.2.1,x4.2.2.2.2.2.2.2.2.2.1,x4.2.2.2.2.2.2.2.2.2.2,false))).bind λ x6=>
 bif x6.2.2.2.2.2.2.2.2.2.2.2 then
 ((nth? x6.2.1 x6.2.2.2.2.2.2.2.1).bind λ e7=>
 (nth? x6.2.2.2.2.1 x6.2.2.2.2.2.2.2.1).bind λ e8=>
 (ku (e7,e8)).bind λ r9=>
 rec5 (x6.1,x6.2.1,x6.2.2.1,x6.2.2.2.1,x6.2.2.2.2.1,x6.2.2.2.2.2.1,r9,IntKind.wrap .i64 (x6.2.2.2.2.2.2.2.1+(1:Int)),x6.2.2.2.2.2.2.2.2.1,x6.2.2.2.2.2.2.2.2.2.1,x6.2.2.2.2.2.2.2.2.2.2.1))
 else
 (some (x6.1,x6.2.1,x6.2.2.1,x6.2.2.2.1,x6.2.2.2.2.1,x6.2.2.2.2.2.1,x6.2.2.2.2.2.2.1,x6.2.2.2.2.2.2.2.2.1,x6.2.2.2.2.2.2.2.2.2.1,x6.2.2.2.2.2.2.2.2.2.2.1))
def jk.L2 (ku:(A15)->Option Bool) (n:Nat) (nJ:(A15)->Option LI) (x1:A86) (rec2:(A86)->Option LI):Option LI:=
 bif decide (x1.2.2.2.2.2<x1.2.2.2.2.1)then
 ((nth? x1.2.2.2.1 x1.2.2.2.2.2).bind λ e3=>
 (cu (jk.L1 ku) n (x1.1,x1.2.1,x1.2.2.1,e3.1,e3.2.1,e3.2.2,decide (e3.1=x1.1),(0:Int),x1.2.2.2.1,x1.2.2.2.2.1,x1.2.2.2.2.2)).bind λ x10=>
 (bif x10.2.2.2.2.2.2.1 then
 ((nJ (x10.2.2.1,x10.2.2.2.2.2.1)).bind λ r11=>
 some (x10.1,x10.2.1,r11,x10.2.2.2.2.2.2.2.1,x10.2.2.2.2.2.2.2.2.1,x10.2.2.2.2.2.2.2.2.2))
 else
 (some (x10.1,x10.2.1,x10.2.2.1,x10.2.2.2.2.2.2.2.1,x10.2.2.2.2.2.2.2.2.1,x10.2.2.2.2.2.2.2.2.2))).bind λ x12=>
 rec2 (x12.1,x12.2.1,x12.2.2.1,x12.2.2.2.1,x12.2.2.2.2.1,IntKind.wrap .i64 (x12.2.2.2.2.2+(1:Int))))
 else
 (some x1.2.2.1)
def jk.P (ku:(A15)->Option Bool) (nJ:(A15)->Option LI) (n:Nat) (x:A62):Option LI:=
 (cu (jk.L2 ku n nJ) n (x.2.2.2.1,x.2.2.2.2,([]:List Int),x.2.2.1,((List.length x.2.2.1:Nat):Int),(0:Int))).bind λ x13=>
 some x13
def sQ.L1 (nK:(A6)->Option LI) (x1:A49) (rec2:(A49)->Option (A77)):Option (A77):=
 bif decide (x1.2.2.2.2.2.2.2.2<x1.2.2.2.2.2.2.2.1)then
 ((nth? x1.2.2.2.2.2.2.1 x1.2.2.2.2.2.2.2.2).bind λ e3=>
 (nK (x1.1,x1.2.1,x1.2.2.1,RT.a e3,RT.kids e3)).bind λ r4=>
 bif decide (List.length x1.2.2.2.2.2.1+List.length ([r4]:List LI)<=au)then
 rec2 (x1.1,x1.2.1,x1.2.2.1,x1.2.2.2.1,x1.2.2.2.2.1,List.append x1.2.2.2.2.2.1 ([r4]:List LI),x1.2.2.2.2.2.2.1,x1.2.2.2.2.2.2.2.1,IntKind.wrap .i64 (x1.2.2.2.2.2.2.2.2+(1:Int)))
 else none)
 else
 (some (x1.1,x1.2.1,x1.2.2.1,x1.2.2.2.1,x1.2.2.2.2.1,x1.2.2.2.2.2.1))
def sQ.P (nK:(A6)->Option LI) (wK:(A62)->Option LI) (n:Nat) (x:A6):Option LI:=
 (cu (sQ.L1 nK) n (x.1,x.2.1,x.2.2.1,x.2.2.2.1,x.2.2.2.2,([]:List LI),x.2.2.2.2,((List.length x.2.2.2.2:Nat):Int),(0:Int))).bind λ x5=>
 (wK (x5.1,x5.2.1,x5.2.2.1,x5.2.2.2.1,x5.2.2.2.2.2)).bind λ r6=>
 some r6
def oM.L1 (ku:(A15)->Option Bool) (x1:A10) (rec2:(A10)->Option (Sum Unit Bool)):Option (Sum Unit Bool):=
 bif decide (x1.2.2.2<x1.2.2.1)then
 ((nth? x1.2.1 x1.2.2.2).bind λ e3=>
 (ku (x1.1,e3)).bind λ r4=>
 bif r4 then
 ((some true).bind λ r=>some (Sum.inr r))
 else
 (rec2 (x1.1,x1.2.1,x1.2.2.1,IntKind.wrap .i64 (x1.2.2.2+(1:Int)))))
 else
 (some (Sum.inl ()))
def oM.P (ku:(A15)->Option Bool) (n:Nat) (x:A19):Option Bool:=
 (cu (oM.L1 ku) n (x.2,x.1,((List.length x.1:Nat):Int),(0:Int))).bind λ q=>match q with
 |Sum.inl x5=>(some false)
 |Sum.inr r=>some r
def EJ.P (wJ:(A19)->Option Bool) (nK:(A6)->Option LI) (n:Nat) (x:A6):Option Bool:=
 (nK (x.1,x.2.1,x.2.2.1,x.2.2.2.1,x.2.2.2.2)).bind λ r1=>
 (wJ (r1,x.2.1)).bind λ r2=>
 some r2
def pK.P (iV:Unit->Option Bool) (vI:(A53)->Option Bool) (kX:(A3)->Option Bool) (dQ:(A1)->Option (A23)) (yO:(A37)->Option (A58)) (ou:(A9)->Option Bool) (qJ:(A11)->Option Bool) (pW:(A6)->Option Bool) (yQ:(A0)->Option Bool) (qL:(A0)->Option (A0)) (qM:(A1)->Option Bool) (qN:(A1)->Option Bool) (n:Nat) (x:A20):Option Bool:=
 ((vI (x.1,([(x.2.1,x.2.2.1,x.2.2.2.1),(x.2.2.2.2.1,x.2.2.2.2.2.1,x.2.2.2.2.2.2.1)]:List (A0)))).bind λ r1=>
 bif !r1 then
 (some (x.1,x.2.1,x.2.2.1,x.2.2.2.1,x.2.2.2.2.1,x.2.2.2.2.2.1,x.2.2.2.2.2.2.1,x.2.2.2.2.2.2.2.1,x.2.2.2.2.2.2.2.2,true))
 else
 ((ou (x.2.2.2.2.2.2.2.1,x.2.2.2.2.2.2.2.2,(400:Int))).bind λ r2=>
 some (x.1,x.2.1,x.2.2.1,x.2.2.2.1,x.2.2.2.2.1,x.2.2.2.2.2.1,x.2.2.2.2.2.2.1,x.2.2.2.2.2.2.2.1,x.2.2.2.2.2.2.2.2, !r2))).bind λ x3=>
 bif x3.2.2.2.2.2.2.2.2.2 then
 ((iV ()).bind λ r4=>
 some r4)
 else
 ((dQ (x3.1,x3.2.1,x3.2.2.1,x3.2.2.2.1)).bind λ r5=>
 (dQ (x3.1,x3.2.2.2.2.1,x3.2.2.2.2.2.1,x3.2.2.2.2.2.2.1)).bind λ r6=>
 (bif !decide (r5.2.2.2=(0:Int))then
 (some (x3.1,x3.2.1,x3.2.2.1,x3.2.2.2.1,x3.2.2.2.2.1,x3.2.2.2.2.2.1,x3.2.2.2.2.2.2.1,x3.2.2.2.2.2.2.2.1,x3.2.2.2.2.2.2.2.2.1,r5.1,r5.2.1,r5.2.2.1,r6.1,r6.2.1,r6.2.2.1,true))
 else
 (some (x3.1,x3.2.1,x3.2.2.1,x3.2.2.2.1,x3.2.2.2.2.1,x3.2.2.2.2.2.1,x3.2.2.2.2.2.2.1,x3.2.2.2.2.2.2.2.1,x3.2.2.2.2.2.2.2.2.1,r5.1,r5.2.1,r5.2.2.1,r6.1,r6.2.1,r6.2.2.1, !decide (r6.2.2.2=(0:Int))))).bind λ x7=>
 bif x7.2.2.2.2.2.2.2.2.2.2.2.2.2.2.2 then
 ((iV ()).bind λ r8=>
 some r8)
 else
 (((qM (x7.1,x7.2.2.2.2.2.2.2.2.2.1,x7.2.2.2.2.2.2.2.2.2.2.1,x7.2.2.2.2.2.2.2.2.2.2.2.1)).bind λ r9=>
 bif !r9 then
 (some (x7.1,x7.2.1,x7.2.2.1,x7.2.2.2.1,x7.2.2.2.2.1,x7.2.2.2.2.2.1,x7.2.2.2.2.2.2.1,x7.2.2.2.2.2.2.2.1,x7.2.2.2.2.2.2.2.2.1,x7.2.2.2.2.2.2.2.2.2.1,x7.2.2.2.2.2.2.2.2.2.2.1,x7.2.2.2.2.2.2.2.2.2.2.2.1,x7.2.2.2.2.2.2.2.2.2.2.2.2.1,x7.2.2.2.2.2.2.2.2.2.2.2.2.2.1,x7.2.2.2.2.2.2.2.2.2.2.2.2.2.2.1,true))
 else
 ((qM (x7.1,x7.2.2.2.2.2.2.2.2.2.2.2.2.1,x7.2.2.2.2.2.2.2.2.2.2.2.2.2.1,x7.2.2.2.2.2.2.2.2.2.2.2.2.2.2.1)).bind λ r10=>
 some (x7.1,x7.2.1,x7.2.2.1,x7.2.2.2.1,x7.2.2.2.2.1,x7.2.2.2.2.2.1,x7.2.2.2.2.2.2.1,x7.2.2.2.2.2.2.2.1,x7.2.2.2.2.2.2.2.2.1,x7.2.2.2.2.2.2.2.2.2.1,x7.2.2.2.2.2.2.2.2.2.2.1,x7.2.2.2.2.2.2.2.2.2.2.2.1,x7.2.2.2.2.2.2.2.2.2.2.2.2.1,x7.2.2.2.2.2.2.2.2.2.2.2.2.2.1,x7.2.2.2.2.2.2.2.2.2.2.2.2.2.2.1, !r10))).bind λ x11=>
 bif x11.2.2.2.2.2.2.2.2.2.2.2.2.2.2.2 then
 (some false)
 else
 ((dQ (x11.1,x11.2.2.2.2.2.2.2.2.2.1,x11.2.2.2.2.2.2.2.2.2.2.1,x11.2.2.2.2.2.2.2.2.2.2.2.1)).bind λ r12=>
 (yO (x11.1,x11.2.1,x11.2.2.1,x11.2.2.2.1,x11.2.2.2.2.1,x11.2.2.2.2.2.1,x11.2.2.2.2.2.2.1)).bind λ r13=>
 (bif !decide (r12.2.2.2=(0:Int))then
 (some (x11.1,x11.2.1,x11.2.2.1,x11.2.2.2.1,x11.2.2.2.2.1,x11.2.2.2.2.2.1,x11.2.2.2.2.2.2.1,x11.2.2.2.2.2.2.2.1,x11.2.2.2.2.2.2.2.2.1,x11.2.2.2.2.2.2.2.2.2.1,x11.2.2.2.2.2.2.2.2.2.2.1,x11.2.2.2.2.2.2.2.2.2.2.2.1,x11.2.2.2.2.2.2.2.2.2.2.2.2.1,x11.2.2.2.2.2.2.2.2.2.2.2.2.2.1,x11.2.2.2.2.2.2.2.2.2.2.2.2.2.2.1,r13.1,r13.2,true))
 else
 ((kX (x11.2.2.2.2.2.2.2.2.2.1,x11.2.2.2.2.2.2.2.2.2.2.1,x11.2.2.2.2.2.2.2.2.2.2.2.1,r12.1,r12.2.1,r12.2.2.1)).bind λ r14=>
 some (x11.1,x11.2.1,x11.2.2.1,x11.2.2.2.1,x11.2.2.2.2.1,x11.2.2.2.2.2.1,x11.2.2.2.2.2.2.1,x11.2.2.2.2.2.2.2.1,x11.2.2.2.2.2.2.2.2.1,x11.2.2.2.2.2.2.2.2.2.1,x11.2.2.2.2.2.2.2.2.2.2.1,x11.2.2.2.2.2.2.2.2.2.2.2.1,x11.2.2.2.2.2.2.2.2.2.2.2.2.1,x11.2.2.2.2.2.2.2.2.2.2.2.2.2.1,x11.2.2.2.2.2.2.2.2.2.2.2.2.2.2.1,r13.1,r13.2, !r14))).bind λ x15=>
 bif x15.2.2.2.2.2.2.2.2.2.2.2.2.2.2.2.2.2 then
 (some false)
 else
 ((bif decide (x15.2.2.2.2.2.2.2.2.2.2.2.2.2.2.2.2.1=(3:Int))then
 ((qN (x15.1,x15.2.1,x15.2.2.1,x15.2.2.2.1)).bind λ r16=>
 bif !r16 then
 (some (x15.1,x15.2.1,x15.2.2.1,x15.2.2.2.1,x15.2.2.2.2.1,x15.2.2.2.2.2.1,x15.2.2.2.2.2.2.1,x15.2.2.2.2.2.2.2.1,x15.2.2.2.2.2.2.2.2.1,x15.2.2.2.2.2.2.2.2.2.1,x15.2.2.2.2.2.2.2.2.2.2.1,x15.2.2.2.2.2.2.2.2.2.2.2.1,x15.2.2.2.2.2.2.2.2.2.2.2.2.1,x15.2.2.2.2.2.2.2.2.2.2.2.2.2.1,x15.2.2.2.2.2.2.2.2.2.2.2.2.2.2.1,x15.2.2.2.2.2.2.2.2.2.2.2.2.2.2.2.1,x15.2.2.2.2.2.2.2.2.2.2.2.2.2.2.2.2.1,true))
 else
 ((qN (x15.1,x15.2.2.2.2.1,x15.2.2.2.2.2.1,x15.2.2.2.2.2.2.1)).bind λ r17=>
 some (x15.1,x15.2.1,x15.2.2.1,x15.2.2.2.1,x15.2.2.2.2.1,x15.2.2.2.2.2.1,x15.2.2.2.2.2.2.1,x15.2.2.2.2.2.2.2.1,x15.2.2.2.2.2.2.2.2.1,x15.2.2.2.2.2.2.2.2.2.1,x15.2.2.2.2.2.2.2.2.2.2.1,x15.2.2.2.2.2.2.2.2.2.2.2.1,x15.2.2.2.2.2.2.2.2.2.2.2.2.1,x15.2.2.2.2.2.2.2.2.2.2.2.2.2.1,x15.2.2.2.2.2.2.2.2.2.2.2.2.2.2.1,x15.2.2.2.2.2.2.2.2.2.2.2.2.2.2.2.1,x15.2.2.2.2.2.2.2.2.2.2.2.2.2.2.2.2.1, !r17)))
 else
 (some (x15.1,x15.2.1,x15.2.2.1,x15.2.2.2.1,x15.2.2.2.2.1,x15.2.2.2.2.2.1,x15.2.2.2.2.2.2.1,x15.2.2.2.2.2.2.2.1,x15.2.2.2.2.2.2.2.2.1,x15.2.2.2.2.2.2.2.2.2.1,x15.2.2.2.2.2.2.2.2.2.2.1,x15.2.2.2.2.2.2.2.2.2.2.2.1,x15.2.2.2.2.2.2.2.2.2.2.2.2.1,x15.2.2.2.2.2.2.2.2.2.2.2.2.2.1,x15.2.2.2.2.2.2.2.2.2.2.2.2.2.2.1,x15.2.2.2.2.2.2.2.2.2.2.2.2.2.2.2.1,x15.2.2.2.2.2.2.2.2.2.2.2.2.2.2.2.2.1,false))).bind λ x18=>
 bif x18.2.2.2.2.2.2.2.2.2.2.2.2.2.2.2.2.2 then
 ((iV ()).bind λ r19=>
 some r19)
 else
 ((bif !decide (x18.2.2.2.2.2.2.2.2.2.2.2.2.2.2.2.2.1=(0:Int))then
 (some (x18.1,x18.2.1,x18.2.2.1,x18.2.2.2.1,x18.2.2.2.2.1,x18.2.2.2.2.2.1,x18.2.2.2.2.2.2.1,x18.2.2.2.2.2.2.2.1,x18.2.2.2.2.2.2.2.2.1,x18.2.2.2.2.2.2.2.2.2.1,x18.2.2.2.2.2.2.2.2.2.2.1,x18.2.2.2.2.2.2.2.2.2.2.2.1,x18.2.2.2.2.2.2.2.2.2.2.2.2.2.2.2.1,true))
 else
 ((kX (x18.2.2.2.2.2.2.2.2.2.1,x18.2.2.2.2.2.2.2.2.2.2.1,x18.2.2.2.2.2.2.2.2.2.2.2.1,x18.2.2.2.2.2.2.2.2.2.2.2.2.1,x18.2.2.2.2.2.2.2.2.2.2.2.2.2.1,x18.2.2.2.2.2.2.2.2.2.2.2.2.2.2.1)).bind λ r20=>
 some (x18.1,x18.2.1,x18.2.2.1,x18.2.2.2.1,x18.2.2.2.2.1,x18.2.2.2.2.2.1,x18.2.2.2.2.2.2.1,x18.2.2.2.2.2.2.2.1,x18.2.2.2.2.2.2.2.2.1,x18.2.2.2.2.2.2.2.2.2.1,x18.2.2.2.2.2.2.2.2.2.2.1,x18.2.2.2.2.2.2.2.2.2.2.2.1,x18.2.2.2.2.2.2.2.2.2.2.2.2.2.2.2.1, !(x18.2.2.2.2.2.2.2.2.2.2.2.2.2.2.2.1==r20)))).bind λ x21=>
 bif x21.2.2.2.2.2.2.2.2.2.2.2.2.2 then
 (some false)
 else
 ((bif x21.2.2.2.2.2.2.2.2.2.2.2.2.1 then
 ((yQ (x21.2.2.2.2.1,x21.2.2.2.2.2.1,x21.2.2.2.2.2.2.1)).bind λ r22=>
 bif r22 then
 ((qL (x21.2.2.2.2.1,x21.2.2.2.2.2.1,x21.2.2.2.2.2.2.1)).bind λ r23=>
 some (x21.1,x21.2.1,x21.2.2.1,x21.2.2.2.1,x21.2.2.2.2.1,x21.2.2.2.2.2.1,x21.2.2.2.2.2.2.1,x21.2.2.2.2.2.2.2.1,x21.2.2.2.2.2.2.2.2.1,x21.2.2.2.2.2.2.2.2.2.1,x21.2.2.2.2.2.2.2.2.2.2.1,x21.2.2.2.2.2.2.2.2.2.2.2.1,x21.2.2.2.2.2.2.2.2.2.2.2.2.1,decide (r23.1<x21.2.2.2.2.2.2.2.2.2.1)))
 else
 (some (x21.1,x21.2.1,x21.2.2.1,x21.2.2.2.1,x21.2.2.2.2.1,x21.2.2.2.2.2.1,x21.2.2.2.2.2.2.1,x21.2.2.2.2.2.2.2.1,x21.2.2.2.2.2.2.2.2.1,x21.2.2.2.2.2.2.2.2.2.1,x21.2.2.2.2.2.2.2.2.2.2.1,x21.2.2.2.2.2.2.2.2.2.2.2.1,x21.2.2.2.2.2.2.2.2.2.2.2.2.1,false)))
 else
 (some (x21.1,x21.2.1,x21.2.2.1,x21.2.2.2.1,x21.2.2.2.2.1,x21.2.2.2.2.2.1,x21.2.2.2.2.2.2.1,x21.2.2.2.2.2.2.2.1,x21.2.2.2.2.2.2.2.2.1,x21.2.2.2.2.2.2.2.2.2.1,x21.2.2.2.2.2.2.2.2.2.2.1,x21.2.2.2.2.2.2.2.2.2.2.2.1,x21.2.2.2.2.2.2.2.2.2.2.2.2.1,false))).bind λ x24=>
 bif x24.2.2.2.2.2.2.2.2.2.2.2.2.2 then
 (some false)
 else
 ((qJ (x24.1,x24.2.2.2.2.2.2.2.1,x24.2.2.2.2.2.2.2.2.1)).bind λ r25=>
 bif !r25 then
 ((iV ()).bind λ r26=>
 some r26)
 else
 ((pW (x24.2.1,x24.2.2.1,x24.2.2.2.1,x24.2.2.2.2.2.2.2.1,x24.2.2.2.2.2.2.2.2.1)).bind λ r27=>
 (pW (x24.2.2.2.2.1,x24.2.2.2.2.2.1,x24.2.2.2.2.2.2.1,x24.2.2.2.2.2.2.2.1,x24.2.2.2.2.2.2.2.2.1)).bind λ r28=>
 ((pW (x24.2.2.2.2.2.2.2.2.2.1,x24.2.2.2.2.2.2.2.2.2.2.1,x24.2.2.2.2.2.2.2.2.2.2.2.1,x24.2.2.2.2.2.2.2.1,x24.2.2.2.2.2.2.2.2.1)).bind λ r29=>
 bif r29==r27 then
 (bif !x24.2.2.2.2.2.2.2.2.2.2.2.2.1 then
 ((iV ()).bind λ r30=>
 some r30)
 else
 (bif r27==r28 then
 ((iV ()).bind λ r31=>
 some r31)
 else
 (some false)))
 else
 (some false)).bind λ x32=>
 some x32))))))))
end Go.Bk
end
