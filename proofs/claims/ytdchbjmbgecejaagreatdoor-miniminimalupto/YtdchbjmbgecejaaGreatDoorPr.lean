import Derived.Test.YtdchbjmbgecejaaGreatDoorPt
import Derived.KernelRfl
import Derived.Test.YtdchbjmbgecejaaGreatDoorMk
set_option linter.unusedVariables false
noncomputable section
namespace Go.Proofs.YtdchbjmbgecejaaGreatDoor.Am
open Go Go.AM Go.Bk
set_option maxRecDepth 100000
variable (n:Nat)
noncomputable def bI (x:LI):Option LI:=prg.run n 116 x
theorem um (x:LI):bI (n+1) x=Ky x:=by kernel_rfl
noncomputable def gq (x:LI):Option ((Ao)):=prg.run n 1008 x
theorem qL (x:LI):gq (n+1) x=zD x:=by kernel_rfl
noncomputable def dB (x:An):Option (LI):=prg.run n 171 x
theorem ou (x:An):dB (n+1) x=qZ x:=by kernel_rfl
noncomputable def jo (x:LI):Option (LI):=prg.run n 78 x
theorem vK (x:LI):jo (n+1) x=Vp x:=by kernel_rfl
noncomputable def aJ (x:List Ac):Option ((List Ac)):=prg.run n 1011 x
theorem iI (x:List Ac):aJ (n+1) x=Cb x:=by kernel_rfl
noncomputable def fA (x:LR):Option ((LR)):=prg.run n 1006 x
theorem yD (x:LR):fA (n+1) x=xJ x:=by kernel_rfl
noncomputable def zG (x:Bl):Option Bool:=prg.run n 43 x
noncomputable def rC (x:Ap):Option Bool:=prg.run n 11 x
noncomputable def vk (x:Unit):Option Ab:=prg.run n 45 x
noncomputable def gZ (x:Int):Option Bool:=prg.run n 149 x
noncomputable def lG (x:LI):Option Int:=prg.run n 1001 x
noncomputable def jQ (x:LI):Option Bool:=prg.run n 1000 x
noncomputable def jJ (x:LI):Option Bool:=prg.run n 108 x
noncomputable def gJ (x:Bb):Option Bool:=prg.run n 109 x
noncomputable def gQ (x:Aa):Option Bool:=prg.run n 60 x
noncomputable def dU (x:An):Option LI:=prg.run n 137 x
noncomputable def bD (x:An):Option LI:=prg.run n 96 x
noncomputable def lM (x:BL):Option ByteArray:=prg.run n 125 x
noncomputable def kT (x:Aa):Option Bm:=prg.run n 89 x
noncomputable def wV (x:Ab):Option Ab:=prg.run n 85 x
noncomputable def aH (x:LI×(Option (List Ad))×Int):Option (LI×(Option (List Ad))):=prg.run n 133 x
noncomputable def nU (x:Ab):Option (List Bool):=prg.run n 131 x
noncomputable def lD (x:Ay):Option Bool:=prg.run n 132 x
noncomputable def dA (x:Ah):Option Int:=prg.run n 1003 x
noncomputable def aS (x:Ah):Option Bool:=prg.run n 1002 x
noncomputable def kU (x:Ab):Option (List Bool):=prg.run n 92 x
noncomputable def nJ (x:Ay):Option Bool:=prg.run n 130 x
noncomputable def dG (x:Ah):Option Int:=prg.run n 1005 x
noncomputable def aV (x:Ah):Option Bool:=prg.run n 1004 x
noncomputable def mM (x:Int):Option Bool:=prg.run n 124 x
noncomputable def eX (x:Ac):Option Int:=prg.run n 87 x
noncomputable def jm (x:Ao):Option Int:=prg.run n 88 x
noncomputable def vg (x:LI):Option Int:=prg.run n 86 x
noncomputable def lT (x:Af):Option Int:=prg.run n 49 x
noncomputable def iV (x:Af):Option Bool:=prg.run n 139 x
noncomputable def kL (x:LR):Option LR:=prg.run n 1007 x
noncomputable def iJ (x:LR):Option LR:=prg.run n 99 x
noncomputable def nH (x:AB):Option Ab:=prg.run n 91 x
noncomputable def wW (x:Aa):Option As:=prg.run n 74 x
noncomputable def yV (x:Aa):Option LL:=prg.run n 75 x
noncomputable def mO (x:LI):Option ByteArray:=prg.run n 189 x
noncomputable def mP (x:Int×LI×LR×LL×LL×(Option (List (ByteArray×Int)))×LR×Int×Int×Bool×LI):Option (Int×Int×LI×LR×LL×LL×(Option (List (ByteArray×Int)))×LR×Int×Int×Bool):=prg.run n 167 x
noncomputable def dM (x:Ag):Option Bool:=prg.run n 168 x
noncomputable def bP (x:Int×LI×LR×LL×LL×(Option (List (ByteArray×Int)))×LR×Int×Int×Bool×Int×Int×LI×LI×Bool):Option (Int×LI×LR×LL×LL×(Option (List (ByteArray×Int)))×LR×Int×Int×Bool×LI):=prg.run n 126 x
noncomputable def lS (x:Ab):Option (List Bool):=prg.run n 94 x
noncomputable def jM (x:LI):Option LI:=prg.run n 127 x
noncomputable def kR (x:Ay):Option Bool:=prg.run n 129 x
noncomputable def cO (x:Ah):Option Int:=prg.run n 1010 x
noncomputable def aN (x:Ah):Option Bool:=prg.run n 1009 x
noncomputable def oH (x:Aa):Option AA:=prg.run n 90 x
noncomputable def wX (x:Aa):Option As:=prg.run n 51 x
noncomputable def uF (x:Ab):Option Ab:=prg.run n 52 x
noncomputable def kN (x:List Bool):Option Ag:=prg.run n 93 x
noncomputable def oG (x:BL):Option ByteArray:=prg.run n 134 x
noncomputable def uG (x:Ab):Option (List (Option (List Ac))):=prg.run n 95 x
noncomputable def gU (x:List ByteArray):Option Ag:=prg.run n 97 x
noncomputable def oJ (x:Ab):Option LI:=prg.run n 53 x
noncomputable def iE (x:LI):Option LI:=prg.run n 98 x
noncomputable def nK (x:Bs):Option Ab:=prg.run n 54 x
noncomputable def qR (x:Ab):Option LI:=prg.run n 55 x
noncomputable def gK (x:Aa):Option As:=prg.run n 15 x
noncomputable def bU (x:Ao):Option Bool:=prg.run n 50 x
noncomputable def jO (x:Ae):Option Bool:=prg.run n 14 x
noncomputable def dV (x:Unit):Option Bool:=prg.run n 12 x
noncomputable def lK (x:Ao):Option Bool:=prg.run n 46 x
noncomputable def oI (x:Af):Option Bool:=prg.run n 48 x
noncomputable def bF (x:ahe):Option Bool:=prg.run n 1012 x
noncomputable def ni (x:Ae):Option Bool:=prg.run n 13 x
noncomputable def kJ (x:LI):Option Bool:=prg.run n 56 x
noncomputable def jh (x:Aa):Option Bool:=prg.run n 16 x
noncomputable def lZ (x:Ab):Option Bool:=prg.run n 23 x
noncomputable def sU (x:Ab):Option (List Bool):=prg.run n 111 x
noncomputable def xY (x:Ab):Option (List Bool):=prg.run n 64 x
noncomputable def lF (x:B4):Option LI:=prg.run n 151 x
noncomputable def lU (x:Ao):Option Int:=prg.run n 150 x
noncomputable def ny (x:LR):Option LR:=prg.run n 110 x
noncomputable def xX (x:AB):Option Ab:=prg.run n 63 x
noncomputable def eY (x:Ab):Option Ab:=prg.run n 24 x
noncomputable def iy (x:Ac):Option Int:=prg.run n 101 x
noncomputable def kX (x:Ab):Option Int:=prg.run n 58 x
noncomputable def kW (x:Ag):Option Int:=prg.run n 83 x
noncomputable def nD (x:Ag):Option Bool:=prg.run n 57 x
noncomputable def kK (x:Aa):Option Bool:=prg.run n 17 x
noncomputable def qo (x:Ap):Option Bool:=prg.run n 41 x
noncomputable def nM (x:Ap):Option Bool:=prg.run n 18 x
noncomputable def aU (x:Ac):Option LL:=prg.run n 142 x
noncomputable def fK (x:Bn):Option LL:=prg.run n 143 x
noncomputable def fH (x:Ag):Option Bool:=prg.run n 105 x
noncomputable def dX (x:Ag):Option LI:=prg.run n 106 x
noncomputable def fJ (x:Ai):Option LI:=prg.run n 112 x
noncomputable def eG (x:Bn):Option Int:=prg.run n 144 x
noncomputable def xZ (x:Aa):Option aff:=prg.run n 141 x
noncomputable def rJ (x:Ao):Option Bool:=prg.run n 66 x
noncomputable def qU (x:Aa):Option AA:=prg.run n 102 x
noncomputable def uS (x:Aa):Option Ab:=prg.run n 103 x
noncomputable def fE (x:BW):Option Int:=prg.run n 180 x
noncomputable def nC (x:Aa):Option aha:=prg.run n 145 x
noncomputable def bG (x:AI):Option Int:=prg.run n 148 x
noncomputable def kE (x:AJ):Option Bool:=prg.run n 146 x
noncomputable def o8 (x:LI):Option Int:=prg.run n 147 x
noncomputable def o7 (x:Aa):Option LI:=prg.run n 104 x
noncomputable def nV (x:Aa):Option Ab:=prg.run n 107 x
noncomputable def iW (x:Aa):Option A2:=prg.run n 59 x
noncomputable def yX (x:Aa):Option A2:=prg.run n 19 x
noncomputable def wY (x:Aj):Option Bool:=prg.run n 3 x
theorem Vg (x:Bl):zG (n+1) x=jd.P n x:=by kernel_rfl
theorem Vf (x:Ap):rC (n+1) x=Lj.P (zG n) n x:=by kernel_rfl
theorem SY (x:Unit):vk (n+1) x=OD.P n x:=by kernel_rfl
theorem uq (x:Int):gZ (n+1) x=jL.P n x:=by kernel_rfl
theorem xG (x:LI):lG (n+1) x=iK.P (gZ n) n x:=by kernel_rfl
theorem uo (x:LI):jQ (n+1) x=mG.P (lG n) n x:=by kernel_rfl
theorem wz (x:LI):jJ (n+1) x=lY.P (jQ n) n x:=by kernel_rfl
theorem E8 (x:Bb):gJ (n+1) x=uX.P n x:=by kernel_rfl
theorem Jk (x:Aa):gQ (n+1) x=cZ.P (gJ n) (jJ n) n x:=by kernel_rfl
theorem oU (x:An):dU (n+1) x=iM.P (dB n) n x:=by kernel_rfl
theorem xH (x:An):bD (n+1) x=mY.P (dU n) n x:=by kernel_rfl
theorem OX (x:BL):lM (n+1) x=uO.P (bD n) n x:=by kernel_rfl
theorem vX (x:Aa):kT (n+1) x=fU.P (gQ n) (lM n) n x:=by kernel_rfl
theorem MN (x:Ab):wV (n+1) x=sH.P (bI n) n x:=by kernel_rfl
theorem vY (x:LI×(Option (List Ad))×Int):aH (n+1) x=lN.P n x:=by kernel_rfl
theorem CO (x:Ab):nU (n+1) x=dh.P (aH n) n x:=by kernel_rfl
theorem DZ (x:Ay):lD (n+1) x=wC.P n x:=by kernel_rfl
theorem jH (x:Ah):dA (n+1) x=dH.P (lD n) n x:=by kernel_rfl
theorem jk (x:Ah):aS (n+1) x=fV.P (dA n) n x:=by kernel_rfl
theorem Ht (x:Ab):kU (n+1) x=dL.P (aH n) (nU n) (aS n) n x:=by kernel_rfl
theorem Hq (x:Ay):nJ (n+1) x=zA.P n x:=by kernel_rfl
theorem jT (x:Ah):dG (n+1) x=dI.P (nJ n) n x:=by kernel_rfl
theorem jB (x:Ah):aV (n+1) x=gI.P (dG n) n x:=by kernel_rfl
theorem D5 (x:Int):mM (n+1) x=cmp_isNaN_int.P n x:=by kernel_rfl
theorem zh (x:Ac):eX (n+1) x=cmp_Compare_int.P (mM n) n x:=by kernel_rfl
theorem su (x:Ao):jm (n+1) x=dK.P (eX n) n x:=by kernel_rfl
theorem Jl (x:LI):vg (n+1) x=oC.P n x:=by kernel_rfl
theorem Jj (x:Af):lT (n+1) x=wO.P (eX n) (vg n) (jm n) n x:=by kernel_rfl
theorem DY (x:Af):iV (n+1) x=sJ.P (lT n) n x:=by kernel_rfl
theorem vJ (x:LR):kL (n+1) x=dO.P (iV n) n x:=by kernel_rfl
theorem Hr (x:LR):iJ (n+1) x=wS.P (kL n) (fA n) n x:=by kernel_rfl
theorem MO (x:AB):nH (n+1) x=iL.P (iJ n) (aV n) n x:=by kernel_rfl
theorem MQ (x:Aa):wW (n+1) x=Di.P (nH n) (gQ n) (kU n) n x:=by kernel_rfl
theorem SX (x:Aa):yV (n+1) x=zy.P n x:=by kernel_rfl
theorem D6 (x:LI):mO (n+1) x=iq.P n x:=by kernel_rfl
theorem zi (x:Int×LI×LR×LL×LL×(Option (List (ByteArray×Int)))×LR×Int×Int×Bool×LI):mP (n+1) x=iU.P (mO n) n x:=by kernel_rfl
theorem vP (x:Ag):dM (n+1) x=oD.P n x:=by kernel_rfl
theorem vZ (x:Int×LI×LR×LL×LL×(Option (List (ByteArray×Int)))×LR×Int×Int×Bool×Int×Int×LI×LI×Bool):bP (n+1) x=bY.P (dM n) (bP n) (mP n) (gq n) n x:=by kernel_rfl
theorem Ji (x:Ab):lS (n+1) x=oz.P n x:=by kernel_rfl
theorem CQ (x:LI):jM (n+1) x=jD.P (dM n) n x:=by kernel_rfl
theorem CP (x:Ay):kR (n+1) x=uQ.P n x:=by kernel_rfl
theorem jC (x:Ah):cO (n+1) x=dD.P (kR n) n x:=by kernel_rfl
theorem jg (x:Ah):aN (n+1) x=fQ.P (cO n) n x:=by kernel_rfl
theorem Fb (x:Aa):oH (n+1) x=eH.P (yV n) (lS n) (iJ n) (gQ n) (jM n) (bP n) (aN n) n x:=by kernel_rfl
theorem MR (x:Aa):wX (n+1) x=Dp.P (wV n) (kT n) (wW n) (oH n) n x:=by kernel_rfl
theorem MP (x:Ab):uF (n+1) x=Dh.P (nH n) (kU n) n x:=by kernel_rfl
theorem yC (x:List Bool):kN (n+1) x=og.P n x:=by kernel_rfl
theorem OW (x:BL):oG (n+1) x=JL.P (lM n) n x:=by kernel_rfl
theorem MS (x:Ab):uG (n+1) x=jq.P (oG n) (bI n) (aJ n) n x:=by kernel_rfl
theorem wo (x:List ByteArray):gU (n+1) x=lW.P n x:=by kernel_rfl
theorem Fg (x:Ab):oJ (n+1) x=fB.P (lS n) (kN n) (gU n) (uG n) (bD n) n x:=by kernel_rfl
theorem rZ (x:LI):iE (n+1) x=cu.P n x:=by kernel_rfl
theorem Hu (x:Bs):nK (n+1) x=fO.P (iJ n) (iE n) (jo n) n x:=by kernel_rfl
theorem Fa (x:Ab):qR (n+1) x=bT.P (fA n) n x:=by kernel_rfl
theorem Fe (x:Aa):gK (n+1) x=kZ.P (uF n) (wX n) (qR n) (oJ n) (nK n) n x:=by kernel_rfl
theorem Jm (x:Ao):bU (n+1) x=qA.P n x:=by kernel_rfl
theorem Jo (x:Ae):jO (n+1) x=qB.P (bU n) n x:=by kernel_rfl
theorem Qp (x:Unit):dV (n+1) x=Lh.P (vk n) (gK n) (jO n) n x:=by kernel_rfl
theorem CW (x:Ao):lK (n+1) x=gY.P n x:=by kernel_rfl
theorem NT (x:Af):oI (n+1) x=yh.P (lT n) n x:=by kernel_rfl
theorem iT (x:ahe):bF (n+1) x=aA.P (oI n) n x:=by kernel_rfl
theorem S9 (x:Ae):ni (n+1) x=Ep.P (bF n) (lK n) n x:=by kernel_rfl
theorem D7 (x:LI):kJ (n+1) x=dN.P n x:=by kernel_rfl
theorem Qq (x:Aa):jh (n+1) x=gB.P (kJ n) n x:=by kernel_rfl
theorem Vh (x:Ab):lZ (n+1) x=oq.P (bU n) n x:=by kernel_rfl
theorem MV (x:Ab):sU (n+1) x=gy.P n x:=by kernel_rfl
theorem Tn (x:Ab):xY (n+1) x=fP.P (sU n) n x:=by kernel_rfl
theorem Vj (x:B4):lF (n+1) x=G8.P n x:=by kernel_rfl
theorem Tf (x:Ao):lU (n+1) x=rV.P n x:=by kernel_rfl
theorem Tj (x:LR):ny (n+1) x=mX.P (lU n) (lF n) n x:=by kernel_rfl
theorem Td (x:AB):xX (n+1) x=iF.P (ny n) n x:=by kernel_rfl
theorem MW (x:Ab):eY (n+1) x=wJ.P (xX n) (xY n) n x:=by kernel_rfl
theorem zY (x:Ac):iy (n+1) x=mg.P n x:=by kernel_rfl
theorem Tq (x:Ab):kX (n+1) x=Ey.P (iy n) (eY n) n x:=by kernel_rfl
theorem Tc (x:Ag):kW (n+1) x=rU.P (iy n) n x:=by kernel_rfl
theorem Tz (x:Ag):nD (n+1) x=Ez.P (kW n) n x:=by kernel_rfl
theorem MX (x:Aa):kK (n+1) x=wK.P (lZ n) (kX n) (nD n) n x:=by kernel_rfl
theorem Qr (x:Ap):qo (n+1) x=qg.P (kW n) (lZ n) (eY n) (kX n) n x:=by kernel_rfl
theorem Qw (x:Ap):nM (n+1) x=zX.P (qo n) n x:=by kernel_rfl
theorem Qs (x:Ac):aU (n+1) x=iQ.P (aU n) n x:=by kernel_rfl
theorem TD (x:Bn):fK (n+1) x=rY.P n x:=by kernel_rfl
theorem Xw (x:Ag):fH (n+1) x=yw.P n x:=by kernel_rfl
theorem NU (x:Ag):dX (n+1) x=kM.P n x:=by kernel_rfl
theorem Tm (x:Ai):fJ (n+1) x=jY.P (fH n) (dX n) n x:=by kernel_rfl
theorem Qv (x:Bn):eG (n+1) x=qh.P (bU n) n x:=by kernel_rfl
theorem TA (x:Aa):xZ (n+1) x=jZ.P (fJ n) (aU n) (fK n) (eG n) n x:=by kernel_rfl
theorem Ti (x:Ao):rJ (n+1) x=rW.P (fH n) n x:=by kernel_rfl
theorem NW (x:Aa):qU (n+1) x=gX.P (rJ n) (fJ n) (jh n) (aU n) (xZ n) (fK n) (eG n) n x:=by kernel_rfl
theorem NV (x:Aa):uS (n+1) x=gW.P (bU n) (aU n) n x:=by kernel_rfl
theorem FY (x:BW):fE (n+1) x=jv.P n x:=by kernel_rfl
theorem Tv (x:Aa):nC (n+1) x=jK.P (iy n) (fE n) n x:=by kernel_rfl
theorem Hw (x:AI):bG (n+1) x=qY.P (fE n) n x:=by kernel_rfl
theorem Qu (x:AJ):kE (n+1) x=iR.P (aU n) (bG n) n x:=by kernel_rfl
theorem TB (x:LI):o8 (n+1) x=rX.P (dX n) n x:=by kernel_rfl
theorem Na (x:Aa):o7 (n+1) x=dW.P (nC n) (kE n) (o8 n) n x:=by kernel_rfl
theorem JD (x:Aa):nV (n+1) x=aP.P (fH n) (ny n) (aU n) (nC n) (bG n) n x:=by kernel_rfl
theorem MZ (x:Aa):iW (n+1) x=dJ.P (fH n) (dX n) (eY n) (uS n) (nD n) (nV n) (qU n) (o7 n) n x:=by kernel_rfl
theorem Xx (x:Aa):yX (n+1) x=JX.P (iW n) n x:=by kernel_rfl
theorem FX (x:Aj):wY (n+1) x=qp.P (dV n) (rC n) (ni n) (gK n) (jO n) (jh n) (kK n) (nM n) (yX n) n x:=by kernel_rfl
end Go.Proofs.YtdchbjmbgecejaaGreatDoor.Am
end
