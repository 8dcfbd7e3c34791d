import Derived.Test.YtdchbjmbgecejaaGreatDoorPt
import Derived.KernelRfl
import Derived.Test.YtdchbjmbgecejaaGreatDoorMk
set_option linter.unusedVariables false
noncomputable section
namespace Go.Proofs.YtdchbjmbgecejaaGreatDoor.Am
open Go Go.AM Go.Bk
set_option maxRecDepth 100000
variable (n:Nat)
def bG (x:LI):Option LI:=prg.run n 116 x
theorem uF (x:LI):bG (n+1) x=KU x:=Ψ
def gy (x:LI):Option ((Au)):=prg.run n 1008 x
theorem qM (x:LI):gy (n+1) x=zS x:=Ψ
def dh (x:An):Option (LI):=prg.run n 171 x
theorem ou (x:An):dh (n+1) x=ru x:=Ψ
def ji (x:LI):Option (LI):=prg.run n 78 x
theorem vW (x:LI):ji (n+1) x=VO x:=Ψ
def aI (x:List Ac):Option ((List Ac)):=prg.run n 1011 x
theorem iG (x:List Ac):aI (n+1) x=CY x:=Ψ
def fA (x:LR):Option ((LR)):=prg.run n 1006 x
theorem yQ (x:LR):fA (n+1) x=xZ x:=Ψ
def zU (x:Br):Option Bool:=prg.run n 43 x
def xG (x:Ax):Option Bool:=prg.run n 11 x
def kR (x:AC):Option Int:=prg.run n 62 x
def oZ (x:AC):Option Bool:=prg.run n 22 x
def vK (x:Unit):Option Ab:=prg.run n 45 x
def gX (x:Int):Option Bool:=prg.run n 149 x
def lD (x:LI):Option Int:=prg.run n 1001 x
def jO (x:LI):Option Bool:=prg.run n 1000 x
def fM (x:LI):Option Bool:=prg.run n 108 x
def gQ (x:Bl):Option Bool:=prg.run n 109 x
def eX (x:Aa):Option Bool:=prg.run n 60 x
def dP (x:An):Option LI:=prg.run n 137 x
def bC (x:An):Option LI:=prg.run n 96 x
def lI (x:BS):Option ByteArray:=prg.run n 125 x
def kP (x:Aa):Option AW:=prg.run n 89 x
def xB (x:Ab):Option Ab:=prg.run n 85 x
def aG (x:LI×(Option (List Ad))×Int):Option (LI×(Option (List Ad))):=prg.run n 133 x
def nU (x:Ab):Option (List Bool):=prg.run n 131 x
def lq (x:AB):Option Bool:=prg.run n 132 x
def cZ (x:Ai):Option Int:=prg.run n 1003 x
def aQ (x:Ai):Option Bool:=prg.run n 1002 x
def kQ (x:Ab):Option (List Bool):=prg.run n 92 x
def nG (x:AB):Option Bool:=prg.run n 130 x
def dB (x:Ai):Option Int:=prg.run n 1005 x
def aU (x:Ai):Option Bool:=prg.run n 1004 x
def mF (x:Int):Option Bool:=prg.run n 124 x
def eU (x:Ac):Option Int:=prg.run n 87 x
def jh (x:Au):Option Int:=prg.run n 88 x
def vJ (x:LI):Option Int:=prg.run n 86 x
def rJ (x:Al):Option Int:=prg.run n 49 x
def iR (x:Al):Option Bool:=prg.run n 139 x
def kG (x:LR):Option LR:=prg.run n 1007 x
def iH (x:LR):Option LR:=prg.run n 99 x
def nD (x:AF):Option Ab:=prg.run n 91 x
def xC (x:Aa):Option Aq:=prg.run n 74 x
def sV (x:Aa):Option LL:=prg.run n 75 x
def mG (x:LI):Option ByteArray:=prg.run n 189 x
def mJ (x:Int×LI×LR×LL×LL×(Option (List (ByteArray×Int)))×LR×Int×Int×Bool×LI):Option (Int×Int×LI×LR×LL×LL×(Option (List (ByteArray×Int)))×LR×Int×Int×Bool):=prg.run n 167 x
def dK (x:Af):Option Bool:=prg.run n 168 x
def bK (x:Int×LI×LR×LL×LL×(Option (List (ByteArray×Int)))×LR×Int×Int×Bool×Int×Int×LI×LI×Bool):Option (Int×LI×LR×LL×LL×(Option (List (ByteArray×Int)))×LR×Int×Int×Bool×LI):=prg.run n 126 x
def lM (x:Ab):Option (List Bool):=prg.run n 94 x
def jL (x:LI):Option LI:=prg.run n 127 x
def kM (x:AB):Option Bool:=prg.run n 129 x
def bZ (x:Ai):Option Int:=prg.run n 1010 x
def aK (x:Ai):Option Bool:=prg.run n 1009 x
def oH (x:Aa):Option AE:=prg.run n 90 x
def xE (x:Aa):Option Aq:=prg.run n 51 x
def uN (x:Ab):Option Ab:=prg.run n 52 x
def kJ (x:List Bool):Option Af:=prg.run n 93 x
def oG (x:BS):Option ByteArray:=prg.run n 134 x
def uO (x:Ab):Option (List (Option (List Ac))):=prg.run n 95 x
def gU (x:List ByteArray):Option Af:=prg.run n 97 x
def oI (x:Ab):Option LI:=prg.run n 53 x
def iy (x:LI):Option LI:=prg.run n 98 x
def nJ (x:Bz):Option Ab:=prg.run n 54 x
def qU (x:Ab):Option LI:=prg.run n 55 x
def jB (x:Aa):Option Aq:=prg.run n 15 x
def bQ (x:Au):Option Bool:=prg.run n 50 x
def vM (x:Ah):Option Bool:=prg.run n 14 x
def jC (x:Unit):Option Bool:=prg.run n 12 x
def kS (x:A9):Option AW:=prg.run n 113 x
def ni (x:Ao):Option Bool:=prg.run n 68 x
def yB (x:Ae):Option Int:=prg.run n 114 x
def nH (x:AO):Option (List (Option (List Bool))):=prg.run n 115 x
def sW (x:Ae):Option Af:=prg.run n 69 x
def yC (x:Ae):Option Ac:=prg.run n 27 x
def gq (x:LI):Option Bool:=prg.run n 56 x
def lQ (x:Aa):Option Bool:=prg.run n 16 x
def ku (x:Ao):Option Bool:=prg.run n 65 x
def sZ (x:Ao):Option Bool:=prg.run n 25 x
def lW (x:Ab):Option Bool:=prg.run n 23 x
def tq (x:Ab):Option (List Bool):=prg.run n 111 x
def yE (x:Ab):Option (List Bool):=prg.run n 64 x
def lu (x:A1_):Option LI:=prg.run n 151 x
def lN (x:Au):Option Int:=prg.run n 150 x
def mY (x:LR):Option LR:=prg.run n 110 x
def yD (x:AF):Option Ab:=prg.run n 63 x
def eY (x:Ab):Option Ab:=prg.run n 24 x
def gZ (x:Ac):Option Int:=prg.run n 101 x
def kU (x:Ab):Option Int:=prg.run n 58 x
def kT (x:Af):Option Int:=prg.run n 83 x
def ng (x:Af):Option Bool:=prg.run n 57 x
def o7 (x:Aa):Option Bool:=prg.run n 17 x
def qw (x:Ax):Option Bool:=prg.run n 41 x
def tu (x:Ax):Option Bool:=prg.run n 18 x
def aT (x:Ac):Option LL:=prg.run n 142 x
def fK (x:Bs):Option LL:=prg.run n 143 x
def fJ (x:Af):Option Bool:=prg.run n 105 x
def dU (x:Af):Option LI:=prg.run n 106 x
def dV (x:Ag):Option LI:=prg.run n 112 x
def dZ (x:Bs):Option Int:=prg.run n 144 x
def yF (x:Aa):Option afX:=prg.run n 141 x
def rM (x:Au):Option Bool:=prg.run n 66 x
def qV (x:Aa):Option AE:=prg.run n 102 x
def vg (x:Aa):Option Ab:=prg.run n 103 x
def fF (x:B3):Option Int:=prg.run n 180 x
def mZ (x:Aa):Option ahR:=prg.run n 145 x
def bD (x:AN):Option Int:=prg.run n 148 x
def kC (x:AP):Option Bool:=prg.run n 146 x
def o9 (x:LI):Option Int:=prg.run n 147 x
def o8 (x:Aa):Option LI:=prg.run n 104 x
def nV (x:Aa):Option Ab:=prg.run n 107 x
def lC (x:Aa):Option BD:=prg.run n 59 x
def zo (x:Aa):Option BD:=prg.run n 19 x
def qp (x:Ap):Option LI:=prg.run n 67 x
def xH (x:Ap):Option Int:=prg.run n 28 x
def zn (x:Ae):Option Bool:=prg.run n 6 x
theorem VF (x:Br):zU (n+1) x=iV.P n x:=Ψ
theorem VD (x:Ax):xG (n+1) x=L9.P (zU n) n x:=Ψ
theorem QI (x:AC):kR (n+1) x=nP.P (kR n) n x:=Ψ
theorem VE (x:AC):oZ (n+1) x=HY.P (kR n) n x:=Ψ
theorem TI (x:Unit):vK (n+1) x=O4.P n x:=Ψ
theorem uH (x:Int):gX (n+1) x=jJ.P n x:=Ψ
theorem xW (x:LI):lD (n+1) x=iI.P (gX n) n x:=Ψ
theorem uG (x:LI):jO (n+1) x=mg.P (lD n) n x:=Ψ
theorem wL (x:LI):fM (n+1) x=lV.P (jO n) n x:=Ψ
theorem FT (x:Bl):gQ (n+1) x=vG.P n x:=Ψ
theorem JF (x:Aa):eX (n+1) x=cu.P (gQ n) (fM n) n x:=Ψ
theorem oQ (x:An):dP (n+1) x=iK.P (dh n) n x:=Ψ
theorem xX (x:An):bC (n+1) x=mV.P (dP n) n x:=Ψ
theorem Py (x:BS):lI (n+1) x=uX.P (bC n) n x:=Ψ
theorem wH (x:Aa):kP (n+1) x=fU.P (eX n) (lI n) n x:=Ψ
theorem Np (x:Ab):xB (n+1) x=sJ.P (bG n) n x:=Ψ
theorem wI (x:LI×(Option (List Ad))×Int):aG (n+1) x=lJ.P n x:=Ψ
theorem Dn (x:Ab):nU (n+1) x=cO.P (aG n) n x:=Ψ
theorem En (x:AB):lq (n+1) x=wO.P n x:=Ψ
theorem jG (x:Ai):cZ (n+1) x=dD.P (lq n) n x:=Ψ
theorem iZ (x:Ai):aQ (n+1) x=fV.P (cZ n) n x:=Ψ
theorem Ih (x:Ab):kQ (n+1) x=dJ.P (aG n) (nU n) (aQ n) n x:=Ψ
theorem Ie (x:AB):nG (n+1) x=zN.P n x:=Ψ
theorem jQ (x:Ai):dB (n+1) x=dG.P (nG n) n x:=Ψ
theorem jw (x:Ai):aU (n+1) x=gK.P (dB n) n x:=Ψ
theorem Eo (x:Int):mF (n+1) x=cmp_isNaN_int.P n x:=Ψ
theorem zB (x:Ac):eU (n+1) x=cmp_Compare_int.P (mF n) n x:=Ψ
theorem sD (x:Au):jh (n+1) x=dI.P (eU n) n x:=Ψ
theorem JG (x:LI):vJ (n+1) x=oC.P n x:=Ψ
theorem JD (x:Al):rJ (n+1) x=xg.P (eU n) (vJ n) (jh n) n x:=Ψ
theorem Em (x:Al):iR (n+1) x=sK.P (rJ n) n x:=Ψ
theorem vV (x:LR):kG (n+1) x=dM.P (iR n) n x:=Ψ
theorem Ig (x:LR):iH (n+1) x=xw.P (kG n) (fA n) n x:=Ψ
theorem Nq (x:AF):nD (n+1) x=iJ.P (iH n) (aU n) n x:=Ψ
theorem Ns (x:Aa):xC (n+1) x=DF.P (nD n) (eX n) (kQ n) n x:=Ψ
theorem TF (x:Aa):sV (n+1) x=zM.P n x:=Ψ
theorem Ep (x:LI):mG (n+1) x=gY.P n x:=Ψ
theorem zC (x:Int×LI×LR×LL×LL×(Option (List (ByteArray×Int)))×LR×Int×Int×Bool×LI):mJ (n+1) x=iQ.P (mG n) n x:=Ψ
theorem wo (x:Af):dK (n+1) x=oD.P n x:=Ψ
theorem wJ (x:Int×LI×LR×LL×LL×(Option (List (ByteArray×Int)))×LR×Int×Int×Bool×Int×Int×LI×LI×Bool):bK (n+1) x=bU.P (dK n) (bK n) (mJ n) (gy n) n x:=Ψ
theorem JC (x:Ab):lM (n+1) x=oz.P n x:=Ψ
theorem Dq (x:LI):jL (n+1) x=jA.P (dK n) n x:=Ψ
theorem Dp (x:AB):kM (n+1) x=uZ.P n x:=Ψ
theorem jy (x:Ai):bZ (n+1) x=dA.P (kM n) n x:=Ψ
theorem iW (x:Ai):aK (n+1) x=fQ.P (bZ n) n x:=Ψ
theorem FV (x:Aa):oH (n+1) x=eF.P (sV n) (lM n) (iH n) (eX n) (jL n) (bK n) (aK n) n x:=Ψ
theorem Nu (x:Aa):xE (n+1) x=DN.P (xB n) (kP n) (xC n) (oH n) n x:=Ψ
theorem Nr (x:Ab):uN (n+1) x=DC.P (nD n) (kQ n) n x:=Ψ
theorem yP (x:List Bool):kJ (n+1) x=og.P n x:=Ψ
theorem Px (x:BS):oG (n+1) x=J9.P (lI n) n x:=Ψ
theorem Nv (x:Ab):uO (n+1) x=jk.P (oG n) (bG n) (aI n) n x:=Ψ
theorem wK (x:List ByteArray):gU (n+1) x=lT.P n x:=Ψ
theorem FX (x:Ab):oI (n+1) x=fB.P (lM n) (kJ n) (gU n) (uO n) (bC n) n x:=Ψ
theorem su (x:LI):iy (n+1) x=bY.P n x:=Ψ
theorem Ii (x:Bz):nJ (n+1) x=fO.P (iH n) (iy n) (ji n) n x:=Ψ
theorem FU (x:Ab):qU (n+1) x=bP.P (fA n) n x:=Ψ
theorem FW (x:Aa):jB (n+1) x=kW.P (uN n) (xE n) (qU n) (oI n) (nJ n) n x:=Ψ
theorem JH (x:Au):bQ (n+1) x=qB.P n x:=Ψ
theorem TP (x:Ah):vM (n+1) x=EU.P (bQ n) n x:=Ψ
theorem QG (x:Unit):jC (n+1) x=LZ.P (vK n) (jB n) (vM n) n x:=Ψ
theorem QS (x:A9):kS (n+1) x=nT.P (kS n) n x:=Ψ
theorem Ub (x:Ao):ni (n+1) x=EZ.P (fM n) (kS n) n x:=Ψ
theorem TG (x:Ae):yB (n+1) x=EH.P (eX n) (ni n) n x:=Ψ
theorem VB (x:AO):nH (n+1) x=jg.P (nH n) n x:=Ψ
theorem QF (x:Ae):sW (n+1) x=ny.P (sV n) (yB n) (nH n) n x:=Ψ
theorem TJ (x:Ae):yC (n+1) x=EO.P (sW n) (eX n) (jB n) (ni n) n x:=Ψ
theorem Es (x:LI):gq (n+1) x=dL.P n x:=Ψ
theorem QJ (x:Aa):lQ (n+1) x=gJ.P (gq n) n x:=Ψ
theorem Om (x:Ao):ku (n+1) x=iE.P (ku n) n x:=Ψ
theorem QH (x:Ao):sZ (n+1) x=CS.P (oZ n) (gq n) (ku n) n x:=Ψ
theorem VG (x:Ab):lW (n+1) x=oq.P (bQ n) n x:=Ψ
theorem Nw (x:Ab):tq (n+1) x=gI.P n x:=Ψ
theorem TR (x:Ab):yE (n+1) x=fP.P (tq n) n x:=Ψ
theorem VH (x:A1_):lu (n+1) x=H6.P n x:=Ψ
theorem TM (x:Au):lN (n+1) x=rW.P n x:=Ψ
theorem TQ (x:LR):mY (n+1) x=mQ.P (lN n) (lu n) n x:=Ψ
theorem TL (x:AF):yD (n+1) x=iC.P (mY n) n x:=Ψ
theorem Ny (x:Ab):eY (n+1) x=wW.P (yD n) (yE n) n x:=Ψ
theorem CW (x:Ac):gZ (n+1) x=lZ.P n x:=Ψ
theorem TS (x:Ab):kU (n+1) x=EW.P (gZ n) (eY n) n x:=Ψ
theorem TK (x:Af):kT (n+1) x=rV.P (gZ n) n x:=Ψ
theorem TU (x:Af):ng (n+1) x=EX.P (kT n) n x:=Ψ
theorem Nz (x:Aa):o7 (n+1) x=wX.P (lW n) (kU n) (ng n) n x:=Ψ
theorem QK (x:Ax):qw (n+1) x=qh.P (kT n) (lW n) (eY n) (kU n) n x:=Ψ
theorem QO (x:Ax):tu (n+1) x=CU.P (qw n) n x:=Ψ
theorem QL (x:Ac):aT (n+1) x=iM.P (aT n) n x:=Ψ
theorem Ua (x:Bs):fK (n+1) x=rZ.P n x:=Ψ
theorem XZ (x:Af):fJ (n+1) x=yL.P n x:=Ψ
theorem Oo (x:Af):dU (n+1) x=kH.P n x:=Ψ
theorem JI (x:Ag):dV (n+1) x=jU.P (fJ n) (dU n) n x:=Ψ
theorem QN (x:Bs):dZ (n+1) x=qj.P (bQ n) n x:=Ψ
theorem TW (x:Aa):yF (n+1) x=jV.P (dV n) (aT n) (fK n) (dZ n) n x:=Ψ
theorem TN (x:Au):rM (n+1) x=rX.P (fJ n) n x:=Ψ
theorem Ot (x:Aa):qV (n+1) x=gW.P (rM n) (dV n) (lQ n) (aT n) (yF n) (fK n) (dZ n) n x:=Ψ
theorem Oq (x:Aa):vg (n+1) x=gV.P (bQ n) (aT n) n x:=Ψ
theorem Gt (x:B3):fF (n+1) x=jl.P n x:=Ψ
theorem TT (x:Aa):mZ (n+1) x=jI.P (gZ n) (fF n) n x:=Ψ
theorem Ij (x:AN):bD (n+1) x=qZ.P (fF n) n x:=Ψ
theorem QM (x:AP):kC (n+1) x=iP.P (aT n) (bD n) n x:=Ψ
theorem TY (x:LI):o9 (n+1) x=rY.P (dU n) n x:=Ψ
theorem ND (x:Aa):o8 (n+1) x=dQ.P (mZ n) (kC n) (o9 n) n x:=Ψ
theorem JY (x:Aa):nV (n+1) x=aO.P (fJ n) (mY n) (aT n) (mZ n) (bD n) n x:=Ψ
theorem NC (x:Aa):lC (n+1) x=dH.P (fJ n) (dU n) (eY n) (vg n) (ng n) (nV n) (qV n) (o8 n) n x:=Ψ
theorem X3 (x:Aa):zo (n+1) x=Kz.P (lC n) n x:=Ψ
theorem X0 (x:Ap):qp (n+1) x=wV.P (qp n) (dV n) n x:=Ψ
theorem VI (x:Ap):xH (n+1) x=H7.P (qp n) n x:=Ψ
theorem I9 (x:Ae):zn (n+1) x=tK.P (jC n) (xG n) (yC n) (oZ n) (sZ n) (lQ n) (o7 n) (tu n) (zo n) (xH n) n x:=Ψ
end Go.Proofs.YtdchbjmbgecejaaGreatDoor.Am
end
