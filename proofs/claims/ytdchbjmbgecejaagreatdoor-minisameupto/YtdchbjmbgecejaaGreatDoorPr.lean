import Derived.Test.YtdchbjmbgecejaaGreatDoorPt
import Derived.KernelRfl
import Derived.Test.YtdchbjmbgecejaaGreatDoorMk
set_option linter.unusedVariables false
noncomputable section
namespace Go.Proofs.YtdchbjmbgecejaaGreatDoor.Am
open Go Go.AM Go.Bk
set_option maxRecDepth 100000
variable (n:Nat)
noncomputable def bI (x:LI):Option LI:=prg.run n 116 x
theorem uh (x:LI):bI (n+1) x=Ky x:=by kernel_rfl
noncomputable def gq (x:LI):Option ((Ao)):=prg.run n 1008 x
theorem qJ (x:LI):gq (n+1) x=zC x:=by kernel_rfl
noncomputable def dB (x:An):Option (LI):=prg.run n 171 x
theorem oh (x:An):dB (n+1) x=qX x:=by kernel_rfl
noncomputable def jl (x:LI):Option (LI):=prg.run n 78 x
theorem vK (x:LI):jl (n+1) x=Vl x:=by kernel_rfl
noncomputable def aJ (x:List Ac):Option ((List Ac)):=prg.run n 1011 x
theorem iG (x:List Ac):aJ (n+1) x=Ce x:=by kernel_rfl
noncomputable def eX (x:LR):Option ((LR)):=prg.run n 1006 x
theorem yE (x:LR):eX (n+1) x=xK x:=by kernel_rfl
noncomputable def zG (x:Bl):Option Bool:=prg.run n 43 x
noncomputable def wZ (x:Au):Option Bool:=prg.run n 11 x
noncomputable def vg (x:Unit):Option Ab:=prg.run n 45 x
noncomputable def gX (x:Int):Option Bool:=prg.run n 149 x
noncomputable def lC (x:LI):Option Int:=prg.run n 1001 x
noncomputable def jM (x:LI):Option Bool:=prg.run n 1000 x
noncomputable def jH (x:LI):Option Bool:=prg.run n 108 x
noncomputable def gJ (x:Ba):Option Bool:=prg.run n 109 x
noncomputable def fV (x:Aa):Option Bool:=prg.run n 60 x
noncomputable def dU (x:An):Option LI:=prg.run n 137 x
noncomputable def bD (x:An):Option LI:=prg.run n 96 x
noncomputable def lI (x:BK):Option ByteArray:=prg.run n 125 x
noncomputable def kP (x:Aa):Option Bh:=prg.run n 89 x
noncomputable def wW (x:Ab):Option Ab:=prg.run n 85 x
noncomputable def aH (x:LI×(Option (List Ad))×Int):Option (LI×(Option (List Ad))):=prg.run n 133 x
noncomputable def nS (x:Ab):Option (List Bool):=prg.run n 131 x
noncomputable def lq (x:Ay):Option Bool:=prg.run n 132 x
noncomputable def dA (x:Ai):Option Int:=prg.run n 1003 x
noncomputable def aS (x:Ai):Option Bool:=prg.run n 1002 x
noncomputable def kQ (x:Ab):Option (List Bool):=prg.run n 92 x
noncomputable def nH (x:Ay):Option Bool:=prg.run n 130 x
noncomputable def dG (x:Ai):Option Int:=prg.run n 1005 x
noncomputable def aV (x:Ai):Option Bool:=prg.run n 1004 x
noncomputable def mG (x:Int):Option Bool:=prg.run n 124 x
noncomputable def eP (x:Ac):Option Int:=prg.run n 87 x
noncomputable def jk (x:Ao):Option Int:=prg.run n 88 x
noncomputable def uZ (x:LI):Option Int:=prg.run n 86 x
noncomputable def lN (x:Ag):Option Int:=prg.run n 49 x
noncomputable def iT (x:Ag):Option Bool:=prg.run n 139 x
noncomputable def kG (x:LR):Option LR:=prg.run n 1007 x
noncomputable def iH (x:LR):Option LR:=prg.run n 99 x
noncomputable def nG (x:AB):Option Ab:=prg.run n 91 x
noncomputable def wX (x:Aa):Option Aq:=prg.run n 74 x
noncomputable def yV (x:Aa):Option LL:=prg.run n 75 x
noncomputable def mJ (x:LI):Option ByteArray:=prg.run n 189 x
noncomputable def mM (x:Int×LI×LR×LL×LL×(Option (List (ByteArray×Int)))×LR×Int×Int×Bool×LI):Option (Int×Int×LI×LR×LL×LL×(Option (List (ByteArray×Int)))×LR×Int×Int×Bool):=prg.run n 167 x
noncomputable def dM (x:Ah):Option Bool:=prg.run n 168 x
noncomputable def bP (x:Int×LI×LR×LL×LL×(Option (List (ByteArray×Int)))×LR×Int×Int×Bool×Int×Int×LI×LI×Bool):Option (Int×LI×LR×LL×LL×(Option (List (ByteArray×Int)))×LR×Int×Int×Bool×LI):=prg.run n 126 x
noncomputable def lM (x:Ab):Option (List Bool):=prg.run n 94 x
noncomputable def jK (x:LI):Option LI:=prg.run n 127 x
noncomputable def kM (x:Ay):Option Bool:=prg.run n 129 x
noncomputable def cO (x:Ai):Option Int:=prg.run n 1010 x
noncomputable def aN (x:Ai):Option Bool:=prg.run n 1009 x
noncomputable def oD (x:Aa):Option AA:=prg.run n 90 x
noncomputable def wY (x:Aa):Option Aq:=prg.run n 51 x
noncomputable def uz (x:Ab):Option Ab:=prg.run n 52 x
noncomputable def kJ (x:List Bool):Option Ah:=prg.run n 93 x
noncomputable def oC (x:BK):Option ByteArray:=prg.run n 134 x
noncomputable def uD (x:Ab):Option (List (Option (List Ac))):=prg.run n 95 x
noncomputable def gK (x:List ByteArray):Option Ah:=prg.run n 97 x
noncomputable def oH (x:Ab):Option LI:=prg.run n 53 x
noncomputable def iC (x:LI):Option LI:=prg.run n 98 x
noncomputable def nJ (x:Br):Option Ab:=prg.run n 54 x
noncomputable def qP (x:Ab):Option LI:=prg.run n 55 x
noncomputable def iU (x:Aa):Option Aq:=prg.run n 15 x
noncomputable def bU (x:Ao):Option Bool:=prg.run n 50 x
noncomputable def lS (x:Ae):Option Bool:=prg.run n 14 x
noncomputable def jd (x:Unit):Option Bool:=prg.run n 12 x
noncomputable def lH (x:Ao):Option Bool:=prg.run n 46 x
noncomputable def oG (x:Ag):Option Bool:=prg.run n 48 x
noncomputable def bF (x:ahe):Option Bool:=prg.run n 1012 x
noncomputable def vk (x:Ae):Option Bool:=prg.run n 13 x
noncomputable def zF (x:Af):Option Bh:=prg.run n 20 x
noncomputable def kF (x:LI):Option Bool:=prg.run n 56 x
noncomputable def kR (x:Aa):Option Bool:=prg.run n 16 x
noncomputable def lX (x:Ab):Option Bool:=prg.run n 23 x
noncomputable def sO (x:Ab):Option (List Bool):=prg.run n 111 x
noncomputable def xZ (x:Ab):Option (List Bool):=prg.run n 64 x
noncomputable def lu (x:B3):Option LI:=prg.run n 151 x
noncomputable def lQ (x:Ao):Option Int:=prg.run n 150 x
noncomputable def ni (x:LR):Option LR:=prg.run n 110 x
noncomputable def xY (x:AB):Option Ab:=prg.run n 63 x
noncomputable def eU (x:Ab):Option Ab:=prg.run n 24 x
noncomputable def gZ (x:Ac):Option Int:=prg.run n 101 x
noncomputable def kU (x:Ab):Option Int:=prg.run n 58 x
noncomputable def kT (x:Ah):Option Int:=prg.run n 83 x
noncomputable def nC (x:Ah):Option Bool:=prg.run n 57 x
noncomputable def mO (x:Aa):Option Bool:=prg.run n 17 x
noncomputable def qm (x:Au):Option Bool:=prg.run n 41 x
noncomputable def sQ (x:Au):Option Bool:=prg.run n 18 x
noncomputable def aU (x:Ac):Option LL:=prg.run n 142 x
noncomputable def fK (x:Bm):Option LL:=prg.run n 143 x
noncomputable def fG (x:Ah):Option Bool:=prg.run n 105 x
noncomputable def dW (x:Ah):Option LI:=prg.run n 106 x
noncomputable def fJ (x:Aj):Option LI:=prg.run n 112 x
noncomputable def dZ (x:Bm):Option Int:=prg.run n 144 x
noncomputable def yc (x:Aa):Option afj:=prg.run n 141 x
noncomputable def rF (x:Ao):Option Bool:=prg.run n 66 x
noncomputable def qQ (x:Aa):Option AA:=prg.run n 102 x
noncomputable def uP (x:Aa):Option Ab:=prg.run n 103 x
noncomputable def fC (x:BV):Option Int:=prg.run n 180 x
noncomputable def ny (x:Aa):Option ahb:=prg.run n 145 x
noncomputable def bG (x:AI):Option Int:=prg.run n 148 x
noncomputable def ku (x:AJ):Option Bool:=prg.run n 146 x
noncomputable def oZ (x:LI):Option Int:=prg.run n 147 x
noncomputable def oW (x:Aa):Option LI:=prg.run n 104 x
noncomputable def nT (x:Aa):Option Ab:=prg.run n 107 x
noncomputable def mP (x:Aa):Option A3_:=prg.run n 59 x
noncomputable def ql (x:Af):Option A7_:=prg.run n 61 x
noncomputable def wE (x:Af):Option A7_:=prg.run n 21 x
noncomputable def CG (x:Af):Option Bool:=prg.run n 4 x
theorem Vd (x:Bl):zG (n+1) x=iY.P n x:=by kernel_rfl
theorem U9 (x:Au):wZ (n+1) x=Lh.P (zG n) n x:=by kernel_rfl
theorem SV (x:Unit):vg (n+1) x=OB.P n x:=by kernel_rfl
theorem um (x:Int):gX (n+1) x=jJ.P n x:=by kernel_rfl
theorem xH (x:LI):lC (n+1) x=iI.P (gX n) n x:=by kernel_rfl
theorem uj (x:LI):jM (n+1) x=mD.P (lC n) n x:=by kernel_rfl
theorem wz (x:LI):jH (n+1) x=lW.P (jM n) n x:=by kernel_rfl
theorem Fh (x:Ba):gJ (n+1) x=uV.P n x:=by kernel_rfl
theorem Jm (x:Aa):fV (n+1) x=cZ.P (gJ n) (jH n) n x:=by kernel_rfl
theorem oP (x:An):dU (n+1) x=iK.P (dB n) n x:=by kernel_rfl
theorem xI (x:An):bD (n+1) x=mY.P (dU n) n x:=by kernel_rfl
theorem OV (x:BK):lI (n+1) x=uM.P (bD n) n x:=by kernel_rfl
theorem vX (x:Aa):kP (n+1) x=fQ.P (fV n) (lI n) n x:=by kernel_rfl
theorem MK (x:Ab):wW (n+1) x=sD.P (bI n) n x:=by kernel_rfl
theorem vY (x:LI×(Option (List Ad))×Int):aH (n+1) x=lJ.P n x:=by kernel_rfl
theorem CS (x:Ab):nS (n+1) x=dh.P (aH n) n x:=by kernel_rfl
theorem D9 (x:Ay):lq (n+1) x=wC.P n x:=by kernel_rfl
theorem jF (x:Ai):dA (n+1) x=dH.P (lq n) n x:=by kernel_rfl
theorem jh (x:Ai):aS (n+1) x=fU.P (dA n) n x:=by kernel_rfl
theorem Hy (x:Ab):kQ (n+1) x=dL.P (aH n) (nS n) (aS n) n x:=by kernel_rfl
theorem Hu (x:Ay):nH (n+1) x=zy.P n x:=by kernel_rfl
theorem jQ (x:Ai):dG (n+1) x=dI.P (nH n) n x:=by kernel_rfl
theorem jy (x:Ai):aV (n+1) x=gI.P (dG n) n x:=by kernel_rfl
theorem Ea (x:Int):mG (n+1) x=cmp_isNaN_int.P n x:=by kernel_rfl
theorem y9 (x:Ac):eP (n+1) x=cmp_Compare_int.P (mG n) n x:=by kernel_rfl
theorem rX (x:Ao):jk (n+1) x=dK.P (eP n) n x:=by kernel_rfl
theorem Jo (x:LI):uZ (n+1) x=ou.P n x:=by kernel_rfl
theorem Jl (x:Ag):lN (n+1) x=wP.P (eP n) (uZ n) (jk n) n x:=by kernel_rfl
theorem D8 (x:Ag):iT (n+1) x=sF.P (lN n) n x:=by kernel_rfl
theorem vJ (x:LR):kG (n+1) x=dO.P (iT n) n x:=by kernel_rfl
theorem Hw (x:LR):iH (n+1) x=wU.P (kG n) (eX n) n x:=by kernel_rfl
theorem ML (x:AB):nG (n+1) x=iJ.P (iH n) (aV n) n x:=by kernel_rfl
theorem MO (x:Aa):wX (n+1) x=Dl.P (nG n) (fV n) (kQ n) n x:=by kernel_rfl
theorem SS (x:Aa):yV (n+1) x=zx.P n x:=by kernel_rfl
theorem Eb (x:LI):mJ (n+1) x=gY.P n x:=by kernel_rfl
theorem zh (x:Int×LI×LR×LL×LL×(Option (List (ByteArray×Int)))×LR×Int×Int×Bool×LI):mM (n+1) x=iR.P (mJ n) n x:=by kernel_rfl
theorem vP (x:Ah):dM (n+1) x=oz.P n x:=by kernel_rfl
theorem vZ (x:Int×LI×LR×LL×LL×(Option (List (ByteArray×Int)))×LR×Int×Int×Bool×Int×Int×LI×LI×Bool):bP (n+1) x=bW.P (dM n) (bP n) (mM n) (gq n) n x:=by kernel_rfl
theorem Jk (x:Ab):lM (n+1) x=oq.P n x:=by kernel_rfl
theorem CW (x:LI):jK (n+1) x=jB.P (dM n) n x:=by kernel_rfl
theorem CU (x:Ay):kM (n+1) x=uO.P n x:=by kernel_rfl
theorem jA (x:Ai):cO (n+1) x=dD.P (kM n) n x:=by kernel_rfl
theorem iZ (x:Ai):aN (n+1) x=fP.P (cO n) n x:=by kernel_rfl
theorem Fp (x:Aa):oD (n+1) x=eF.P (yV n) (lM n) (iH n) (fV n) (jK n) (bP n) (aN n) n x:=by kernel_rfl
theorem MP (x:Aa):wY (n+1) x=Du.P (wW n) (kP n) (wX n) (oD n) n x:=by kernel_rfl
theorem MN (x:Ab):uz (n+1) x=Dk.P (nG n) (kQ n) n x:=by kernel_rfl
theorem yD (x:List Bool):kJ (n+1) x=nX.P n x:=by kernel_rfl
theorem OU (x:BK):oC (n+1) x=JM.P (lI n) n x:=by kernel_rfl
theorem MQ (x:Ab):uD (n+1) x=jm.P (oC n) (bI n) (aJ n) n x:=by kernel_rfl
theorem wo (x:List ByteArray):gK (n+1) x=lU.P n x:=by kernel_rfl
theorem Fv (x:Ab):oH (n+1) x=eY.P (lM n) (kJ n) (gK n) (uD n) (bD n) n x:=by kernel_rfl
theorem rW (x:LI):iC (n+1) x=bZ.P n x:=by kernel_rfl
theorem Hz (x:Br):nJ (n+1) x=fM.P (iH n) (iC n) (jl n) n x:=by kernel_rfl
theorem Fj (x:Ab):qP (n+1) x=bT.P (eX n) n x:=by kernel_rfl
theorem Fq (x:Aa):iU (n+1) x=kW.P (uz n) (wY n) (qP n) (oH n) (nJ n) n x:=by kernel_rfl
theorem Jp (x:Ao):bU (n+1) x=qw.P n x:=by kernel_rfl
theorem Jq (x:Ae):lS (n+1) x=qy.P (bU n) n x:=by kernel_rfl
theorem Ql (x:Unit):jd (n+1) x=Ld.P (vg n) (iU n) (lS n) n x:=by kernel_rfl
theorem CZ (x:Ao):lH (n+1) x=gW.P n x:=by kernel_rfl
theorem NP (x:Ag):oG (n+1) x=yj.P (lN n) n x:=by kernel_rfl
theorem iQ (x:ahe):bF (n+1) x=aA.P (oG n) n x:=by kernel_rfl
theorem SX (x:Ae):vk (n+1) x=Ey.P (bF n) (lH n) n x:=by kernel_rfl
theorem Vb (x:Af):zF (n+1) x=GU.P (fV n) (vk n) (iU n) n x:=by kernel_rfl
theorem Ec (x:LI):kF (n+1) x=dN.P n x:=by kernel_rfl
theorem Qm (x:Aa):kR (n+1) x=gB.P (kF n) n x:=by kernel_rfl
theorem Ve (x:Ab):lX (n+1) x=og.P (bU n) n x:=by kernel_rfl
theorem MR (x:Ab):sO (n+1) x=gy.P n x:=by kernel_rfl
theorem Tj (x:Ab):xZ (n+1) x=fO.P (sO n) n x:=by kernel_rfl
theorem Vf (x:B3):lu (n+1) x=Hf.P n x:=by kernel_rfl
theorem Tc (x:Ao):lQ (n+1) x=rP.P n x:=by kernel_rfl
theorem Tf (x:LR):ni (n+1) x=mX.P (lQ n) (lu n) n x:=by kernel_rfl
theorem S9 (x:AB):xY (n+1) x=iD.P (ni n) n x:=by kernel_rfl
theorem MS (x:Ab):eU (n+1) x=wK.P (xY n) (xZ n) n x:=by kernel_rfl
theorem Cb (x:Ac):gZ (n+1) x=l7.P n x:=by kernel_rfl
theorem Tm (x:Ab):kU (n+1) x=EG.P (gZ n) (eU n) n x:=by kernel_rfl
theorem SY (x:Ah):kT (n+1) x=rO.P (gZ n) n x:=by kernel_rfl
theorem Tq (x:Ah):nC (n+1) x=EH.P (kT n) n x:=by kernel_rfl
theorem MV (x:Aa):mO (n+1) x=wL.P (lX n) (kU n) (nC n) n x:=by kernel_rfl
theorem Qo (x:Au):qm (n+1) x=o9.P (kT n) (lX n) (eU n) (kU n) n x:=by kernel_rfl
theorem Qu (x:Au):sQ (n+1) x=zZ.P (qm n) n x:=by kernel_rfl
theorem Qp (x:Ac):aU (n+1) x=iM.P (aU n) n x:=by kernel_rfl
theorem TA (x:Bm):fK (n+1) x=rV.P n x:=by kernel_rfl
theorem Xw (x:Ah):fG (n+1) x=yx.P n x:=by kernel_rfl
theorem NQ (x:Ah):dW (n+1) x=kH.P n x:=by kernel_rfl
theorem Ti (x:Aj):fJ (n+1) x=jV.P (fG n) (dW n) n x:=by kernel_rfl
theorem Qr (x:Bm):dZ (n+1) x=qc.P (bU n) n x:=by kernel_rfl
theorem Tv (x:Aa):yc (n+1) x=jW.P (fJ n) (aU n) (fK n) (dZ n) n x:=by kernel_rfl
theorem Td (x:Ao):rF (n+1) x=rQ.P (fG n) n x:=by kernel_rfl
theorem NT (x:Aa):qQ (n+1) x=gV.P (rF n) (fJ n) (kR n) (aU n) (yc n) (fK n) (dZ n) n x:=by kernel_rfl
theorem NR (x:Aa):uP (n+1) x=gU.P (bU n) (aU n) n x:=by kernel_rfl
theorem F5 (x:BV):fC (n+1) x=jo.P n x:=by kernel_rfl
theorem Tn (x:Aa):ny (n+1) x=jI.P (gZ n) (fC n) n x:=by kernel_rfl
theorem HY (x:AI):bG (n+1) x=qW.P (fC n) n x:=by kernel_rfl
theorem Qq (x:AJ):ku (n+1) x=iP.P (aU n) (bG n) n x:=by kernel_rfl
theorem Tz (x:LI):oZ (n+1) x=rU.P (dW n) n x:=by kernel_rfl
theorem MX (x:Aa):oW (n+1) x=dV.P (ny n) (ku n) (oZ n) n x:=by kernel_rfl
theorem JF (x:Aa):nT (n+1) x=aP.P (fG n) (ni n) (aU n) (ny n) (bG n) n x:=by kernel_rfl
theorem MW (x:Aa):mP (n+1) x=dJ.P (fG n) (dW n) (eU n) (uP n) (nC n) (nT n) (qQ n) (oW n) n x:=by kernel_rfl
theorem Qn (x:Af):ql (n+1) x=zX.P (lS n) (mP n) n x:=by kernel_rfl
theorem Qs (x:Af):wE (n+1) x=zY.P (ql n) n x:=by kernel_rfl
theorem JD (x:Af):CG (n+1) x=uQ.P (jd n) (wZ n) (zF n) (kR n) (mO n) (wE n) (sQ n) n x:=by kernel_rfl
end Go.Proofs.YtdchbjmbgecejaaGreatDoor.Am
end
