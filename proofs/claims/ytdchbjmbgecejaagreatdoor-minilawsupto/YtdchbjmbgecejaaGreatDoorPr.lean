import Derived.Test.YtdchbjmbgecejaaGreatDoorPt
import Derived.KernelRfl
import Derived.Test.YtdchbjmbgecejaaGreatDoorMk
set_option linter.unusedVariables false
noncomputable section
namespace Go.Proofs.YtdchbjmbgecejaaGreatDoor.Am
open Go Go.AM Go.Bk
set_option maxRecDepth 100000
abbrev TY:Nat:=43
abbrev TS:Nat:=11
abbrev Ou:Nat:=62
abbrev TW:Nat:=22
abbrev QB:Nat:=45
abbrev zQ:Nat:=149
abbrev DK:Nat:=1001
abbrev zN:Nat:=1000
abbrev CQ:Nat:=108
abbrev Ld:Nat:=109
abbrev Qz:Nat:=60
abbrev um:Nat:=171
abbrev uQ:Nat:=137
abbrev DL:Nat:=96
abbrev WJ:Nat:=125
abbrev CG:Nat:=89
abbrev zM:Nat:=116
abbrev TM:Nat:=85
abbrev CJ:Nat:=133
abbrev Hq:Nat:=131
abbrev Jl:Nat:=132
abbrev mP:Nat:=1003
abbrev lH:Nat:=1002
abbrev Om:Nat:=92
abbrev Oj:Nat:=130
abbrev nS:Nat:=1005
abbrev lZ:Nat:=1004
abbrev Eo:Nat:=1006
abbrev Jm:Nat:=124
abbrev Fv:Nat:=87
abbrev yj:Nat:=88
abbrev QA:Nat:=86
abbrev Qy:Nat:=49
abbrev Jk:Nat:=139
abbrev Ak:Nat:=1007
abbrev Ol:Nat:=99
abbrev TN:Nat:=91
abbrev TQ:Nat:=74
abbrev Yl:Nat:=75
abbrev wF:Nat:=1008
abbrev Jo:Nat:=189
abbrev FB:Nat:=167
abbrev Hu:Nat:=168
abbrev CO:Nat:=126
abbrev Qx:Nat:=94
abbrev Ht:Nat:=127
abbrev Hr:Nat:=129
abbrev l7:Nat:=1010
abbrev lD:Nat:=1009
abbrev Lj:Nat:=90
abbrev TR:Nat:=51
abbrev TP:Nat:=52
abbrev En:Nat:=93
abbrev WI:Nat:=134
abbrev kQ:Nat:=1011
abbrev TU:Nat:=95
abbrev CP:Nat:=97
abbrev Lr:Nat:=53
abbrev Ap:Nat:=78
abbrev yh:Nat:=98
abbrev Oq:Nat:=54
abbrev Lh:Nat:=55
abbrev Lm:Nat:=15
abbrev QD:Nat:=50
abbrev QH:Nat:=14
abbrev Oo:Nat:=12
abbrev Aj:Nat:=56
abbrev Ov:Nat:=16
abbrev zO:Nat:=46
abbrev Ll:Nat:=48
abbrev gZ:Nat:=1012
abbrev QC:Nat:=13
abbrev TT:Nat:=20
abbrev Ub:Nat:=23
abbrev Jp:Nat:=111
abbrev QK:Nat:=64
abbrev Uc:Nat:=151
abbrev QF:Nat:=150
abbrev QI:Nat:=110
abbrev QE:Nat:=63
abbrev Jq:Nat:=24
abbrev Jr:Nat:=17
abbrev Lu:Nat:=65
abbrev Ot:Nat:=25
abbrev WL:Nat:=105
abbrev LC:Nat:=106
abbrev QJ:Nat:=112
abbrev WM:Nat:=67
abbrev QG:Nat:=66
abbrev Ua:Nat:=26
abbrev Hw:Nat:=5
theorem Tv (n:Nat) (f:prg.Fs) (x:A26):prg.phi 43 n f x=Go.Bk.gV.P n x:=by kernel_rfl
theorem Tj (n:Nat) (f:prg.Fs) (x:A53):prg.phi 11 n f x=Go.Bk.Et.P (f 43) n x:=by kernel_rfl
theorem NZ (n:Nat) (f:prg.Fs) (x:A9):prg.phi 62 n f x=Go.Bk.kL.P (f 62) n x:=by kernel_rfl
theorem Tq (n:Nat) (f:prg.Fs) (x:A9):prg.phi 22 n f x=Go.Bk.EI.P (f 62) n x:=by kernel_rfl
theorem Qb (n:Nat) (f:prg.Fs) (x:Unit):prg.phi 45 n f x=Go.Bk.FC.P n x:=by kernel_rfl
theorem zJ (n:Nat) (f:prg.Fs) (x:Int):prg.phi 149 n f x=Go.Bk.gX.P n x:=by kernel_rfl
theorem Dy (n:Nat) (f:prg.Fs) (x:List Int):prg.phi 1001 n f x=Go.Bk.fO.P (f 149) n x:=by kernel_rfl
theorem zH (n:Nat) (f:prg.Fs) (x:List Int):prg.phi 1000 n f x=Go.Bk.jW.P (f 1001) n x:=by kernel_rfl
theorem Cm (n:Nat) (f:prg.Fs) (x:List Int):prg.phi 108 n f x=Go.Bk.jS.P (f 1000) n x:=by kernel_rfl
theorem KO (n:Nat) (f:prg.Fs) (x:A43):prg.phi 109 n f x=Go.Bk.qj.P n x:=by kernel_rfl
theorem P9 (n:Nat) (f:prg.Fs) (x:A1):prg.phi 60 n f x=Go.Bk.bU.P (f 109) (f 108) n x:=by kernel_rfl
theorem uP (n:Nat) (f:prg.Fs) (x:A8):prg.phi 137 n f x=Go.Bk.fG.P (f 171) n x:=by kernel_rfl
theorem Dz (n:Nat) (f:prg.Fs) (x:A8):prg.phi 96 n f x=Go.Bk.kD.P (f 137) n x:=by kernel_rfl
theorem Wx (n:Nat) (f:prg.Fs) (x:A65):prg.phi 125 n f x=Go.Bk.qC.P (f 96) n x:=by kernel_rfl
theorem Cc (n:Nat) (f:prg.Fs) (x:A1):prg.phi 89 n f x=Go.Bk.dW.P (f 60) (f 125) n x:=by kernel_rfl
theorem S9 (n:Nat) (f:prg.Fs) (x:A0):prg.phi 85 n f x=Go.Bk.pG.P (f 116) n x:=by kernel_rfl
theorem Ce (n:Nat) (f:prg.Fs) (x:LI×(Option (List (A4)))×Int):prg.phi 133 n f x=Go.Bk.jM.P n x:=by kernel_rfl
theorem G5 (n:Nat) (f:prg.Fs) (x:A0):prg.phi 131 n f x=Go.Bk.bT.P (f 133) n x:=by kernel_rfl
theorem IY (n:Nat) (f:prg.Fs) (x:A14):prg.phi 132 n f x=Go.Bk.qE.P n x:=by kernel_rfl
theorem mD (n:Nat) (f:prg.Fs) (x:A5):prg.phi 1003 n f x=Go.Bk.bQ.P (f 132) n x:=by kernel_rfl
theorem lF (n:Nat) (f:prg.Fs) (x:A5):prg.phi 1002 n f x=Go.Bk.dI.P (f 1003) n x:=by kernel_rfl
theorem NU (n:Nat) (f:prg.Fs) (x:A0):prg.phi 92 n f x=Go.Bk.dB.P (f 133) (f 131) (f 1002) n x:=by kernel_rfl
theorem NR (n:Nat) (f:prg.Fs) (x:A14):prg.phi 130 n f x=Go.Bk.vC.P n x:=by kernel_rfl
theorem nR (n:Nat) (f:prg.Fs) (x:A5):prg.phi 1005 n f x=Go.Bk.bV.P (f 130) n x:=by kernel_rfl
theorem lW (n:Nat) (f:prg.Fs) (x:A5):prg.phi 1004 n f x=Go.Bk.dN.P (f 1005) n x:=by kernel_rfl
theorem IZ (n:Nat) (f:prg.Fs) (x:Int):prg.phi 124 n f x=Go.Bk.cmp_isNaN_int.P n x:=by kernel_rfl
theorem Fa (n:Nat) (f:prg.Fs) (x:A7):prg.phi 87 n f x=Go.Bk.cmp_Compare_int.P (f 124) n x:=by kernel_rfl
theorem xU (n:Nat) (f:prg.Fs) (x:A19):prg.phi 88 n f x=Go.Bk.cZ.P (f 87) n x:=by kernel_rfl
theorem Qa (n:Nat) (f:prg.Fs) (x:List Int):prg.phi 86 n f x=Go.Bk.lK.P n x:=by kernel_rfl
theorem P8 (n:Nat) (f:prg.Fs) (x:A2):prg.phi 49 n f x=Go.Bk.rU.P (f 87) (f 86) (f 88) n x:=by kernel_rfl
theorem IX (n:Nat) (f:prg.Fs) (x:A2):prg.phi 139 n f x=Go.Bk.oI.P (f 49) n x:=by kernel_rfl
theorem Ac (n:Nat) (f:prg.Fs) (x:List Ru):prg.phi 1007 n f x=Go.Bk.dA.P (f 139) n x:=by kernel_rfl
theorem NT (n:Nat) (f:prg.Fs) (x:List Ru):prg.phi 99 n f x=Go.Bk.rV.P (f 1007) (f 1006) n x:=by kernel_rfl
theorem Tc (n:Nat) (f:prg.Fs) (x:A12):prg.phi 91 n f x=Go.Bk.gu.P (f 99) (f 1004) n x:=by kernel_rfl
theorem Tf (n:Nat) (f:prg.Fs) (x:A1):prg.phi 74 n f x=Go.Bk.xO.P (f 91) (f 60) (f 92) n x:=by kernel_rfl
theorem X8 (n:Nat) (f:prg.Fs) (x:A1):prg.phi 75 n f x=Go.Bk.xA.P n x:=by kernel_rfl
theorem I4 (n:Nat) (f:prg.Fs) (x:List Int):prg.phi 189 n f x=Go.Bk.fJ.P n x:=by kernel_rfl
theorem Fb (n:Nat) (f:prg.Fs) (x:Int×LI×LR×LL×LL×(Option (List (ByteArray×Int)))×LR×Int×Int×Bool×LI):prg.phi 167 n f x=Go.Bk.gB.P (f 189) n x:=by kernel_rfl
theorem G8 (n:Nat) (f:prg.Fs) (x:A15):prg.phi 168 n f x=Go.Bk.lq.P n x:=by kernel_rfl
theorem Ci (n:Nat) (f:prg.Fs) (x:Int×LI×LR×LL×LL×(Option (List (ByteArray×Int)))×LR×Int×Int×Bool×Int×Int×LI×LI×Bool):prg.phi 126 n f x=Go.Bk.bJ.P (f 168) (f 126) (f 167) (f 1008) n x:=by kernel_rfl
theorem P7 (n:Nat) (f:prg.Fs) (x:A0):prg.phi 94 n f x=Go.Bk.lJ.P n x:=by kernel_rfl
theorem G7 (n:Nat) (f:prg.Fs) (x:List Int):prg.phi 127 n f x=Go.Bk.iq.P (f 168) n x:=by kernel_rfl
theorem G6 (n:Nat) (f:prg.Fs) (x:A14):prg.phi 129 n f x=Go.Bk.pI.P n x:=by kernel_rfl
theorem lX (n:Nat) (f:prg.Fs) (x:A5):prg.phi 1010 n f x=Go.Bk.bM.P (f 129) n x:=by kernel_rfl
theorem lu (n:Nat) (f:prg.Fs) (x:A5):prg.phi 1009 n f x=Go.Bk.dF.P (f 1010) n x:=by kernel_rfl
theorem KQ (n:Nat) (f:prg.Fs) (x:A1):prg.phi 90 n f x=Go.Bk.dL.P (f 75) (f 94) (f 99) (f 60) (f 127) (f 126) (f 1009) n x:=by kernel_rfl
theorem Ti (n:Nat) (f:prg.Fs) (x:A1):prg.phi 51 n f x=Go.Bk.xP.P (f 85) (f 89) (f 74) (f 90) n x:=by kernel_rfl
theorem Td (n:Nat) (f:prg.Fs) (x:A0):prg.phi 52 n f x=Go.Bk.xM.P (f 91) (f 92) n x:=by kernel_rfl
theorem Ec (n:Nat) (f:prg.Fs) (x:List Bool):prg.phi 93 n f x=Go.Bk.kS.P n x:=by kernel_rfl
theorem Wv (n:Nat) (f:prg.Fs) (x:A65):prg.phi 134 n f x=Go.Bk.D6.P (f 125) n x:=by kernel_rfl
theorem Tn (n:Nat) (f:prg.Fs) (x:A0):prg.phi 95 n f x=Go.Bk.iD.P (f 134) (f 116) (f 1011) n x:=by kernel_rfl
theorem Cj (n:Nat) (f:prg.Fs) (x:List ByteArray):prg.phi 97 n f x=Go.Bk.jP.P n x:=by kernel_rfl
theorem KU (n:Nat) (f:prg.Fs) (x:A0):prg.phi 53 n f x=Go.Bk.dP.P (f 94) (f 93) (f 97) (f 95) (f 96) n x:=by kernel_rfl
theorem xR (n:Nat) (f:prg.Fs) (x:List Int):prg.phi 98 n f x=Go.Bk.bP.P n x:=by kernel_rfl
theorem NW (n:Nat) (f:prg.Fs) (x:A60):prg.phi 54 n f x=Go.Bk.eF.P (f 99) (f 98) (f 78) n x:=by kernel_rfl
theorem KP (n:Nat) (f:prg.Fs) (x:A0):prg.phi 55 n f x=Go.Bk.bH.P (f 1006) n x:=by kernel_rfl
theorem KT (n:Nat) (f:prg.Fs) (x:A1):prg.phi 15 n f x=Go.Bk.jL.P (f 52) (f 51) (f 55) (f 53) (f 54) n x:=by kernel_rfl
theorem Qd (n:Nat) (f:prg.Fs) (x:A19):prg.phi 50 n f x=Go.Bk.nM.P n x:=by kernel_rfl
theorem Qi (n:Nat) (f:prg.Fs) (x:A3):prg.phi 14 n f x=Go.Bk.yx.P (f 50) n x:=by kernel_rfl
theorem NV (n:Nat) (f:prg.Fs) (x:Unit):prg.phi 12 n f x=Go.Bk.DR.P (f 45) (f 15) (f 14) n x:=by kernel_rfl
theorem Aa (n:Nat) (f:prg.Fs) (x:List Int):prg.phi 56 n f x=Go.Bk.dh.P n x:=by kernel_rfl
theorem N7 (n:Nat) (f:prg.Fs) (x:A1):prg.phi 16 n f x=Go.Bk.fA.P (f 56) n x:=by kernel_rfl
theorem zI (n:Nat) (f:prg.Fs) (x:A19):prg.phi 46 n f x=Go.Bk.eY.P n x:=by kernel_rfl
theorem KR (n:Nat) (f:prg.Fs) (x:A2):prg.phi 48 n f x=Go.Bk.tV.P (f 49) n x:=by kernel_rfl
theorem gY (n:Nat) (f:prg.Fs) (x:A91):prg.phi 1012 n f x=Go.Bk.ay.P (f 48) n x:=by kernel_rfl
theorem Qc (n:Nat) (f:prg.Fs) (x:A3):prg.phi 13 n f x=Go.Bk.yt.P (f 1012) (f 46) n x:=by kernel_rfl
theorem Tm (n:Nat) (f:prg.Fs) (x:A37):prg.phi 20 n f x=Go.Bk.Az.P (f 60) (f 13) (f 15) n x:=by kernel_rfl
theorem TA (n:Nat) (f:prg.Fs) (x:A0):prg.phi 23 n f x=Go.Bk.lV.P (f 50) n x:=by kernel_rfl
theorem I5 (n:Nat) (f:prg.Fs) (x:A0):prg.phi 111 n f x=Go.Bk.eX.P n x:=by kernel_rfl
theorem Ql (n:Nat) (f:prg.Fs) (x:A0):prg.phi 64 n f x=Go.Bk.eP.P (f 111) n x:=by kernel_rfl
theorem TB (n:Nat) (f:prg.Fs) (x:A74):prg.phi 151 n f x=Go.Bk.AZ.P n x:=by kernel_rfl
theorem Qg (n:Nat) (f:prg.Fs) (x:A19):prg.phi 150 n f x=Go.Bk.oL.P n x:=by kernel_rfl
theorem Qj (n:Nat) (f:prg.Fs) (x:List Ru):prg.phi 110 n f x=Go.Bk.kT.P (f 150) (f 151) n x:=by kernel_rfl
theorem Qe (n:Nat) (f:prg.Fs) (x:A12):prg.phi 63 n f x=Go.Bk.fM.P (f 110) n x:=by kernel_rfl
theorem I7 (n:Nat) (f:prg.Fs) (x:A0):prg.phi 24 n f x=Go.Bk.qW.P (f 63) (f 64) n x:=by kernel_rfl
theorem KW (n:Nat) (f:prg.Fs) (x:A11):prg.phi 65 n f x=Go.Bk.fQ.P (f 65) n x:=by kernel_rfl
theorem NY (n:Nat) (f:prg.Fs) (x:A11):prg.phi 25 n f x=Go.Bk.sJ.P (f 22) (f 56) (f 65) n x:=by kernel_rfl
theorem Wy (n:Nat) (f:prg.Fs) (x:A15):prg.phi 105 n f x=Go.Bk.uX.P n x:=by kernel_rfl
theorem KX (n:Nat) (f:prg.Fs) (x:A15):prg.phi 106 n f x=Go.Bk.jm.P n x:=by kernel_rfl
theorem Qk (n:Nat) (f:prg.Fs) (x:A62):prg.phi 112 n f x=Go.Bk.jk.P (f 105) (f 106) n x:=by kernel_rfl
theorem WA (n:Nat) (f:prg.Fs) (x:A6):prg.phi 67 n f x=Go.Bk.sQ.P (f 67) (f 112) n x:=by kernel_rfl
theorem Qh (n:Nat) (f:prg.Fs) (x:A19):prg.phi 66 n f x=Go.Bk.oM.P (f 105) n x:=by kernel_rfl
theorem Tz (n:Nat) (f:prg.Fs) (x:A6):prg.phi 26 n f x=Go.Bk.EJ.P (f 66) (f 67) n x:=by kernel_rfl
theorem G9 (n:Nat) (f:prg.Fs) (x:A20):prg.phi 5 n f x=Go.Bk.pK.P (f 12) (f 11) (f 13) (f 15) (f 20) (f 22) (f 25) (f 26) (f 23) (f 24) (f 16) (f 17) n x:=by kernel_rfl
noncomputable def bC (n:Nat) (x:List Int):Option (List Int):=prg.run n zM x
theorem rH (n:Nat) (x:List Int):bC (n+1) x=IJ x:=by kernel_rfl
noncomputable def fF (n:Nat) (x:List Int):Option ((List Int×List Int)):=prg.run n wF x
theorem o7 (n:Nat) (x:List Int):fF (n+1) x=yM x:=by kernel_rfl
noncomputable def bZ (n:Nat) (x:List Int×Int×Int):Option ((List Int)):=prg.run n um x
theorem ny (n:Nat) (x:List Int×Int×Int):bZ (n+1) x=pU x:=by kernel_rfl
noncomputable def iL (n:Nat) (x:List Int):Option ((List Int)):=prg.run n Ap x
theorem ug (n:Nat) (x:List Int):iL (n+1) x=U5 x:=by kernel_rfl
noncomputable def aK (n:Nat) (x:List (A7)):Option ((List (A7))):=prg.run n kQ x
theorem gQ (n:Nat) (x:List (A7)):aK (n+1) x=zl x:=by kernel_rfl
noncomputable def dX (n:Nat) (x:List Ru):Option ((List Ru)):=prg.run n Eo x
theorem wY (n:Nat) (x:List Ru):dX (n+1) x=vY x:=by kernel_rfl
noncomputable def yP (n:Nat) (x:A26):Option Bool:=prg.run n TY x
noncomputable def vI (n:Nat) (x:A53):Option Bool:=prg.run n TS x
noncomputable def jF (n:Nat) (x:A9):Option Int:=prg.run n Ou x
noncomputable def ou (n:Nat) (x:A9):Option Bool:=prg.run n TW x
noncomputable def tq (n:Nat) (x:Unit):Option (A0):=prg.run n QB x
noncomputable def fU (n:Nat) (x:Int):Option Bool:=prg.run n zQ x
noncomputable def kJ (n:Nat) (x:List Int):Option Int:=prg.run n DK x
noncomputable def jq (n:Nat) (x:List Int):Option Bool:=prg.run n zN x
noncomputable def jh (n:Nat) (x:List Int):Option Bool:=prg.run n CQ x
noncomputable def fK (n:Nat) (x:A43):Option Bool:=prg.run n Ld x
noncomputable def fC (n:Nat) (x:A1):Option Bool:=prg.run n Qz x
noncomputable def dK (n:Nat) (x:A8):Option LI:=prg.run n uQ x
noncomputable def aY (n:Nat) (x:A8):Option LI:=prg.run n DL x
noncomputable def kR (n:Nat) (x:A65):Option ByteArray:=prg.run n WJ x
noncomputable def jV (n:Nat) (x:A1):Option (A58):=prg.run n CG x
noncomputable def vG (n:Nat) (x:A0):Option (A0):=prg.run n TM x
noncomputable def aI (n:Nat) (x:LI×(Option (List (A4)))×Int):Option (LI×(Option (List (A4)))):=prg.run n CJ x
noncomputable def mY (n:Nat) (x:A0):Option (List Bool):=prg.run n Hq x
noncomputable def kG (n:Nat) (x:A14):Option Bool:=prg.run n Jl x
noncomputable def bY (n:Nat) (x:A5):Option Int:=prg.run n mP x
noncomputable def aS (n:Nat) (x:A5):Option Bool:=prg.run n lH x
noncomputable def jY (n:Nat) (x:A0):Option (List Bool):=prg.run n Om x
noncomputable def mG (n:Nat) (x:A14):Option Bool:=prg.run n Oj x
noncomputable def cO (n:Nat) (x:A5):Option Int:=prg.run n nS x
noncomputable def aV (n:Nat) (x:A5):Option Bool:=prg.run n lZ x
noncomputable def lM (n:Nat) (x:Int):Option Bool:=prg.run n Jm x
noncomputable def dU (n:Nat) (x:A7):Option Int:=prg.run n Fv x
noncomputable def iK (n:Nat) (x:A19):Option Int:=prg.run n yj x
noncomputable def sZ (n:Nat) (x:List Int):Option Int:=prg.run n QA x
noncomputable def kW (n:Nat) (x:A2):Option Int:=prg.run n Qy x
noncomputable def iy (n:Nat) (x:A2):Option Bool:=prg.run n Jk x
noncomputable def jK (n:Nat) (x:List Ru):Option LR:=prg.run n Ak x
noncomputable def gU (n:Nat) (x:List Ru):Option LR:=prg.run n Ol x
noncomputable def mF (n:Nat) (x:A12):Option (A0):=prg.run n TN x
noncomputable def vH (n:Nat) (x:A1):Option (A23):=prg.run n TQ x
noncomputable def xY (n:Nat) (x:A1):Option LL:=prg.run n Yl x
noncomputable def lN (n:Nat) (x:List Int):Option ByteArray:=prg.run n Jo x
noncomputable def lQ (n:Nat) (x:Int×LI×LR×LL×LL×(Option (List (ByteArray×Int)))×LR×Int×Int×Bool×LI):Option (Int×Int×LI×LR×LL×LL×(Option (List (ByteArray×Int)))×LR×Int×Int×Bool):=prg.run n FB x
noncomputable def dG (n:Nat) (x:A15):Option Bool:=prg.run n Hu x
noncomputable def bG (n:Nat) (x:Int×LI×LR×LL×LL×(Option (List (ByteArray×Int)))×LR×Int×Int×Bool×Int×Int×LI×LI×Bool):Option (Int×LI×LR×LL×LL×(Option (List (ByteArray×Int)))×LR×Int×Int×Bool×LI):=prg.run n CO x
noncomputable def kV (n:Nat) (x:A0):Option (List Bool):=prg.run n Qx x
noncomputable def jl (n:Nat) (x:List Int):Option LI:=prg.run n Ht x
noncomputable def jT (n:Nat) (x:A14):Option Bool:=prg.run n Hr x
noncomputable def bW (n:Nat) (x:A5):Option Int:=prg.run n l7 x
noncomputable def aO (n:Nat) (x:A5):Option Bool:=prg.run n lD x
noncomputable def nD (n:Nat) (x:A1):Option (A59):=prg.run n Lj x
noncomputable def rZ (n:Nat) (x:A1):Option (A23):=prg.run n TR x
noncomputable def rY (n:Nat) (x:A0):Option (A0):=prg.run n TP x
noncomputable def jO (n:Nat) (x:List Bool):Option (A15):=prg.run n En x
noncomputable def nC (n:Nat) (x:A65):Option ByteArray:=prg.run n WI x
noncomputable def su (n:Nat) (x:A0):Option (List (Option (List (A7)))):=prg.run n TU x
noncomputable def fP (n:Nat) (x:List ByteArray):Option (A15):=prg.run n CP x
noncomputable def nH (n:Nat) (x:A0):Option LI:=prg.run n Lr x
noncomputable def gq (n:Nat) (x:List Int):Option LI:=prg.run n yh x
noncomputable def mJ (n:Nat) (x:A60):Option (A0):=prg.run n Oq x
noncomputable def pJ (n:Nat) (x:A0):Option LI:=prg.run n Lh x
noncomputable def dQ (n:Nat) (x:A1):Option (A23):=prg.run n Lm x
noncomputable def gI (n:Nat) (x:A19):Option Bool:=prg.run n QD x
noncomputable def tu (n:Nat) (x:A3):Option Bool:=prg.run n QH x
noncomputable def iV (n:Nat) (x:Unit):Option Bool:=prg.run n Oo x
noncomputable def gJ (n:Nat) (x:List Int):Option Bool:=prg.run n Aj x
noncomputable def qM (n:Nat) (x:A1):Option Bool:=prg.run n Ov x
noncomputable def kP (n:Nat) (x:A19):Option Bool:=prg.run n zO x
noncomputable def nG (n:Nat) (x:A2):Option Bool:=prg.run n Ll x
noncomputable def bf (n:Nat) (x:A91):Option Bool:=prg.run n gZ x
noncomputable def kX (n:Nat) (x:A3):Option Bool:=prg.run n QC x
noncomputable def yO (n:Nat) (x:A37):Option (A58):=prg.run n TT x
noncomputable def yQ (n:Nat) (x:A0):Option Bool:=prg.run n Ub x
noncomputable def qK (n:Nat) (x:A0):Option (List Bool):=prg.run n Jp x
noncomputable def wL (n:Nat) (x:A0):Option (List Bool):=prg.run n QK x
noncomputable def kH (n:Nat) (x:A74):Option LI:=prg.run n Uc x
noncomputable def kY (n:Nat) (x:A19):Option Int:=prg.run n QF x
noncomputable def tC (n:Nat) (x:List Ru):Option LR:=prg.run n QI x
noncomputable def wI (n:Nat) (x:A12):Option (A0):=prg.run n QE x
noncomputable def qL (n:Nat) (x:A0):Option (A0):=prg.run n Jq x
noncomputable def qN (n:Nat) (x:A1):Option Bool:=prg.run n Jr x
noncomputable def jG (n:Nat) (x:A11):Option Bool:=prg.run n Lu x
noncomputable def qJ (n:Nat) (x:A11):Option Bool:=prg.run n Ot x
noncomputable def ku (n:Nat) (x:A15):Option Bool:=prg.run n WL x
noncomputable def nJ (n:Nat) (x:A15):Option LI:=prg.run n LC x
noncomputable def wK (n:Nat) (x:A62):Option LI:=prg.run n QJ x
noncomputable def nK (n:Nat) (x:A6):Option LI:=prg.run n WM x
noncomputable def wJ (n:Nat) (x:A19):Option Bool:=prg.run n QG x
noncomputable def pW (n:Nat) (x:A6):Option Bool:=prg.run n Ua x
noncomputable def zx (n:Nat) (x:A20):Option Bool:=prg.run n Hw x
theorem UY (n:Nat) (x:A26):yP (n+1) x=Go.Bk.gV.P n x:=Tv n (prg.run n) x
theorem UR (n:Nat) (x:A53):vI (n+1) x=Go.Bk.Et.P (yP n) n x:=Tj n (prg.run n) x
theorem O6 (n:Nat) (x:A9):jF (n+1) x=Go.Bk.kL.P (jF n) n x:=NZ n (prg.run n) x
theorem UW (n:Nat) (x:A9):ou (n+1) x=Go.Bk.EI.P (jF n) n x:=Tq n (prg.run n) x
theorem RH (n:Nat) (x:Unit):tq (n+1) x=Go.Bk.FC.P n x:=Qb n (prg.run n) x
theorem rM (n:Nat) (x:Int):fU (n+1) x=Go.Bk.gX.P n x:=zJ n (prg.run n) x
theorem vV (n:Nat) (x:List Int):kJ (n+1) x=Go.Bk.fO.P (fU n) n x:=Dy n (prg.run n) x
theorem rJ (n:Nat) (x:List Int):jq (n+1) x=Go.Bk.jW.P (kJ n) n x:=zH n (prg.run n) x
theorem uN (n:Nat) (x:List Int):jh (n+1) x=Go.Bk.jS.P (jq n) n x:=Cm n (prg.run n) x
theorem Dn (n:Nat) (x:A43):fK (n+1) x=Go.Bk.qj.P n x:=KO n (prg.run n) x
theorem GK (n:Nat) (x:A1):fC (n+1) x=Go.Bk.bU.P (fK n) (jh n) n x:=P9 n (prg.run n) x
theorem nX (n:Nat) (x:A8):dK (n+1) x=Go.Bk.fG.P (bZ n) n x:=uP n (prg.run n) x
theorem vW (n:Nat) (x:A8):aY (n+1) x=Go.Bk.kD.P (dK n) n x:=Dz n (prg.run n) x
theorem Nj (n:Nat) (x:A65):kR (n+1) x=Go.Bk.qC.P (aY n) n x:=Wx n (prg.run n) x
theorem uI (n:Nat) (x:A1):jV (n+1) x=Go.Bk.dW.P (fC n) (kR n) n x:=Cc n (prg.run n) x
theorem J5 (n:Nat) (x:A0):vG (n+1) x=Go.Bk.pG.P (bC n) n x:=S9 n (prg.run n) x
theorem uJ (n:Nat) (x:LI×(Option (List (A4)))×Int):aI (n+1) x=Go.Bk.jM.P n x:=Ce n (prg.run n) x
theorem zD (n:Nat) (x:A0):mY (n+1) x=Go.Bk.bT.P (aI n) n x:=G5 n (prg.run n) x
theorem Bh (n:Nat) (x:A14):kG (n+1) x=Go.Bk.qE.P n x:=IY n (prg.run n) x
theorem jd (n:Nat) (x:A5):bY (n+1) x=Go.Bk.bQ.P (kG n) n x:=mD n (prg.run n) x
theorem iI (n:Nat) (x:A5):aS (n+1) x=Go.Bk.dI.P (bY n) n x:=lF n (prg.run n) x
theorem ES (n:Nat) (x:A0):jY (n+1) x=Go.Bk.dB.P (aI n) (mY n) (aS n) n x:=NU n (prg.run n) x
theorem EP (n:Nat) (x:A14):mG (n+1) x=Go.Bk.vC.P n x:=NR n (prg.run n) x
theorem jw (n:Nat) (x:A5):cO (n+1) x=Go.Bk.bV.P (mG n) n x:=nR n (prg.run n) x
theorem iR (n:Nat) (x:A5):aV (n+1) x=Go.Bk.dN.P (cO n) n x:=lW n (prg.run n) x
theorem Bj (n:Nat) (x:Int):lM (n+1) x=Go.Bk.cmp_isNaN_int.P n x:=IZ n (prg.run n) x
theorem yB (n:Nat) (x:A7):dU (n+1) x=Go.Bk.cmp_Compare_int.P (lM n) n x:=Fa n (prg.run n) x
theorem qy (n:Nat) (x:A19):iK (n+1) x=Go.Bk.cZ.P (dU n) n x:=xU n (prg.run n) x
theorem GL (n:Nat) (x:List Int):sZ (n+1) x=Go.Bk.lK.P n x:=Qa n (prg.run n) x
theorem GI (n:Nat) (x:A2):kW (n+1) x=Go.Bk.rU.P (dU n) (sZ n) (iK n) n x:=P8 n (prg.run n) x
theorem Bg (n:Nat) (x:A2):iy (n+1) x=Go.Bk.oI.P (kW n) n x:=IX n (prg.run n) x
theorem uf (n:Nat) (x:List Ru):jK (n+1) x=Go.Bk.dA.P (iy n) n x:=Ac n (prg.run n) x
theorem ER (n:Nat) (x:List Ru):gU (n+1) x=Go.Bk.rV.P (jK n) (dX n) n x:=NT n (prg.run n) x
theorem J6 (n:Nat) (x:A12):mF (n+1) x=Go.Bk.gu.P (gU n) (aV n) n x:=Tc n (prg.run n) x
theorem J8 (n:Nat) (x:A1):vH (n+1) x=Go.Bk.xO.P (mF n) (fC n) (jY n) n x:=Tf n (prg.run n) x
theorem RG (n:Nat) (x:A1):xY (n+1) x=Go.Bk.xA.P n x:=X8 n (prg.run n) x
theorem Bl (n:Nat) (x:List Int):lN (n+1) x=Go.Bk.fJ.P n x:=I4 n (prg.run n) x
theorem yC (n:Nat) (x:Int×LI×LR×LL×LL×(Option (List (ByteArray×Int)))×LR×Int×Int×Bool×LI):lQ (n+1) x=Go.Bk.gB.P (lN n) n x:=Fb n (prg.run n) x
theorem uy (n:Nat) (x:A15):dG (n+1) x=Go.Bk.lq.P n x:=G8 n (prg.run n) x
theorem uK (n:Nat) (x:Int×LI×LR×LL×LL×(Option (List (ByteArray×Int)))×LR×Int×Int×Bool×Int×Int×LI×LI×Bool):bG (n+1) x=Go.Bk.bJ.P (dG n) (bG n) (lQ n) (fF n) n x:=Ci n (prg.run n) x
theorem GH (n:Nat) (x:A0):kV (n+1) x=Go.Bk.lJ.P n x:=P7 n (prg.run n) x
theorem zG (n:Nat) (x:List Int):jl (n+1) x=Go.Bk.iq.P (dG n) n x:=G7 n (prg.run n) x
theorem zF (n:Nat) (x:A14):jT (n+1) x=Go.Bk.pI.P n x:=G6 n (prg.run n) x
theorem iT (n:Nat) (x:A5):bW (n+1) x=Go.Bk.bM.P (jT n) n x:=lX n (prg.run n) x
theorem iF (n:Nat) (x:A5):aO (n+1) x=Go.Bk.dF.P (bW n) n x:=lu n (prg.run n) x
theorem Dq (n:Nat) (x:A1):nD (n+1) x=Go.Bk.dL.P (xY n) (kV n) (gU n) (fC n) (jl n) (bG n) (aO n) n x:=KQ n (prg.run n) x
theorem J9 (n:Nat) (x:A1):rZ (n+1) x=Go.Bk.xP.P (vG n) (jV n) (vH n) (nD n) n x:=Ti n (prg.run n) x
theorem J7 (n:Nat) (x:A0):rY (n+1) x=Go.Bk.xM.P (mF n) (jY n) n x:=Td n (prg.run n) x
theorem wX (n:Nat) (x:List Bool):jO (n+1) x=Go.Bk.kS.P n x:=Ec n (prg.run n) x
theorem Nh (n:Nat) (x:A65):nC (n+1) x=Go.Bk.D6.P (kR n) n x:=Wv n (prg.run n) x
theorem Ko (n:Nat) (x:A0):su (n+1) x=Go.Bk.iD.P (nC n) (bC n) (aK n) n x:=Tn n (prg.run n) x
theorem uM (n:Nat) (x:List ByteArray):fP (n+1) x=Go.Bk.jP.P n x:=Cj n (prg.run n) x
theorem Du (n:Nat) (x:A0):nH (n+1) x=Go.Bk.dP.P (kV n) (jO n) (fP n) (su n) (aY n) n x:=KU n (prg.run n) x
theorem qw (n:Nat) (x:List Int):gq (n+1) x=Go.Bk.bP.P n x:=xR n (prg.run n) x
theorem ET (n:Nat) (x:A60):mJ (n+1) x=Go.Bk.eF.P (gU n) (gq n) (iL n) n x:=NW n (prg.run n) x
theorem Dp (n:Nat) (x:A0):pJ (n+1) x=Go.Bk.bH.P (dX n) n x:=KP n (prg.run n) x
theorem Dt (n:Nat) (x:A1):dQ (n+1) x=Go.Bk.jL.P (rY n) (rZ n) (pJ n) (nH n) (mJ n) n x:=KT n (prg.run n) x
theorem GN (n:Nat) (x:A19):gI (n+1) x=Go.Bk.nM.P n x:=Qd n (prg.run n) x
theorem RQ (n:Nat) (x:A3):tu (n+1) x=Go.Bk.yx.P (gI n) n x:=Qi n (prg.run n) x
theorem O4 (n:Nat) (x:Unit):iV (n+1) x=Go.Bk.DR.P (tq n) (dQ n) (tu n) n x:=NV n (prg.run n) x
theorem tZ (n:Nat) (x:List Int):gJ (n+1) x=Go.Bk.dh.P n x:=Aa n (prg.run n) x
theorem O7 (n:Nat) (x:A1):qM (n+1) x=Go.Bk.fA.P (gJ n) n x:=N7 n (prg.run n) x
theorem zS (n:Nat) (x:A19):kP (n+1) x=Go.Bk.eY.P n x:=zI n (prg.run n) x
theorem LM (n:Nat) (x:A2):nG (n+1) x=Go.Bk.tV.P (kW n) n x:=KR n (prg.run n) x
theorem ig (n:Nat) (x:A91):bf (n+1) x=Go.Bk.ay.P (nG n) n x:=gY n (prg.run n) x
theorem RI (n:Nat) (x:A3):kX (n+1) x=Go.Bk.yt.P (bf n) (kP n) n x:=Qc n (prg.run n) x
theorem UU (n:Nat) (x:A37):yO (n+1) x=Go.Bk.Az.P (fC n) (kX n) (dQ n) n x:=Tm n (prg.run n) x
theorem U0 (n:Nat) (x:A0):yQ (n+1) x=Go.Bk.lV.P (gI n) n x:=TA n (prg.run n) x
theorem Kq (n:Nat) (x:A0):qK (n+1) x=Go.Bk.eX.P n x:=I5 n (prg.run n) x
theorem RV (n:Nat) (x:A0):wL (n+1) x=Go.Bk.eP.P (qK n) n x:=Ql n (prg.run n) x
theorem U1 (n:Nat) (x:A74):kH (n+1) x=Go.Bk.AZ.P n x:=TB n (prg.run n) x
theorem RN (n:Nat) (x:A19):kY (n+1) x=Go.Bk.oL.P n x:=Qg n (prg.run n) x
theorem RS (n:Nat) (x:List Ru):tC (n+1) x=Go.Bk.kT.P (kY n) (kH n) n x:=Qj n (prg.run n) x
theorem RJ (n:Nat) (x:A12):wI (n+1) x=Go.Bk.fM.P (tC n) n x:=Qe n (prg.run n) x
theorem Kr (n:Nat) (x:A0):qL (n+1) x=Go.Bk.qW.P (wI n) (wL n) n x:=I7 n (prg.run n) x
theorem LP (n:Nat) (x:A11):jG (n+1) x=Go.Bk.fQ.P (jG n) n x:=KW n (prg.run n) x
theorem O5 (n:Nat) (x:A11):qJ (n+1) x=Go.Bk.sJ.P (ou n) (gJ n) (jG n) n x:=NY n (prg.run n) x
theorem Nk (n:Nat) (x:A15):ku (n+1) x=Go.Bk.uX.P n x:=Wy n (prg.run n) x
theorem LQ (n:Nat) (x:A15):nJ (n+1) x=Go.Bk.jm.P n x:=KX n (prg.run n) x
theorem RU (n:Nat) (x:A62):wK (n+1) x=Go.Bk.jk.P (ku n) (nJ n) n x:=Qk n (prg.run n) x
theorem Xf (n:Nat) (x:A6):nK (n+1) x=Go.Bk.sQ.P (nK n) (wK n) n x:=WA n (prg.run n) x
theorem RP (n:Nat) (x:A19):wJ (n+1) x=Go.Bk.oM.P (ku n) n x:=Qh n (prg.run n) x
theorem UZ (n:Nat) (x:A6):pW (n+1) x=Go.Bk.EJ.P (wJ n) (nK n) n x:=Tz n (prg.run n) x
theorem HY (n:Nat) (x:A20):zx (n+1) x=Go.Bk.pK.P (iV n) (vI n) (kX n) (dQ n) (yO n) (ou n) (qJ n) (pW n) (yQ n) (qL n) (qM n) (qN n) n x:=G9 n (prg.run n) x
end Go.Proofs.YtdchbjmbgecejaaGreatDoor.Am
end
