import Derived.Test.YtdchbjmbgecejaaGreatDoorPt
import Derived.KernelRfl
import Derived.Test.YtdchbjmbgecejaaGreatDoorMk
noncomputable section
namespace Go.Proofs.YtdchbjmbgecejaaGreatDoor.Am
open Go Go.AM Go.Bk
set_option maxRecDepth 100000
set_option linter.unusedVariables false
abbrev RS:Nat:=43
abbrev TT:Nat:=11
abbrev OE:Nat:=62
abbrev Tn:Nat:=22
abbrev AA:Nat:=56
abbrev KN:Nat:=65
abbrev Om:Nat:=25
abbrev Rk:Nat:=45
abbrev zi:Nat:=149
abbrev CZ:Nat:=1001
abbrev zl:Nat:=1000
abbrev BA:Nat:=108
abbrev JZ:Nat:=109
abbrev Pn:Nat:=60
abbrev sS:Nat:=171
abbrev uj:Nat:=137
abbrev CY:Nat:=96
abbrev V6:Nat:=125
abbrev BK:Nat:=89
abbrev zn:Nat:=116
abbrev Tm:Nat:=85
abbrev Bh:Nat:=133
abbrev GI:Nat:=131
abbrev Jq:Nat:=132
abbrev lS:Nat:=1003
abbrev kU:Nat:=1002
abbrev MO:Nat:=92
abbrev OB:Nat:=130
abbrev nD:Nat:=1005
abbrev lG:Nat:=1004
abbrev Ej:Nat:=1006
abbrev JI:Nat:=124
abbrev Fp:Nat:=87
abbrev wV:Nat:=88
abbrev Qy:Nat:=86
abbrev OQ:Nat:=49
abbrev JJ:Nat:=139
abbrev zT:Nat:=1007
abbrev OG:Nat:=99
abbrev RH:Nat:=91
abbrev Tv:Nat:=74
abbrev XL:Nat:=75
abbrev vK:Nat:=1008
abbrev Jb:Nat:=189
abbrev EO:Nat:=167
abbrev GY:Nat:=168
abbrev BJ:Nat:=126
abbrev PG:Nat:=94
abbrev Gw:Nat:=127
abbrev GZ:Nat:=129
abbrev lD:Nat:=1010
abbrev kS:Nat:=1009
abbrev Kq:Nat:=90
abbrev SA:Nat:=51
abbrev Ul:Nat:=52
abbrev Dx:Nat:=93
abbrev VT:Nat:=134
abbrev kC:Nat:=1011
abbrev Sr:Nat:=95
abbrev Bo:Nat:=97
abbrev J9:Nat:=53
abbrev zK:Nat:=78
abbrev xP:Nat:=98
abbrev Ns:Nat:=54
abbrev KF:Nat:=55
abbrev JX:Nat:=15
abbrev PZ:Nat:=50
abbrev Qr:Nat:=14
abbrev Ox:Nat:=12
abbrev Px:Nat:=29
abbrev NC:Nat:=113
abbrev Qh:Nat:=68
abbrev QZ:Nat:=114
abbrev S9:Nat:=115
abbrev MN:Nat:=69
abbrev QI:Nat:=27
abbrev Vl:Nat:=105
abbrev KD:Nat:=106
abbrev Pm:Nat:=112
abbrev Wi:Nat:=67
abbrev OY:Nat:=66
abbrev Si:Nat:=26
abbrev IV:Nat:=30
abbrev ET:Nat:=7
theorem Uj (n:Nat) (f:prg.Fs) (x:A22):prg.phi 43 n f x=Go.Bk.fU.P n x:=by kernel_rfl
theorem Ua (n:Nat) (f:prg.Fs) (x:A41):prg.phi 11 n f x=Go.Bk.Ed.P (f 43) n x:=by kernel_rfl
theorem NM (n:Nat) (f:prg.Fs) (x:A10):prg.phi 62 n f x=Go.Bk.jX.P (f 62) n x:=by kernel_rfl
theorem Uc (n:Nat) (f:prg.Fs) (x:A10):prg.phi 22 n f x=Go.Bk.Eo.P (f 62) n x:=by kernel_rfl
theorem zG (n:Nat) (f:prg.Fs) (x:List Int):prg.phi 56 n f x=Go.Bk.cu.P n x:=by kernel_rfl
theorem KP (n:Nat) (f:prg.Fs) (x:A5):prg.phi 65 n f x=Go.Bk.fD.P (f 65) n x:=by kernel_rfl
theorem MQ (n:Nat) (f:prg.Fs) (x:A5):prg.phi 25 n f x=Go.Bk.qZ.P (f 22) (f 56) (f 65) n x:=by kernel_rfl
theorem OV (n:Nat) (f:prg.Fs) (x:Unit):prg.phi 45 n f x=Go.Bk.EZ.P n x:=by kernel_rfl
theorem y7 (n:Nat) (f:prg.Fs) (x:Int):prg.phi 149 n f x=Go.Bk.fZ.P n x:=by kernel_rfl
theorem Dk (n:Nat) (f:prg.Fs) (x:List Int):prg.phi 1001 n f x=Go.Bk.fB.P (f 149) n x:=by kernel_rfl
theorem zh (n:Nat) (f:prg.Fs) (x:List Int):prg.phi 1000 n f x=Go.Bk.jH.P (f 1001) n x:=by kernel_rfl
theorem BI (n:Nat) (f:prg.Fs) (x:List Int):prg.phi 108 n f x=Go.Bk.jC.P (f 1000) n x:=by kernel_rfl
theorem J7 (n:Nat) (f:prg.Fs) (x:A32):prg.phi 109 n f x=Go.Bk.pG.P n x:=by kernel_rfl
theorem Qe (n:Nat) (f:prg.Fs) (x:A0):prg.phi 60 n f x=Go.Bk.bQ.P (f 109) (f 108) n x:=by kernel_rfl
theorem tZ (n:Nat) (f:prg.Fs) (x:A9):prg.phi 137 n f x=Go.Bk.eU.P (f 171) n x:=by kernel_rfl
theorem CX (n:Nat) (f:prg.Fs) (x:A9):prg.phi 96 n f x=Go.Bk.jO.P (f 137) n x:=by kernel_rfl
theorem Wp (n:Nat) (f:prg.Fs) (x:A52):prg.phi 125 n f x=Go.Bk.qB.P (f 96) n x:=by kernel_rfl
theorem Bv (n:Nat) (f:prg.Fs) (x:A0):prg.phi 89 n f x=Go.Bk.dR.P (f 60) (f 125) n x:=by kernel_rfl
theorem TU (n:Nat) (f:prg.Fs) (x:A1):prg.phi 85 n f x=Go.Bk.oU.P (f 116) n x:=by kernel_rfl
theorem Bq (n:Nat) (f:prg.Fs) (x:LI×(Option (List (A3)))×Int):prg.phi 133 n f x=Go.Bk.jy.P n x:=by kernel_rfl
theorem Gu (n:Nat) (f:prg.Fs) (x:A1):prg.phi 131 n f x=Go.Bk.bP.P (f 133) n x:=by kernel_rfl
theorem JK (n:Nat) (f:prg.Fs) (x:A14):prg.phi 132 n f x=Go.Bk.ql.P n x:=by kernel_rfl
theorem mF (n:Nat) (f:prg.Fs) (x:A4):prg.phi 1003 n f x=Go.Bk.bK.P (f 132) n x:=by kernel_rfl
theorem kV (n:Nat) (f:prg.Fs) (x:A4):prg.phi 1002 n f x=Go.Bk.dB.P (f 1003) n x:=by kernel_rfl
theorem ML (n:Nat) (f:prg.Fs) (x:A1):prg.phi 92 n f x=Go.Bk.cZ.P (f 133) (f 131) (f 1002) n x:=by kernel_rfl
theorem Nz (n:Nat) (f:prg.Fs) (x:A14):prg.phi 130 n f x=Go.Bk.uJ.P n x:=by kernel_rfl
theorem nC (n:Nat) (f:prg.Fs) (x:A4):prg.phi 1005 n f x=Go.Bk.bT.P (f 130) n x:=by kernel_rfl
theorem lH (n:Nat) (f:prg.Fs) (x:A4):prg.phi 1004 n f x=Go.Bk.dJ.P (f 1005) n x:=by kernel_rfl
theorem Jj (n:Nat) (f:prg.Fs) (x:Int):prg.phi 124 n f x=Go.Bk.cmp_isNaN_int.P n x:=by kernel_rfl
theorem EP (n:Nat) (f:prg.Fs) (x:A7):prg.phi 87 n f x=Go.Bk.cmp_Compare_int.P (f 124) n x:=by kernel_rfl
theorem xw (n:Nat) (f:prg.Fs) (x:A40):prg.phi 88 n f x=Go.Bk.bY.P (f 87) n x:=by kernel_rfl
theorem Q9 (n:Nat) (f:prg.Fs) (x:List Int):prg.phi 86 n f x=Go.Bk.kY.P n x:=by kernel_rfl
theorem Rx (n:Nat) (f:prg.Fs) (x:A8):prg.phi 49 n f x=Go.Bk.qU.P (f 87) (f 86) (f 88) n x:=by kernel_rfl
theorem Ik (n:Nat) (f:prg.Fs) (x:A8):prg.phi 139 n f x=Go.Bk.og.P (f 49) n x:=by kernel_rfl
theorem zY (n:Nat) (f:prg.Fs) (x:List Ru):prg.phi 1007 n f x=Go.Bk.cO.P (f 139) n x:=by kernel_rfl
theorem ND (n:Nat) (f:prg.Fs) (x:List Ru):prg.phi 99 n f x=Go.Bk.qW.P (f 1007) (f 1006) n x:=by kernel_rfl
theorem SK (n:Nat) (f:prg.Fs) (x:A31):prg.phi 91 n f x=Go.Bk.fK.P (f 99) (f 1004) n x:=by kernel_rfl
theorem RG (n:Nat) (f:prg.Fs) (x:A0):prg.phi 74 n f x=Go.Bk.wW.P (f 91) (f 60) (f 92) n x:=by kernel_rfl
theorem WX (n:Nat) (f:prg.Fs) (x:A0):prg.phi 75 n f x=Go.Bk.wJ.P n x:=by kernel_rfl
theorem Ji (n:Nat) (f:prg.Fs) (x:List Int):prg.phi 189 n f x=Go.Bk.eX.P n x:=by kernel_rfl
theorem EU (n:Nat) (f:prg.Fs) (x:Int×LI×LR×LL×LL×(Option (List (ByteArray×Int)))×LR×Int×Int×Bool×LI):prg.phi 167 n f x=Go.Bk.fM.P (f 189) n x:=by kernel_rfl
theorem Gt (n:Nat) (f:prg.Fs) (x:A12):prg.phi 168 n f x=Go.Bk.kN.P n x:=by kernel_rfl
theorem BF (n:Nat) (f:prg.Fs) (x:Int×LI×LR×LL×LL×(Option (List (ByteArray×Int)))×LR×Int×Int×Bool×Int×Int×LI×LI×Bool):prg.phi 126 n f x=Go.Bk.bH.P (f 168) (f 126) (f 167) (f 1008) n x:=by kernel_rfl
theorem Qc (n:Nat) (f:prg.Fs) (x:A1):prg.phi 94 n f x=Go.Bk.lq.P n x:=by kernel_rfl
theorem Gv (n:Nat) (f:prg.Fs) (x:List Int):prg.phi 127 n f x=Go.Bk.gQ.P (f 168) n x:=by kernel_rfl
theorem GR (n:Nat) (f:prg.Fs) (x:A14):prg.phi 129 n f x=Go.Bk.oQ.P n x:=by kernel_rfl
theorem lI (n:Nat) (f:prg.Fs) (x:A4):prg.phi 1010 n f x=Go.Bk.bJ.P (f 129) n x:=by kernel_rfl
theorem kQ (n:Nat) (f:prg.Fs) (x:A4):prg.phi 1009 n f x=Go.Bk.dh.P (f 1010) n x:=by kernel_rfl
theorem Kw (n:Nat) (f:prg.Fs) (x:A0):prg.phi 90 n f x=Go.Bk.dH.P (f 75) (f 94) (f 99) (f 60) (f 127) (f 126) (f 1009) n x:=by kernel_rfl
theorem Ur (n:Nat) (f:prg.Fs) (x:A0):prg.phi 51 n f x=Go.Bk.xX.P (f 85) (f 89) (f 74) (f 90) n x:=by kernel_rfl
theorem TQ (n:Nat) (f:prg.Fs) (x:A1):prg.phi 52 n f x=Go.Bk.xC.P (f 91) (f 92) n x:=by kernel_rfl
theorem DI (n:Nat) (f:prg.Fs) (x:List Bool):prg.phi 93 n f x=Go.Bk.kF.P n x:=by kernel_rfl
theorem Wj (n:Nat) (f:prg.Fs) (x:A52):prg.phi 134 n f x=Go.Bk.Ep.P (f 125) n x:=by kernel_rfl
theorem RD (n:Nat) (f:prg.Fs) (x:A1):prg.phi 95 n f x=Go.Bk.gy.P (f 134) (f 116) (f 1011) n x:=by kernel_rfl
theorem Bz (n:Nat) (f:prg.Fs) (x:List ByteArray):prg.phi 97 n f x=Go.Bk.jE.P n x:=by kernel_rfl
theorem KE (n:Nat) (f:prg.Fs) (x:A1):prg.phi 53 n f x=Go.Bk.dL.P (f 94) (f 93) (f 97) (f 95) (f 96) n x:=by kernel_rfl
theorem xK (n:Nat) (f:prg.Fs) (x:List Int):prg.phi 98 n f x=Go.Bk.bM.P n x:=by kernel_rfl
theorem Oj (n:Nat) (f:prg.Fs) (x:A46):prg.phi 54 n f x=Go.Bk.dW.P (f 99) (f 98) (f 78) n x:=by kernel_rfl
theorem KR (n:Nat) (f:prg.Fs) (x:A1):prg.phi 55 n f x=Go.Bk.bF.P (f 1006) n x:=by kernel_rfl
theorem KJ (n:Nat) (f:prg.Fs) (x:A0):prg.phi 15 n f x=Go.Bk.jv.P (f 52) (f 51) (f 55) (f 53) (f 54) n x:=by kernel_rfl
theorem Qb (n:Nat) (f:prg.Fs) (x:A40):prg.phi 50 n f x=Go.Bk.xB.P n x:=by kernel_rfl
theorem Rl (n:Nat) (f:prg.Fs) (x:A11):prg.phi 14 n f x=Go.Bk.xq.P (f 50) n x:=by kernel_rfl
theorem Oe (n:Nat) (f:prg.Fs) (x:Unit):prg.phi 12 n f x=Go.Bk.Di.P (f 45) (f 15) (f 14) n x:=by kernel_rfl
theorem Rq (n:Nat) (f:prg.Fs) (x:A47):prg.phi 29 n f x=Go.Bk.mW.P n x:=by kernel_rfl
theorem Ob (n:Nat) (f:prg.Fs) (x:A20):prg.phi 113 n f x=Go.Bk.jW.P (f 113) n x:=by kernel_rfl
theorem Qa (n:Nat) (f:prg.Fs) (x:A5):prg.phi 68 n f x=Go.Bk.wZ.P (f 108) (f 113) n x:=by kernel_rfl
theorem P9 (n:Nat) (f:prg.Fs) (x:A2):prg.phi 114 n f x=Go.Bk.xg.P (f 60) (f 68) n x:=by kernel_rfl
theorem Uh (n:Nat) (f:prg.Fs) (x:A13):prg.phi 115 n f x=Go.Bk.gK.P (f 115) n x:=by kernel_rfl
theorem OA (n:Nat) (f:prg.Fs) (x:A2):prg.phi 69 n f x=Go.Bk.kR.P (f 75) (f 114) (f 115) n x:=by kernel_rfl
theorem Qj (n:Nat) (f:prg.Fs) (x:A2):prg.phi 27 n f x=Go.Bk.xH.P (f 69) (f 60) (f 15) (f 68) n x:=by kernel_rfl
theorem VB (n:Nat) (f:prg.Fs) (x:A12):prg.phi 105 n f x=Go.Bk.uf.P n x:=by kernel_rfl
theorem J5 (n:Nat) (f:prg.Fs) (x:A12):prg.phi 106 n f x=Go.Bk.iQ.P n x:=by kernel_rfl
theorem O7 (n:Nat) (f:prg.Fs) (x:A49):prg.phi 112 n f x=Go.Bk.iM.P (f 105) (f 106) n x:=by kernel_rfl
theorem Wn (n:Nat) (f:prg.Fs) (x:A6):prg.phi 67 n f x=Go.Bk.rU.P (f 67) (f 112) n x:=by kernel_rfl
theorem OZ (n:Nat) (f:prg.Fs) (x:A40):prg.phi 66 n f x=Go.Bk.oC.P (f 105) n x:=by kernel_rfl
theorem TG (n:Nat) (f:prg.Fs) (x:A6):prg.phi 26 n f x=Go.Bk.Ec.P (f 66) (f 67) n x:=by kernel_rfl
theorem IC (n:Nat) (f:prg.Fs) (x:A15):prg.phi 30 n f x=Go.Bk.lT.P (f 30) n x:=by kernel_rfl
theorem EF (n:Nat) (f:prg.Fs) (x:A16):prg.phi 7 n f x=Go.Bk.nR.P (f 12) (f 11) (f 27) (f 22) (f 29) (f 30) (f 25) (f 26) n x:=by kernel_rfl
end Go.Proofs.YtdchbjmbgecejaaGreatDoor.Am
end
noncomputable section
namespace Go.Proofs.YtdchbjmbgecejaaGreatDoor.Am
open Go Go.AM Go.Bk
set_option maxRecDepth 100000
set_option linter.unusedVariables false
noncomputable def aY (n:Nat) (x:List Int):Option (List Int):=prg.run n zn x
theorem qL (n:Nat) (x:List Int):aY (n+1) x=Ig x:=by kernel_rfl
noncomputable def eP (n:Nat) (x:List Int):Option ((List Int×List Int)):=prg.run n vK x
theorem oI (n:Nat) (x:List Int):eP (n+1) x=yG x:=by kernel_rfl
noncomputable def bW (n:Nat) (x:List Int×Int×Int):Option ((List Int)):=prg.run n sS x
theorem mG (n:Nat) (x:List Int×Int×Int):bW (n+1) x=oZ x:=by kernel_rfl
noncomputable def ig (n:Nat) (x:List Int):Option ((List Int)):=prg.run n zK x
theorem sF (n:Nat) (x:List Int):ig (n+1) x=Tj x:=by kernel_rfl
noncomputable def aJ (n:Nat) (x:List (A7)):Option ((List (A7))):=prg.run n kC x
theorem fQ (n:Nat) (x:List (A7)):aJ (n+1) x=xZ x:=by kernel_rfl
noncomputable def dQ (n:Nat) (x:List Ru):Option ((List Ru)):=prg.run n Ej x
theorem wB (n:Nat) (x:List Ru):dQ (n+1) x=vH x:=by kernel_rfl
noncomputable def yC (n:Nat) (x:A22):Option Bool:=prg.run n RS x
noncomputable def vC (n:Nat) (x:A41):Option Bool:=prg.run n TT x
noncomputable def jh (n:Nat) (x:A10):Option Int:=prg.run n OE x
noncomputable def lZ (n:Nat) (x:A10):Option Bool:=prg.run n Tn x
noncomputable def kK (n:Nat) (x:List Int):Option Bool:=prg.run n AA x
noncomputable def jg (n:Nat) (x:A5):Option Bool:=prg.run n KN x
noncomputable def oh (n:Nat) (x:A5):Option Bool:=prg.run n Om x
noncomputable def rZ (n:Nat) (x:Unit):Option (A1):=prg.run n Rk x
noncomputable def fE (n:Nat) (x:Int):Option Bool:=prg.run n zi x
noncomputable def jV (n:Nat) (x:List Int):Option Int:=prg.run n CZ x
noncomputable def iV (n:Nat) (x:List Int):Option Bool:=prg.run n zl x
noncomputable def eF (n:Nat) (x:List Int):Option Bool:=prg.run n BA x
noncomputable def fA (n:Nat) (x:A32):Option Bool:=prg.run n JZ x
noncomputable def dP (n:Nat) (x:A0):Option Bool:=prg.run n Pn x
noncomputable def dG (n:Nat) (x:A9):Option LI:=prg.run n uj x
noncomputable def aW (n:Nat) (x:A9):Option LI:=prg.run n CY x
noncomputable def kE (n:Nat) (x:A52):Option ByteArray:=prg.run n V6 x
noncomputable def jI (n:Nat) (x:A0):Option (A30):=prg.run n BK x
noncomputable def vw (n:Nat) (x:A1):Option (A1):=prg.run n Tm x
noncomputable def aG (n:Nat) (x:LI×(Option (List (A3)))×Int):Option (LI×(Option (List (A3)))):=prg.run n Bh x
noncomputable def mM (n:Nat) (x:A1):Option (List Bool):=prg.run n GI x
noncomputable def jU (n:Nat) (x:A14):Option Bool:=prg.run n Jq x
noncomputable def bV (n:Nat) (x:A4):Option Int:=prg.run n lS x
noncomputable def aQ (n:Nat) (x:A4):Option Bool:=prg.run n kU x
noncomputable def jK (n:Nat) (x:A1):Option (List Bool):=prg.run n MO x
noncomputable def lQ (n:Nat) (x:A14):Option Bool:=prg.run n OB x
noncomputable def bZ (n:Nat) (x:A4):Option Int:=prg.run n nD x
noncomputable def aT (n:Nat) (x:A4):Option Bool:=prg.run n lG x
noncomputable def kZ (n:Nat) (x:Int):Option Bool:=prg.run n JI x
noncomputable def dO (n:Nat) (x:A7):Option Int:=prg.run n Fp x
noncomputable def iq (n:Nat) (x:A40):Option Int:=prg.run n wV x
noncomputable def sO (n:Nat) (x:List Int):Option Int:=prg.run n Qy x
noncomputable def pK (n:Nat) (x:A8):Option Int:=prg.run n OQ x
noncomputable def gI (n:Nat) (x:A8):Option Bool:=prg.run n JJ x
noncomputable def jw (n:Nat) (x:List Ru):Option LR:=prg.run n zT x
noncomputable def gU (n:Nat) (x:List Ru):Option LR:=prg.run n OG x
noncomputable def lW (n:Nat) (x:A31):Option (A1):=prg.run n RH x
noncomputable def uH (n:Nat) (x:A0):Option (A23):=prg.run n Tv x
noncomputable def pX (n:Nat) (x:A0):Option LL:=prg.run n XL x
noncomputable def kX (n:Nat) (x:List Int):Option ByteArray:=prg.run n Jb x
noncomputable def lu (n:Nat) (x:Int×LI×LR×LL×LL×(Option (List (ByteArray×Int)))×LR×Int×Int×Bool×LI):Option (Int×Int×LI×LR×LL×LL×(Option (List (ByteArray×Int)))×LR×Int×Int×Bool):=prg.run n EO x
noncomputable def dA (n:Nat) (x:A12):Option Bool:=prg.run n GY x
noncomputable def bD (n:Nat) (x:Int×LI×LR×LL×LL×(Option (List (ByteArray×Int)))×LR×Int×Int×Bool×Int×Int×LI×LI×Bool):Option (Int×LI×LR×LL×LL×(Option (List (ByteArray×Int)))×LR×Int×Int×Bool×LI):=prg.run n BJ x
noncomputable def kJ (n:Nat) (x:A1):Option (List Bool):=prg.run n PG x
noncomputable def iP (n:Nat) (x:List Int):Option LI:=prg.run n Gw x
noncomputable def jG (n:Nat) (x:A14):Option Bool:=prg.run n GZ x
noncomputable def bU (n:Nat) (x:A4):Option Int:=prg.run n lD x
noncomputable def aN (n:Nat) (x:A4):Option Bool:=prg.run n kS x
noncomputable def mX (n:Nat) (x:A0):Option (A45):=prg.run n Kq x
noncomputable def qY (n:Nat) (x:A0):Option (A23):=prg.run n SA x
noncomputable def qX (n:Nat) (x:A1):Option (A1):=prg.run n Ul x
noncomputable def jB (n:Nat) (x:List Bool):Option (A12):=prg.run n Dx x
noncomputable def mY (n:Nat) (x:A52):Option ByteArray:=prg.run n VT x
noncomputable def rE (n:Nat) (x:A1):Option (List (Option (List (A7)))):=prg.run n Sr x
noncomputable def fC (n:Nat) (x:List ByteArray):Option (A12):=prg.run n Bo x
noncomputable def mQ (n:Nat) (x:A1):Option LI:=prg.run n J9 x
noncomputable def fJ (n:Nat) (x:List Int):Option LI:=prg.run n xP x
noncomputable def mg (n:Nat) (x:A46):Option (A1):=prg.run n Ns x
noncomputable def oO (n:Nat) (x:A1):Option LI:=prg.run n KF x
noncomputable def jq (n:Nat) (x:A0):Option (A23):=prg.run n JX x
noncomputable def lJ (n:Nat) (x:A40):Option Bool:=prg.run n PZ x
noncomputable def sJ (n:Nat) (x:A11):Option Bool:=prg.run n Qr x
noncomputable def jk (n:Nat) (x:Unit):Option Bool:=prg.run n Ox x
noncomputable def wE (n:Nat) (x:A47):Option (A43):=prg.run n Px x
noncomputable def jJ (n:Nat) (x:A20):Option (A30):=prg.run n NC x
noncomputable def lK (n:Nat) (x:A5):Option Bool:=prg.run n Qh x
noncomputable def vT (n:Nat) (x:A2):Option Int:=prg.run n QZ x
noncomputable def l7 (n:Nat) (x:A13):Option (List (Option (List Bool))):=prg.run n S9 x
noncomputable def qc (n:Nat) (x:A2):Option (A12):=prg.run n MN x
noncomputable def pV (n:Nat) (x:A2):Option (A7):=prg.run n QI x
noncomputable def jP (n:Nat) (x:A12):Option Bool:=prg.run n Vl x
noncomputable def mZ (n:Nat) (x:A12):Option LI:=prg.run n KD x
noncomputable def vN (n:Nat) (x:A49):Option LI:=prg.run n Pm x
noncomputable def mV (n:Nat) (x:A6):Option LI:=prg.run n Wi x
noncomputable def vY (n:Nat) (x:A40):Option Bool:=prg.run n OY x
noncomputable def qV (n:Nat) (x:A6):Option Bool:=prg.run n Si x
noncomputable def jY (n:Nat) (x:A15):Option (A64):=prg.run n IV x
noncomputable def xU (n:Nat) (x:A16):Option Bool:=prg.run n ET x
theorem SV (n:Nat) (x:A22):yC (n+1) x=Go.Bk.fU.P n x:=Uj n (prg.run n) x
theorem TK (n:Nat) (x:A41):vC (n+1) x=Go.Bk.Ed.P (yC n) n x:=Ua n (prg.run n) x
theorem Ou (n:Nat) (x:A10):jh (n+1) x=Go.Bk.jX.P (jh n) n x:=NM n (prg.run n) x
theorem Ut (n:Nat) (x:A10):lZ (n+1) x=Go.Bk.Eo.P (jh n) n x:=Uc n (prg.run n) x
theorem zM (n:Nat) (x:List Int):kK (n+1) x=Go.Bk.cu.P n x:=zG n (prg.run n) x
theorem J3 (n:Nat) (x:A5):jg (n+1) x=Go.Bk.fD.P (jg n) n x:=KP n (prg.run n) x
theorem Nq (n:Nat) (x:A5):oh (n+1) x=Go.Bk.qZ.P (lZ n) (kK n) (jg n) n x:=MQ n (prg.run n) x
theorem O4 (n:Nat) (x:Unit):rZ (n+1) x=Go.Bk.EZ.P n x:=OV n (prg.run n) x
theorem qP (n:Nat) (x:Int):fE (n+1) x=Go.Bk.fZ.P n x:=y7 n (prg.run n) x
theorem uS (n:Nat) (x:List Int):jV (n+1) x=Go.Bk.fB.P (fE n) n x:=Dk n (prg.run n) x
theorem qJ (n:Nat) (x:List Int):iV (n+1) x=Go.Bk.jH.P (jV n) n x:=zh n (prg.run n) x
theorem tN (n:Nat) (x:List Int):eF (n+1) x=Go.Bk.jC.P (iV n) n x:=BI n (prg.run n) x
theorem CB (n:Nat) (x:A32):fA (n+1) x=Go.Bk.pG.P n x:=J7 n (prg.run n) x
theorem F7 (n:Nat) (x:A0):dP (n+1) x=Go.Bk.bQ.P (fA n) (eF n) n x:=Qe n (prg.run n) x
theorem nI (n:Nat) (x:A9):dG (n+1) x=Go.Bk.eU.P (bW n) n x:=tZ n (prg.run n) x
theorem uP (n:Nat) (x:A9):aW (n+1) x=Go.Bk.jO.P (dG n) n x:=CX n (prg.run n) x
theorem LM (n:Nat) (x:A52):kE (n+1) x=Go.Bk.qB.P (aW n) n x:=Wp n (prg.run n) x
theorem tK (n:Nat) (x:A0):jI (n+1) x=Go.Bk.dR.P (dP n) (kE n) n x:=Bv n (prg.run n) x
theorem JD (n:Nat) (x:A1):vw (n+1) x=Go.Bk.oU.P (aY n) n x:=TU n (prg.run n) x
theorem tH (n:Nat) (x:LI×(Option (List (A3)))×Int):aG (n+1) x=Go.Bk.jy.P n x:=Bq n (prg.run n) x
theorem yT (n:Nat) (x:A1):mM (n+1) x=Go.Bk.bP.P (aG n) n x:=Gu n (prg.run n) x
theorem zD (n:Nat) (x:A14):jU (n+1) x=Go.Bk.ql.P n x:=JK n (prg.run n) x
theorem iJ (n:Nat) (x:A4):bV (n+1) x=Go.Bk.bK.P (jU n) n x:=mF n (prg.run n) x
theorem gW (n:Nat) (x:A4):aQ (n+1) x=Go.Bk.dB.P (bV n) n x:=kV n (prg.run n) x
theorem DF (n:Nat) (x:A1):jK (n+1) x=Go.Bk.cZ.P (aG n) (mM n) (aQ n) n x:=ML n (prg.run n) x
theorem Dw (n:Nat) (x:A14):lQ (n+1) x=Go.Bk.uJ.P n x:=Nz n (prg.run n) x
theorem iU (n:Nat) (x:A4):bZ (n+1) x=Go.Bk.bT.P (lQ n) n x:=nC n (prg.run n) x
theorem iE (n:Nat) (x:A4):aT (n+1) x=Go.Bk.dJ.P (bZ n) n x:=lH n (prg.run n) x
theorem zX (n:Nat) (x:Int):kZ (n+1) x=Go.Bk.cmp_isNaN_int.P n x:=Jj n (prg.run n) x
theorem xM (n:Nat) (x:A7):dO (n+1) x=Go.Bk.cmp_Compare_int.P (kZ n) n x:=EP n (prg.run n) x
theorem pO (n:Nat) (x:A40):iq (n+1) x=Go.Bk.bY.P (dO n) n x:=xw n (prg.run n) x
theorem FC (n:Nat) (x:List Int):sO (n+1) x=Go.Bk.kY.P n x:=Q9 n (prg.run n) x
theorem FN (n:Nat) (x:A8):pK (n+1) x=Go.Bk.qU.P (dO n) (sO n) (iq n) n x:=Rx n (prg.run n) x
theorem Aq (n:Nat) (x:A8):gI (n+1) x=Go.Bk.og.P (pK n) n x:=Ik n (prg.run n) x
theorem su (n:Nat) (x:List Ru):jw (n+1) x=Go.Bk.cO.P (gI n) n x:=zY n (prg.run n) x
theorem DN (n:Nat) (x:List Ru):gU (n+1) x=Go.Bk.qW.P (jw n) (dQ n) n x:=ND n (prg.run n) x
theorem JC (n:Nat) (x:A31):lW (n+1) x=Go.Bk.fK.P (gU n) (aT n) n x:=SK n (prg.run n) x
theorem IU (n:Nat) (x:A0):uH (n+1) x=Go.Bk.wW.P (lW n) (dP n) (jK n) n x:=RG n (prg.run n) x
theorem PU (n:Nat) (x:A0):pX (n+1) x=Go.Bk.wJ.P n x:=WX n (prg.run n) x
theorem Ac (n:Nat) (x:List Int):kX (n+1) x=Go.Bk.eX.P n x:=Ji n (prg.run n) x
theorem xO (n:Nat) (x:Int×LI×LR×LL×LL×(Option (List (ByteArray×Int)))×LR×Int×Int×Bool×LI):lu (n+1) x=Go.Bk.fM.P (kX n) n x:=EU n (prg.run n) x
theorem sQ (n:Nat) (x:A12):dA (n+1) x=Go.Bk.kN.P n x:=Gt n (prg.run n) x
theorem tu (n:Nat) (x:Int×LI×LR×LL×LL×(Option (List (ByteArray×Int)))×LR×Int×Int×Bool×Int×Int×LI×LI×Bool):bD (n+1) x=Go.Bk.bH.P (dA n) (bD n) (lu n) (eP n) n x:=BF n (prg.run n) x
theorem FM (n:Nat) (x:A1):kJ (n+1) x=Go.Bk.lq.P n x:=Qc n (prg.run n) x
theorem yR (n:Nat) (x:List Int):iP (n+1) x=Go.Bk.gQ.P (dA n) n x:=Gv n (prg.run n) x
theorem yS (n:Nat) (x:A14):jG (n+1) x=Go.Bk.oQ.P n x:=GR n (prg.run n) x
theorem iC (n:Nat) (x:A4):bU (n+1) x=Go.Bk.bJ.P (jG n) n x:=lI n (prg.run n) x
theorem gJ (n:Nat) (x:A4):aN (n+1) x=Go.Bk.dh.P (bU n) n x:=kQ n (prg.run n) x
theorem BO (n:Nat) (x:A0):mX (n+1) x=Go.Bk.dH.P (pX n) (kJ n) (gU n) (dP n) (iP n) (bD n) (aN n) n x:=Kw n (prg.run n) x
theorem Jm (n:Nat) (x:A0):qY (n+1) x=Go.Bk.xX.P (vw n) (jI n) (uH n) (mX n) n x:=Ur n (prg.run n) x
theorem JR (n:Nat) (x:A1):qX (n+1) x=Go.Bk.xC.P (lW n) (jK n) n x:=TQ n (prg.run n) x
theorem wG (n:Nat) (x:List Bool):jB (n+1) x=Go.Bk.kF.P n x:=DI n (prg.run n) x
theorem LX (n:Nat) (x:A52):mY (n+1) x=Go.Bk.Ep.P (kE n) n x:=Wj n (prg.run n) x
theorem IX (n:Nat) (x:A1):rE (n+1) x=Go.Bk.gy.P (mY n) (aY n) (aJ n) n x:=RD n (prg.run n) x
theorem tJ (n:Nat) (x:List ByteArray):fC (n+1) x=Go.Bk.jE.P n x:=Bz n (prg.run n) x
theorem BL (n:Nat) (x:A1):mQ (n+1) x=Go.Bk.dL.P (kJ n) (jB n) (fC n) (rE n) (aW n) n x:=KE n (prg.run n) x
theorem pU (n:Nat) (x:List Int):fJ (n+1) x=Go.Bk.bM.P n x:=xK n (prg.run n) x
theorem DU (n:Nat) (x:A46):mg (n+1) x=Go.Bk.dW.P (gU n) (fJ n) (ig n) n x:=Oj n (prg.run n) x
theorem BR (n:Nat) (x:A1):oO (n+1) x=Go.Bk.bF.P (dQ n) n x:=KR n (prg.run n) x
theorem Ci (n:Nat) (x:A0):jq (n+1) x=Go.Bk.jv.P (qX n) (qY n) (oO n) (mQ n) (mg n) n x:=KJ n (prg.run n) x
theorem PO (n:Nat) (x:A40):lJ (n+1) x=Go.Bk.xB.P n x:=Qb n (prg.run n) x
theorem QN (n:Nat) (x:A11):sJ (n+1) x=Go.Bk.xq.P (lJ n) n x:=Rl n (prg.run n) x
theorem Nb (n:Nat) (x:Unit):jk (n+1) x=Go.Bk.Di.P (rZ n) (jq n) (sJ n) n x:=Oe n (prg.run n) x
theorem P6 (n:Nat) (x:A47):wE (n+1) x=Go.Bk.mW.P n x:=Rq n (prg.run n) x
theorem Ny (n:Nat) (x:A20):jJ (n+1) x=Go.Bk.jW.P (jJ n) n x:=Ob n (prg.run n) x
theorem QA (n:Nat) (x:A5):lK (n+1) x=Go.Bk.wZ.P (eF n) (jJ n) n x:=Qa n (prg.run n) x
theorem Rw (n:Nat) (x:A2):vT (n+1) x=Go.Bk.xg.P (dP n) (lK n) n x:=P9 n (prg.run n) x
theorem Ui (n:Nat) (x:A13):l7 (n+1) x=Go.Bk.gK.P (l7 n) n x:=Uh n (prg.run n) x
theorem Oy (n:Nat) (x:A2):qc (n+1) x=Go.Bk.kR.P (pX n) (vT n) (l7 n) n x:=OA n (prg.run n) x
theorem FH (n:Nat) (x:A2):pV (n+1) x=Go.Bk.xH.P (qc n) (dP n) (jq n) (lK n) n x:=Qj n (prg.run n) x
theorem Lh (n:Nat) (x:A12):jP (n+1) x=Go.Bk.uf.P n x:=VB n (prg.run n) x
theorem J6 (n:Nat) (x:A12):mZ (n+1) x=Go.Bk.iQ.P n x:=J5 n (prg.run n) x
theorem Q7 (n:Nat) (x:A49):vN (n+1) x=Go.Bk.iM.P (jP n) (mZ n) n x:=O7 n (prg.run n) x
theorem Vp (n:Nat) (x:A6):mV (n+1) x=Go.Bk.rU.P (mV n) (vN n) n x:=Wn n (prg.run n) x
theorem Qk (n:Nat) (x:A40):vY (n+1) x=Go.Bk.oC.P (jP n) n x:=OZ n (prg.run n) x
theorem TS (n:Nat) (x:A6):qV (n+1) x=Go.Bk.Ec.P (vY n) (mV n) n x:=TG n (prg.run n) x
theorem Jv (n:Nat) (x:A15):jY (n+1) x=Go.Bk.lT.P (jY n) n x:=IC n (prg.run n) x
theorem E8 (n:Nat) (x:A16):xU (n+1) x=Go.Bk.nR.P (jk n) (vC n) (pV n) (lZ n) (wE n) (jY n) (oh n) (qV n) n x:=EF n (prg.run n) x
end Go.Proofs.YtdchbjmbgecejaaGreatDoor.Am
end
