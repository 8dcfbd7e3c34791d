import Derived.Test.YtdchbjmbgecejaaGreatDoorPr
import Derived.Test.YtdchbjmbgecejaaGreatDoorMj
set_option linter.unusedVariables false
noncomputable section
namespace Go.Proofs.YtdchbjmbgecejaaGreatDoor.Am
open Go Go.AM Go.Bk
set_option maxRecDepth 100000
noncomputable def Gt:Nat->Unit->Option (Int×LI×LR)
 |0,_=>none
 |n+1,x=>Go.Bk.FC.P n x
noncomputable def AX:Nat->Int->Option Bool
 |0,_=>none
 |n+1,x=>Go.Bk.cmp_isNaN_int.P n x
noncomputable def sH:Nat->Int×Int->Option Int
 |0,_=>none
 |n+1,x=>Go.Bk.cmp_Compare_int.P (AX n) n x
noncomputable def Gq:Nat->List Int->Option Int
 |0,_=>none
 |n+1,x=>Go.Bk.lK.P n x
noncomputable def qp:Nat->LI×LI->Option Int
 |0,_=>none
 |n+1,x=>Go.Bk.cZ.P (sH n) n x
noncomputable def Gp:Nat->Int×LI×Int×Int×LI×Int->Option Int
 |0,_=>none
 |n+1,x=>Go.Bk.rU.P (sH n) (Gq n) (qp n) n x
noncomputable def AU:Nat->Int×LI×Int×Int×LI×Int->Option Bool
 |0,_=>none
 |n+1,x=>Go.Bk.oI.P (Gp n) n x
noncomputable def tX:Nat->List Ru->Option LR
 |0,_=>none
 |n+1,x=>Go.Bk.dA.P (AU n) n x
noncomputable def qV:Nat->List Ru->Option ((List Ru))
 |0,_=>none
 |n+1,x=>vY x
noncomputable def uU:Nat->List Ru->Option LR
 |0,_=>none
 |n+1,x=>Go.Bk.rV.P (tX n) (qV n) n x
noncomputable def EF:Nat->Int×(List Bool)->Option Bool
 |0,_=>none
 |n+1,x=>Go.Bk.vC.P n x
noncomputable def jv:Nat->LI×(List Bool)->Option Int
 |0,_=>none
 |n+1,x=>Go.Bk.bV.P (EF n) n x
noncomputable def iP:Nat->LI×(List Bool)->Option Bool
 |0,_=>none
 |n+1,x=>Go.Bk.dN.P (jv n) n x
noncomputable def DV:Nat->Int×LI×LR×(List Bool)->Option (Int×LI×LR)
 |0,_=>none
 |n+1,x=>Go.Bk.gu.P (uU n) (iP n) n x
noncomputable def o9:Nat->LI×(Option (List (Int×Bool)))×Int->Option (LI×(Option (List (Int×Bool))))
 |0,_=>none
 |n+1,x=>Go.Bk.jM.P n x
noncomputable def zA:Nat->Int×LI×LR->Option (List Bool)
 |0,_=>none
 |n+1,x=>Go.Bk.bT.P (o9 n) n x
noncomputable def AV:Nat->Int×(List Bool)->Option Bool
 |0,_=>none
 |n+1,x=>Go.Bk.qE.P n x
noncomputable def iY:Nat->LI×(List Bool)->Option Int
 |0,_=>none
 |n+1,x=>Go.Bk.bQ.P (AV n) n x
noncomputable def iH:Nat->LI×(List Bool)->Option Bool
 |0,_=>none
 |n+1,x=>Go.Bk.dI.P (iY n) n x
noncomputable def zi:Nat->Int×LI×LR->Option (List Bool)
 |0,_=>none
 |n+1,x=>Go.Bk.dB.P (o9 n) (zA n) (iH n) n x
noncomputable def JR:Nat->Int×LI×LR->Option (Int×LI×LR)
 |0,_=>none
 |n+1,x=>Go.Bk.xM.P (DV n) (zi n) n x
noncomputable def nT:Nat->List Int->Option (List Int)
 |0,_=>none
 |n+1,x=>IJ x
noncomputable def JQ:Nat->Int×LI×LR->Option (Int×LI×LR)
 |0,_=>none
 |n+1,x=>Go.Bk.pG.P (nT n) n x
noncomputable def C9:Nat->Int×Int×LI×LR->Option Bool
 |0,_=>none
 |n+1,x=>Go.Bk.qj.P n x
noncomputable def rF:Nat->Int->Option Bool
 |0,_=>none
 |n+1,x=>Go.Bk.gX.P n x
noncomputable def vP:Nat->List Int->Option Int
 |0,_=>none
 |n+1,x=>Go.Bk.fO.P (rF n) n x
noncomputable def rE:Nat->List Int->Option Bool
 |0,_=>none
 |n+1,x=>Go.Bk.jW.P (vP n) n x
noncomputable def uH:Nat->List Int->Option Bool
 |0,_=>none
 |n+1,x=>Go.Bk.jS.P (rE n) n x
noncomputable def wR:Nat->LI×Int×LI×LR->Option Bool
 |0,_=>none
 |n+1,x=>Go.Bk.bU.P (C9 n) (uH n) n x
noncomputable def ni:Nat->List Int×Int×Int->Option ((List Int))
 |0,_=>none
 |n+1,x=>pU x
noncomputable def nV:Nat->LI×Int×Int->Option LI
 |0,_=>none
 |n+1,x=>Go.Bk.fG.P (ni n) n x
noncomputable def qg:Nat->LI×Int×Int->Option LI
 |0,_=>none
 |n+1,x=>Go.Bk.kD.P (nV n) n x
noncomputable def FP:Nat->Int×LI->Option ByteArray
 |0,_=>none
 |n+1,x=>Go.Bk.qC.P (qg n) n x
noncomputable def uF:Nat->LI×Int×LI×LR->Option (Bool×Int)
 |0,_=>none
 |n+1,x=>Go.Bk.dW.P (wR n) (FP n) n x
noncomputable def JU:Nat->LI×Int×LI×LR->Option (Int×LI×LR×Int)
 |0,_=>none
 |n+1,x=>Go.Bk.xO.P (DV n) (wR n) (zi n) n x
noncomputable def Rw:Nat->LI×Int×LI×LR->Option LL
 |0,_=>none
 |n+1,x=>Go.Bk.xA.P n x
noncomputable def AQ:Nat->Int×LI×LR->Option (List Bool)
 |0,_=>none
 |n+1,x=>Go.Bk.lJ.P n x
noncomputable def uw:Nat->LI×Int->Option Bool
 |0,_=>none
 |n+1,x=>Go.Bk.lq.P n x
noncomputable def zC:Nat->List Int->Option LI
 |0,_=>none
 |n+1,x=>Go.Bk.iq.P (uw n) n x
noncomputable def AY:Nat->List Int->Option ByteArray
 |0,_=>none
 |n+1,x=>Go.Bk.fJ.P n x
noncomputable def yw:Nat->Int×LI×LR×LL×LL×(Option (List (ByteArray×Int)))×LR×Int×Int×Bool×LI->Option (Int×Int×LI×LR×LL×LL×(Option (List (ByteArray×Int)))×LR×Int×Int×Bool)
 |0,_=>none
 |n+1,x=>Go.Bk.gB.P (AY n) n x
noncomputable def oZ:Nat->List Int->Option ((List Int×List Int))
 |0,_=>none
 |n+1,x=>yM x
noncomputable def pq:Nat->Int×LI×LR×LL×LL×(Option (List (ByteArray×Int)))×LR×Int×Int×Bool×Int×Int×LI×LI×Bool->Option (Int×LI×LR×LL×LL×(Option (List (ByteArray×Int)))×LR×Int×Int×Bool×LI)
 |0,_=>none
 |n+1,x=>Go.Bk.bJ.P (uw n) (pq n) (yw n) (oZ n) n x
noncomputable def zB:Nat->Int×(List Bool)->Option Bool
 |0,_=>none
 |n+1,x=>Go.Bk.pI.P n x
noncomputable def iQ:Nat->LI×(List Bool)->Option Int
 |0,_=>none
 |n+1,x=>Go.Bk.bM.P (zB n) n x
noncomputable def iE:Nat->LI×(List Bool)->Option Bool
 |0,_=>none
 |n+1,x=>Go.Bk.dF.P (iQ n) n x
noncomputable def Dh:Nat->LI×Int×LI×LR->Option (Int×LI×LR×LL×Int)
 |0,_=>none
 |n+1,x=>Go.Bk.dL.P (Rw n) (AQ n) (uU n) (wR n) (zC n) (pq n) (iE n) n x
noncomputable def JV:Nat->LI×Int×LI×LR->Option (Int×LI×LR×Int)
 |0,_=>none
 |n+1,x=>Go.Bk.xP.P (JQ n) (uF n) (JU n) (Dh n) n x
noncomputable def Dc:Nat->Int×LI×LR->Option LI
 |0,_=>none
 |n+1,x=>Go.Bk.bH.P (qV n) n x
noncomputable def wS:Nat->List Bool->Option (LI×Int)
 |0,_=>none
 |n+1,x=>Go.Bk.kS.P n x
noncomputable def uG:Nat->List ByteArray->Option (LI×Int)
 |0,_=>none
 |n+1,x=>Go.Bk.jP.P n x
noncomputable def Na:Nat->Int×LI->Option ByteArray
 |0,_=>none
 |n+1,x=>Go.Bk.D6.P (FP n) n x
noncomputable def gK:Nat->List (Int×Int)->Option ((List (Int×Int)))
 |0,_=>none
 |n+1,x=>zl x
noncomputable def JW:Nat->Int×LI×LR->Option (List (Option (List (Int×Int))))
 |0,_=>none
 |n+1,x=>Go.Bk.iD.P (Na n) (nT n) (gK n) n x
noncomputable def Dj:Nat->Int×LI×LR->Option LI
 |0,_=>none
 |n+1,x=>Go.Bk.dP.P (AQ n) (wS n) (uG n) (JW n) (qg n) n x
noncomputable def qo:Nat->List Int->Option LI
 |0,_=>none
 |n+1,x=>Go.Bk.bP.P n x
noncomputable def tY:Nat->List Int->Option ((List Int))
 |0,_=>none
 |n+1,x=>U5 x
noncomputable def EH:Nat->Int×LI×LR×Int×LI->Option (Int×LI×LR)
 |0,_=>none
 |n+1,x=>Go.Bk.eF.P (uU n) (qo n) (tY n) n x
noncomputable def Di:Nat->LI×Int×LI×LR->Option (Int×LI×LR×Int)
 |0,_=>none
 |n+1,x=>Go.Bk.jL.P (JR n) (JV n) (Dc n) (Dj n) (EH n) n x
noncomputable def Gu:Nat->LI×LI->Option Bool
 |0,_=>none
 |n+1,x=>Go.Bk.nM.P n x
noncomputable def Gv:Nat->Int×LI×LR×Int×LI×LR->Option Bool
 |0,_=>none
 |n+1,x=>Go.Bk.yx.P (Gu n) n x
noncomputable def EG:Nat->Unit->Option Bool
 |0,_=>none
 |n+1,x=>Go.Bk.DR.P (Gt n) (Di n) (Gv n) n x
theorem Oe (n:Nat):tq n=Gt n:=by
 cases n
 ·rfl
 ·funext x;exact RH _ x
theorem Hg (n:Nat):lM n=AX n:=by
 cases n
 ·rfl
 ·funext x;exact Bj _ x
theorem wM (n:Nat):dU n=sH n:=by
 cases n
 ·rfl
 ·funext x;rw[yB,Hg];rfl
theorem Oc (n:Nat):sZ n=Gq n:=by
 cases n
 ·rfl
 ·funext x;exact GL _ x
theorem xG (n:Nat):iK n=qp n:=by
 cases n
 ·rfl
 ·funext x;rw[qy,wM];rfl
theorem Ob (n:Nat):kW n=Gp n:=by
 cases n
 ·rfl
 ·funext x;rw[GI,wM,Oc,xG];rfl
theorem He (n:Nat):iy n=AU n:=by
 cases n
 ·rfl
 ·funext x;rw[Bg,Ob];rfl
theorem zK (n:Nat):jK n=tX n:=by
 cases n
 ·rfl
 ·funext x;rw[uf,He];rfl
theorem vM (n:Nat):dX n=qV n:=by
 cases n
 ·rfl
 ·funext x;exact wY _ x
theorem xC (n:Nat):gU n=uU n:=by
 cases n
 ·rfl
 ·funext x;rw[ER,zK,vM];rfl
theorem KZ (n:Nat):mG n=EF n:=by
 cases n
 ·rfl
 ·funext x;exact EP _ x
theorem mZ (n:Nat):cO n=jv n:=by
 cases n
 ·rfl
 ·funext x;rw[jw,KZ];rfl
theorem lS (n:Nat):aV n=iP n:=by
 cases n
 ·rfl
 ·funext x;rw[iR,mZ];rfl
theorem F7 (n:Nat):mF n=DV n:=by
 cases n
 ·rfl
 ·funext x;rw[J6,xC,lS];rfl
theorem tJ (n:Nat):aI n=o9 n:=by
 cases n
 ·rfl
 ·funext x;exact uJ _ x
theorem Fh (n:Nat):mY n=zA n:=by
 cases n
 ·rfl
 ·funext x;rw[zD,tJ];rfl
theorem Hf (n:Nat):kG n=AV n:=by
 cases n
 ·rfl
 ·funext x;exact Bh _ x
theorem lY (n:Nat):bY n=iY n:=by
 cases n
 ·rfl
 ·funext x;rw[jd,Hf];rfl
theorem lC (n:Nat):aS n=iH n:=by
 cases n
 ·rfl
 ·funext x;rw[iI,lY];rfl
theorem CX (n:Nat):jY n=zi n:=by
 cases n
 ·rfl
 ·funext x;rw[ES,tJ,Fh,lC];rfl
theorem Qq (n:Nat):rY n=JR n:=by
 cases n
 ·rfl
 ·funext x;rw[J7,F7,CX];rfl
theorem qO (n:Nat):bC n=nT n:=by
 cases n
 ·rfl
 ·funext x;exact rH _ x
theorem Qp (n:Nat):vG n=JQ n:=by
 cases n
 ·rfl
 ·funext x;rw[J5,qO];rfl
theorem Jc (n:Nat):fK n=C9 n:=by
 cases n
 ·rfl
 ·funext x;exact Dn _ x
theorem yT (n:Nat):fU n=rF n:=by
 cases n
 ·rfl
 ·funext x;exact rM _ x
theorem CB (n:Nat):kJ n=vP n:=by
 cases n
 ·rfl
 ·funext x;rw[vV,yT];rfl
theorem yS (n:Nat):jq n=rE n:=by
 cases n
 ·rfl
 ·funext x;rw[rJ,CB];rfl
theorem Ag (n:Nat):jh n=uH n:=by
 cases n
 ·rfl
 ·funext x;rw[uN,yS];rfl
theorem yR (n:Nat):fC n=wR n:=by
 cases n
 ·rfl
 ·funext x;rw[GK,Jc,Ag];rfl
theorem tN (n:Nat):bZ n=ni n:=by
 cases n
 ·rfl
 ·funext x;exact ny _ x
theorem uj (n:Nat):dK n=nV n:=by
 cases n
 ·rfl
 ·funext x;rw[nX,tN];rfl
theorem uD (n:Nat):aY n=qg n:=by
 cases n
 ·rfl
 ·funext x;rw[vW,uj];rfl
theorem Jd (n:Nat):kR n=FP n:=by
 cases n
 ·rfl
 ·funext x;rw[Nj,uD];rfl
theorem Ae (n:Nat):jV n=uF n:=by
 cases n
 ·rfl
 ·funext x;rw[uI,yR,Jd];rfl
theorem Qr (n:Nat):vH n=JU n:=by
 cases n
 ·rfl
 ·funext x;rw[J8,F7,yR,CX];rfl
theorem WH (n:Nat):xY n=Rw n:=by
 cases n
 ·rfl
 ·funext x;exact RG _ x
theorem Eh (n:Nat):kV n=AQ n:=by
 cases n
 ·rfl
 ·funext x;exact GH _ x
theorem yg (n:Nat):dG n=uw n:=by
 cases n
 ·rfl
 ·funext x;exact uy _ x
theorem Fp (n:Nat):jl n=zC n:=by
 cases n
 ·rfl
 ·funext x;rw[zG,yg];rfl
theorem Hl (n:Nat):lN n=AY n:=by
 cases n
 ·rfl
 ·funext x;exact Bl _ x
theorem Ei (n:Nat):lQ n=yw n:=by
 cases n
 ·rfl
 ·funext x;rw[yC,Hl];rfl
theorem vK (n:Nat):fF n=oZ n:=by
 cases n
 ·rfl
 ·funext x;exact o7 _ x
theorem tK: ∀n,bG n=pq n
 |0=>rfl
 |n+1=>by
  have ih:=tK n;funext x;rw[uK,ih,yg,Ei,vK];rfl
theorem Fj (n:Nat):jT n=zB n:=by
 cases n
 ·rfl
 ·funext x;exact zF _ x
theorem lT (n:Nat):bW n=iQ n:=by
 cases n
 ·rfl
 ·funext x;rw[iT,Fj];rfl
theorem kZ (n:Nat):aO n=iE n:=by
 cases n
 ·rfl
 ·funext x;rw[iF,lT];rfl
theorem Jf (n:Nat):nD n=Dh n:=by
 cases n
 ·rfl
 ·funext x;rw[Dq,WH,Eh,xC,yR,Fp,tK,kZ];rfl
theorem Qs (n:Nat):rZ n=JV n:=by
 cases n
 ·rfl
 ·funext x;rw[J9,Qp,Ae,Qr,Jf];rfl
theorem Je (n:Nat):pJ n=Dc n:=by
 cases n
 ·rfl
 ·funext x;rw[Dp,vM];rfl
theorem DF (n:Nat):jO n=wS n:=by
 cases n
 ·rfl
 ·funext x;exact wX _ x
theorem Af (n:Nat):fP n=uG n:=by
 cases n
 ·rfl
 ·funext x;exact uM _ x
theorem TI (n:Nat):nC n=Na n:=by
 cases n
 ·rfl
 ·funext x;rw[Nh,Jd];rfl
theorem kK (n:Nat):aK n=gK n:=by
 cases n
 ·rfl
 ·funext x;exact gQ _ x
theorem Qu (n:Nat):su n=JW n:=by
 cases n
 ·rfl
 ·funext x;rw[Ko,TI,qO,kK];rfl
theorem Jh (n:Nat):nH n=Dj n:=by
 cases n
 ·rfl
 ·funext x;rw[Du,Eh,DF,Af,Qu,uD];rfl
theorem xE (n:Nat):gq n=qo n:=by
 cases n
 ·rfl
 ·funext x;exact qw _ x
theorem zL (n:Nat):iL n=tY n:=by
 cases n
 ·rfl
 ·funext x;exact ug _ x
theorem Lc (n:Nat):mJ n=EH n:=by
 cases n
 ·rfl
 ·funext x;rw[ET,xC,xE,zL];rfl
theorem Jg (n:Nat):dQ n=Di n:=by
 cases n
 ·rfl
 ·funext x;rw[Dt,Qq,Qs,Je,Jh,Lc];rfl
theorem Og (n:Nat):gI n=Gu n:=by
 cases n
 ·rfl
 ·funext x;exact GN _ x
theorem Oh (n:Nat):tu n=Gv n:=by
 cases n
 ·rfl
 ·funext x;rw[RQ,Og];rfl
theorem La (n:Nat):iV n=EG n:=by
 cases n
 ·rfl
 ·funext x;rw[O4,Oe,Jg,Oh];rfl
theorem aed (n:Nat):EG (n+100) ()=some true:=by kernel_rfl
theorem aeA:Sp iV () (λ r=>r=true):=by
 refine⟨true,rfl,100,λ n hn=> ?_⟩;obtain⟨m,rfl⟩: ∃m,n=m+100:=⟨n-100,by omega⟩;rw[La];exact aed m
end Go.Proofs.YtdchbjmbgecejaaGreatDoor.Am
end
