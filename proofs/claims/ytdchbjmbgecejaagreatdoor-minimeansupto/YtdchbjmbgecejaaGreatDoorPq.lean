import Derived.Test.YtdchbjmbgecejaaGreatDoorPr
import Derived.Test.YtdchbjmbgecejaaGreatDoorMj
noncomputable section
namespace Go.Proofs.YtdchbjmbgecejaaGreatDoor.Am
open Go Go.AM Go.Bk
set_option maxRecDepth 100000
set_option linter.unusedVariables false
noncomputable def F5:Nat→Unit→Option (Int×LI×LR)
 |0,_=>none
 |n+1,x=>Go.Bk.EZ.P n x
noncomputable def Az:Nat→Int→Option Bool
 |0,_=>none
 |n+1,x=>Go.Bk.cmp_isNaN_int.P n x
noncomputable def rO:Nat→Int×Int→Option Int
 |0,_=>none
 |n+1,x=>Go.Bk.cmp_Compare_int.P (Az n) n x
noncomputable def Gf:Nat→List Int→Option Int
 |0,_=>none
 |n+1,x=>Go.Bk.kY.P n x
noncomputable def pz:Nat→LI×LI→Option Int
 |0,_=>none
 |n+1,x=>Go.Bk.bY.P (rO n) n x
noncomputable def FU:Nat→Int×LI×Int×Int×LI×Int→Option Int
 |0,_=>none
 |n+1,x=>Go.Bk.qU.P (rO n) (Gf n) (pz n) n x
noncomputable def Af:Nat→Int×LI×Int×Int×LI×Int→Option Bool
 |0,_=>none
 |n+1,x=>Go.Bk.og.P (FU n) n x
noncomputable def sD:Nat→List Ru→Option LR
 |0,_=>none
 |n+1,x=>Go.Bk.cO.P (Af n) n x
noncomputable def qH:Nat→List Ru→Option ((List Ru))
 |0,_=>none
 |n+1,x=>vH x
noncomputable def um:Nat→List Ru→Option LR
 |0,_=>none
 |n+1,x=>Go.Bk.qW.P (sD n) (qH n) n x
noncomputable def DC:Nat→Int×(List Bool)→Option Bool
 |0,_=>none
 |n+1,x=>Go.Bk.uJ.P n x
noncomputable def iT:Nat→LI×(List Bool)→Option Int
 |0,_=>none
 |n+1,x=>Go.Bk.bT.P (DC n) n x
noncomputable def iD:Nat→LI×(List Bool)→Option Bool
 |0,_=>none
 |n+1,x=>Go.Bk.dJ.P (iT n) n x
noncomputable def Dj:Nat→Int×LI×LR×(List Bool)→Option (Int×LI×LR)
 |0,_=>none
 |n+1,x=>Go.Bk.fK.P (um n) (iD n) n x
noncomputable def oL:Nat→LI×(Option (List (Int×Bool)))×Int→Option (LI×(Option (List (Int×Bool))))
 |0,_=>none
 |n+1,x=>Go.Bk.jy.P n x
noncomputable def yY:Nat→Int×LI×LR→Option (List Bool)
 |0,_=>none
 |n+1,x=>Go.Bk.bP.P (oL n) n x
noncomputable def zZ:Nat→Int×(List Bool)→Option Bool
 |0,_=>none
 |n+1,x=>Go.Bk.ql.P n x
noncomputable def iL:Nat→LI×(List Bool)→Option Int
 |0,_=>none
 |n+1,x=>Go.Bk.bK.P (zZ n) n x
noncomputable def gV:Nat→LI×(List Bool)→Option Bool
 |0,_=>none
 |n+1,x=>Go.Bk.dB.P (iL n) n x
noncomputable def yM:Nat→Int×LI×LR→Option (List Bool)
 |0,_=>none
 |n+1,x=>Go.Bk.cZ.P (oL n) (yY n) (gV n) n x
noncomputable def Jt:Nat→Int×LI×LR→Option (Int×LI×LR)
 |0,_=>none
 |n+1,x=>Go.Bk.xC.P (Dj n) (yM n) n x
noncomputable def nG:Nat→List Int→Option (List Int)
 |0,_=>none
 |n+1,x=>Ig x
noncomputable def Hw:Nat→Int×LI×LR→Option (Int×LI×LR)
 |0,_=>none
 |n+1,x=>Go.Bk.oU.P (nG n) n x
noncomputable def BM:Nat→Int×Int×LI×LR→Option Bool
 |0,_=>none
 |n+1,x=>Go.Bk.pG.P n x
noncomputable def qM:Nat→Int→Option Bool
 |0,_=>none
 |n+1,x=>Go.Bk.fZ.P n x
noncomputable def uV:Nat→List Int→Option Int
 |0,_=>none
 |n+1,x=>Go.Bk.fB.P (qM n) n x
noncomputable def qK:Nat→List Int→Option Bool
 |0,_=>none
 |n+1,x=>Go.Bk.jH.P (uV n) n x
noncomputable def tC:Nat→List Int→Option Bool
 |0,_=>none
 |n+1,x=>Go.Bk.jC.P (qK n) n x
noncomputable def vZ:Nat→LI×Int×LI×LR→Option Bool
 |0,_=>none
 |n+1,x=>Go.Bk.bQ.P (BM n) (tC n) n x
noncomputable def mJ:Nat→List Int×Int×Int→Option ((List Int))
 |0,_=>none
 |n+1,x=>oZ x
noncomputable def nH:Nat→LI×Int×Int→Option LI
 |0,_=>none
 |n+1,x=>Go.Bk.eU.P (mJ n) n x
noncomputable def o8:Nat→LI×Int×Int→Option LI
 |0,_=>none
 |n+1,x=>Go.Bk.jO.P (nH n) n x
noncomputable def EX:Nat→Int×LI→Option ByteArray
 |0,_=>none
 |n+1,x=>Go.Bk.qB.P (o8 n) n x
noncomputable def tq:Nat→LI×Int×LI×LR→Option (Bool×Int)
 |0,_=>none
 |n+1,x=>Go.Bk.dR.P (vZ n) (EX n) n x
noncomputable def Jw:Nat→LI×Int×LI×LR→Option (Int×LI×LR×Int)
 |0,_=>none
 |n+1,x=>Go.Bk.wW.P (Dj n) (vZ n) (yM n) n x
noncomputable def QY:Nat→LI×Int×LI×LR→Option LL
 |0,_=>none
 |n+1,x=>Go.Bk.wJ.P n x
noncomputable def Ah:Nat→Int×LI×LR→Option (List Bool)
 |0,_=>none
 |n+1,x=>Go.Bk.lq.P n x
noncomputable def sU:Nat→LI×Int→Option Bool
 |0,_=>none
 |n+1,x=>Go.Bk.kN.P n x
noncomputable def yZ:Nat→List Int→Option LI
 |0,_=>none
 |n+1,x=>Go.Bk.gQ.P (sU n) n x
noncomputable def zy:Nat→List Int→Option ByteArray
 |0,_=>none
 |n+1,x=>Go.Bk.eX.P n x
noncomputable def xE:Nat→Int×LI×LR×LL×LL×(Option (List (ByteArray×Int)))×LR×Int×Int×Bool×LI→Option (Int×Int×LI×LR×LL×LL×(Option (List (ByteArray×Int)))×LR×Int×Int×Bool)
 |0,_=>none
 |n+1,x=>Go.Bk.fM.P (zy n) n x
noncomputable def oD:Nat→List Int→Option ((List Int×List Int))
 |0,_=>none
 |n+1,x=>yG x
noncomputable def oM:Nat→Int×LI×LR×LL×LL×(Option (List (ByteArray×Int)))×LR×Int×Int×Bool×Int×Int×LI×LI×Bool→Option (Int×LI×LR×LL×LL×(Option (List (ByteArray×Int)))×LR×Int×Int×Bool×LI)
 |0,_=>none
 |n+1,x=>Go.Bk.bH.P (sU n) (oM n) (xE n) (oD n) n x
noncomputable def yU:Nat→Int×(List Bool)→Option Bool
 |0,_=>none
 |n+1,x=>Go.Bk.oQ.P n x
noncomputable def iG:Nat→LI×(List Bool)→Option Int
 |0,_=>none
 |n+1,x=>Go.Bk.bJ.P (yU n) n x
noncomputable def gu:Nat→LI×(List Bool)→Option Bool
 |0,_=>none
 |n+1,x=>Go.Bk.dh.P (iG n) n x
noncomputable def BZ:Nat→LI×Int×LI×LR→Option (Int×LI×LR×LL×Int)
 |0,_=>none
 |n+1,x=>Go.Bk.dH.P (QY n) (Ah n) (um n) (vZ n) (yZ n) (oM n) (gu n) n x
noncomputable def IY:Nat→LI×Int×LI×LR→Option (Int×LI×LR×Int)
 |0,_=>none
 |n+1,x=>Go.Bk.xX.P (Hw n) (tq n) (Jw n) (BZ n) n x
noncomputable def Cb:Nat→Int×LI×LR→Option LI
 |0,_=>none
 |n+1,x=>Go.Bk.bF.P (qH n) n x
noncomputable def vS:Nat→List Bool→Option (LI×Int)
 |0,_=>none
 |n+1,x=>Go.Bk.kF.P n x
noncomputable def tY:Nat→List ByteArray→Option (LI×Int)
 |0,_=>none
 |n+1,x=>Go.Bk.jE.P n x
noncomputable def MI:Nat→Int×LI→Option ByteArray
 |0,_=>none
 |n+1,x=>Go.Bk.Ep.P (EX n) n x
noncomputable def fP:Nat→List (Int×Int)→Option ((List (Int×Int)))
 |0,_=>none
 |n+1,x=>xZ x
noncomputable def Ju:Nat→Int×LI×LR→Option (List (Option (List (Int×Int))))
 |0,_=>none
 |n+1,x=>Go.Bk.gy.P (MI n) (nG n) (fP n) n x
noncomputable def BN:Nat→Int×LI×LR→Option LI
 |0,_=>none
 |n+1,x=>Go.Bk.dL.P (Ah n) (vS n) (tY n) (Ju n) (o8 n) n x
noncomputable def pR:Nat→List Int→Option LI
 |0,_=>none
 |n+1,x=>Go.Bk.bM.P n x
noncomputable def sG:Nat→List Int→Option ((List Int))
 |0,_=>none
 |n+1,x=>Tj x
noncomputable def En:Nat→Int×LI×LR×Int×LI→Option (Int×LI×LR)
 |0,_=>none
 |n+1,x=>Go.Bk.dW.P (um n) (pR n) (sG n) n x
noncomputable def BP:Nat→LI×Int×LI×LR→Option (Int×LI×LR×Int)
 |0,_=>none
 |n+1,x=>Go.Bk.jv.P (Jt n) (IY n) (Cb n) (BN n) (En n) n x
noncomputable def FQ:Nat→LI×LI→Option Bool
 |0,_=>none
 |n+1,x=>Go.Bk.xB.P n x
noncomputable def FY:Nat→Int×LI×LR×Int×LI×LR→Option Bool
 |0,_=>none
 |n+1,x=>Go.Bk.xq.P (FQ n) n x
noncomputable def D5:Nat→Unit→Option Bool
 |0,_=>none
 |n+1,x=>Go.Bk.Di.P (F5 n) (BP n) (FY n) n x
theorem Oc (n:Nat):rZ n=F5 n:=by
 cases n
 ·rfl
 ·funext x;exact O4 _ x
theorem GL (n:Nat):kZ n=Az n:=by
 cases n
 ·rfl
 ·funext x;exact zX _ x
theorem wz (n:Nat):dO n=rO n:=by
 cases n
 ·rfl
 ·funext x;rw[xM,GL];rfl
theorem MS (n:Nat):sO n=Gf n:=by
 cases n
 ·rfl
 ·funext x;exact FC _ x
theorem wR (n:Nat):iq n=pz n:=by
 cases n
 ·rfl
 ·funext x;rw[pO,wz];rfl
theorem MP (n:Nat):pK n=FU n:=by
 cases n
 ·rfl
 ·funext x;rw[FN,wz,MS,wR];rfl
theorem GV (n:Nat):gI n=Af n:=by
 cases n
 ·rfl
 ·funext x;rw[Aq,MP];rfl
theorem zk (n:Nat):jw n=sD n:=by
 cases n
 ·rfl
 ·funext x;rw[su,GV];rfl
theorem vF (n:Nat):dQ n=qH n:=by
 cases n
 ·rfl
 ·funext x;exact wB _ x
theorem wM (n:Nat):gU n=um n:=by
 cases n
 ·rfl
 ·funext x;rw[DN,zk,vF];rfl
theorem J8 (n:Nat):lQ n=DC n:=by
 cases n
 ·rfl
 ·funext x;exact Dw _ x
theorem mO (n:Nat):bZ n=iT n:=by
 cases n
 ·rfl
 ·funext x;rw[iU,J8];rfl
theorem kW (n:Nat):aT n=iD n:=by
 cases n
 ·rfl
 ·funext x;rw[iE,mO];rfl
theorem FX (n:Nat):lW n=Dj n:=by
 cases n
 ·rfl
 ·funext x;rw[JC,wM,kW];rfl
theorem sN (n:Nat):aG n=oL n:=by
 cases n
 ·rfl
 ·funext x;exact tH _ x
theorem Fg (n:Nat):mM n=yY n:=by
 cases n
 ·rfl
 ·funext x;rw[yT,sN];rfl
theorem GN (n:Nat):jU n=zZ n:=by
 cases n
 ·rfl
 ·funext x;exact zD _ x
theorem lF (n:Nat):bV n=iL n:=by
 cases n
 ·rfl
 ·funext x;rw[iJ,GN];rfl
theorem kP (n:Nat):aQ n=gV n:=by
 cases n
 ·rfl
 ·funext x;rw[gW,lF];rfl
theorem BX (n:Nat):jK n=yM n:=by
 cases n
 ·rfl
 ·funext x;rw[DF,sN,Fg,kP];rfl
theorem QD (n:Nat):qX n=Jt n:=by
 cases n
 ·rfl
 ·funext x;rw[JR,FX,BX];rfl
theorem qm (n:Nat):aY n=nG n:=by
 cases n
 ·rfl
 ·funext x;exact qL _ x
theorem PY (n:Nat):vw n=Hw n:=by
 cases n
 ·rfl
 ·funext x;rw[JD,qm];rfl
theorem IL (n:Nat):fA n=BM n:=by
 cases n
 ·rfl
 ·funext x;exact CB _ x
theorem yN (n:Nat):fE n=qM n:=by
 cases n
 ·rfl
 ·funext x;exact qP _ x
theorem Bj (n:Nat):jV n=uV n:=by
 cases n
 ·rfl
 ·funext x;rw[uS,yN];rfl
theorem yj (n:Nat):iV n=qK n:=by
 cases n
 ·rfl
 ·funext x;rw[qJ,Bj];rfl
theorem zu (n:Nat):eF n=tC n:=by
 cases n
 ·rfl
 ·funext x;rw[tN,yj];rfl
theorem yD (n:Nat):dP n=vZ n:=by
 cases n
 ·rfl
 ·funext x;rw[F7,IL,zu];rfl
theorem sK (n:Nat):bW n=mJ n:=by
 cases n
 ·rfl
 ·funext x;exact mG _ x
theorem sV (n:Nat):dG n=nH n:=by
 cases n
 ·rfl
 ·funext x;rw[nI,sK];rfl
theorem tV (n:Nat):aW n=o8 n:=by
 cases n
 ·rfl
 ·funext x;rw[uP,sV];rfl
theorem II (n:Nat):kE n=EX n:=by
 cases n
 ·rfl
 ·funext x;rw[LM,tV];rfl
theorem zN (n:Nat):jI n=tq n:=by
 cases n
 ·rfl
 ·funext x;rw[tK,yD,II];rfl
theorem PI (n:Nat):uH n=Jw n:=by
 cases n
 ·rfl
 ·funext x;rw[IU,FX,yD,BX];rfl
theorem V7 (n:Nat):pX n=QY n:=by
 cases n
 ·rfl
 ·funext x;exact PU _ x
theorem DY (n:Nat):kJ n=Ah n:=by
 cases n
 ·rfl
 ·funext x;exact FM _ x
theorem xI (n:Nat):dA n=sU n:=by
 cases n
 ·rfl
 ·funext x;exact sQ _ x
theorem ES (n:Nat):iP n=yZ n:=by
 cases n
 ·rfl
 ·funext x;rw[yR,xI];rfl
theorem GX (n:Nat):kX n=zy n:=by
 cases n
 ·rfl
 ·funext x;exact Ac _ x
theorem Eu (n:Nat):lu n=xE n:=by
 cases n
 ·rfl
 ·funext x;rw[xO,GX];rfl
theorem uF (n:Nat):eP n=oD n:=by
 cases n
 ·rfl
 ·funext x;exact oI _ x
theorem sH: ∀n,bD n=oM n
 |0=>rfl
 |n+1=>by
  have ih:=sH n
  funext x;rw[tu,ih,xI,Eu,uF];rfl
theorem EN (n:Nat):jG n=yU n:=by
 cases n
 ·rfl
 ·funext x;exact yS _ x
theorem lC (n:Nat):bU n=iG n:=by
 cases n
 ·rfl
 ·funext x;rw[iC,EN];rfl
theorem kG (n:Nat):aN n=gu n:=by
 cases n
 ·rfl
 ·funext x;rw[gJ,lC];rfl
theorem H8 (n:Nat):mX n=BZ n:=by
 cases n
 ·rfl
 ·funext x;rw[BO,V7,DY,wM,yD,ES,sH,kG];rfl
theorem QX (n:Nat):qY n=IY n:=by
 cases n
 ·rfl
 ·funext x;rw[Jm,PY,zN,PI,H8];rfl
theorem Ip (n:Nat):oO n=Cb n:=by
 cases n
 ·rfl
 ·funext x;rw[BR,vF];rfl
theorem Df (n:Nat):jB n=vS n:=by
 cases n
 ·rfl
 ·funext x;exact wG _ x
theorem zV (n:Nat):fC n=tY n:=by
 cases n
 ·rfl
 ·funext x;exact tJ _ x
theorem TR (n:Nat):mY n=MI n:=by
 cases n
 ·rfl
 ·funext x;rw[LX,II];rfl
theorem jT (n:Nat):aJ n=fP n:=by
 cases n
 ·rfl
 ·funext x;exact fQ _ x
theorem O1 (n:Nat):rE n=Ju n:=by
 cases n
 ·rfl
 ·funext x;rw[IX,TR,qm,jT];rfl
theorem Jz (n:Nat):mQ n=BN n:=by
 cases n
 ·rfl
 ·funext x;rw[BL,DY,Df,zV,O1,tV];rfl
theorem wU (n:Nat):fJ n=pR n:=by
 cases n
 ·rfl
 ·funext x;exact pU _ x
theorem zo (n:Nat):ig n=sG n:=by
 cases n
 ·rfl
 ·funext x;exact sF _ x
theorem Kr (n:Nat):mg n=En n:=by
 cases n
 ·rfl
 ·funext x;rw[DU,wM,wU,zo];rfl
theorem I7 (n:Nat):jq n=BP n:=by
 cases n
 ·rfl
 ·funext x;rw[Ci,QD,QX,Ip,Jz,Kr];rfl
theorem NI (n:Nat):lJ n=FQ n:=by
 cases n
 ·rfl
 ·funext x;exact PO _ x
theorem MJ (n:Nat):sJ n=FY n:=by
 cases n
 ·rfl
 ·funext x;rw[QN,NI];rfl
theorem KC (n:Nat):jk n=D5 n:=by
 cases n
 ·rfl
 ·funext x;rw[Nb,Oc,I7,MJ];rfl
theorem aa1 (n:Nat):D5 (n+100) ()=some true:=by kernel_rfl
theorem aaA:Sp jk () (fun r=>r=true):=by
 refine⟨true,rfl,100,fun n hn=> ?_⟩
 obtain⟨m,rfl⟩: ∃m,n=m+100:=⟨n-100,by omega⟩
 rw[KC];exact aa1 m
end Go.Proofs.YtdchbjmbgecejaaGreatDoor.Am
end
