import Derived.Test.YtdchbjmbgecejaaGreatDoorPr
import Derived.Test.YtdchbjmbgecejaaGreatDoorMj
set_option linter.unusedVariables false
noncomputable section
namespace Go.Proofs.YtdchbjmbgecejaaGreatDoor.Am
open Go Go.AM Go.Bk
set_option maxRecDepth 100000
noncomputable def Jb:Nat->Unit->Option Ab
 |0,_=>none
 |n+1,x=>OD.P n x
noncomputable def DT:Nat->Int->Option Bool
 |0,_=>none
 |n+1,x=>cmp_isNaN_int.P n x
noncomputable def uK:Nat->Ac->Option Int
 |0,_=>none
 |n+1,x=>cmp_Compare_int.P (DT n) n x
noncomputable def Ja:Nat->LI->Option Int
 |0,_=>none
 |n+1,x=>oC.P n x
noncomputable def rQ:Nat->Ao->Option Int
 |0,_=>none
 |n+1,x=>dK.P (uK n) n x
noncomputable def I9:Nat->Af->Option Int
 |0,_=>none
 |n+1,x=>wO.P (uK n) (Ja n) (rQ n) n x
noncomputable def DN:Nat->Af->Option Bool
 |0,_=>none
 |n+1,x=>sJ.P (I9 n) n x
noncomputable def vH:Nat->LR->Option LR
 |0,_=>none
 |n+1,x=>dO.P (DN n) n x
noncomputable def tK:Nat->LR->Option ((LR))
 |0,_=>none
 |n+1,x=>xJ x
noncomputable def wH:Nat->LR->Option LR
 |0,_=>none
 |n+1,x=>wS.P (vH n) (tK n) n x
noncomputable def GZ:Nat->Ay->Option Bool
 |0,_=>none
 |n+1,x=>zA.P n x
noncomputable def jS:Nat->Ah->Option Int
 |0,_=>none
 |n+1,x=>dI.P (GZ n) n x
noncomputable def jy:Nat->Ah->Option Bool
 |0,_=>none
 |n+1,x=>gI.P (jS n) n x
noncomputable def FT:Nat->AB->Option Ab
 |0,_=>none
 |n+1,x=>iL.P (wH n) (jy n) n x
noncomputable def qN:Nat->LI×(Option (List Ad))×Int->Option (LI×(Option (List Ad)))
 |0,_=>none
 |n+1,x=>lN.P n x
noncomputable def CB:Nat->Ab->Option (List Bool)
 |0,_=>none
 |n+1,x=>dh.P (qN n) n x
noncomputable def DR:Nat->Ay->Option Bool
 |0,_=>none
 |n+1,x=>wC.P n x
noncomputable def jF:Nat->Ah->Option Int
 |0,_=>none
 |n+1,x=>dH.P (DR n) n x
noncomputable def ji:Nat->Ah->Option Bool
 |0,_=>none
 |n+1,x=>fV.P (jF n) n x
noncomputable def zW:Nat->Ab->Option (List Bool)
 |0,_=>none
 |n+1,x=>dL.P (qN n) (CB n) (ji n) n x
noncomputable def Md:Nat->Ab->Option Ab
 |0,_=>none
 |n+1,x=>Dh.P (FT n) (zW n) n x
noncomputable def oO:Nat->LI->Option LI
 |0,_=>none
 |n+1,x=>Ky x
noncomputable def Mc:Nat->Ab->Option Ab
 |0,_=>none
 |n+1,x=>sH.P (oO n) n x
noncomputable def ET:Nat->Bb->Option Bool
 |0,_=>none
 |n+1,x=>uX.P n x
noncomputable def uh:Nat->Int->Option Bool
 |0,_=>none
 |n+1,x=>jL.P n x
noncomputable def xA:Nat->LI->Option Int
 |0,_=>none
 |n+1,x=>iK.P (uh n) n x
noncomputable def ug:Nat->LI->Option Bool
 |0,_=>none
 |n+1,x=>mG.P (xA n) n x
noncomputable def vW:Nat->LI->Option Bool
 |0,_=>none
 |n+1,x=>lY.P (ug n) n x
noncomputable def yt:Nat->Aa->Option Bool
 |0,_=>none
 |n+1,x=>cZ.P (ET n) (vW n) n x
noncomputable def oh:Nat->An->Option (LI)
 |0,_=>none
 |n+1,x=>qZ x
noncomputable def oQ:Nat->An->Option LI
 |0,_=>none
 |n+1,x=>iM.P (oh n) n x
noncomputable def rG:Nat->An->Option LI
 |0,_=>none
 |n+1,x=>mY.P (oQ n) n x
noncomputable def Iz:Nat->BL->Option ByteArray
 |0,_=>none
 |n+1,x=>uO.P (rG n) n x
noncomputable def vU:Nat->Aa->Option Bm
 |0,_=>none
 |n+1,x=>fU.P (yt n) (Iz n) n x
noncomputable def MB:Nat->Aa->Option As
 |0,_=>none
 |n+1,x=>Di.P (FT n) (yt n) (zW n) n x
noncomputable def SK:Nat->Aa->Option LL
 |0,_=>none
 |n+1,x=>zy.P n x
noncomputable def DL:Nat->Ab->Option (List Bool)
 |0,_=>none
 |n+1,x=>oz.P n x
noncomputable def vO:Nat->Ag->Option Bool
 |0,_=>none
 |n+1,x=>oD.P n x
noncomputable def CJ:Nat->LI->Option LI
 |0,_=>none
 |n+1,x=>jD.P (vO n) n x
noncomputable def DU:Nat->LI->Option ByteArray
 |0,_=>none
 |n+1,x=>iq.P n x
noncomputable def y8:Nat->Int×LI×LR×LL×LL×(Option (List (ByteArray×Int)))×LR×Int×Int×Bool×LI->Option (Int×Int×LI×LR×LL×LL×(Option (List (ByteArray×Int)))×LR×Int×Int×Bool)
 |0,_=>none
 |n+1,x=>iU.P (DU n) n x
noncomputable def qK:Nat->LI->Option ((Ao))
 |0,_=>none
 |n+1,x=>zD x
noncomputable def qO:Nat->Int×LI×LR×LL×LL×(Option (List (ByteArray×Int)))×LR×Int×Int×Bool×Int×Int×LI×LI×Bool->Option (Int×LI×LR×LL×LL×(Option (List (ByteArray×Int)))×LR×Int×Int×Bool×LI)
 |0,_=>none
 |n+1,x=>bY.P (vO n) (qO n) (y8 n) (qK n) n x
noncomputable def CG:Nat->Ay->Option Bool
 |0,_=>none
 |n+1,x=>uQ.P n x
noncomputable def jA:Nat->Ah->Option Int
 |0,_=>none
 |n+1,x=>dD.P (CG n) n x
noncomputable def iZ:Nat->Ah->Option Bool
 |0,_=>none
 |n+1,x=>fQ.P (jA n) n x
noncomputable def EW:Nat->Aa->Option AA
 |0,_=>none
 |n+1,x=>eH.P (SK n) (DL n) (wH n) (yt n) (CJ n) (qO n) (iZ n) n x
noncomputable def MC:Nat->Aa->Option As
 |0,_=>none
 |n+1,x=>Dp.P (Mc n) (vU n) (MB n) (EW n) n x
noncomputable def EU:Nat->Ab->Option LI
 |0,_=>none
 |n+1,x=>bT.P (tK n) n x
noncomputable def yu:Nat->List Bool->Option Ag
 |0,_=>none
 |n+1,x=>og.P n x
noncomputable def vV:Nat->List ByteArray->Option Ag
 |0,_=>none
 |n+1,x=>lW.P n x
noncomputable def OQ:Nat->BL->Option ByteArray
 |0,_=>none
 |n+1,x=>JL.P (Iz n) n x
noncomputable def iH:Nat->List Ac->Option ((List Ac))
 |0,_=>none
 |n+1,x=>Cb x
noncomputable def MF:Nat->Ab->Option (List (Option (List Ac)))
 |0,_=>none
 |n+1,x=>jq.P (OQ n) (oO n) (iH n) n x
noncomputable def EY:Nat->Ab->Option LI
 |0,_=>none
 |n+1,x=>fB.P (DL n) (yu n) (vV n) (MF n) (rG n) n x
noncomputable def rP:Nat->LI->Option LI
 |0,_=>none
 |n+1,x=>cu.P n x
noncomputable def vI:Nat->LI->Option (LI)
 |0,_=>none
 |n+1,x=>Vp x
noncomputable def G6:Nat->Bs->Option Ab
 |0,_=>none
 |n+1,x=>fO.P (wH n) (rP n) (vI n) n x
noncomputable def EX:Nat->Aa->Option As
 |0,_=>none
 |n+1,x=>kZ.P (Md n) (MC n) (EU n) (EY n) (G6 n) n x
noncomputable def Jc:Nat->Ao->Option Bool
 |0,_=>none
 |n+1,x=>qA.P n x
noncomputable def Jd:Nat->Ae->Option Bool
 |0,_=>none
 |n+1,x=>qB.P (Jc n) n x
noncomputable def G5:Nat->Unit->Option Bool
 |0,_=>none
 |n+1,x=>Lh.P (Jb n) (EX n) (Jd n) n x
theorem PS (n:Nat):vk n=Jb n:=by
 cases n
 ·rfl
 ·funext x;exact SY _ x
theorem Jy (n:Nat):mM n=DT n:=by
 cases n
 ·rfl
 ·funext x;exact D5 _ x
theorem yc (n:Nat):eX n=uK n:=by
 cases n
 ·rfl
 ·funext x;rw[zh,Jy];rfl
theorem PO (n:Nat):vg n=Ja n:=by
 cases n
 ·rfl
 ·funext x;exact Jl _ x
theorem yN (n:Nat):jm n=rQ n:=by
 cases n
 ·rfl
 ·funext x;rw[su,yc];rfl
theorem PN (n:Nat):lT n=I9 n:=by
 cases n
 ·rfl
 ·funext x;rw[Jj,yc,PO,yN];rfl
theorem Jv (n:Nat):iV n=DN n:=by
 cases n
 ·rfl
 ·funext x;rw[DY,PN];rfl
theorem CS (n:Nat):kL n=vH n:=by
 cases n
 ·rfl
 ·funext x;rw[vJ,Jv];rfl
theorem xk (n:Nat):fA n=tK n:=by
 cases n
 ·rfl
 ·funext x;exact yD _ x
theorem yL (n:Nat):iJ n=wH n:=by
 cases n
 ·rfl
 ·funext x;rw[Hr,CS,xk];rfl
theorem NG (n:Nat):nJ n=GZ n:=by
 cases n
 ·rfl
 ·funext x;exact Hq _ x
theorem nX (n:Nat):dG n=jS n:=by
 cases n
 ·rfl
 ·funext x;rw[jT,NG];rfl
theorem mQ (n:Nat):aV n=jy n:=by
 cases n
 ·rfl
 ·funext x;rw[jB,nX];rfl
theorem IU (n:Nat):nH n=FT n:=by
 cases n
 ·rfl
 ·funext x;rw[MO,yL,mQ];rfl
theorem vC (n:Nat):aH n=qN n:=by
 cases n
 ·rfl
 ·funext x;exact vY _ x
theorem Ig (n:Nat):nU n=CB n:=by
 cases n
 ·rfl
 ·funext x;rw[CO,vC];rfl
theorem Jw (n:Nat):lD n=DR n:=by
 cases n
 ·rfl
 ·funext x;exact DZ _ x
theorem mZ (n:Nat):dA n=jF n:=by
 cases n
 ·rfl
 ·funext x;rw[jH,Jw];rfl
theorem l7 (n:Nat):aS n=ji n:=by
 cases n
 ·rfl
 ·funext x;rw[jk,mZ];rfl
theorem EP (n:Nat):kU n=zW n:=by
 cases n
 ·rfl
 ·funext x;rw[Ht,vC,Ig,l7];rfl
theorem Rw (n:Nat):uF n=Md n:=by
 cases n
 ·rfl
 ·funext x;rw[MP,IU,EP];rfl
theorem sV (n:Nat):bI n=oO n:=by
 cases n
 ·rfl
 ·funext x;exact um _ x
theorem Rt (n:Nat):wV n=Mc n:=by
 cases n
 ·rfl
 ·funext x;rw[MN,sV];rfl
theorem KL (n:Nat):gJ n=ET n:=by
 cases n
 ·rfl
 ·funext x;exact E8 _ x
theorem zJ (n:Nat):gZ n=uh n:=by
 cases n
 ·rfl
 ·funext x;exact uq _ x
theorem EL (n:Nat):lG n=xA n:=by
 cases n
 ·rfl
 ·funext x;rw[xG,zJ];rfl
theorem zI (n:Nat):jQ n=ug n:=by
 cases n
 ·rfl
 ·funext x;rw[uo,EL];rfl
theorem Dw (n:Nat):jJ n=vW n:=by
 cases n
 ·rfl
 ·funext x;rw[wz,zI];rfl
theorem zH (n:Nat):gQ n=yt n:=by
 cases n
 ·rfl
 ·funext x;rw[Jk,KL,Dw];rfl
theorem vG (n:Nat):dB n=oh n:=by
 cases n
 ·rfl
 ·funext x;exact ou _ x
theorem vM (n:Nat):dU n=oQ n:=by
 cases n
 ·rfl
 ·funext x;rw[oU,vG];rfl
theorem vT (n:Nat):bD n=rG n:=by
 cases n
 ·rfl
 ·funext x;rw[xH,vM];rfl
theorem KN (n:Nat):lM n=Iz n:=by
 cases n
 ·rfl
 ·funext x;rw[OX,vT];rfl
theorem Du (n:Nat):kT n=vU n:=by
 cases n
 ·rfl
 ·funext x;rw[vX,zH,KN];rfl
theorem Rx (n:Nat):wW n=MB n:=by
 cases n
 ·rfl
 ·funext x;rw[MQ,IU,zH,EP];rfl
theorem Xb (n:Nat):yV n=SK n:=by
 cases n
 ·rfl
 ·funext x;exact SX _ x
theorem Gv (n:Nat):lS n=DL n:=by
 cases n
 ·rfl
 ·funext x;exact Ji _ x
theorem y5 (n:Nat):dM n=vO n:=by
 cases n
 ·rfl
 ·funext x;exact vP _ x
theorem Ii (n:Nat):jM n=CJ n:=by
 cases n
 ·rfl
 ·funext x;rw[CQ,y5];rfl
theorem Jz (n:Nat):mO n=DU n:=by
 cases n
 ·rfl
 ·funext x;exact D6 _ x
theorem Gw (n:Nat):mP n=y8 n:=by
 cases n
 ·rfl
 ·funext x;rw[zi,Jz];rfl
theorem xg (n:Nat):gq n=qK n:=by
 cases n
 ·rfl
 ·funext x;exact qL _ x
theorem vF: ∀n,bP n=qO n
 |0=>rfl
 |n+1=>by
  have d:=vF n;funext x;rw[vZ,d,y5,Gw,xg];rfl
theorem Ih (n:Nat):kR n=CG n:=by
 cases n
 ·rfl
 ·funext x;exact CP _ x
theorem mV (n:Nat):cO n=jA n:=by
 cases n
 ·rfl
 ·funext x;rw[jC,Ih];rfl
theorem lV (n:Nat):aN n=iZ n:=by
 cases n
 ·rfl
 ·funext x;rw[jg,mV];rfl
theorem KP (n:Nat):oH n=EW n:=by
 cases n
 ·rfl
 ·funext x;rw[Fb,Xb,Gv,yL,zH,Ii,vF,lV];rfl
theorem Ry (n:Nat):wX n=MC n:=by
 cases n
 ·rfl
 ·funext x;rw[MR,Rt,Du,Rx,KP];rfl
theorem KO (n:Nat):qR n=EU n:=by
 cases n
 ·rfl
 ·funext x;rw[Fa,xk];rfl
theorem FH (n:Nat):kN n=yu n:=by
 cases n
 ·rfl
 ·funext x;exact yC _ x
theorem Dv (n:Nat):gU n=vV n:=by
 cases n
 ·rfl
 ·funext x;exact wo _ x
theorem Uu (n:Nat):oG n=OQ n:=by
 cases n
 ·rfl
 ·funext x;rw[OW,KN];rfl
theorem lH (n:Nat):aJ n=iH n:=by
 cases n
 ·rfl
 ·funext x;exact iI _ x
theorem Rz (n:Nat):uG n=MF n:=by
 cases n
 ·rfl
 ·funext x;rw[MS,Uu,sV,lH];rfl
theorem KR (n:Nat):oJ n=EY n:=by
 cases n
 ·rfl
 ·funext x;rw[Fg,Gv,FH,Dv,Rz,vT];rfl
theorem yM (n:Nat):iE n=rP n:=by
 cases n
 ·rfl
 ·funext x;exact rZ _ x
theorem CU (n:Nat):jo n=vI n:=by
 cases n
 ·rfl
 ·funext x;exact vK _ x
theorem NI (n:Nat):nK n=G6 n:=by
 cases n
 ·rfl
 ·funext x;rw[Hu,yL,yM,CU];rfl
theorem KQ (n:Nat):gK n=EX n:=by
 cases n
 ·rfl
 ·funext x;rw[Fe,Rw,Ry,KO,KR,NI];rfl
theorem PU (n:Nat):bU n=Jc n:=by
 cases n
 ·rfl
 ·funext x;exact Jm _ x
theorem PV (n:Nat):jO n=Jd n:=by
 cases n
 ·rfl
 ·funext x;rw[Jo,PU];rfl
theorem NH (n:Nat):dV n=G5 n:=by
 cases n
 ·rfl
 ·funext x;rw[Qp,PS,KQ,PV];rfl
theorem afq (n:Nat):G5 (n+100) ()=some true:=by kernel_rfl
theorem afR:Sp dV () (λ r=>r=true):=by
 refine⟨true,rfl,100,λ n d=> ?_⟩;obtain⟨m,rfl⟩: ∃m,n=m+100:=⟨n-100,by omega⟩;rw[NH];exact afq m
end Go.Proofs.YtdchbjmbgecejaaGreatDoor.Am
end
