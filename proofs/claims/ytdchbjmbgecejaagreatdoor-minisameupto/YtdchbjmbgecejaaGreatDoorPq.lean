import Derived.Test.YtdchbjmbgecejaaGreatDoorPr
import Derived.Test.YtdchbjmbgecejaaGreatDoorMj
set_option linter.unusedVariables false
noncomputable section
namespace Go.Proofs.YtdchbjmbgecejaaGreatDoor.Am
open Go Go.AM Go.Bk
set_option maxRecDepth 100000
noncomputable def Jd:Nat->Unit->Option Ab
 |0,_=>none
 |n+1,x=>OB.P n x
noncomputable def DY:Nat->Int->Option Bool
 |0,_=>none
 |n+1,x=>cmp_isNaN_int.P n x
noncomputable def uI:Nat->Ac->Option Int
 |0,_=>none
 |n+1,x=>cmp_Compare_int.P (DY n) n x
noncomputable def Jc:Nat->LI->Option Int
 |0,_=>none
 |n+1,x=>ou.P n x
noncomputable def rM:Nat->Ao->Option Int
 |0,_=>none
 |n+1,x=>dK.P (uI n) n x
noncomputable def Jb:Nat->Ag->Option Int
 |0,_=>none
 |n+1,x=>wP.P (uI n) (Jc n) (rM n) n x
noncomputable def DW:Nat->Ag->Option Bool
 |0,_=>none
 |n+1,x=>sF.P (Jb n) n x
noncomputable def vH:Nat->LR->Option LR
 |0,_=>none
 |n+1,x=>dO.P (DW n) n x
noncomputable def tH:Nat->LR->Option ((LR))
 |0,_=>none
 |n+1,x=>xK x
noncomputable def wI:Nat->LR->Option LR
 |0,_=>none
 |n+1,x=>wU.P (vH n) (tH n) n x
noncomputable def G7:Nat->Ay->Option Bool
 |0,_=>none
 |n+1,x=>zy.P n x
noncomputable def jP:Nat->Ai->Option Int
 |0,_=>none
 |n+1,x=>dI.P (G7 n) n x
noncomputable def jv:Nat->Ai->Option Bool
 |0,_=>none
 |n+1,x=>gI.P (jP n) n x
noncomputable def FX:Nat->AB->Option Ab
 |0,_=>none
 |n+1,x=>iJ.P (wI n) (jv n) n x
noncomputable def qL:Nat->LI×(Option (List Ad))×Int->Option (LI×(Option (List Ad)))
 |0,_=>none
 |n+1,x=>lJ.P n x
noncomputable def CO:Nat->Ab->Option (List Bool)
 |0,_=>none
 |n+1,x=>dh.P (qL n) n x
noncomputable def DX:Nat->Ay->Option Bool
 |0,_=>none
 |n+1,x=>wC.P n x
noncomputable def jD:Nat->Ai->Option Int
 |0,_=>none
 |n+1,x=>dH.P (DX n) n x
noncomputable def jg:Nat->Ai->Option Bool
 |0,_=>none
 |n+1,x=>fU.P (jD n) n x
noncomputable def zW:Nat->Ab->Option (List Bool)
 |0,_=>none
 |n+1,x=>dL.P (qL n) (CO n) (jg n) n x
noncomputable def L9:Nat->Ab->Option Ab
 |0,_=>none
 |n+1,x=>Dk.P (FX n) (zW n) n x
noncomputable def oM:Nat->LI->Option LI
 |0,_=>none
 |n+1,x=>Ky x
noncomputable def LZ:Nat->Ab->Option Ab
 |0,_=>none
 |n+1,x=>sD.P (oM n) n x
noncomputable def EZ:Nat->Ba->Option Bool
 |0,_=>none
 |n+1,x=>uV.P n x
noncomputable def uf:Nat->Int->Option Bool
 |0,_=>none
 |n+1,x=>jJ.P n x
noncomputable def xB:Nat->LI->Option Int
 |0,_=>none
 |n+1,x=>iI.P (uf n) n x
noncomputable def tZ:Nat->LI->Option Bool
 |0,_=>none
 |n+1,x=>mD.P (xB n) n x
noncomputable def vW:Nat->LI->Option Bool
 |0,_=>none
 |n+1,x=>lW.P (tZ n) n x
noncomputable def yu:Nat->Aa->Option Bool
 |0,_=>none
 |n+1,x=>cZ.P (EZ n) (vW n) n x
noncomputable def nZ:Nat->An->Option (LI)
 |0,_=>none
 |n+1,x=>qX x
noncomputable def oO:Nat->An->Option LI
 |0,_=>none
 |n+1,x=>iK.P (nZ n) n x
noncomputable def rD:Nat->An->Option LI
 |0,_=>none
 |n+1,x=>mY.P (oO n) n x
noncomputable def IG:Nat->BK->Option ByteArray
 |0,_=>none
 |n+1,x=>uM.P (rD n) n x
noncomputable def vU:Nat->Aa->Option Bh
 |0,_=>none
 |n+1,x=>fQ.P (yu n) (IG n) n x
noncomputable def Mc:Nat->Aa->Option Aq
 |0,_=>none
 |n+1,x=>Dl.P (FX n) (yu n) (zW n) n x
noncomputable def SG:Nat->Aa->Option LL
 |0,_=>none
 |n+1,x=>zx.P n x
noncomputable def DV:Nat->Ab->Option (List Bool)
 |0,_=>none
 |n+1,x=>oq.P n x
noncomputable def vO:Nat->Ah->Option Bool
 |0,_=>none
 |n+1,x=>oz.P n x
noncomputable def CQ:Nat->LI->Option LI
 |0,_=>none
 |n+1,x=>jB.P (vO n) n x
noncomputable def DZ:Nat->LI->Option ByteArray
 |0,_=>none
 |n+1,x=>gY.P n x
noncomputable def y7:Nat->Int×LI×LR×LL×LL×(Option (List (ByteArray×Int)))×LR×Int×Int×Bool×LI->Option (Int×Int×LI×LR×LL×LL×(Option (List (ByteArray×Int)))×LR×Int×Int×Bool)
 |0,_=>none
 |n+1,x=>iR.P (DZ n) n x
noncomputable def qI:Nat->LI->Option ((Ao))
 |0,_=>none
 |n+1,x=>zC x
noncomputable def qM:Nat->Int×LI×LR×LL×LL×(Option (List (ByteArray×Int)))×LR×Int×Int×Bool×Int×Int×LI×LI×Bool->Option (Int×LI×LR×LL×LL×(Option (List (ByteArray×Int)))×LR×Int×Int×Bool×LI)
 |0,_=>none
 |n+1,x=>bW.P (vO n) (qM n) (y7 n) (qI n) n x
noncomputable def CP:Nat->Ay->Option Bool
 |0,_=>none
 |n+1,x=>uO.P n x
noncomputable def jw:Nat->Ai->Option Int
 |0,_=>none
 |n+1,x=>dD.P (CP n) n x
noncomputable def iW:Nat->Ai->Option Bool
 |0,_=>none
 |n+1,x=>fP.P (jw n) n x
noncomputable def E8:Nat->Aa->Option AA
 |0,_=>none
 |n+1,x=>eF.P (SG n) (DV n) (wI n) (yu n) (CQ n) (qM n) (iW n) n x
noncomputable def Md:Nat->Aa->Option Aq
 |0,_=>none
 |n+1,x=>Du.P (LZ n) (vU n) (Mc n) (E8 n) n x
noncomputable def E5:Nat->Ab->Option LI
 |0,_=>none
 |n+1,x=>bT.P (tH n) n x
noncomputable def yw:Nat->List Bool->Option Ah
 |0,_=>none
 |n+1,x=>nX.P n x
noncomputable def vV:Nat->List ByteArray->Option Ah
 |0,_=>none
 |n+1,x=>lU.P n x
noncomputable def OM:Nat->BK->Option ByteArray
 |0,_=>none
 |n+1,x=>JM.P (IG n) n x
noncomputable def iF:Nat->List Ac->Option ((List Ac))
 |0,_=>none
 |n+1,x=>Ce x
noncomputable def MB:Nat->Ab->Option (List (Option (List Ac)))
 |0,_=>none
 |n+1,x=>jm.P (OM n) (oM n) (iF n) n x
noncomputable def Fb:Nat->Ab->Option LI
 |0,_=>none
 |n+1,x=>eY.P (DV n) (yw n) (vV n) (MB n) (rD n) n x
noncomputable def rJ:Nat->LI->Option LI
 |0,_=>none
 |n+1,x=>bZ.P n x
noncomputable def vI:Nat->LI->Option (LI)
 |0,_=>none
 |n+1,x=>Vl x
noncomputable def G9:Nat->Br->Option Ab
 |0,_=>none
 |n+1,x=>fM.P (wI n) (rJ n) (vI n) n x
noncomputable def Fa:Nat->Aa->Option Aq
 |0,_=>none
 |n+1,x=>kW.P (L9 n) (Md n) (E5 n) (Fb n) (G9 n) n x
noncomputable def Je:Nat->Ao->Option Bool
 |0,_=>none
 |n+1,x=>qw.P n x
noncomputable def Jf:Nat->Ae->Option Bool
 |0,_=>none
 |n+1,x=>qy.P (Je n) n x
noncomputable def G8:Nat->Unit->Option Bool
 |0,_=>none
 |n+1,x=>Ld.P (Jd n) (Fa n) (Jf n) n x
theorem PO (n:Nat):vg n=Jd n:=by
 cases n
 ·rfl
 ·funext x;exact SV _ x
theorem Jz (n:Nat):mG n=DY n:=by
 cases n
 ·rfl
 ·funext x;exact Ea _ x
theorem yg (n:Nat):eP n=uI n:=by
 cases n
 ·rfl
 ·funext x;rw[y9,Jz];rfl
theorem PN (n:Nat):uZ n=Jc n:=by
 cases n
 ·rfl
 ·funext x;exact Jo _ x
theorem yO (n:Nat):jk n=rM n:=by
 cases n
 ·rfl
 ·funext x;rw[rX,yg];rfl
theorem PL (n:Nat):lN n=Jb n:=by
 cases n
 ·rfl
 ·funext x;rw[Jl,yg,PN,yO];rfl
theorem Jw (n:Nat):iT n=DW n:=by
 cases n
 ·rfl
 ·funext x;rw[D8,PL];rfl
theorem CX (n:Nat):kG n=vH n:=by
 cases n
 ·rfl
 ·funext x;rw[vJ,Jw];rfl
theorem xq (n:Nat):eX n=tH n:=by
 cases n
 ·rfl
 ·funext x;exact yE _ x
theorem yM (n:Nat):iH n=wI n:=by
 cases n
 ·rfl
 ·funext x;rw[Hw,CX,xq];rfl
theorem NC (n:Nat):nH n=G7 n:=by
 cases n
 ·rfl
 ·funext x;exact Hu _ x
theorem nU (n:Nat):dG n=jP n:=by
 cases n
 ·rfl
 ·funext x;rw[jQ,NC];rfl
theorem mQ (n:Nat):aV n=jv n:=by
 cases n
 ·rfl
 ·funext x;rw[jy,nU];rfl
theorem IX (n:Nat):nG n=FX n:=by
 cases n
 ·rfl
 ·funext x;rw[ML,yM,mQ];rfl
theorem vC (n:Nat):aH n=qL n:=by
 cases n
 ·rfl
 ·funext x;exact vY _ x
theorem Ik (n:Nat):nS n=CO n:=by
 cases n
 ·rfl
 ·funext x;rw[CS,vC];rfl
theorem Jy (n:Nat):lq n=DX n:=by
 cases n
 ·rfl
 ·funext x;exact D9 _ x
theorem mZ (n:Nat):dA n=jD n:=by
 cases n
 ·rfl
 ·funext x;rw[jF,Jy];rfl
theorem lY (n:Nat):aS n=jg n:=by
 cases n
 ·rfl
 ·funext x;rw[jh,mZ];rfl
theorem EW (n:Nat):kQ n=zW n:=by
 cases n
 ·rfl
 ·funext x;rw[Hy,vC,Ik,lY];rfl
theorem Rt (n:Nat):uz n=L9 n:=by
 cases n
 ·rfl
 ·funext x;rw[MN,IX,EW];rfl
theorem sS (n:Nat):bI n=oM n:=by
 cases n
 ·rfl
 ·funext x;exact uh _ x
theorem Rq (n:Nat):wW n=LZ n:=by
 cases n
 ·rfl
 ·funext x;rw[MK,sS];rfl
theorem KJ (n:Nat):gJ n=EZ n:=by
 cases n
 ·rfl
 ·funext x;exact Fh _ x
theorem zJ (n:Nat):gX n=uf n:=by
 cases n
 ·rfl
 ·funext x;exact um _ x
theorem ER (n:Nat):lC n=xB n:=by
 cases n
 ·rfl
 ·funext x;rw[xH,zJ];rfl
theorem zI (n:Nat):jM n=tZ n:=by
 cases n
 ·rfl
 ·funext x;rw[uj,ER];rfl
theorem DC (n:Nat):jH n=vW n:=by
 cases n
 ·rfl
 ·funext x;rw[wz,zI];rfl
theorem zH (n:Nat):fV n=yu n:=by
 cases n
 ·rfl
 ·funext x;rw[Jm,KJ,DC];rfl
theorem vG (n:Nat):dB n=nZ n:=by
 cases n
 ·rfl
 ·funext x;exact oh _ x
theorem vM (n:Nat):dU n=oO n:=by
 cases n
 ·rfl
 ·funext x;rw[oP,vG];rfl
theorem vT (n:Nat):bD n=rD n:=by
 cases n
 ·rfl
 ·funext x;rw[xI,vM];rfl
theorem KL (n:Nat):lI n=IG n:=by
 cases n
 ·rfl
 ·funext x;rw[OV,vT];rfl
theorem Dy (n:Nat):kP n=vU n:=by
 cases n
 ·rfl
 ·funext x;rw[vX,zH,KL];rfl
theorem Rw (n:Nat):wX n=Mc n:=by
 cases n
 ·rfl
 ·funext x;rw[MO,IX,zH,EW];rfl
theorem Xb (n:Nat):yV n=SG n:=by
 cases n
 ·rfl
 ·funext x;exact SS _ x
theorem Gx (n:Nat):lM n=DV n:=by
 cases n
 ·rfl
 ·funext x;exact Jk _ x
theorem yZ (n:Nat):dM n=vO n:=by
 cases n
 ·rfl
 ·funext x;exact vP _ x
theorem Ip (n:Nat):jK n=CQ n:=by
 cases n
 ·rfl
 ·funext x;rw[CW,yZ];rfl
theorem JA (n:Nat):mJ n=DZ n:=by
 cases n
 ·rfl
 ·funext x;exact Eb _ x
theorem Gy (n:Nat):mM n=y7 n:=by
 cases n
 ·rfl
 ·funext x;rw[zh,JA];rfl
theorem xk (n:Nat):gq n=qI n:=by
 cases n
 ·rfl
 ·funext x;exact qJ _ x
theorem vF: ∀n,bP n=qM n
 |0=>rfl
 |n+1=>by
  have d:=vF n;funext x;rw[vZ,d,yZ,Gy,xk];rfl
theorem Il (n:Nat):kM n=CP n:=by
 cases n
 ·rfl
 ·funext x;exact CU _ x
theorem mV (n:Nat):cO n=jw n:=by
 cases n
 ·rfl
 ·funext x;rw[jA,Il];rfl
theorem lT (n:Nat):aN n=iW n:=by
 cases n
 ·rfl
 ·funext x;rw[iZ,mV];rfl
theorem KO (n:Nat):oD n=E8 n:=by
 cases n
 ·rfl
 ·funext x;rw[Fp,Xb,Gx,yM,zH,Ip,vF,lT];rfl
theorem Rx (n:Nat):wY n=Md n:=by
 cases n
 ·rfl
 ·funext x;rw[MP,Rq,Dy,Rw,KO];rfl
theorem KN (n:Nat):qP n=E5 n:=by
 cases n
 ·rfl
 ·funext x;rw[Fj,xq];rfl
theorem FN (n:Nat):kJ n=yw n:=by
 cases n
 ·rfl
 ·funext x;exact yD _ x
theorem Dz (n:Nat):gK n=vV n:=by
 cases n
 ·rfl
 ·funext x;exact wo _ x
theorem Uo (n:Nat):oC n=OM n:=by
 cases n
 ·rfl
 ·funext x;rw[OU,KL];rfl
theorem lD (n:Nat):aJ n=iF n:=by
 cases n
 ·rfl
 ·funext x;exact iG _ x
theorem Ry (n:Nat):uD n=MB n:=by
 cases n
 ·rfl
 ·funext x;rw[MQ,Uo,sS,lD];rfl
theorem KQ (n:Nat):oH n=Fb n:=by
 cases n
 ·rfl
 ·funext x;rw[Fv,Gx,FN,Dz,Ry,vT];rfl
theorem yN (n:Nat):iC n=rJ n:=by
 cases n
 ·rfl
 ·funext x;exact rW _ x
theorem CY (n:Nat):jl n=vI n:=by
 cases n
 ·rfl
 ·funext x;exact vK _ x
theorem NG (n:Nat):nJ n=G9 n:=by
 cases n
 ·rfl
 ·funext x;rw[Hz,yM,yN,CY];rfl
theorem KP (n:Nat):iU n=Fa n:=by
 cases n
 ·rfl
 ·funext x;rw[Fq,Rt,Rx,KN,KQ,NG];rfl
theorem PS (n:Nat):bU n=Je n:=by
 cases n
 ·rfl
 ·funext x;exact Jp _ x
theorem PU (n:Nat):lS n=Jf n:=by
 cases n
 ·rfl
 ·funext x;rw[Jq,PS];rfl
theorem ND (n:Nat):jd n=G8 n:=by
 cases n
 ·rfl
 ·funext x;rw[Ql,PO,KP,PU];rfl
theorem afu (n:Nat):G8 (n+100) ()=some true:=by kernel_rfl
theorem afU:Sp jd () (λ r=>r=true):=by
 refine⟨true,rfl,100,λ n d=> ?_⟩;obtain⟨m,rfl⟩: ∃m,n=m+100:=⟨n-100,by omega⟩;rw[ND];exact afu m
end Go.Proofs.YtdchbjmbgecejaaGreatDoor.Am
end
