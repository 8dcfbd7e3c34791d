import Derived.Test.YtdchbjmbgecejaaGreatDoorPr
import Derived.Test.YtdchbjmbgecejaaGreatDoorMj
set_option linter.unusedVariables false
noncomputable section
namespace Go.Proofs.YtdchbjmbgecejaaGreatDoor.Am
open Go Go.AM Go.Bk
set_option maxRecDepth 100000
def Ju:Nat->Unit->Option Ab
 |0,_=>none
 |n+1,x=>O4.P n x
def Ee:Nat->Int->Option Bool
 |0,_=>none
 |n+1,x=>cmp_isNaN_int.P n x
def uT:Nat->Ac->Option Int
 |0,_=>none
 |n+1,x=>cmp_Compare_int.P (Ee n) n x
def Jt:Nat->LI->Option Int
 |0,_=>none
 |n+1,x=>oC.P n x
def rU:Nat->Au->Option Int
 |0,_=>none
 |n+1,x=>dI.P (uT n) n x
def Js:Nat->Al->Option Int
 |0,_=>none
 |n+1,x=>xg.P (uT n) (Jt n) (rU n) n x
def Ec:Nat->Al->Option Bool
 |0,_=>none
 |n+1,x=>sK.P (Js n) n x
def vT:Nat->LR->Option LR
 |0,_=>none
 |n+1,x=>dM.P (Ec n) n x
def ug:Nat->LR->Option ((LR))
 |0,_=>none
 |n+1,x=>xZ x
def wS:Nat->LR->Option LR
 |0,_=>none
 |n+1,x=>xw.P (vT n) (ug n) n x
def Hw:Nat->AB->Option Bool
 |0,_=>none
 |n+1,x=>zN.P n x
def jP:Nat->Ai->Option Int
 |0,_=>none
 |n+1,x=>dG.P (Hw n) n x
def jq:Nat->Ai->Option Bool
 |0,_=>none
 |n+1,x=>gK.P (jP n) n x
def Gn:Nat->AF->Option Ab
 |0,_=>none
 |n+1,x=>iJ.P (wS n) (jq n) n x
def qO:Nat->LI×(Option (List Ad))×Int->Option (LI×(Option (List Ad)))
 |0,_=>none
 |n+1,x=>lJ.P n x
def Dj:Nat->Ab->Option (List Bool)
 |0,_=>none
 |n+1,x=>cO.P (qO n) n x
def Ed:Nat->AB->Option Bool
 |0,_=>none
 |n+1,x=>wO.P n x
def jE:Nat->Ai->Option Int
 |0,_=>none
 |n+1,x=>dD.P (Ed n) n x
def iY:Nat->Ai->Option Bool
 |0,_=>none
 |n+1,x=>fV.P (jE n) n x
def CP:Nat->Ab->Option (List Bool)
 |0,_=>none
 |n+1,x=>dJ.P (qO n) (Dj n) (iY n) n x
def MW:Nat->Ab->Option Ab
 |0,_=>none
 |n+1,x=>DC.P (Gn n) (CP n) n x
def oN:Nat->LI->Option LI
 |0,_=>none
 |n+1,x=>KU x
def MV:Nat->Ab->Option Ab
 |0,_=>none
 |n+1,x=>sJ.P (oN n) n x
def FH:Nat->Bl->Option Bool
 |0,_=>none
 |n+1,x=>vG.P n x
def uy:Nat->Int->Option Bool
 |0,_=>none
 |n+1,x=>jJ.P n x
def xP:Nat->LI->Option Int
 |0,_=>none
 |n+1,x=>iI.P (uy n) n x
def uw:Nat->LI->Option Bool
 |0,_=>none
 |n+1,x=>mg.P (xP n) n x
def wG:Nat->LI->Option Bool
 |0,_=>none
 |n+1,x=>lV.P (uw n) n x
def yJ:Nat->Aa->Option Bool
 |0,_=>none
 |n+1,x=>cu.P (FH n) (wG n) n x
def oh:Nat->An->Option (LI)
 |0,_=>none
 |n+1,x=>ru x
def oP:Nat->An->Option LI
 |0,_=>none
 |n+1,x=>iK.P (oh n) n x
def rG:Nat->An->Option LI
 |0,_=>none
 |n+1,x=>mV.P (oP n) n x
def I7:Nat->BS->Option ByteArray
 |0,_=>none
 |n+1,x=>uX.P (rG n) n x
def wE:Nat->Aa->Option AW
 |0,_=>none
 |n+1,x=>fU.P (yJ n) (I7 n) n x
def MX:Nat->Aa->Option Aq
 |0,_=>none
 |n+1,x=>DF.P (Gn n) (yJ n) (CP n) n x
def Tq:Nat->Aa->Option LL
 |0,_=>none
 |n+1,x=>zM.P n x
def Eb:Nat->Ab->Option (List Bool)
 |0,_=>none
 |n+1,x=>oz.P n x
def vZ:Nat->Af->Option Bool
 |0,_=>none
 |n+1,x=>oD.P n x
def Dl:Nat->LI->Option LI
 |0,_=>none
 |n+1,x=>jA.P (vZ n) n x
def Ef:Nat->LI->Option ByteArray
 |0,_=>none
 |n+1,x=>gY.P n x
def zA:Nat->Int×LI×LR×LL×LL×(Option (List (ByteArray×Int)))×LR×Int×Int×Bool×LI->Option (Int×Int×LI×LR×LL×LL×(Option (List (ByteArray×Int)))×LR×Int×Int×Bool)
 |0,_=>none
 |n+1,x=>iQ.P (Ef n) n x
def qL:Nat->LI->Option ((Au))
 |0,_=>none
 |n+1,x=>zS x
def qP:Nat->Int×LI×LR×LL×LL×(Option (List (ByteArray×Int)))×LR×Int×Int×Bool×Int×Int×LI×LI×Bool->Option (Int×LI×LR×LL×LL×(Option (List (ByteArray×Int)))×LR×Int×Int×Bool×LI)
 |0,_=>none
 |n+1,x=>bU.P (vZ n) (qP n) (zA n) (qL n) n x
def Dk:Nat->AB->Option Bool
 |0,_=>none
 |n+1,x=>uZ.P n x
def jv:Nat->Ai->Option Int
 |0,_=>none
 |n+1,x=>dA.P (Dk n) n x
def iU:Nat->Ai->Option Bool
 |0,_=>none
 |n+1,x=>fQ.P (jv n) n x
def FK:Nat->Aa->Option AE
 |0,_=>none
 |n+1,x=>eF.P (Tq n) (Eb n) (wS n) (yJ n) (Dl n) (qP n) (iU n) n x
def MZ:Nat->Aa->Option Aq
 |0,_=>none
 |n+1,x=>DN.P (MV n) (wE n) (MX n) (FK n) n x
def FI:Nat->Ab->Option LI
 |0,_=>none
 |n+1,x=>bP.P (ug n) n x
def yK:Nat->List Bool->Option Af
 |0,_=>none
 |n+1,x=>og.P n x
def wF:Nat->List ByteArray->Option Af
 |0,_=>none
 |n+1,x=>lT.P n x
def Pm:Nat->BS->Option ByteArray
 |0,_=>none
 |n+1,x=>J9.P (I7 n) n x
def iF:Nat->List Ac->Option ((List Ac))
 |0,_=>none
 |n+1,x=>CY x
def Na:Nat->Ab->Option (List (Option (List Ac)))
 |0,_=>none
 |n+1,x=>jk.P (Pm n) (oN n) (iF n) n x
def FN:Nat->Ab->Option LI
 |0,_=>none
 |n+1,x=>fB.P (Eb n) (yK n) (wF n) (Na n) (rG n) n x
def rQ:Nat->LI->Option LI
 |0,_=>none
 |n+1,x=>bY.P n x
def vU:Nat->LI->Option (LI)
 |0,_=>none
 |n+1,x=>VO x
def Hz:Nat->Bz->Option Ab
 |0,_=>none
 |n+1,x=>fO.P (wS n) (rQ n) (vU n) n x
def FM:Nat->Aa->Option Aq
 |0,_=>none
 |n+1,x=>kW.P (MW n) (MZ n) (FI n) (FN n) (Hz n) n x
def Jv:Nat->Au->Option Bool
 |0,_=>none
 |n+1,x=>qB.P n x
def Jw:Nat->Ah->Option Bool
 |0,_=>none
 |n+1,x=>EU.P (Jv n) n x
def Hy:Nat->Unit->Option Bool
 |0,_=>none
 |n+1,x=>LZ.P (Ju n) (FM n) (Jw n) n x
theorem Qg (n:Nat):vK n=Ju n:=by
 cases n
 ·rfl
 ·funext x;exact TI _ x
theorem JU (n:Nat):mF n=Ee n:=by
 cases n
 ·rfl
 ·funext x;exact Eo _ x
theorem yG (n:Nat):eU n=uT n:=by
 cases n
 ·rfl
 ·funext x;rw[zB,JU];rfl
theorem Qe (n:Nat):vJ n=Jt n:=by
 cases n
 ·rfl
 ·funext x;exact JG _ x
theorem y7 (n:Nat):jh n=rU n:=by
 cases n
 ·rfl
 ·funext x;rw[sD,yG];rfl
theorem Qd (n:Nat):rJ n=Js n:=by
 cases n
 ·rfl
 ·funext x;rw[JD,yG,Qe,y7];rfl
theorem JQ (n:Nat):iR n=Ec n:=by
 cases n
 ·rfl
 ·funext x;rw[Em,Qd];rfl
theorem Dt (n:Nat):kG n=vT n:=by
 cases n
 ·rfl
 ·funext x;rw[vV,JQ];rfl
theorem xK (n:Nat):fA n=ug n:=by
 cases n
 ·rfl
 ·funext x;exact yQ _ x
theorem yZ (n:Nat):iH n=wS n:=by
 cases n
 ·rfl
 ·funext x;rw[Ig,Dt,xK];rfl
theorem Ob (n:Nat):nG n=Hw n:=by
 cases n
 ·rfl
 ·funext x;exact Ie _ x
theorem nX (n:Nat):dB n=jP n:=by
 cases n
 ·rfl
 ·funext x;rw[jQ,Ob];rfl
theorem mM (n:Nat):aU n=jq n:=by
 cases n
 ·rfl
 ·funext x;rw[jw,nX];rfl
theorem Jh (n:Nat):nD n=Gn n:=by
 cases n
 ·rfl
 ·funext x;rw[Nq,yZ,mM];rfl
theorem vO (n:Nat):aG n=qO n:=by
 cases n
 ·rfl
 ·funext x;exact wI _ x
theorem IG (n:Nat):nU n=Dj n:=by
 cases n
 ·rfl
 ·funext x;rw[Dn,vO];rfl
theorem JR (n:Nat):lq n=Ed n:=by
 cases n
 ·rfl
 ·funext x;exact En _ x
theorem mW (n:Nat):cZ n=jE n:=by
 cases n
 ·rfl
 ·funext x;rw[jG,JR];rfl
theorem lX (n:Nat):aQ n=iY n:=by
 cases n
 ·rfl
 ·funext x;rw[iZ,mW];rfl
theorem FB (n:Nat):kQ n=CP n:=by
 cases n
 ·rfl
 ·funext x;rw[Ih,vO,IG,lX];rfl
theorem RY (n:Nat):uN n=MW n:=by
 cases n
 ·rfl
 ·funext x;rw[Nr,Jh,FB];rfl
theorem tC (n:Nat):bG n=oN n:=by
 cases n
 ·rfl
 ·funext x;exact uF _ x
theorem RX (n:Nat):xB n=MV n:=by
 cases n
 ·rfl
 ·funext x;rw[Np,tC];rfl
theorem Lm (n:Nat):gQ n=FH n:=by
 cases n
 ·rfl
 ·funext x;exact FT _ x
theorem zX (n:Nat):gX n=uy n:=by
 cases n
 ·rfl
 ·funext x;exact uH _ x
theorem Fj (n:Nat):lD n=xP n:=by
 cases n
 ·rfl
 ·funext x;rw[xW,zX];rfl
theorem zW (n:Nat):jO n=uw n:=by
 cases n
 ·rfl
 ·funext x;rw[uG,Fj];rfl
theorem DW (n:Nat):fM n=wG n:=by
 cases n
 ·rfl
 ·funext x;rw[wL,zW];rfl
theorem zV (n:Nat):eX n=yJ n:=by
 cases n
 ·rfl
 ·funext x;rw[JF,Lm,DW];rfl
theorem vS (n:Nat):dh n=oh n:=by
 cases n
 ·rfl
 ·funext x;exact ou _ x
theorem vX (n:Nat):dP n=oP n:=by
 cases n
 ·rfl
 ·funext x;rw[oQ,vS];rfl
theorem wB (n:Nat):bC n=rG n:=by
 cases n
 ·rfl
 ·funext x;rw[xX,vX];rfl
theorem Lr (n:Nat):lI n=I7 n:=by
 cases n
 ·rfl
 ·funext x;rw[Py,wB];rfl
theorem DU (n:Nat):kP n=wE n:=by
 cases n
 ·rfl
 ·funext x;rw[wH,zV,Lr];rfl
theorem RZ (n:Nat):xC n=MX n:=by
 cases n
 ·rfl
 ·funext x;rw[Ns,Jh,zV,FB];rfl
theorem XC (n:Nat):sV n=Tq n:=by
 cases n
 ·rfl
 ·funext x;exact TF _ x
theorem GZ (n:Nat):lM n=Eb n:=by
 cases n
 ·rfl
 ·funext x;exact JC _ x
theorem zx (n:Nat):dK n=vZ n:=by
 cases n
 ·rfl
 ·funext x;exact wo _ x
theorem IJ (n:Nat):jL n=Dl n:=by
 cases n
 ·rfl
 ·funext x;rw[Dq,zx];rfl
theorem JV (n:Nat):mG n=Ef n:=by
 cases n
 ·rfl
 ·funext x;exact Ep _ x
theorem G5 (n:Nat):mJ n=zA n:=by
 cases n
 ·rfl
 ·funext x;rw[zC,JV];rfl
theorem xJ (n:Nat):gy n=qL n:=by
 cases n
 ·rfl
 ·funext x;exact qM _ x
theorem vP: ∀n,bK n=qP n
 |0=>rfl
 |n+1=>by
  have d:=vP n;funext x;rw[wJ,d,zx,G5,xJ];rfl
theorem II (n:Nat):kM n=Dk n:=by
 cases n
 ·rfl
 ·funext x;exact Dp _ x
theorem mO (n:Nat):bZ n=jv n:=by
 cases n
 ·rfl
 ·funext x;rw[jy,II];rfl
theorem lS (n:Nat):aK n=iU n:=by
 cases n
 ·rfl
 ·funext x;rw[iW,mO];rfl
theorem LD (n:Nat):oH n=FK n:=by
 cases n
 ·rfl
 ·funext x;rw[FV,XC,GZ,yZ,zV,IJ,vP,lS];rfl
theorem Si (n:Nat):xE n=MZ n:=by
 cases n
 ·rfl
 ·funext x;rw[Nu,RX,DU,RZ,LD];rfl
theorem Lu (n:Nat):qU n=FI n:=by
 cases n
 ·rfl
 ·funext x;rw[FU,xK];rfl
theorem Gf (n:Nat):kJ n=yK n:=by
 cases n
 ·rfl
 ·funext x;exact yP _ x
theorem DV (n:Nat):gU n=wF n:=by
 cases n
 ·rfl
 ·funext x;exact wK _ x
theorem UR (n:Nat):oG n=Pm n:=by
 cases n
 ·rfl
 ·funext x;rw[Px,Lr];rfl
theorem lF (n:Nat):aI n=iF n:=by
 cases n
 ·rfl
 ·funext x;exact iG _ x
theorem Sj (n:Nat):uO n=Na n:=by
 cases n
 ·rfl
 ·funext x;rw[Nv,UR,tC,lF];rfl
theorem LH (n:Nat):oI n=FN n:=by
 cases n
 ·rfl
 ·funext x;rw[FX,GZ,Gf,DV,Sj,wB];rfl
theorem y5 (n:Nat):iy n=rQ n:=by
 cases n
 ·rfl
 ·funext x;exact su _ x
theorem Du (n:Nat):ji n=vU n:=by
 cases n
 ·rfl
 ·funext x;exact vW _ x
theorem Oe (n:Nat):nJ n=Hz n:=by
 cases n
 ·rfl
 ·funext x;rw[Ii,yZ,y5,Du];rfl
theorem LG (n:Nat):jB n=FM n:=by
 cases n
 ·rfl
 ·funext x;rw[FW,RY,Si,Lu,LH,Oe];rfl
theorem Qh (n:Nat):bQ n=Jv n:=by
 cases n
 ·rfl
 ·funext x;exact JH _ x
theorem Qi (n:Nat):vM n=Jw n:=by
 cases n
 ·rfl
 ·funext x;rw[TP,Qh];rfl
theorem Oc (n:Nat):jC n=Hy n:=by
 cases n
 ·rfl
 ·funext x;rw[QG,Qg,LG,Qi];rfl
theorem agb (n:Nat):Hy (n+100) ()=some true:=Ψ
theorem agE:Sp jC () (λ r=>r=true):=by
 refine⟨true,rfl,100,λ n d=> ?_⟩;obtain⟨m,rfl⟩: ∃m,n=m+100:=⟨n-100,Ω⟩;rw[Oc];exact agb m
end Go.Proofs.YtdchbjmbgecejaaGreatDoor.Am
end
