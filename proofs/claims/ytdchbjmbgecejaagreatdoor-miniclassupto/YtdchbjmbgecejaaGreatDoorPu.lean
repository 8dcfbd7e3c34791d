import Derived.Test.YtdchbjmbgecejaaGreatDoorPq
import Derived.Test.YtdchbjmbgecejaaGreatDoorMw
set_option linter.unusedVariables false
noncomputable section
namespace Go.Proofs.YtdchbjmbgecejaaGreatDoor.Am
open Go Go.AM Go.Bk
set_option maxRecDepth 100000
theorem Zn (l:LI) (h:l.length<=ay):Sp bG l (λ r=>r=l):=aZ5 (G:=λ n=>KU) uF ⟨l,rfl,.all λ n=>by simp only[KU,decide_eq_true h,cond_true]⟩
theorem aez (l:LI) (h:l.length<=1000000):Sp gy l (λ r=>r=(l,l)):=aZ5 (G:=λ n=>zS) qM ⟨(l,l),rfl,.all λ n=>by
 have:l.length<=ay:=by have:=eG;omega
 simp only[zS,decide_eq_true this,cond_true]⟩
theorem wrap64 (n:Int):IntKind.wrap .u64 n=n % 18446744073709551616:=by simp[IntKind.wrap,IntKind.bits,IntKind.signed]
theorem afG (x:LI) (u:Nat) (d:x.length<=2000000000) (g:u<18446744073709551616):Sp dh (x,(u:Int),(10:Int)) (λ r=>r=x++EJ 20 u):=
 aZ5 (G:=λ n=>ru) ou ⟨_,rfl,.all λ n=>by
  have e:(0:Int)<=(u:Int):=by omega
  have f:(u:Int)<18446744073709551616:=by omega
  simp only[ru,decide_true,decide_eq_true e,decide_eq_true f,decide_eq_true d,acr,cond_true,aam]⟩
theorem air:ajb bC:=λ b v m hv=>by
 have p:=eG;have i: -9223372036854775808<=v:=hv.1;have k:v<9223372036854775808:=hv.2;refine aZ5 xX (G:=λ n=>mV.P (dP n) n) ?_;show Tt (λ n=>mV.P (dP n) n (b,v,(10:Int))) _;unfold mV.P;refine aZ1 (R:=λ r=>r=b++dig v) (aZ5 oQ (G:=λ n=>iK.P (dh n) n) ?_) λ r d=>aZ0 d;show Tt (λ n=>iK.P (dh n) n (b,v,(10:Int))) _;unfold iK.P;dsimp only;by_cases e:v<0
 ·obtain⟨u,rfl⟩: ∃u:Nat,v= -(u:Int):=⟨v.natAbs,Ω⟩
  have f:IntKind.wrap .u64 (0-IntKind.wrap .u64 (-(u:Int)))=(u:Int):=by
   rw[wrap64,wrap64];omega
  have g:dig (-(u:Int))=45::EJ 20 u:=by unfold dig;rw[decide_eq_true e,cond_true,Int.natAbs_neg,Int.natAbs_natCast]
  have l:List.length b+List.length ([(45:Int)]:LI)<=ay:=by simp only[aaY];omega
  simp only[decide_eq_true e,cond_true,decide_eq_true l,f];refine aY7 (aZ1 (afG (List.append b [45]) u (by simp only[abA,aaq,aaY];omega) Ω) λ r d=>aZ0 ?_);rw[d,g];simp
 ·obtain⟨u,rfl⟩: ∃u:Nat,v=(u:Int):=⟨v.toNat,Ω⟩;have f:IntKind.wrap .u64 (u:Int)=(u:Int):=by rw[wrap64];omega
  have g:dig (u:Int)=EJ 20 u:=by unfold dig;rw[decide_eq_false e,cond_false,aam]
  simp only[decide_eq_false e,cond_false,f];refine aY7 (aZ1 (afG b u Ω Ω) λ r d=>aZ0 ?_);rw[d,g]
theorem agC:SortI ji:=λ x d=>aZ5 (G:=λ n=>VO) vW ⟨He (λ a b=>decide (a<=b)) x,⟨(mP _ x).length_eq,λ y=>(mP _ x).mem_iff,(qc (λ a b=>by simp only[decide_eq_true_eq];omega) (λ a b c e f=>by simp only[decide_eq_true_eq]at *;omega) x).imp λ h=>by simpa using h⟩,.all λ n=>by
 have:x.length<=ay:=by have:=eG;omega
 simp only[VO,decide_eq_true this,cond_true]⟩
theorem agD:ah1 aI:=λ x m d f=>aZ5 (G:=λ n=>CY) iG ⟨He (λ p q=>decide (p.1<=q.1)) x,⟨mP _ x,(qc (λ a b=>by simp only[decide_eq_true_eq];omega) (λ a b c d f=>by simp only[decide_eq_true_eq]at *;omega) x).imp λ h=>by simpa using h⟩,.all λ n=>by
 have i:x.length<=ay:=by have:=eG;omega
 have k:(x.all λ p=>decide (0<=p.1)&&decide (p.1<=1000000000000)&&x.all λ q=> !decide (p.1=q.1)||decide (p.2=q.2))=true:=by
  simp only[aaV,aae,decide_eq_true_eq,abT,abw,decide_eq_false_iff_not];intro p g;obtain⟨a,b⟩:=d p g;refine⟨⟨a,Ω⟩,λ q l=> ?_⟩;by_cases e:p.1=q.1
  ·exact .inr (by rw[f p g q l e])
  ·exact .inl e
 simp only[CY,decide_eq_true i,k,acr,cond_true]⟩
theorem Zv:af7 fA:=λ x k d=>aZ5 (G:=λ n=>xZ) yQ ⟨He (λ p q=>decide (vI p q<=0)) x,⟨acH (mP _ x).length_eq,λ y=>(mP _ x).mem_iff,(qc (λ a b=>by have:=oM.anti a b;simp only[decide_eq_true_eq];omega) (λ a b c d e=>by simp only[decide_eq_true_eq]at *;exact oM.tr _ _ _ d e) x).imp λ h=>by simpa using h⟩,.all λ n=>by
 have f:x.length<=ay:=by have:=eG;omega
 have g:(x.all λ p=>decide (List.length p.2.1<=1000))=true:=by
  simp only[aaV,decide_eq_true_eq];intro p i;have:=d p i;omega
 simp only[xZ,decide_eq_true f,g,acr,cond_true]⟩
theorem ais (x y:Int):Sp eU (x,y) (λ v=>v=GK x y):=aZ5 zB (afR (λ z=>aZ5 Eo (Xg z)) x y)
theorem Zt:ai2 rJ:=Z9 λ x y e=>aZ5 JD (Ti ais (λ d h=>aZ5 JG (afS d h)) (λ d f h=>aZ5 sD (NK ais d f h)) x y e)
theorem Qp:ad7 iH:=λ x d e=>aZ5 Ig (adt Zv (λ X f=>aZ5 vV (X6 Gv Zt (λ x y g i=>aZ5 Em (X9 Zt x y g i)) f)) x d e)
theorem Zw:afv iH:=λ x d e=>(Qp x d e).mono λ r h=>⟨h.1,h.2.1⟩
theorem agA:ahU iy:=λ x d=>aZ5 su (VP adD d)
theorem aiz:ad4 aG:=λ l m x h d=>aZ5 wI (ai0 l m x h d)
theorem ajw:Yp aQ (!·):=λ S l R d e f=>aZ5 iZ (YR En jG S l R d e f)
theorem aju:Yp aU (!·):=λ S l R d e f=>aZ5 jw (agh Ie jQ S l R d e f)
theorem ajv:Yp aK id:=λ S l R d e f=>aZ5 iW (YQ Dp jy S l R d e f)
theorem WC:PW kQ:=λ S fin rs e=>aZ5 Ih (adB aiz ajw S fin rs e ((aZ5 Dn (Uo aiz S fin rs e)).mono λ R d=>⟨d.1,λ r f h=>DJ.2 (d.2.1 r f λ s hs=>DJ.1 (h s hs)),λ s hs h=>d.2.2 s hs (DJ.1 h)⟩))
theorem afJ:af2 nD:=λ S fin rs keep d e=>aZ5 Nq (ahm Qp aju S fin rs keep d e)
theorem aiu (S:Int) (fin:LI) (rs:LR) (d:Wf S fin rs):Sp uN (S,fin,rs) (Rn S fin rs):=aZ5 Nr (ahn afJ WC S fin rs d)
theorem Zp:ad1 lM:=aif JC
theorem aix (s:Int) (l:LI) (hs:I64 s) (d: ∀q∈l,I64 q) (h:l.length<=1000000):Sp lI (s,l) (λ r=>r=Og s l):=aZ5 Py (aiZ air s l hs d h)
theorem ajr (s:Int) (l:LI) (hs:I64 s) (d: ∀q∈l,I64 q) (h:l.length<=1000000):Sp oG (s,l) (λ r=>r=Og s l):=aZ5 Px (by
 show Tt (λ n=>J9.P (lI n) n (s,l)) _;unfold J9.P;exact aZ1 (aix s l hs d h) λ r e=>aZ0 e)
theorem wC (al:LI) (h:al.length<=ay):Sp fM al (λ r=>r=true ↔ ED al):=
 aZ5 wL (Ey (aZ5 uG (NI (aZ5 xW (Ui (λ x=>aZ5 uH (CZ x)) al h)))))
theorem DZ (al:LI) (S:Int) (fin:LI) (rs:LR) (d:al.length<=ay) (e:fin.length<=ay) (g:rs.length<=ay) (i: ∀r∈rs,r.2.1.length<=ay):Sp eX (al,S,fin,rs) (λ r=>r=true ↔ bW al (S,fin,rs)):=
 aZ5 JF (QV (λ x S f rs=>aZ5 FT (NJ x S f rs)) wC al S fin rs d e g i)
theorem ZF (s:LI) (hs:zL s):Sp mG s (λ r=>r=keyS s):=aZ5 Ep (Yd s hs)
theorem aiB (s:LI) (v:Int) (hs:zL s) (d:0<=v) (e:v<8):Sp dK (s,v) (λ r=>r=FY s v):=aZ5 wo (ahA s v hs d e)
theorem aiy (s:LI) (hs:zL s):Sp jL s (λ r=>r.length<=64/\ ∀v,v∈r ↔ 0<=v/\v<8/\FY s v=true):=aZ5 Dq (ahw wo s hs)
theorem adR {S:Int} {fin:LI} {rs:LR} (d:Wf S fin rs):fin.length<=ay/\rs.length<=ay/\ ∀r∈rs,r.2.1.length<=ay:=by
 have g:=eG;obtain⟨_,_,i,k,_,e⟩:=d;exact⟨Ω,Ω,λ r f=>by have:=(e r f).2.2;omega⟩
theorem Zz (al:LI) (S:Int) (fin:LI) (rs:LR) (h:al.length<=ay) (d:Wf S fin rs):Sp eX (al,S,fin,rs) (λ r=>r=true ↔ bW al (S,fin,rs)):=
 DZ al S fin rs h (adR d).1 (adR d).2.1 (adR d).2.2
theorem agF {al:LI} {S:Int} {fin:LI} {rs:LR} (hv:bW al (S,fin,rs)) (I:S<=8):akl al S fin rs bK:=by
 intro k t rank l d old done L u idx f e sets m y z A B C p;have D:=hv.wf;have E:rs.length<=100000:=D.2.2.2.1
 have G:rank<=3:=by
  obtain⟨g,i⟩:=aad.1 d;have:=(hv.1.2 _ g).2;rw[i]at this;omega
 refine afh wJ aiB aez al S fin rs k I E (λ r K=>⟨(D.2.2.2.2.2 r K).1,(D.2.2.2.2.2 r K).2.1⟩) hv.ar
  (λ sets m y old done e idx g i M N O=>aZ5 zC (ajR ZF S fin rs k sets m y old done e idx I g i M N O))
  t rank l d G old done L u rank [] idx f e sets m y Θ z (λ x Q=>by cases Q) A B C λ v=> ?_
 rw[p];constructor
 ·rintro⟨r,g,i⟩;exact⟨r,g,i,λ j x q R=>by simp at R⟩
 ·rintro⟨r,g,i,_⟩;exact⟨r,g,i⟩
theorem aku (al:LI) (S:Int) (fin:LI) (rs:LR) (hv:bW al (S,fin,rs)):Sp sV (al,S,fin,rs) (afZ al rs):=
 aZ5 TF (ajO al S fin rs (by have:=hv.1.1;omega) hv.wf.2.2.2.1 λ r d=>⟨(hv.rule d).1,(hv.rule d).2.1⟩)
theorem aeB (al:LI) (d:al.length<=ay) (S:Int) (fin:LI) (rs:LR) (e:S<=8) (f:Wf S fin rs):Sp oH (al,S,fin,rs) (λ r=>(r.2.2.2.2=0->Yv al fin rs (r.1,r.2.1,r.2.2.1))/\(bW al (S,fin,rs)->r.2.2.2.2=0\/r.2.2.2.2=3/\Yx al S)):=
 aZ5 FV (adw Zp Zw aiy ajv al S fin rs e (Zz al S fin rs d f) (aku al S fin rs) λ hv=>agF hv e)
theorem akH (x:List Bool) (h:x.length<=1000000):Sp kJ x (afu x):=aZ5 yP (Ox x h)
theorem akI (x:List ByteArray) (h:x.length<=1000000):Sp gU x (afu x):=aZ5 wK (J3 x h)
theorem aiA (S:Int) (fin:LI) (rs:LR) (e:Wf S fin rs) (d:Sy rs) (f:Iy rs):Sp uO (S,fin,rs) (λ x=> ∃U,x=rows U/\ah3 S rs U):=
 aZ5 Nv (ahz ajr (λ l h=>Zn l (by have:=eG;omega)) agD S fin rs e d f)
theorem ZA (S:Int) (fin:LI) (rs:LR) (e:Wf S fin rs) (f:S<=300) (d:Sy rs) (g:Iy rs):Sp oI (S,fin,rs) (λ cl=>cl.length=S.toNat/\(∀v∈cl,bg S v)/\Gy S fin rs (iat cl)/\adZ S fin rs cl):=
 aZ5 FX (Yb Zp akH akI air S fin rs e f (aiA S fin rs e d g))
theorem aeD:akm nJ:=λ S fin rs m to e d=>aZ5 Ii (adz Qp agA agC S fin rs e m to d)
theorem Zr (b:LI) (x:Aut) (d:b.length<=ay) (e:x.2.1.length<=ay) (f:x.2.2.length<=ay) (i: ∀r∈x.2.2,r.2.1.length<=ay) (l:bW b x->x.1<=8):Sp jB (b,x.1,x.2.1,x.2.2) (aje b x):=by
 have k:=DZ b x.1 x.2.1 x.2.2 d e f i
 exact aZ5 FW (X8 aiu (λ S fin rs m=>aZ5 FU (ads Zv S fin rs m)) ZA aeD b x.1 x.2.1 x.2.2 (aZ5 Nu (aiW b x.1 x.2.1 x.2.2 (λ hv=> .inl (l hv)) (λ _=>aZ5 Np (ahk Zn x.1 x.2.1 x.2.2 e f i))
  (aZ5 wH (JZ aix b x.1 x.2.1 x.2.2 k)) (λ hv=>aZ5 Ns (ahu afJ WC b x.1 x.2.1 x.2.2 hv k)) λ p fin' g e f=>aeB b d p fin' g e f)))
theorem Zq (x y:LI) (h:x.length<=1000000000):Sp bQ (x,y) (λ r=>r=true ↔ x=y):=aZ5 JH (ahp x y (by have:=eG;omega))
theorem akt (al:LI):Sp gq al (λ r=>r=true ↔ ED al):=aZ5 Es (Dv al)
theorem WE (b:LI) (M:Aut) (h:Szb M):Sp lQ (b,M.1,M.2.1,M.2.2) (λ r=>r=true ↔ bW b M):=aZ5 QJ (J5 b (akt b) M.1 M.2.1 M.2.2 (by have:=h.1;omega) (by have:=h.2.1;omega) h.2.2)
theorem ait (l:LI) (v:Int) (h:l.length<=ay):Sp fJ (l,v) (λ r=>r=true ↔ v∈l):=aZ5 XZ (ajP l v h)
theorem Kt (l:LI) (v:Int) (h:l.length+1<=ay):Sp dU (l,v) (λ r=>(∀y,y∈r ↔ y=v\/y∈l)/\r.length<=l.length+1/\((l.Pairwise λ a b=>a<b)->r.Pairwise λ a b=>a<b)):=aZ5 Oo (adp l v h)
theorem Zu:ah2 mY:=λ x d e=>aZ5 TQ (aht (λ r h=>aZ5 VH (ahv r h)) (λ a b f=>aZ5 TM (aho a b f)) x d e)
theorem LU (S:Int) (fin:LI) (rs:LR) (d:Wf S fin rs) (e:ArC rs):Sp eY (S,fin,rs) (yx S fin rs):=
 aZ5 Ny (Um (aZ5 TR (adx S fin rs d (aZ5 Nw (Ul S fin rs d)))) λ keep f=>aZ5 TL (adq Zu S fin rs keep d f e))
theorem aiv {al:LI} {S:Int} {fin:LI} {rs:LR} (hv:bW al (S,fin,rs)):Sp lW (S,fin,rs) (λ r=>r=true->Iy rs):=by
 have e:=hv.wf;have d:=e.2.2.2.1;dsimp only at d;exact aZ5 VG (aiX S fin rs Ω (λ r f=>by have:=(e.2.2.2.2.2 r f).2.2;omega) λ x y g=>Zq x y Ω)
theorem afI (al:LI) (d:ED al) (m:Nat) (e:m<=1000):Sp kT (al,(m:Int)) (λ v=>v=(lY al m:Int)):=aZ5 TK (ahl (λ m r e f=>aZ5 CW (Uk m r e f)) al m e d)
theorem afM (al:LI) (d:ED al) (m:Nat) (e:m<=1000):Sp ng (al,(m:Int)) (λ b=>b=true ↔ 300<m\/20000<lY al m):=aZ5 TU (ahr al m e (afI al d m e))
theorem afH {al:LI} {S:Int} {fin:LI} {rs:LR} (d:S<=8) (hv:bW al (S,fin,rs)):Sp kU (S,fin,rs) (λ v=> ∃a,yx S fin rs a/\v=((2^a.1.toNat:Nat):Int)/\a.1<=8):=
 aZ5 TS (ahj d (LU S fin rs hv.wf (V8 hv.ar)) λ r e=>aZ5 CW (ahs r e))
theorem Zo {b:LI} {x:Aut} (d:x.1<=8) (hv:bW b x):Sp o7 (b,x.1,x.2.1,x.2.2) (λ r=>r=true->Iy x.2.2\/UG b x.2.1 x.2.2):=
 (aZ5 Nz (X7 (aiv (al:=b) hv) (afH (al:=b) d hv) λ m e=>afM b hv.1 m e)).mono λ r h f=>(h f).imp id λ⟨a,g,i,k⟩=>⟨_,i,k,g.upB⟩
theorem Yf {S:Int} {fin:LI} {rs:LR} (d:S<=8) (e:0<=S) {a:Aut} (h:yx S fin rs a):0<=a.1/\a.1<=8:=by
 obtain⟨keep,R,f,_,_,_,_,g⟩:=h;have:keep.count true<=keep.length:=List.count_le_length;omega
theorem agB (b:LI) (l:List Aut) (e:ED b) (f:l.length<=1000) (h: ∀x∈l,x.1<=8/\bW b x):Sp tu (b,l) (λ _=>True):=by
 refine aZ5 QO (G:=λ n=>CU.P (qw n) n) ?_;show Tt (λ n=>CU.P (qw n) n (b,l)) _;unfold CU.P;refine aZ1 (aZ5 QK (aff b l f (λ m g=>(afI b e m g).mono λ _ _=>trivial) (λ x d=>(aiv (al:=b) (h x d).2).mono λ _ _=>trivial) (λ x d=> ?_) λ x d=> ?_)) λ r _=>aZ0 trivial
 ·exact(LU x.1 x.2.1 x.2.2 (h x d).2.wf (V8 (h x d).2.ar)).mono λ a i=>Yf (h x d).1 (h x d).2.2.1 i
 ·refine(afH (al:=b) (S:=x.1) (fin:=x.2.1) (rs:=x.2.2) (h x d).1 (h x d).2).mono λ v ⟨a,_,k,p⟩=> ?_;have:2^a.1.toNat<=2^8:=abN Ω Ω;rw[k];exact⟨Int.natCast_nonneg _,Ω⟩
theorem LQ: ∀N r:Nat,N<=301->r<=3->Sp aT ((N:Int),(r:Int)) (λ l=>l=kV N r):=λ N r d e=>Xe QL N d r e
theorem afN: ∀(sets:LL) (l:LI),l.length<=1000->(∀q∈l,bg (sets.length:Int) q)->Sp fK (sets,l) (λ r=>r=tZ sets l):=λ sets l d e=>aZ5 Ua (ahx sets l d e)
theorem ZE: ∀(l:LL) (x:LI),l.length<=1000000000->x.length<=1000000->Sp dZ (l,x) (λ p=>(p= -1/\x∉l)\/ ∃i:Nat,l[i]? =some x/\p=(i:Int)):=λ l x d e=>aZ5 QN (afi l x d λ y _=>Zq x y Ω)
theorem Zx {al:LI} {S:Int} {fin:LI} {rs:LR} (hv:bW al (S,fin,rs)):OG dV al S fin rs:=λ f m p y q=>by
 have z:=eG;have d:=hv.wf.2.2.2.1;dsimp only at d;have i:al[f]? =some al[f]:=aac m;obtain⟨k,A,t⟩:=hv.1.rank m;refine(aZ5 JI (adv ait Kt S fin rs (f:Int) p Ω Ω (λ l u=>by have:=q l u;omega) λ r v e=> ?_)).mono λ l h=>⟨by have:=h.2.1;omega,h.1⟩;obtain⟨_,g⟩:=hv.ar r v;rw[e,aam,i]at g;have:=aak g;omega
theorem Zy (al:LI) (S:Int) (fin:LI) (rs:LR) (d:Wf S fin rs):Sp qV (al,S,fin,rs) (λ t=>t.2.2.2.2=0->ED al/\ ∃m,DOk al fin rs m (t.1,t.2.1,t.2.2.1)):=by
 have q:=eG;have e:=d.2.2.1;have f:=d.2.2.2.1
 refine(aZ5 Ot (adI al S fin rs Ω (WE al (S,fin,rs) ⟨e,by dsimp only;omega,λ r g=>by have:=(d.2.2.2.2.2 r g).2.2;omega⟩) (λ hv=>aZ5 TW (ahJ al S fin rs hv.1 (Zx hv) LQ afN ZE))
  (λ i k e f=>(aZ5 TN (ahq ait i k Ω Ω)).mono λ r h=>h) (λ hv=>Zx hv) LQ afN ZE)).mono λ t l p=> ?_
 obtain⟨hv,sets,hs⟩:=l p;exact⟨hv.1,_,adE hv.ar (Zx hv) hs⟩
theorem ZC: ∀(m:Nat) (d:LL) (l:LI),m<=301->l.length<=3->(∀q∈l,bg (m:Int) q)->Sp fF ((m:Int),d,l) (λ v=>v=(Ir m l:Int)):=λ m d l e f g=>aZ5 Gt (afg m d l e f g)
theorem afK {al:LI} {m:Nat} {fin:LI} {rs:LR} (d:ED al) (f:m<=301) (e:rs.length<=1000000000) (g: ∀r∈rs,F6 al m r):Sp mZ (al,(m:Int),fin,rs) (λ t=>t.1=(m:Int)/\PV al m t.2/\afw al m rs t.2):=
 aZ5 TT (ahH al m fin rs d f e g (λ m r i k=>aZ5 CW (Uk m r i k)) ZC)
theorem afL {al:LI} {m:Nat} {rs:LR} (e:ED al) (g:m<=301) (d:LL) (f a:Nat) (l:LI) (h:PV al m d/\afw al m rs d) (i:al[f]? =some (a:Int)) (k:l∈kV m a):Sp bD ((m:Int),d,(f:Int),l) (λ v=>Rq rs (f:Int) l v):=
 aZ5 Ij (ahI al m d f a l e g h.1 h.2 i k ZC)
theorem XG (al:LI) (m:Nat) (fin:LI) (rs:LR) (δ:Int->LI->Int) (e:ED al) (k:m<=301) (p:fin.length<=1000000000) (g: ∀q∈fin,bg (m:Int) q) (u:rs.length<=1000000000) (hF:Yu al m rs δ):Sp o8 (al,(m:Int),fin,rs) (UD m fin rs):=
 aZ5 ND (Yg al m fin rs k p g δ hF (λ d=>PV al m d/\afw al m rs d) (afK e k u hF.ajB) (λ d num s t A B hs y=>aZ5 QM (afn al m d num s t δ e k B hs y LQ λ f a l z i=>⟨hF.1 f a l z i,(afL e k d f a l A z i).mono λ v hv=>YP hF z i hv⟩))
  λ l i=>aZ5 TY (ahK Kt l i))
theorem XF (al:LI) (m:Nat) (fin:LI) (rs:LR) (e:ED al) (i:m<=301) (k:fin.length<=1000000000) (g:rs.length<=1000000000) (p: ∀r∈rs,F6 al m r) (q:Det rs):Sp nV (al,(m:Int),fin,rs) (ad5 m fin rs):=
 aZ5 JY (VX al m fin rs e i k g p q (λ d=>PV al m d/\afw al m rs d) (afK e i g p) (λ d f a l t u y=>afL e i d f a l t u y) (λ l v h=>ait l v (by have:=eG;omega)) (λ x z A B=>(Zu x z A).mono λ r h=>⟨h.2.1,NH B h.2.1 h.2.2⟩) LQ)
theorem XE {b:LI} {x:Aut} (hv:bW b x):Sp lC (b,x.1,x.2.1,x.2.2) (λ t=>t.2.2.2=true->Yw x.2.1 x.2.2 (t.1,t.2.1,t.2.2.1)):=by
 have q:=eG
 exact aZ5 NC (J6 b x.1 x.2.1 x.2.2 hv.wf hv.ar LU (λ S fin rs p _=>Zy b S fin rs p) (λ d m h=>afM b d m h)
  (λ m fin rs d e f g i k=>aZ5 Oq (adH b m fin rs d e f g i k (λ x y u=>Zq x y Ω) LQ)) (λ m fin rs δ d e f g i k=>XG b m fin rs δ d e f g i k) (λ m fin rs d e f g i k=>XF b m fin rs d e f g i k)
  (λ l v h=>ait l v Ω) λ l v h=>(Kt l v Ω).mono λ r h=>⟨h.1,h.2.1⟩)
theorem Lh {b:LI} {x:Aut} (d:UE b x) (hv:bW b x):x.1<=8:=by
 have:=d.2.2.2.1;have:=hv.2.2.1;omega
theorem agt {b:LI} {x:Aut} (d:UE b x):Szb x:=⟨by have:=d.2.1;omega,by have:=d.2.2.1;omega,λ r e=>by have:=d.2.2.2.2 r e;omega⟩
theorem ags {b:LI} {x:Aut} (d:UE b x):Sp jB (b,x.1,x.2.1,x.2.2) (aje b x):=by
 have g:=eG;obtain⟨i,k,l,m,e⟩:=id d;exact Zr b x Ω Ω Ω (λ r f=>by have:=e r f;omega) (Lh d)
theorem ajs {b:LI} {x:Aut} (hv:bW b x):Sp zo (b,x.1,x.2.1,x.2.2) (λ t=>t.2.2.2=true->Yw x.2.1 x.2.2 (t.1,t.2.1,t.2.2.1)):=by
 refine aZ5 X3 (G:=λ n=>Kz.P (lC n) n) ?_;show Tt (λ n=>Kz.P (lC n) n (b,x.1,x.2.1,x.2.2)) _;unfold Kz.P;dsimp only;exact aZ1 (XE hv) λ r d=>aZ0 d
theorem aiw (b:LI) (x:Aut) (f:x.2.2.length<=1100000):Sp xG (b,[x]) (λ r=>r=true->UE b x):=by
 have g:=eG;refine(aZ5 VD (Un (aZ5 VF (Ur b [x] (by simp only[aaX,aci];omega) λ c d=> ?_)))).mono λ r e h=>e h _ Θ;rw[aah.1 d];omega
theorem ZB (t:RT Int) (h:nds t<=1000000000) (m:Nat) (d:m<=1000):Sp oZ (t.a,t.kids,(m:Int)) (λ b=>b=true ↔ nds t<=m):=aZ5 VE (Oy (Yc QI t h m d))
theorem aeC (b:LI) (t:RT Int) (h:nds t<=1000000000):Sp sZ (b,t.a,t.kids) (λ r=>r=true ↔ qI b t):=
 aZ5 QH (J4 (ZB t h 300 Ω) (akt b) (adA Om b t (by have:=eG;omega)))
theorem Jj (b:LI) (d:b.length<=ay) (t:RT Int) (h:nds t<=1000000000):Sp ni (b,t.a,t.kids) (λ r=>r=true ↔ qI b t):=
 aZ5 Ub (NM (wC b d) (VQ QS b t h 300 Ω))
theorem aeA {b:LI} {M:Aut} {t:RT Int} (hv:bW b M) (d:qI b t):Sp sW (b,M.1,M.2.1,M.2.2,t.a,t.kids) (λ r=>r.2=0/\ ∀q,q∈r.1 ↔ Bk.Reach M.2.2 t q):=by
 have k:=eG;have g:b.length<=ay:=by have:=hv.1.1;omega
 have i:nds t<=1000000000:=by have:=d.2.1;omega
 exact(aZ5 QF (adu b M.1 M.2.1 M.2.2 t (aZ5 TG (Ya (Zz b M.1 M.2.1 M.2.2 g hv.wf) (Jj b g t i))) (aku b M.1 M.2.1 M.2.2) λ hv d e f=>ahy VB b M.1 M.2.1 M.2.2 e hv.wf hv.ar f t d.2.2 i)).mono λ r h=>h hv d
theorem ajt {b fin:LI} {rs:LR} {M:Aut} {t:RT Int} (d:V6 b fin rs M) (e:qI b t):Sp xH (M.1,M.2.1,M.2.2,t.a,t.kids) (zJ M t):=by
 have v:=eG;have f:=d.2.2.2.2.2.2.2.2;have g:=f.2.2.2.1;refine aZ5 VI (aiY M t d.1.det.uni (λ q i=>(d.1.st' i).1) ((ajQ X0 b M.1 M.2.1 M.2.2 Ω d.2.2.2.2.2.2.2.1 (λ s k m p u=>(aZ5 JI (adv ait Kt M.1 M.2.1 M.2.2 s k Ω m p u)).mono λ l h=>⟨h.1,h.2.1⟩) t (by have:=e.2.1;omega) e.2.2).mono λ l h=>h.1))
theorem U3 (b:LI) (x:Aut) (t:RT Int) (e:nds t<=1100000) (f:x.2.2.length<=1100000):Sp zn (b,x.1,x.2.1,x.2.2,t.a,t.kids) (λ r=>r=true):=by
 have m:=eG
 refine aZ5 I9 (Uj b x t agE (aiw b x f) ((ZB t Ω 400 Ω).mono λ _ _=>trivial) agt (λ h=> ?_) (WE b) (aeC b t Ω) (λ h hv=>Zo (Lh h hv) hv)
  (λ h hv=>agB b [x] hv.1 Θ λ z g=>by rw[aah.1 g];exact⟨Lh h hv,hv⟩) (λ _ hv=>ajs hv) λ M i d=>ajt i d)
 obtain⟨p,q,u,v,k⟩:=id h;exact aZ5 TJ (X5 b x t (DZ b x.1 x.2.1 x.2.2 Ω Ω Ω (λ r l=>by have:=k r l;omega)) (Jj b Ω t Ω) (ags h) λ M hv d=>aeA hv d)
end Go.Proofs.YtdchbjmbgecejaaGreatDoor.Am
end
