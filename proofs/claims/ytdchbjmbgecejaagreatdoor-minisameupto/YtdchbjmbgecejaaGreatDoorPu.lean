import Derived.Test.YtdchbjmbgecejaaGreatDoorPq
import Derived.Test.YtdchbjmbgecejaaGreatDoorMw
set_option linter.unusedVariables false
noncomputable section
namespace Go.Proofs.YtdchbjmbgecejaaGreatDoor.Am
open Go Go.AM Go.Bk
set_option maxRecDepth 100000
theorem YS (l:LI) (h:l.length<=ay):Sp bI l (λ r=>r=l):=aZ7 (G:=λ n=>Ky) uh ⟨l,rfl,.all λ n=>by simp only[Ky,decide_eq_true h,cond_true]⟩
theorem adU (l:LI) (h:l.length<=1000000):Sp gq l (λ r=>r=(l,l)):=aZ7 (G:=λ n=>zC) qJ ⟨(l,l),rfl,.all λ n=>by
 have:l.length<=ay:=by have:=fH;omega
 simp only[zC,decide_eq_true this,cond_true]⟩
theorem wrap64 (n:Int):IntKind.wrap .u64 n=n % 18446744073709551616:=by simp[IntKind.wrap,IntKind.bits,IntKind.signed]
theorem ae2 (x:LI) (u:Nat) (d:x.length<=2000000000) (g:u<18446744073709551616):Sp dB (x,(u:Int),(10:Int)) (λ r=>r=x++Ep 20 u):=
 aZ7 (G:=λ n=>qX) oh ⟨_,rfl,.all λ n=>by
  have e:(0:Int)<=(u:Int):=by omega
  have f:(u:Int)<18446744073709551616:=by omega
  simp only[qX,decide_true,decide_eq_true e,decide_eq_true f,decide_eq_true d,acr,cond_true,aal]⟩
theorem ahK:aix bD:=λ b v m hv=>by
 have p:=fH;have i: -9223372036854775808<=v:=hv.1;have k:v<9223372036854775808:=hv.2;refine aZ7 xI (G:=λ n=>mY.P (dU n) n) ?_;show Tt (λ n=>mY.P (dU n) n (b,v,(10:Int))) _;unfold mY.P;refine aZ1 (R:=λ r=>r=b++dig v) (aZ7 oP (G:=λ n=>iK.P (dB n) n) ?_) λ r d=>aZ0 d;show Tt (λ n=>iK.P (dB n) n (b,v,(10:Int))) _;unfold iK.P;dsimp only;by_cases e:v<0
 ·obtain⟨u,rfl⟩: ∃u:Nat,v= -(u:Int):=⟨v.natAbs,by omega⟩
  have f:IntKind.wrap .u64 (0-IntKind.wrap .u64 (-(u:Int)))=(u:Int):=by
   rw[wrap64,wrap64];omega
  have g:dig (-(u:Int))=45::Ep 20 u:=by unfold dig;rw[decide_eq_true e,cond_true,Int.natAbs_neg,Int.natAbs_natCast]
  have l:List.length b+List.length ([(45:Int)]:LI)<=ay:=by simp only[aaY];omega
  simp only[decide_eq_true e,cond_true,decide_eq_true l,f];refine aY8 (aZ1 (ae2 (List.append b [45]) u (by simp only[abC,aaq,aaY];omega) (by omega)) λ r d=>aZ0 ?_);rw[d,g];simp
 ·obtain⟨u,rfl⟩: ∃u:Nat,v=(u:Int):=⟨v.toNat,by omega⟩;have f:IntKind.wrap .u64 (u:Int)=(u:Int):=by rw[wrap64];omega
  have g:dig (u:Int)=Ep 20 u:=by unfold dig;rw[decide_eq_false e,cond_false,aal]
  simp only[decide_eq_false e,cond_false,f];refine aY8 (aZ1 (ae2 b u (by omega) (by omega)) λ r d=>aZ0 ?_);rw[d,g]
theorem afR:SortI jl:=λ x d=>aZ7 (G:=λ n=>Vl) vK ⟨GL (λ a b=>decide (a<=b)) x,⟨(mW _ x).length_eq,λ y=>(mW _ x).mem_iff,(o7 (λ a b=>by simp only[decide_eq_true_eq];omega) (λ a b c e f=>by simp only[decide_eq_true_eq]at *;omega) x).imp λ h=>by simpa using h⟩,.all λ n=>by
 have:x.length<=ay:=by have:=fH;omega
 simp only[Vl,decide_eq_true this,cond_true]⟩
theorem afS:aho aJ:=λ x m d f=>aZ7 (G:=λ n=>Ce) iG ⟨GL (λ p q=>decide (p.1<=q.1)) x,⟨mW _ x,(o7 (λ a b=>by simp only[decide_eq_true_eq];omega) (λ a b c d f=>by simp only[decide_eq_true_eq]at *;omega) x).imp λ h=>by simpa using h⟩,.all λ n=>by
 have i:x.length<=ay:=by have:=fH;omega
 have k:(x.all λ p=>decide (0<=p.1)&&decide (p.1<=1000000000000)&&x.all λ q=> !decide (p.1=q.1)||decide (p.2=q.2))=true:=by
  simp only[aaV,aae,decide_eq_true_eq,abX,abw,decide_eq_false_iff_not];intro p g;obtain⟨a,b⟩:=d p g;refine⟨⟨a,by omega⟩,λ q l=> ?_⟩;by_cases e:p.1=q.1
  ·exact .inr (by rw[f p g q l e])
  ·exact .inl e
 simp only[Ce,decide_eq_true i,k,acr,cond_true]⟩
theorem YW:afq eX:=λ x k d=>aZ7 (G:=λ n=>xK) yE ⟨GL (λ p q=>decide (uY p q<=0)) x,⟨acG (mW _ x).length_eq,λ y=>(mW _ x).mem_iff,(o7 (λ a b=>by have:=oL.anti a b;simp only[decide_eq_true_eq];omega) (λ a b c d e=>by simp only[decide_eq_true_eq]at *;exact oL.tr _ _ _ d e) x).imp λ h=>by simpa using h⟩,.all λ n=>by
 have f:x.length<=ay:=by have:=fH;omega
 have g:(x.all λ p=>decide (List.length p.2.1<=1000))=true:=by
  simp only[aaV,decide_eq_true_eq];intro p i;have:=d p i;omega
 simp only[xK,decide_eq_true f,g,acr,cond_true]⟩
theorem ahL (x y:Int):Sp eP (x,y) (λ v=>v=Gm x y):=aZ7 y9 (afd (λ z=>aZ7 Ea (WC z)) x y)
theorem UA:ahk lN:=Zq λ x y e=>aZ7 Jl (SA ahL (λ d h=>aZ7 Jo (afe d h)) (λ d f h=>aZ7 rX (Nh ahL d f h)) x y e)
theorem P7:adx iH:=λ x d e=>aZ7 Hw (ZW YW (λ X f=>aZ7 vJ (XA F7 UA (λ x y g i=>aZ7 D8 (XD UA x y g i)) f)) x d e)
theorem YX:aeR iH:=λ x d e=>(P7 x d e).mono λ r h=>⟨h.1,h.2.1⟩
theorem afN:ahf iC:=λ x d=>aZ7 rW (Vm Z9 d)
theorem ahR:adu aH:=λ l m x h d=>aZ7 vY (ail l m x h d)
theorem aiQ:XT aS (!·):=λ S l R d e f=>aZ7 jh (Ym D9 jF S l R d e f)
theorem aiO:XT aV (!·):=λ S l R d e f=>aZ7 jy (afy Hu jQ S l R d e f)
theorem aiP:XT aN id:=λ S l R d e f=>aZ7 iZ (Yl CU jA S l R d e f)
theorem VR:Pj kQ:=λ S fin rs e=>aZ7 Hy (Z7 ahR aiQ S fin rs e ((aZ7 CS (TR ahR S fin rs e)).mono λ R d=>⟨d.1,λ r f h=>Dp.2 (d.2.1 r f λ s hs=>Dp.1 (h s hs)),λ s hs h=>d.2.2 s hs (Dp.1 h)⟩))
theorem ae5:afm nG:=λ S fin rs keep d e=>aZ7 ML (agD P7 aiO S fin rs keep d e)
theorem ahM (S:Int) (fin:LI) (rs:LR) (d:Wf S fin rs):Sp uz (S,fin,rs) (QS S fin rs):=aZ7 MN (agE ae5 VR S fin rs d)
theorem YT:adp lM:=ahB Jk
theorem ahP (s:Int) (l:LI) (hs:I64 s) (d: ∀q∈l,I64 q) (h:l.length<=1000000):Sp lI (s,l) (λ r=>r=NH s l):=aZ7 OV (aik ahK s l hs d h)
theorem aiN (s:Int) (l:LI) (hs:I64 s) (d: ∀q∈l,I64 q) (h:l.length<=1000000):Sp oC (s,l) (λ r=>r=NH s l):=aZ7 OU (by
 show Tt (λ n=>JM.P (lI n) n (s,l)) _;unfold JM.P;exact aZ1 (ahP s l hs d h) λ r e=>aZ0 e)
theorem ES (al:LI) (h:al.length<=ay):Sp jH al (λ r=>r=true ↔ F9 al):=
 aZ7 wz (Eh (aZ7 uj (Nb (aZ7 xH (TL (λ x=>aZ7 um (Ci x)) al h)))))
theorem DJ (al:LI) (S:Int) (fin:LI) (rs:LR) (d:al.length<=ay) (e:fin.length<=ay) (g:rs.length<=ay) (i: ∀r∈rs,r.2.1.length<=ay):Sp fV (al,S,fin,rs) (λ r=>r=true ↔ cu al (S,fin,rs)):=
 aZ7 Jm (Qy (λ x S f rs=>aZ7 Fh (Nc x S f rs)) ES al S fin rs d e g i)
theorem Y4 (s:LI) (hs:zu s):Sp mJ s (λ r=>r=keyS s):=aZ7 Eb (XF s hs)
theorem ahT (s:LI) (v:Int) (hs:zu s) (d:0<=v) (e:v<8):Sp dM (s,v) (λ r=>r=FB s v):=aZ7 vP (agR s v hs d e)
theorem ahQ (s:LI) (hs:zu s):Sp jK s (λ r=>r.length<=64/\ ∀v,v∈r ↔ 0<=v/\v<8/\FB s v=true):=aZ7 CW (agO vP s hs)
theorem ade {S:Int} {fin:LI} {rs:LR} (d:Wf S fin rs):fin.length<=ay/\rs.length<=ay/\ ∀r∈rs,r.2.1.length<=ay:=by
 have g:=fH;obtain⟨_,_,i,k,_,e⟩:=d;exact⟨by omega,by omega,λ r f=>by have:=(e r f).2.2;omega⟩
theorem afT (al:LI) (S:Int) (fin:LI) (rs:LR) (h:al.length<=ay) (d:Wf S fin rs):Sp fV (al,S,fin,rs) (λ r=>r=true ↔ cu al (S,fin,rs)):=
 DJ al S fin rs h (ade d).1 (ade d).2.1 (ade d).2.2
theorem afV {al:LI} {S:Int} {fin:LI} {rs:LR} (hv:cu al (S,fin,rs)) (I:S<=8):ajs al S fin rs bP:=by
 intro k t rank l d old done L u idx f e sets m y z A B C p;have D:=hv.wf;have E:rs.length<=100000:=D.2.2.2.1
 have G:rank<=3:=by
  obtain⟨g,i⟩:=aad.1 d;have:=(hv.1.2 _ g).2;rw[i]at this;omega
 refine aeE vZ ahT adU al S fin rs k I E (λ r K=>⟨(D.2.2.2.2.2 r K).1,(D.2.2.2.2.2 r K).2.1⟩) hv.ar
  (λ sets m y old done e idx g i M N O=>aZ7 zh (ajb Y4 S fin rs k sets m y old done e idx I g i M N O))
  t rank l d G old done L u rank [] idx f e sets m y (by simp) z (λ x Q=>by cases Q) A B C λ v=> ?_
 rw[p];constructor
 ·rintro⟨r,g,i⟩;exact⟨r,g,i,λ j x q R=>by simp at R⟩
 ·rintro⟨r,g,i,_⟩;exact⟨r,g,i⟩
theorem ajN (al:LI) (S:Int) (fin:LI) (rs:LR) (hv:cu al (S,fin,rs)):Sp yV (al,S,fin,rs) (aio al rs):=
 aZ7 SS (ai9 al S fin rs (by have:=hv.1.1;omega) hv.wf.2.2.2.1 λ r d=>⟨(hv.rule d).1,(hv.rule d).2.1⟩)
theorem adV (al:LI) (d:al.length<=ay) (S:Int) (fin:LI) (rs:LR) (e:S<=8) (f:Wf S fin rs):Sp oD (al,S,fin,rs) (λ r=>(r.2.2.2.2=0->XZ al fin rs (r.1,r.2.1,r.2.2.1))/\(cu al (S,fin,rs)->r.2.2.2.2=0\/r.2.2.2.2=3/\X0 al S)):=
 aZ7 Fp (ZX YT YX ahQ aiP al S fin rs e (afT al S fin rs d f) (ajN al S fin rs) λ hv=>afV hv e)
theorem ajO (x:List Bool) (h:x.length<=1000000):Sp kJ x (aeQ x):=aZ7 yD (NV x h)
theorem ajP (x:List ByteArray) (h:x.length<=1000000):Sp gK x (aeQ x):=aZ7 wo (JH x h)
theorem ahS (S:Int) (fin:LI) (rs:LR) (e:Wf S fin rs) (d:Sy rs) (f:Ia rs):Sp uD (S,fin,rs) (λ x=> ∃U,x=rows U/\ahq S rs U):=
 aZ7 MQ (agQ aiN (λ l h=>YS l (by have:=fH;omega)) afS S fin rs e d f)
theorem Y1 (S:Int) (fin:LI) (rs:LR) (e:Wf S fin rs) (f:S<=300) (d:Sy rs) (g:Ia rs):Sp oH (S,fin,rs) (λ cl=>cl.length=S.toNat/\(∀v∈cl,bC S v)/\Gg S fin rs (iat cl)/\ado S fin rs cl):=
 aZ7 Fv (XE YT ajO ajP ahK S fin rs e f (ahS S fin rs e d g))
theorem adW:ajt nJ:=λ S fin rs m to e d=>aZ7 Hz (Z5 P7 afN afR S fin rs e m to d)
theorem YU (b:LI) (x:Aut) (d:b.length<=ay) (e:x.2.1.length<=ay) (f:x.2.2.length<=ay) (i: ∀r∈x.2.2,r.2.1.length<=ay) (l:cu b x->x.1<=8):Sp iU (b,x.1,x.2.1,x.2.2) (aiA b x):=by
 have k:=DJ b x.1 x.2.1 x.2.2 d e f i
 exact aZ7 Fq (XC ahM (λ S fin rs m=>aZ7 Fj (ZU YW S fin rs m)) Y1 adW b x.1 x.2.1 x.2.2 (aZ7 MP (aii b x.1 x.2.1 x.2.2 (λ hv=> .inl (l hv)) (λ _=>aZ7 MK (agB YS x.1 x.2.1 x.2.2 e f i))
  (aZ7 vX (JG ahP b x.1 x.2.1 x.2.2 k)) (λ hv=>aZ7 MO (agM ae5 VR b x.1 x.2.1 x.2.2 hv k)) λ p fin' g e f=>adV b d p fin' g e f)))
theorem afO (M d:Aut) (h:Szb M) (e:Szb d):Sp vk (M.1,M.2.1,M.2.2,d.1,d.2.1,d.2.2) (λ r=>r=true ↔ M=d):=by
 have l:=fH;obtain⟨m,f,g⟩:=h;exact aZ7 SX (Qz M d (aZ7 CZ (aeA _ _ (by omega))) (aZ7 iQ (TK (λ x y i k=>aZ7 NP (ZQ UA x y i k)) _ _ f g e.2.2)))
theorem VQ (x y:LI) (h:x.length<=1000000000):Sp bU (x,y) (λ r=>r=true ↔ x=y):=aZ7 Jp (agG x y (by have:=fH;omega))
theorem afQ (M d:Aut) (h:Szb M):Sp lS (M.1,M.2.1,M.2.2,d.1,d.2.1,d.2.2) (λ r=>r=true ↔ M=d):=aZ7 Jq (QA M d h.1 h.2.2 h.2.1 λ x y e=>VQ x y (by omega))
theorem ajM (al:LI):Sp kF al (λ r=>r=true ↔ F9 al):=aZ7 Ec (C9 al)
theorem VT (b:LI) (M:Aut) (h:Szb M):Sp kR (b,M.1,M.2.1,M.2.2) (λ r=>r=true ↔ cu b M):=aZ7 Qm (JI b (ajM b) M.1 M.2.1 M.2.2 (by have:=h.1;omega) (by have:=h.2.1;omega) h.2.2)
theorem ait (l:LI) (v:Int) (h:l.length<=ay):Sp fG (l,v) (λ r=>r=true ↔ v∈l):=aZ7 Xw (aja l v h)
theorem P6 (l:LI) (v:Int) (h:l.length+1<=ay):Sp dW (l,v) (λ r=>(∀y,y∈r ↔ y=v\/y∈l)/\r.length<=l.length+1/\((l.Pairwise λ a b=>a<b)->r.Pairwise λ a b=>a<b)):=aZ7 NQ (ZR l v h)
theorem YV:ahp ni:=λ x d e=>aZ7 Tf (agK (λ r h=>aZ7 Vf (agN r h)) (λ a b f=>aZ7 Tc (agF a b f)) x d e)
theorem KY (S:Int) (fin:LI) (rs:LR) (d:Wf S fin rs) (e:ArC rs):Sp eU (S,fin,rs) (xW S fin rs):=
 aZ7 MS (TP (aZ7 Tj (ZY S fin rs d (aZ7 MR (TN S fin rs d)))) λ keep f=>aZ7 S9 (ZT YV S fin rs keep d f e))
theorem ahN {al:LI} {S:Int} {fin:LI} {rs:LR} (hv:cu al (S,fin,rs)):Sp lX (S,fin,rs) (λ r=>r=true->Ia rs):=by
 have e:=hv.wf;have d:=e.2.2.2.1;dsimp only at d;exact aZ7 Ve (aij S fin rs (by omega) (λ r f=>by have:=(e.2.2.2.2.2 r f).2.2;omega) λ x y g=>VQ x y (by omega))
theorem ae4 (al:LI) (d:F9 al) (m:Nat) (e:m<=1000):Sp kT (al,(m:Int)) (λ v=>v=(lZ al m:Int)):=aZ7 SY (agC (λ m r e f=>aZ7 Cb (TM m r e f)) al m e d)
theorem ae8 (al:LI) (d:F9 al) (m:Nat) (e:m<=1000):Sp nC (al,(m:Int)) (λ b=>b=true ↔ 300<m\/20000<lZ al m):=aZ7 Tq (agI al m e (ae4 al d m e))
theorem ae3 {al:LI} {S:Int} {fin:LI} {rs:LR} (d:S<=8) (hv:cu al (S,fin,rs)):Sp kU (S,fin,rs) (λ v=> ∃a,xW S fin rs a/\v=((2^a.1.toNat:Nat):Int)/\a.1<=8):=
 aZ7 Tm (agA d (KY S fin rs hv.wf (VA hv.ar)) λ r e=>aZ7 Cb (agJ r e))
theorem RH {b:LI} {x:Aut} (d:x.1<=8) (hv:cu b x):Sp mO (b,x.1,x.2.1,x.2.2) (λ r=>r=true->Ia x.2.2\/QM b x.2.1 x.2.2):=
 (aZ7 MV (XB (ahN (al:=b) hv) (ae3 (al:=b) d hv) λ m e=>ae8 b hv.1 m e)).mono λ r h f=>(h f).imp id λ⟨a,g,i,k⟩=>⟨_,i,k,g.upB⟩
theorem XH {S:Int} {fin:LI} {rs:LR} (d:S<=8) (e:0<=S) {a:Aut} (h:xW S fin rs a):0<=a.1/\a.1<=8:=by
 obtain⟨keep,R,f,_,_,_,_,g⟩:=h;have:keep.count true<=keep.length:=List.count_le_length;omega
theorem afP (b:LI) (l:List Aut) (e:F9 b) (f:l.length<=1000) (h: ∀x∈l,x.1<=8/\cu b x):Sp sQ (b,l) (λ _=>True):=by
 refine aZ7 Qu (G:=λ n=>zZ.P (qm n) n) ?_;show Tt (λ n=>zZ.P (qm n) n (b,l)) _;unfold zZ.P;refine aZ1 (aZ7 Qo (aeC b l f (λ m g=>(ae4 b e m g).mono λ _ _=>trivial) (λ x d=>(ahN (al:=b) (h x d).2).mono λ _ _=>trivial) (λ x d=> ?_) λ x d=> ?_)) λ r _=>aZ0 trivial
 ·exact(KY x.1 x.2.1 x.2.2 (h x d).2.wf (VA (h x d).2.ar)).mono λ a i=>XH (h x d).1 (h x d).2.2.1 i
 ·refine(ae3 (al:=b) (S:=x.1) (fin:=x.2.1) (rs:=x.2.2) (h x d).1 (h x d).2).mono λ v ⟨a,_,k,p⟩=> ?_;have:2^a.1.toNat<=2^8:=abN (by omega) (by omega);rw[k];exact⟨Int.natCast_nonneg _,by omega⟩
theorem KX: ∀N r:Nat,N<=301->r<=3->Sp aU ((N:Int),(r:Int)) (λ l=>l=kV N r):=λ N r d e=>WA Qp N d r e
theorem ae9: ∀(sets:LL) (l:LI),l.length<=1000->(∀q∈l,bC (sets.length:Int) q)->Sp fK (sets,l) (λ r=>r=tu sets l):=λ sets l d e=>aZ7 TA (agP sets l d e)
theorem Y3: ∀(l:LL) (x:LI),l.length<=1000000000->x.length<=1000000->Sp dZ (l,x) (λ p=>(p= -1/\x∉l)\/ ∃i:Nat,l[i]? =some x/\p=(i:Int)):=λ l x d e=>aZ7 Qr (aeF l x d λ y _=>VQ x y (by omega))
theorem YZ {al:LI} {S:Int} {fin:LI} {rs:LR} (hv:cu al (S,fin,rs)):Ob fJ al S fin rs:=λ f m p y q=>by
 have z:=fH;have d:=hv.wf.2.2.2.1;dsimp only at d;have i:al[f]? =some al[f]:=aac m;obtain⟨k,A,t⟩:=hv.1.rank m;refine(aZ7 Ti (agL ait P6 S fin rs (f:Int) p (by omega) (by omega) (λ l u=>by have:=q l u;omega) λ r v e=> ?_)).mono λ l h=>⟨by have:=h.2.1;omega,h.1⟩;obtain⟨_,g⟩:=hv.ar r v;rw[e,aal,i]at g;have:=aak g;omega
theorem Y0 (al:LI) (S:Int) (fin:LI) (rs:LR) (d:Wf S fin rs):Sp qQ (al,S,fin,rs) (λ t=>t.2.2.2.2=0->F9 al/\ ∃m,DOk al fin rs m (t.1,t.2.1,t.2.2.1)):=by
 have q:=fH;have e:=d.2.2.1;have f:=d.2.2.2.1
 refine(aZ7 NT (ac3 al S fin rs (by omega) (VT al (S,fin,rs) ⟨e,by dsimp only;omega,λ r g=>by have:=(d.2.2.2.2.2 r g).2.2;omega⟩) (λ hv=>aZ7 Tv (ag3 al S fin rs hv.1 (YZ hv) KX ae9 Y3))
  (λ i k e f=>(aZ7 Td (agH ait i k (by omega) (by omega))).mono λ r h=>h) (λ hv=>YZ hv) KX ae9 Y3)).mono λ t l p=> ?_
 obtain⟨hv,sets,hs⟩:=l p;exact⟨hv.1,_,acZ hv.ar (YZ hv) hs⟩
theorem Y2: ∀(m:Nat) (d:LL) (l:LI),m<=301->l.length<=3->(∀q∈l,bC (m:Int) q)->Sp fC ((m:Int),d,l) (λ v=>v=(Ib m l:Int)):=λ m d l e f g=>aZ7 F5 (aeD m d l e f g)
theorem ae6 {al:LI} {m:Nat} {fin:LI} {rs:LR} (d:F9 al) (f:m<=301) (e:rs.length<=1000000000) (g: ∀r∈rs,FH al m r):Sp ny (al,(m:Int),fin,rs) (λ t=>t.1=(m:Int)/\Ph al m t.2/\aeS al m rs t.2):=
 aZ7 Tn (agY al m fin rs d f e g (λ m r i k=>aZ7 Cb (TM m r i k)) Y2)
theorem ae7 {al:LI} {m:Nat} {rs:LR} (e:F9 al) (g:m<=301) (d:LL) (f a:Nat) (l:LI) (h:Ph al m d/\aeS al m rs d) (i:al[f]? =some (a:Int)) (k:l∈kV m a):Sp bG ((m:Int),d,(f:Int),l) (λ v=>QT rs (f:Int) l v):=
 aZ7 HY (agZ al m d f a l e g h.1 h.2 i k Y2)
theorem Xf (al:LI) (m:Nat) (fin:LI) (rs:LR) (δ:Int->LI->Int) (e:F9 al) (k:m<=301) (p:fin.length<=1000000000) (g: ∀q∈fin,bC (m:Int) q) (u:rs.length<=1000000000) (hF:XY al m rs δ):Sp oW (al,(m:Int),fin,rs) (Ue m fin rs):=
 aZ7 MX (XI al m fin rs k p g δ hF (λ d=>Ph al m d/\aeS al m rs d) (ae6 e k u hF.aiV) (λ d num s t A B hs y=>aZ7 Qq (aeK al m d num s t δ e k B hs y KX λ f a l z i=>⟨hF.1 f a l z i,(ae7 e k d f a l A z i).mono λ v hv=>Yk hF z i hv⟩))
  λ l i=>aZ7 Tz (ag4 P6 l i))
theorem Xe (al:LI) (m:Nat) (fin:LI) (rs:LR) (e:F9 al) (i:m<=301) (k:fin.length<=1000000000) (g:rs.length<=1000000000) (p: ∀r∈rs,FH al m r) (q:Det rs):Sp nT (al,(m:Int),fin,rs) (adv m fin rs):=
 aZ7 JF (Vt al m fin rs e i k g p q (λ d=>Ph al m d/\aeS al m rs d) (ae6 e i g p) (λ d f a l t u y=>ae7 e i d f a l t u y) (λ l v h=>ait l v (by have:=fH;omega)) (λ x z A B=>(YV x z A).mono λ r h=>⟨h.2.1,Na B h.2.1 h.2.2⟩) KX)
theorem OA {b:LI} {x:Aut} (hv:cu b x):Sp mP (b,x.1,x.2.1,x.2.2) (λ t=>t.2.2.2=true->WO x.2.1 x.2.2 (t.1,t.2.1,t.2.2.1)):=by
 have q:=fH
 exact aZ7 MW (JJ b x.1 x.2.1 x.2.2 hv.wf hv.ar KY (λ S fin rs p _=>Y0 b S fin rs p) (λ d m h=>ae8 b d m h)
  (λ m fin rs d e f g i k=>aZ7 NR (ac2 b m fin rs d e f g i k (λ x y u=>VQ x y (by omega)) KX)) (λ m fin rs δ d e f g i k=>Xf b m fin rs δ d e f g i k) (λ m fin rs d e f g i k=>Xe b m fin rs d e f g i k)
  (λ l v h=>ait l v (by omega)) λ l v h=>(P6 l v (by omega)).mono λ r h=>⟨h.1,h.2.1⟩)
theorem Dw {b:LI} {x:Aut} (d:O7 b x) (hv:cu b x):x.1<=8:=by
 have:=d.2.2.2.1;have:=hv.2.2.1;omega
theorem YD {b:LI} {x:Aut} (d:O7 b x):Szb x:=⟨by have:=d.2.1;omega,by have:=d.2.2.1;omega,λ r e=>by have:=d.2.2.2.2 r e;omega⟩
theorem YC {b:LI} {x:Aut} (d:O7 b x):Sp iU (b,x.1,x.2.1,x.2.2) (aiA b x):=by
 have g:=fH;obtain⟨i,k,l,m,e⟩:=id d;exact YU b x (by omega) (by omega) (by omega) (λ r f=>by have:=e r f;omega) (Dw d)
theorem ahO (b:LI) (x y:Aut) (f:x.2.2.length<=1100000) (g:y.2.2.length<=1100000):Sp wZ (b,[x,y]) (λ r=>r=true->O7 b x/\O7 b y):=by
 have i:=fH;refine(aZ7 U9 (TQ (aZ7 Vd (TS b [x,y] (by simp only[abl,aci];omega) λ c d=> ?_)))).mono λ r e h=>⟨e h _ (by simp),e h _ (by simp)⟩;simp only[aaQ,ab9,or_false]at d;rcases d with rfl|rfl<;>omega
theorem Xd (b:LI) (x y:Aut) (i:x.2.2.length<=1100000) (k:y.2.2.length<=1100000):Sp CG (b,x.1,x.2.1,x.2.2,y.1,y.2.1,y.2.2) (λ r=>r=true):=by
 have t:=fH
 refine aZ7 JD (Vo b x y afU (ahO b x y i k) (λ h=>⟨YD h.1,YD h.2⟩) (λ h=>aZ7 Vb (ZV b x y (λ z f=> ?_) (λ z f=> ?_) afO)) (VT b) (λ h z f hv=> ?_)
  (λ h d e=>afP b [x,y] d.1 (by simp) λ z f=> ?_) λ h d e=> ?_)
 ·have l:O7 b z:=by
   rcases f with rfl|rfl
   ·exact h.1
   ·exact h.2
  obtain⟨u,v,A,B,m⟩:=l;exact DJ b z.1 z.2.1 z.2.2 (by omega) (by omega) (by omega) (λ r g=>by have:=m r g;omega)
 ·rcases f with rfl|rfl
  ·exact YC h.1
  ·exact YC h.2
 ·rcases f with rfl|rfl
  ·exact RH (Dw h.1 hv) hv
  ·exact RH (Dw h.2 hv) hv
 ·simp only[aaQ,ab9,or_false]at f;rcases f with rfl|rfl
  ·exact⟨Dw h.1 d,d⟩
  ·exact⟨Dw h.2 e,e⟩
 ·refine aZ7 Qs (G:=λ n=>zY.P (ql n) n) ?_;show Tt (λ n=>zY.P (ql n) n (b,x.1,x.2.1,x.2.2,y.1,y.2.1,y.2.2)) _;unfold zY.P;dsimp only;exact aZ1 (aZ7 Qn (NW (P:=λ _ _=>True) b x y (OA d) (OA e) λ M p q _=>afQ M p q.szb)) λ r g=>aZ0 g
end Go.Proofs.YtdchbjmbgecejaaGreatDoor.Am
end
