import Derived.Test.YtdchbjmbgecejaaGreatDoorPq
import Derived.Test.YtdchbjmbgecejaaGreatDoorMw
set_option linter.unusedVariables false
noncomputable section
namespace Go.Proofs.YtdchbjmbgecejaaGreatDoor.Am
open Go Go.AM Go.Bk
set_option maxRecDepth 100000
theorem YR (l:LI) (h:l.length<=ay):Sp bI l (λ r=>r=l):=aZ7 (G:=λ n=>Ky) um ⟨l,rfl,.all λ n=>by simp only[Ky,decide_eq_true h,cond_true]⟩
theorem adR (l:LI) (h:l.length<=1000000):Sp gq l (λ r=>r=(l,l)):=aZ7 (G:=λ n=>zD) qL ⟨(l,l),rfl,.all λ n=>by
 have:l.length<=ay:=by have:=fM;omega
 simp only[zD,decide_eq_true this,cond_true]⟩
theorem wrap64 (n:Int):IntKind.wrap .u64 n=n % 18446744073709551616:=by simp[IntKind.wrap,IntKind.bits,IntKind.signed]
theorem aeY (x:LI) (u:Nat) (d:x.length<=2000000000) (g:u<18446744073709551616):Sp dB (x,(u:Int),(10:Int)) (λ r=>r=x++Ei 20 u):=
 aZ7 (G:=λ n=>qZ) ou ⟨_,rfl,.all λ n=>by
  have e:(0:Int)<=(u:Int):=by omega
  have f:(u:Int)<18446744073709551616:=by omega
  simp only[qZ,decide_true,decide_eq_true e,decide_eq_true f,decide_eq_true d,acr,cond_true,aal]⟩
theorem ahL:aiA bD:=λ b v m hv=>by
 have p:=fM;have i: -9223372036854775808<=v:=hv.1;have k:v<9223372036854775808:=hv.2;refine aZ7 xH (G:=λ n=>mY.P (dU n) n) ?_;show Tt (λ n=>mY.P (dU n) n (b,v,(10:Int))) _;unfold mY.P;refine aZ0 (R:=λ r=>r=b++dig v) (aZ7 oU (G:=λ n=>iM.P (dB n) n) ?_) λ r d=>aZ1 d;show Tt (λ n=>iM.P (dB n) n (b,v,(10:Int))) _;unfold iM.P;dsimp only;by_cases e:v<0
 ·obtain⟨u,rfl⟩: ∃u:Nat,v= -(u:Int):=⟨v.natAbs,by omega⟩
  have f:IntKind.wrap .u64 (0-IntKind.wrap .u64 (-(u:Int)))=(u:Int):=by
   rw[wrap64,wrap64];omega
  have g:dig (-(u:Int))=45::Ei 20 u:=by unfold dig;rw[decide_eq_true e,cond_true,Int.natAbs_neg,Int.natAbs_natCast]
  have l:List.length b+List.length ([(45:Int)]:LI)<=ay:=by simp only[aaY];omega
  simp only[decide_eq_true e,cond_true,decide_eq_true l,f];refine aY8 (aZ0 (aeY (List.append b [45]) u (by simp only[abC,aaq,aaY];omega) (by omega)) λ r d=>aZ1 ?_);rw[d,g];simp
 ·obtain⟨u,rfl⟩: ∃u:Nat,v=(u:Int):=⟨v.toNat,by omega⟩;have f:IntKind.wrap .u64 (u:Int)=(u:Int):=by rw[wrap64];omega
  have g:dig (u:Int)=Ei 20 u:=by unfold dig;rw[decide_eq_false e,cond_false,aal]
  simp only[decide_eq_false e,cond_false,f];refine aY8 (aZ0 (aeY b u (by omega) (by omega)) λ r d=>aZ1 ?_);rw[d,g]
theorem afO:SortI jo:=λ x d=>aZ7 (G:=λ n=>Vp) vK ⟨GI (λ a b=>decide (a<=b)) x,⟨(mW _ x).length_eq,λ y=>(mW _ x).mem_iff,(o9 (λ a b=>by simp only[decide_eq_true_eq];omega) (λ a b c e f=>by simp only[decide_eq_true_eq]at *;omega) x).imp λ h=>by simpa using h⟩,.all λ n=>by
 have:x.length<=ay:=by have:=fM;omega
 simp only[Vp,decide_eq_true this,cond_true]⟩
theorem afP:aho aJ:=λ x m d f=>aZ7 (G:=λ n=>Cb) iI ⟨GI (λ p q=>decide (p.1<=q.1)) x,⟨mW _ x,(o9 (λ a b=>by simp only[decide_eq_true_eq];omega) (λ a b c d f=>by simp only[decide_eq_true_eq]at *;omega) x).imp λ h=>by simpa using h⟩,.all λ n=>by
 have i:x.length<=ay:=by have:=fM;omega
 have k:(x.all λ p=>decide (0<=p.1)&&decide (p.1<=1000000000000)&&x.all λ q=> !decide (p.1=q.1)||decide (p.2=q.2))=true:=by
  simp only[aaV,aae,decide_eq_true_eq,abX,abw,decide_eq_false_iff_not];intro p g;obtain⟨a,b⟩:=d p g;refine⟨⟨a,by omega⟩,λ q l=> ?_⟩;by_cases e:p.1=q.1
  ·exact .inr (by rw[f p g q l e])
  ·exact .inl e
 simp only[Cb,decide_eq_true i,k,acr,cond_true]⟩
theorem YW:afm fA:=λ x k d=>aZ7 (G:=λ n=>xJ) yD ⟨GI (λ p q=>decide (uZ p q<=0)) x,⟨acG (mW _ x).length_eq,λ y=>(mW _ x).mem_iff,(o9 (λ a b=>by have:=oN.anti a b;simp only[decide_eq_true_eq];omega) (λ a b c d e=>by simp only[decide_eq_true_eq]at *;exact oN.tr _ _ _ d e) x).imp λ h=>by simpa using h⟩,.all λ n=>by
 have f:x.length<=ay:=by have:=fM;omega
 have g:(x.all λ p=>decide (List.length p.2.1<=1000))=true:=by
  simp only[aaV,decide_eq_true_eq];intro p i;have:=d p i;omega
 simp only[xJ,decide_eq_true f,g,acr,cond_true]⟩
theorem ahM (x y:Int):Sp eX (x,y) (λ v=>v=Gj x y):=aZ7 zh (ae9 (λ z=>aZ7 D5 (WE z)) x y)
theorem UE:ahk lT:=Zq λ x y e=>aZ7 Jj (SC ahM (λ d h=>aZ7 Jl (afa d h)) (λ d f h=>aZ7 su (Nk ahM d f h)) x y e)
theorem P9:adu iJ:=λ x d e=>aZ7 Hr (ZT YW (λ X f=>aZ7 vJ (Xz F5 UE (λ x y g i=>aZ7 DY (XC UE x y g i)) f)) x d e)
theorem YX:aeN iJ:=λ x d e=>(P9 x d e).mono λ r h=>⟨h.1,h.2.1⟩
theorem afK:ahf iE:=λ x d=>aZ7 rZ (Vq Z5 d)
theorem ahS:adq aH:=λ l m x h d=>aZ7 vY (aio l m x h d)
theorem aiS:XR aS (!·):=λ S l R d e f=>aZ7 jk (Ym DZ jH S l R d e f)
theorem aiQ:XR aV (!·):=λ S l R d e f=>aZ7 jB (afu Hq jT S l R d e f)
theorem aiR:XR aN id:=λ S l R d e f=>aZ7 jg (Yl CP jC S l R d e f)
theorem VT:Pm kU:=λ S fin rs e=>aZ7 Ht (ZY ahS aiS S fin rs e ((aZ7 CO (TT ahS S fin rs e)).mono λ R d=>⟨d.1,λ r f h=>Dk.2 (d.2.1 r f λ s hs=>Dk.1 (h s hs)),λ s hs h=>d.2.2 s hs (Dk.1 h)⟩))
theorem ae1:afi nH:=λ S fin rs keep d e=>aZ7 MO (agB P9 aiQ S fin rs keep d e)
theorem ahN (S:Int) (fin:LI) (rs:LR) (d:Wf S fin rs):Sp uF (S,fin,rs) (QT S fin rs):=aZ7 MP (agC ae1 VT S fin rs d)
theorem YT:adn lS:=ahC Ji
theorem ahQ (s:Int) (l:LI) (hs:I64 s) (d: ∀q∈l,I64 q) (h:l.length<=1000000):Sp lM (s,l) (λ r=>r=NJ s l):=aZ7 OX (ain ahL s l hs d h)
theorem aiO (s:Int) (l:LI) (hs:I64 s) (d: ∀q∈l,I64 q) (h:l.length<=1000000):Sp oG (s,l) (λ r=>r=NJ s l):=aZ7 OW (by
 show Tt (λ n=>JL.P (lM n) n (s,l)) _;unfold JL.P;exact aZ0 (ahQ s l hs d h) λ r e=>aZ1 e)
theorem EM (al:LI) (h:al.length<=ay):Sp jJ al (λ r=>r=true ↔ Fq al):=
 aZ7 wz (Eb (aZ7 uo (Nh (aZ7 xG (TN (λ x=>aZ7 uq (Cc x)) al h)))))
theorem IW (al:LI) (S:Int) (fin:LI) (rs:LR) (d:al.length<=ay) (e:fin.length<=ay) (g:rs.length<=ay) (i: ∀r∈rs,r.2.1.length<=ay):Sp gQ (al,S,fin,rs) (λ r=>r=true ↔ bW al (S,fin,rs)):=
 aZ7 Jk (Qz (λ x S f rs=>aZ7 E8 (Nj x S f rs)) EM al S fin rs d e g i)
theorem Y4 (s:LI) (hs:zx s):Sp mO s (λ r=>r=keyS s):=aZ7 D6 (XE s hs)
theorem ahU (s:LI) (v:Int) (hs:zx s) (d:0<=v) (e:v<8):Sp dM (s,v) (λ r=>r=Fh s v):=aZ7 vP (agQ s v hs d e)
theorem ahR (s:LI) (hs:zx s):Sp jM s (λ r=>r.length<=64/\ ∀v,v∈r ↔ 0<=v/\v<8/\Fh s v=true):=aZ7 CQ (agN vP s hs)
theorem ac9 {S:Int} {fin:LI} {rs:LR} (d:Wf S fin rs):fin.length<=ay/\rs.length<=ay/\ ∀r∈rs,r.2.1.length<=ay:=by
 have g:=fM;obtain⟨_,_,i,k,_,e⟩:=d;exact⟨by omega,by omega,λ r f=>by have:=(e r f).2.2;omega⟩
theorem afQ (al:LI) (S:Int) (fin:LI) (rs:LR) (h:al.length<=ay) (d:Wf S fin rs):Sp gQ (al,S,fin,rs) (λ r=>r=true ↔ bW al (S,fin,rs)):=
 IW al S fin rs h (ac9 d).1 (ac9 d).2.1 (ac9 d).2.2
theorem afS {al:LI} {S:Int} {fin:LI} {rs:LR} (hv:bW al (S,fin,rs)) (I:S<=8):ajt al S fin rs bP:=by
 intro k t rank l d old done L u idx f e sets m y z A B C p;have D:=hv.wf;have E:rs.length<=100000:=D.2.2.2.1
 have G:rank<=3:=by
  obtain⟨g,i⟩:=aad.1 d;have:=(hv.1.2 _ g).2;rw[i]at this;omega
 refine aeA vZ ahU adR al S fin rs k I E (λ r K=>⟨(D.2.2.2.2.2 r K).1,(D.2.2.2.2.2 r K).2.1⟩) hv.ar
  (λ sets m y old done e idx g i M N O=>aZ7 zi (ajd Y4 S fin rs k sets m y old done e idx I g i M N O))
  t rank l d G old done L u rank [] idx f e sets m y (by simp) z (λ x Q=>by cases Q) A B C λ v=> ?_
 rw[p];constructor
 ·rintro⟨r,g,i⟩;exact⟨r,g,i,λ j x q R=>by simp at R⟩
 ·rintro⟨r,g,i,_⟩;exact⟨r,g,i⟩
theorem ajO (al:LI) (S:Int) (fin:LI) (rs:LR) (hv:bW al (S,fin,rs)):Sp yV (al,S,fin,rs) (aiq al rs):=
 aZ7 SX (ajb al S fin rs (by have:=hv.1.1;omega) hv.wf.2.2.2.1 λ r d=>⟨(hv.rule d).1,(hv.rule d).2.1⟩)
theorem adS (al:LI) (d:al.length<=ay) (S:Int) (fin:LI) (rs:LR) (e:S<=8) (f:Wf S fin rs):Sp oH (al,S,fin,rs) (λ r=>(r.2.2.2.2=0->XY al fin rs (r.1,r.2.1,r.2.2.1))/\(bW al (S,fin,rs)->r.2.2.2.2=0\/r.2.2.2.2=3/\X0 al S)):=
 aZ7 Fb (ZU YT YX ahR aiR al S fin rs e (afQ al S fin rs d f) (ajO al S fin rs) λ hv=>afS hv e)
theorem ajP (x:List Bool) (h:x.length<=1000000):Sp kN x (aeM x):=aZ7 yC (N7 x h)
theorem ajQ (x:List ByteArray) (h:x.length<=1000000):Sp gU x (aeM x):=aZ7 wo (JG x h)
theorem ahT (S:Int) (fin:LI) (rs:LR) (e:Wf S fin rs) (d:Sy rs) (f:F9 rs):Sp uG (S,fin,rs) (λ x=> ∃U,x=rows U/\ahq S rs U):=
 aZ7 MS (agP aiO (λ l h=>YR l (by have:=fM;omega)) afP S fin rs e d f)
theorem Y1 (S:Int) (fin:LI) (rs:LR) (e:Wf S fin rs) (f:S<=300) (d:Sy rs) (g:F9 rs):Sp oJ (S,fin,rs) (λ cl=>cl.length=S.toNat/\(∀v∈cl,bC S v)/\F8 S fin rs (iat cl)/\adl S fin rs cl):=
 aZ7 Fg (XD YT ajP ajQ ahL S fin rs e f (ahT S fin rs e d g))
theorem adT:aju nK:=λ S fin rs m to e d=>aZ7 Hu (ZX P9 afK afO S fin rs e m to d)
theorem YU (b:LI) (x:Aut) (d:b.length<=ay) (e:x.2.1.length<=ay) (f:x.2.2.length<=ay) (i: ∀r∈x.2.2,r.2.1.length<=ay) (l:bW b x->x.1<=8):Sp gK (b,x.1,x.2.1,x.2.2) (air b x):=by
 have k:=IW b x.1 x.2.1 x.2.2 d e f i
 exact aZ7 Fe (XB ahN (λ S fin rs m=>aZ7 Fa (ZR YW S fin rs m)) Y1 adT b x.1 x.2.1 x.2.2 (aZ7 MR (aij b x.1 x.2.1 x.2.2 (λ hv=> .inl (l hv)) (λ _=>aZ7 MN (agz YR x.1 x.2.1 x.2.2 e f i))
  (aZ7 vX (JF ahQ b x.1 x.2.1 x.2.2 k)) (λ hv=>aZ7 MQ (agL ae1 VT b x.1 x.2.1 x.2.2 hv k)) λ p fin' g e f=>adS b d p fin' g e f)))
theorem afL (M d:Aut) (h:Szb M) (e:Szb d):Sp ni (M.1,M.2.1,M.2.2,d.1,d.2.1,d.2.2) (λ r=>r=true ↔ M=d):=by
 have l:=fM;obtain⟨m,f,g⟩:=h;exact aZ7 S9 (QA M d (aZ7 CW (aew _ _ (by omega))) (aZ7 iT (TM (λ x y i k=>aZ7 NT (ZO UE x y i k)) _ _ f g e.2.2)))
theorem VR (x y:LI) (h:x.length<=1000000000):Sp bU (x,y) (λ r=>r=true ↔ x=y):=aZ7 Jm (agE x y (by have:=fM;omega))
theorem afN (M d:Aut) (h:Szb M):Sp jO (M.1,M.2.1,M.2.2,d.1,d.2.1,d.2.2) (λ r=>r=true ↔ M=d):=aZ7 Jo (QB M d h.1 h.2.2 h.2.1 λ x y e=>VR x y (by omega))
theorem ajN (al:LI):Sp kJ al (λ r=>r=true ↔ Fq al):=aZ7 D7 (CX al)
theorem VU (b:LI) (M:Aut) (h:Szb M):Sp jh (b,M.1,M.2.1,M.2.2) (λ r=>r=true ↔ bW b M):=aZ7 Qq (JH b (ajN b) M.1 M.2.1 M.2.2 (by have:=h.1;omega) (by have:=h.2.1;omega) h.2.2)
theorem aiw (l:LI) (v:Int) (h:l.length<=ay):Sp fH (l,v) (λ r=>r=true ↔ v∈l):=aZ7 Xw (ajc l v h)
theorem P7 (l:LI) (v:Int) (h:l.length+1<=ay):Sp dX (l,v) (λ r=>(∀y,y∈r ↔ y=v\/y∈l)/\r.length<=l.length+1/\((l.Pairwise λ a b=>a<b)->r.Pairwise λ a b=>a<b)):=aZ7 NU (ZP l v h)
theorem YV:ahp ny:=λ x d e=>aZ7 Tj (agJ (λ r h=>aZ7 Vj (agM r h)) (λ a b f=>aZ7 Tf (agD a b f)) x d e)
theorem KZ (S:Int) (fin:LI) (rs:LR) (d:Wf S fin rs) (e:ArC rs):Sp eY (S,fin,rs) (xU S fin rs):=
 aZ7 MW (TR (aZ7 Tn (ZV S fin rs d (aZ7 MV (TQ S fin rs d)))) λ keep f=>aZ7 Td (ZQ YV S fin rs keep d f e))
theorem ahO {al:LI} {S:Int} {fin:LI} {rs:LR} (hv:bW al (S,fin,rs)):Sp lZ (S,fin,rs) (λ r=>r=true->F9 rs):=by
 have e:=hv.wf;have d:=e.2.2.2.1;dsimp only at d;exact aZ7 Vh (aik S fin rs (by omega) (λ r f=>by have:=(e.2.2.2.2.2 r f).2.2;omega) λ x y g=>VR x y (by omega))
theorem ae0 (al:LI) (d:Fq al) (m:Nat) (e:m<=1000):Sp kW (al,(m:Int)) (λ v=>v=(l9 al m:Int)):=aZ7 Tc (agA (λ m r e f=>aZ7 zY (TP m r e f)) al m e d)
theorem ae4 (al:LI) (d:Fq al) (m:Nat) (e:m<=1000):Sp nD (al,(m:Int)) (λ b=>b=true ↔ 300<m\/20000<l9 al m):=aZ7 Tz (agH al m e (ae0 al d m e))
theorem aeZ {al:LI} {S:Int} {fin:LI} {rs:LR} (d:S<=8) (hv:bW al (S,fin,rs)):Sp kX (S,fin,rs) (λ v=> ∃a,xU S fin rs a/\v=((2^a.1.toNat:Nat):Int)/\a.1<=8):=
 aZ7 Tq (agy d (KZ S fin rs hv.wf (VB hv.ar)) λ r e=>aZ7 zY (agI r e))
theorem YS {b:LI} {x:Aut} (d:x.1<=8) (hv:bW b x):Sp kK (b,x.1,x.2.1,x.2.2) (λ r=>r=true->F9 x.2.2\/O9 b x.2.1 x.2.2):=
 (aZ7 MX (XA (ahO (al:=b) hv) (aeZ (al:=b) d hv) λ m e=>ae4 b hv.1 m e)).mono λ r h f=>(h f).imp id λ⟨a,g,i,k⟩=>⟨_,i,k,g.upB⟩
theorem XG {S:Int} {fin:LI} {rs:LR} (d:S<=8) (e:0<=S) {a:Aut} (h:xU S fin rs a):0<=a.1/\a.1<=8:=by
 obtain⟨keep,R,f,_,_,_,_,g⟩:=h;have:keep.count true<=keep.length:=List.count_le_length;omega
theorem afM (b:LI) (l:List Aut) (e:Fq b) (f:l.length<=1000) (h: ∀x∈l,x.1<=8/\bW b x):Sp nM (b,l) (λ _=>True):=by
 refine aZ7 Qw (G:=λ n=>zX.P (qo n) n) ?_;show Tt (λ n=>zX.P (qo n) n (b,l)) _;unfold zX.P;refine aZ0 (aZ7 Qr (aey b l f (λ m g=>(ae0 b e m g).mono λ _ _=>trivial) (λ x d=>(ahO (al:=b) (h x d).2).mono λ _ _=>trivial) (λ x d=> ?_) λ x d=> ?_)) λ r _=>aZ1 trivial
 ·exact(KZ x.1 x.2.1 x.2.2 (h x d).2.wf (VB (h x d).2.ar)).mono λ a i=>XG (h x d).1 (h x d).2.2.1 i
 ·refine(aeZ (al:=b) (S:=x.1) (fin:=x.2.1) (rs:=x.2.2) (h x d).1 (h x d).2).mono λ v ⟨a,_,k,p⟩=> ?_;have:2^a.1.toNat<=2^8:=abN (by omega) (by omega);rw[k];exact⟨Int.natCast_nonneg _,by omega⟩
theorem KY: ∀N r:Nat,N<=301->r<=3->Sp aU ((N:Int),(r:Int)) (λ l=>l=kY N r):=λ N r d e=>WB Qs N d r e
theorem ae5: ∀(sets:LL) (l:LI),l.length<=1000->(∀q∈l,bC (sets.length:Int) q)->Sp fK (sets,l) (λ r=>r=tH sets l):=λ sets l d e=>aZ7 TD (agO sets l d e)
theorem Y3: ∀(l:LL) (x:LI),l.length<=1000000000->x.length<=1000000->Sp eG (l,x) (λ p=>(p= -1/\x∉l)\/ ∃i:Nat,l[i]? =some x/\p=(i:Int)):=λ l x d e=>aZ7 Qv (aeB l x d λ y _=>VR x y (by omega))
theorem YZ {al:LI} {S:Int} {fin:LI} {rs:LR} (hv:bW al (S,fin,rs)):Og fJ al S fin rs:=λ f m p y q=>by
 have z:=fM;have d:=hv.wf.2.2.2.1;dsimp only at d;have i:al[f]? =some al[f]:=aac m;obtain⟨k,A,t⟩:=hv.1.rank m;refine(aZ7 Tm (agK aiw P7 S fin rs (f:Int) p (by omega) (by omega) (λ l u=>by have:=q l u;omega) λ r v e=> ?_)).mono λ l h=>⟨by have:=h.2.1;omega,h.1⟩;obtain⟨_,g⟩:=hv.ar r v;rw[e,aal,i]at g;have:=aak g;omega
theorem Y0 (al:LI) (S:Int) (fin:LI) (rs:LR) (d:Wf S fin rs):Sp qU (al,S,fin,rs) (λ t=>t.2.2.2.2=0->Fq al/\ ∃m,DOk al fin rs m (t.1,t.2.1,t.2.2.1)):=by
 have q:=fM;have e:=d.2.2.1;have f:=d.2.2.2.1
 refine(aZ7 NW (ac0 al S fin rs (by omega) (VU al (S,fin,rs) ⟨e,by dsimp only;omega,λ r g=>by have:=(d.2.2.2.2.2 r g).2.2;omega⟩) (λ hv=>aZ7 TA (agZ al S fin rs hv.1 (YZ hv) KY ae5 Y3))
  (λ i k e f=>(aZ7 Ti (agF aiw i k (by omega) (by omega))).mono λ r h=>h) (λ hv=>YZ hv) KY ae5 Y3)).mono λ t l p=> ?_
 obtain⟨hv,sets,hs⟩:=l p;exact⟨hv.1,_,Z7 hv.ar (YZ hv) hs⟩
theorem Y2: ∀(m:Nat) (d:LL) (l:LI),m<=301->l.length<=3->(∀q∈l,bC (m:Int) q)->Sp fE ((m:Int),d,l) (λ v=>v=(H7 m l:Int)):=λ m d l e f g=>aZ7 FY (aez m d l e f g)
theorem ae2 {al:LI} {m:Nat} {fin:LI} {rs:LR} (d:Fq al) (f:m<=301) (e:rs.length<=1000000000) (g: ∀r∈rs,Fv al m r):Sp nC (al,(m:Int),fin,rs) (λ t=>t.1=(m:Int)/\Pj al m t.2/\aeO al m rs t.2):=
 aZ7 Tv (agX al m fin rs d f e g (λ m r i k=>aZ7 zY (TP m r i k)) Y2)
theorem ae3 {al:LI} {m:Nat} {rs:LR} (e:Fq al) (g:m<=301) (d:LL) (f a:Nat) (l:LI) (h:Pj al m d/\aeO al m rs d) (i:al[f]? =some (a:Int)) (k:l∈kY m a):Sp bG ((m:Int),d,(f:Int),l) (λ v=>QU rs (f:Int) l v):=
 aZ7 Hw (agY al m d f a l e g h.1 h.2 i k Y2)
theorem Xf (al:LI) (m:Nat) (fin:LI) (rs:LR) (δ:Int->LI->Int) (e:Fq al) (k:m<=301) (p:fin.length<=1000000000) (g: ∀q∈fin,bC (m:Int) q) (u:rs.length<=1000000000) (hF:XW al m rs δ):Sp o7 (al,(m:Int),fin,rs) (Ug m fin rs):=
 aZ7 Na (XH al m fin rs k p g δ hF (λ d=>Pj al m d/\aeO al m rs d) (ae2 e k u hF.aiX) (λ d num s t A B hs y=>aZ7 Qu (aeG al m d num s t δ e k B hs y KY λ f a l z i=>⟨hF.1 f a l z i,(ae3 e k d f a l A z i).mono λ v hv=>Yk hF z i hv⟩))
  λ l i=>aZ7 TB (ag3 P7 l i))
theorem Xe (al:LI) (m:Nat) (fin:LI) (rs:LR) (e:Fq al) (i:m<=301) (k:fin.length<=1000000000) (g:rs.length<=1000000000) (p: ∀r∈rs,Fv al m r) (q:Det rs):Sp nV (al,(m:Int),fin,rs) (ads m fin rs):=
 aZ7 JD (Vw al m fin rs e i k g p q (λ d=>Pj al m d/\aeO al m rs d) (ae2 e i g p) (λ d f a l t u y=>ae3 e i d f a l t u y) (λ l v h=>aiw l v (by have:=fM;omega)) (λ x z A B=>(YV x z A).mono λ r h=>⟨h.2.1,Nc B h.2.1 h.2.2⟩) KY)
theorem Xd {b:LI} {x:Aut} (hv:bW b x):Sp iW (b,x.1,x.2.1,x.2.2) (λ t=>t.2.2.2=true->Ui x.2.1 x.2.2 (t.1,t.2.1,t.2.2.1)):=by
 have q:=fM
 exact aZ7 MZ (JI b x.1 x.2.1 x.2.2 hv.wf hv.ar KZ (λ S fin rs p _=>Y0 b S fin rs p) (λ d m h=>ae4 b d m h)
  (λ m fin rs d e f g i k=>aZ7 NV (acZ b m fin rs d e f g i k (λ x y u=>VR x y (by omega)) KY)) (λ m fin rs δ d e f g i k=>Xf b m fin rs δ d e f g i k) (λ m fin rs d e f g i k=>Xe b m fin rs d e f g i k)
  (λ l v h=>aiw l v (by omega)) λ l v h=>(P7 l v (by omega)).mono λ r h=>⟨h.1,h.2.1⟩)
theorem KH {b:LI} {x:Aut} (d:QN b x) (hv:bW b x):x.1<=8:=by
 have:=d.2.2.2.1;have:=hv.2.2.1;omega
theorem YC {b:LI} {x:Aut} (d:QN b x):Szb x:=⟨by have:=d.2.1;omega,by have:=d.2.2.1;omega,λ r e=>by have:=d.2.2.2.2 r e;omega⟩
theorem afD {b:LI} {x:Aut} (d:QN b x):Sp gK (b,x.1,x.2.1,x.2.2) (air b x):=by
 have g:=fM;obtain⟨i,k,l,m,e⟩:=id d;exact YU b x (by omega) (by omega) (by omega) (λ r f=>by have:=e r f;omega) (KH d)
theorem ahP (b:LI) (x y:Aut) (f:x.2.2.length<=1100000) (g:y.2.2.length<=1100000):Sp rC (b,[x,y]) (λ r=>r=true->QN b x/\QN b y):=by
 have i:=fM;refine(aZ7 Vf (TS (aZ7 Vg (TU b [x,y] (by simp only[abl,ach];omega) λ c d=> ?_)))).mono λ r e h=>⟨e h _ (by simp),e h _ (by simp)⟩;simp only[aaU,acp,or_false]at d;rcases d with rfl|rfl<;>omega
theorem aiP {b:LI} {x:Aut} (hv:bW b x):Sp yX (b,x.1,x.2.1,x.2.2) (λ t=>t.2.2.2=true->Ui x.2.1 x.2.2 (t.1,t.2.1,t.2.2.1)):=by
 refine aZ7 Xx (G:=λ n=>JX.P (iW n) n) ?_;show Tt (λ n=>JX.P (iW n) n (b,x.1,x.2.1,x.2.2)) _;unfold JX.P;dsimp only;exact aZ0 (Xd hv) λ r d=>aZ1 d
theorem P8 (b:LI) (x c:Aut) (d:x.2.2.length<=1100000) (e:c.2.2.length<=1100000):Sp wY (b,x.1,x.2.1,x.2.2,c.1,c.2.1,c.2.2) (λ r=>r=true):=
 aZ7 FX (NZ b x c afR (ahP b x c d e) (λ h=>⟨YC h.1,YC h.2⟩) afL afN (λ h=>afD h.1) (VU b) (λ h hv=>YS (KH h.1 hv) hv)
  (λ h hv=>afM b [x] hv.1 (by simp) λ z f=>by rw[aah.1 f];exact⟨KH h.1 hv,hv⟩) λ _ hv=>aiP hv)
end Go.Proofs.YtdchbjmbgecejaaGreatDoor.Am
end
