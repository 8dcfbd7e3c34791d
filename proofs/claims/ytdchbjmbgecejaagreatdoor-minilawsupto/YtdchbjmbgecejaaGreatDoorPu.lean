import Derived.Test.YtdchbjmbgecejaaGreatDoorPq
import Derived.Test.YtdchbjmbgecejaaGreatDoorMs
set_option linter.unusedVariables false
noncomputable section
namespace Go.Proofs.YtdchbjmbgecejaaGreatDoor.Am
open Go Go.AM Go.Bk
set_option maxRecDepth 100000
theorem Yq (l:List Int) (h:l.length<=au):Sp bC l (λ r=>r=l):=Sp.step (G:=λ n=>IJ) rH ⟨l,rfl,.all λ n=>by simp only[IJ,decide_eq_true h,cond_true]⟩
theorem acY (l:List Int) (h:l.length<=1000000):Sp fF l (λ r=>r=(l,l)):=Sp.step (G:=λ n=>yM) o7 ⟨(l,l),rfl,.all λ n=>by
 have:l.length<=au:=by have:=ji;omega
 simp only[yM,decide_eq_true this,cond_true]⟩
theorem wrap64 (n:Int):IntKind.wrap .u64 n=n % 18446744073709551616:=by simp[IntKind.wrap,IntKind.bits,IntKind.signed]
theorem adV (x:List Int) (u:Nat) (hx:x.length<=2000000000) (hu:u<18446744073709551616):Sp bZ (x,(u:Int),(10:Int)) (λ r=>r=x++BI 20 u):=
 Sp.step (G:=λ n=>pU) ny ⟨_,rfl,.all λ n=>by
  have h1:(0:Int)<=(u:Int):=by omega
  have h2:(u:Int)<18446744073709551616:=by omega
  simp only[pU,decide_true,decide_eq_true h1,decide_eq_true h2,decide_eq_true hx,ab4,cond_true,aat]⟩
theorem agp:aho aY:=λ b v hb hv=>by
 have hm:=ji;have hv1: -9223372036854775808<=v:=hv.1;have hv2:v<9223372036854775808:=hv.2;refine Sp.step vW (G:=λ n=>kD.P (dK n) n) ?_;show Tt (λ n=>kD.P (dK n) n (b,v,(10:Int))) _;unfold kD.P;refine Tt.bind (R:=λ r=>r=b++dig v) (Sp.step nX (G:=λ n=>fG.P (bZ n) n) ?_) λ r hr=>Tt.pure hr;show Tt (λ n=>fG.P (bZ n) n (b,v,(10:Int))) _;unfold fG.P;dsimp only;by_cases hn:v<0
 ·obtain⟨u,rfl⟩: ∃u:Nat,v= -(u:Int):=⟨v.natAbs,by omega⟩
  have hw:IntKind.wrap .u64 (0-IntKind.wrap .u64 (-(u:Int)))=(u:Int):=by
   rw[wrap64,wrap64];omega
  have hd:dig (-(u:Int))=45::BI 20 u:=by unfold dig;rw[decide_eq_true hn,cond_true,Int.natAbs_neg,Int.natAbs_natCast]
  have hl:List.length b+List.length ([(45:Int)]:List Int)<=au:=by simp only[aaT];omega
  simp only[decide_eq_true hn,cond_true,decide_eq_true hl,hw];refine Tt.aG (Tt.bind (adV (List.append b [45]) u (by simp only[abt,aap,aaT];omega) (by omega)) λ r hr=>Tt.pure ?_);rw[hr,hd];simp
 ·obtain⟨u,rfl⟩: ∃u:Nat,v=(u:Int):=⟨v.toNat,by omega⟩;have hw:IntKind.wrap .u64 (u:Int)=(u:Int):=by rw[wrap64];omega
  have hd:dig (u:Int)=BI 20 u:=by unfold dig;rw[decide_eq_false hn,cond_false,aat]
  simp only[decide_eq_false hn,cond_false,hw];refine Tt.aG (Tt.bind (adV b u (by omega) (by omega)) λ r hr=>Tt.pure ?_);rw[hr,hd]
theorem aey:SortI iL:=λ x hx=>Sp.step (G:=λ n=>U5) ug ⟨Es (λ a b=>decide (a<=b)) x,⟨(lU _ x).length_eq,λ y=>(lU _ x).mem_iff,(oz (λ a b=>by simp only[decide_eq_true_eq];omega) (λ a b c h1 h2=>by simp only[decide_eq_true_eq]at *;omega) x).imp λ h=>by simpa using h⟩,.all λ n=>by
 have:x.length<=au:=by have:=ji;omega
 simp only[U5,decide_eq_true this,cond_true]⟩
theorem aez:afO aK:=λ x hx h1 h2=>Sp.step (G:=λ n=>zl) gQ ⟨Es (λ p q=>decide (p.1<=q.1)) x,⟨lU _ x,(oz (λ a b=>by simp only[decide_eq_true_eq];omega) (λ a b c h1 h2=>by simp only[decide_eq_true_eq]at *;omega) x).imp λ h=>by simpa using h⟩,.all λ n=>by
 have hl:x.length<=au:=by have:=ji;omega
 have ha:(x.all λ p=>decide (0<=p.1)&&decide (p.1<=1000000000000)&&x.all λ q=> !decide (p.1=q.1)||decide (p.2=q.2))=true:=by
  simp only[aaV,aad,decide_eq_true_eq,abO,abj,decide_eq_false_iff_not];intro p hp;obtain⟨a,b⟩:=h1 p hp;refine⟨⟨a,by omega⟩,λ q hq=> ?_⟩;by_cases e:p.1=q.1
  ·exact .inr (by rw[h2 p hp q hq e])
  ·exact .inl e
 simp only[zl,decide_eq_true hl,ha,ab4,cond_true]⟩
theorem Yu:ad9 dX:=λ x hx h1=>Sp.step (G:=λ n=>vY) wY ⟨Es (λ p q=>decide (xK p q<=0)) x,⟨acn (lU _ x).length_eq,λ y=>(lU _ x).mem_iff,(oz (λ a b=>by have:=oq.anti a b;simp only[decide_eq_true_eq];omega) (λ a b c h1 h2=>by simp only[decide_eq_true_eq]at *;exact oq.tr _ _ _ h1 h2) x).imp λ h=>by simpa using h⟩,.all λ n=>by
 have hl:x.length<=au:=by have:=ji;omega
 have ha:(x.all λ p=>decide (List.length p.2.1<=1000))=true:=by
  simp only[aaV,decide_eq_true_eq];intro p hp;have:=h1 p hp;omega
 simp only[vY,decide_eq_true hl,ha,ab4,cond_true]⟩
theorem agq (x y:Int):Sp dU (x,y) (λ v=>v=KL x y):=Sp.step yB (adZ (λ z=>Sp.step Bj (VW z)) x y)
theorem Uf:afL kW:=YX λ x y hx=>Sp.step GI (Rk agq (λ xs h=>Sp.step GL (ad1 xs h)) (λ xs ys h=>Sp.step qy (Kw agq xs ys h)) x y hx)
theorem OC:ZU gU:=λ x h1 h2=>Sp.step ER (Zn Yu (λ X hX=>Sp.step uf (Xh KA Uf (λ x y hx hy=>Sp.step Bg (Xk Uf x y hx hy)) hX)) x h1 h2)
theorem Yv:adL gU:=λ x h1 h2=>(OC x h1 h2).mono λ r h=>⟨h.1,h.2.1⟩
theorem aew:afG gq:=λ x hx=>Sp.step qw (U6 Zw hx)
theorem agu:ZR aI:=λ l m x h hl=>Sp.step uJ (ahb l m x h hl)
theorem aij:Xy aS (!·):=λ S l R h1 h2 h3=>Sp.step iI (XW Bh jd S l R h1 h2 h3)
theorem aif:Xy aV (!·):=λ S l R h1 h2 h3=>Sp.step iR (aeh EP jw S l R h1 h2 h3)
theorem aii:Xy aO id:=λ S l R h1 h2 h3=>Sp.step iF (XV zF iT S l R h1 h2 h3)
theorem Vu:ND jY:=λ S fin rs hw=>Sp.step ES (Zt agu aij S fin rs hw ((Sp.step zD (SA agu S fin rs hw)).mono λ R hR=>⟨hR.1,λ r hr h=>zW.2 (hR.2.1 r hr λ s hs=>zW.1 (h s hs)),λ s hs h=>hR.2.2 s hs (zW.1 h)⟩))
theorem adW:ad6 mF:=λ S fin rs keep hw hk=>Sp.step J6 (afg OC aif S fin rs keep hw hk)
theorem agr (S:Int) (fin:List Int) (rs:List Rule) (hw:Wf S fin rs):Sp rY (S,fin,rs) (Vh S fin rs):=Sp.step J7 (afh adW Vu S fin rs hw)
theorem Yt:ZP kV:=af2 GH
theorem ags (s:Int) (l:List Int) (hs:I64 s) (hl: ∀q∈l,I64 q) (h:l.length<=1000000):Sp kR (s,l) (λ r=>r=LD s l):=Sp.step Nj (aha agp s l hs hl h)
theorem aie (s:Int) (l:List Int) (hs:I64 s) (hl: ∀q∈l,I64 q) (h:l.length<=1000000):Sp nC (s,l) (λ r=>r=LD s l):=Sp.step Nh (by
 show Tt (λ n=>D6.P (kR n) n (s,l)) _;unfold D6.P;exact Tt.bind (ags s l hs hl h) λ r hr=>Tt.pure hr)
theorem CS (al:List Int) (h:al.length<=au):Sp jh al (λ r=>r=true ↔ adJ al):=
 Sp.step uN (Bz (Sp.step rJ (Ku (Sp.step vV (Sv (λ x=>Sp.step rM (zn x)) al h)))))
theorem F9 (al:List Int) (S:Int) (fin:List Int) (rs:List Rule) (h0:al.length<=au) (h1:fin.length<=au) (h2:rs.length<=au) (h3: ∀r∈rs,r.2.1.length<=au):Sp fC (al,S,fin,rs) (λ r=>r=true ↔ dV al (S,fin,rs)):=
 Sp.step GK (Pg (λ x S f rs=>Sp.step Dn (Kv x S f rs)) CS al S fin rs h0 h1 h2 h3)
theorem Yx (s:List Int) (hs:yJ s):Sp lN s (λ r=>r=keyS s):=Sp.step Bl (Xn s hs)
theorem agw (s:List Int) (v:Int) (hs:yJ s) (h0:0<=v) (h8:v<8):Sp dG (s,v) (λ r=>r=DY s v):=Sp.step uy (afq s v hs h0 h8)
theorem agt (s:List Int) (hs:yJ s):Sp jl s (λ r=>r.length<=64/\ ∀v,v∈r ↔ 0<=v/\v<8/\DY s v=true):=Sp.step zG (afo uy s hs)
theorem GX {S:Int} {fin:List Int} {rs:List Rule} (hw:Wf S fin rs):fin.length<=au/\rs.length<=au/\ ∀r∈rs,r.2.1.length<=au:=by
 have hm:=ji;obtain⟨_,_,h1,h2,_,h3⟩:=hw;exact⟨by omega,by omega,λ r hr=>by have:=(h3 r hr).2.2;omega⟩
theorem Ug (al:List Int) (S:Int) (fin:List Int) (rs:List Rule) (h:al.length<=au) (hw:Wf S fin rs):Sp fC (al,S,fin,rs) (λ r=>r=true ↔ dV al (S,fin,rs)):=
 F9 al S fin rs h (GX hw).1 (GX hw).2.1 (GX hw).2.2
theorem aeC {al:List Int} {S:Int} {fin:List Int} {rs:List Rule} (hv:dV al (S,fin,rs)) (hS:S<=8):aiw al S fin rs bG:=by
 intro by_ sym rank hsym hrank old done ho hod idx fresh full sets m rl hds hok hil hidx;have hw:=hv.wf;have hrl:rs.length<=100000:=hw.2.2.2.1
 have hr3:rank<=3:=by
  obtain⟨h1,h2⟩:=aaf.1 hrank;have:=(hv.1.2 _ h1).2;rw[h2]at this;omega
 refine adB uK agw acY al S fin rs by_ hS hrl (λ r hr=>⟨(hw.2.2.2.2.2 r hr).1,(hw.2.2.2.2.2 r hr).2.1⟩) hv.ar
  (λ sets m rl old done full idx h1 h2 h3 h4 h5=>Sp.step yC (air Yx S fin rs by_ sets m rl old done full idx hS h1 h2 h3 h4 h5))
  sym rank hsym hrank hr3 old done ho hod rank [] idx fresh full sets m rl (by simp) (λ x hx=>by cases hx) hds hok hil λ v=> ?_
 rw[hidx];constructor
 ·rintro⟨r,h1,h2⟩;exact⟨r,h1,h2,λ j x q hj=>by simp at hj⟩
 ·rintro⟨r,h1,h2,_⟩;exact⟨r,h1,h2⟩
theorem akw (al:List Int) (S:Int) (fin:List Int) (rs:List Rule) (hv:dV al (S,fin,rs)):Sp xY (al,S,fin,rs) (ahf al rs):=
 Sp.step RG (aip al S fin rs (by have:=hv.1.1;omega) hv.wf.2.2.2.1 λ r hr=>⟨(hv.rule hr).1,(hv.rule hr).2.1⟩)
theorem acZ (al:List Int) (hal:al.length<=au) (S:Int) (fin:List Int) (rs:List Rule) (hS:S<=8) (hw:Wf S fin rs):Sp nD (al,S,fin,rs) (λ r=>r.2.2.2.2=0->V6 al fin rs (r.1,r.2.1,r.2.2.1)):=
 Sp.step Dq (Zo Yt Yv agt aii al S fin rs hS (Ug al S fin rs hal hw) (akw al S fin rs) λ hv=>aeC hv hS)
theorem aib (al:List Int) (S:Int) (fin:List Int) (rs:List Rule) (hal:al.length<=au) (h1:fin.length<=au) (h2:rs.length<=au) (h3: ∀r∈rs,r.2.1.length<=au) (hS:dV al (S,fin,rs)->S<=8\/FY rs):
 Sp rZ (al,S,fin,rs) (λ r=>(r.2.2.2=0->dV al (S,fin,rs)/\V6 al fin rs (r.1,r.2.1,r.2.2.1))/\(dV al (S,fin,rs)->FY rs->r.2.2.2=0)):=by
 have hV:=F9 al S fin rs hal h1 h2 h3
 exact Sp.step J9 (ag6 al S fin rs hS (λ _=>Sp.step J5 (aff Yq S fin rs h1 h2 h3)) (Sp.step uI (H6 ags al S fin rs hV)) (λ hv=>Sp.step J8 (afm adW Vu al S fin rs hv hV))
  λ S' fin' rs' h1 h2=>acZ al hal S' fin' rs' h1 h2)
theorem aky (x:List Bool) (h:x.length<=1000000):Sp jO x (adK x):=Sp.step wX (LV x h)
theorem akz (x:List ByteArray) (h:x.length<=1000000):Sp fP x (adK x):=Sp.step uM (H7 x h)
theorem agv (S:Int) (fin:List Int) (rs:List Rule) (hw:Wf S fin rs) (hsy:Sy rs) (hd:FY rs):Sp su (S,fin,rs) (λ x=> ∃U,x=rows U/\afP S rs U):=
 Sp.step Ko (afp aie (λ l h=>Yq l (by have:=ji;omega)) aez S fin rs hw hsy hd)
theorem Yw (S:Int) (fin:List Int) (rs:List Rule) (hw:Wf S fin rs) (hS:S<=300) (hsy:Sy rs) (hd:FY rs):Sp nH (S,fin,rs) (λ cl=>cl.length=S.toNat/\(∀v∈cl,dH S v)/\KH S fin rs (iat cl)/\ZN S fin rs cl):=
 Sp.step Du (Xm Yt aky akz agp S fin rs hw hS (agv S fin rs hw hsy hd))
theorem ac0:aix mJ:=λ S fin rs m to hw hto=>Sp.step ET (Zq OC aew aey S fin rs hw m to hto)
theorem QN (al:List Int) (S:Int) (fin:List Int) (rs:List Rule) (hal:al.length<=au) (h1:fin.length<=au) (h2:rs.length<=au) (h3: ∀r∈rs,r.2.1.length<=au) (hS:dV al (S,fin,rs)->S<=8\/FY rs):
 Sp dQ (al,S,fin,rs) (λ r=>(r.2.2.2=0->dV al (S,fin,rs)/\V9 al fin rs (r.1,r.2.1,r.2.2.1))/\(dV al (S,fin,rs)->FY rs->r.2.2.2=0)):=
 Sp.step Dt (Xi agr (λ S fin rs hw=>Sp.step Dp (Zm Yu S fin rs hw)) Yw ac0 al S fin rs (aib al S fin rs hal h1 h2 h3 hS))
theorem akx (al:List Int) (S:Int) (fin:List Int) (rs:List Rule) (h1:rs.length+1<=au) (har:Ar al rs) (t:RT Int) (hn:nds t<=au) (hs:Shp al t):
 Sp nK (S,fin,rs,t.a,t.kids) (λ l=>(∀q,q∈l ↔ Bk.Reach rs t q)/\l.length<=rs.length):=
 aiq Xf al S fin rs h1 har (λ s qs h2 h3 h4=>Sp.step RU (afl (λ l v h=>Sp.step Nk (ag8 l v h)) (λ l v h=>Sp.step LQ (Zl l v h)) S fin rs s qs h1 h2 h3 h4)) t hn hs
theorem aic (al:List Int) (S:Int) (fin:List Int) (rs:List Rule) (h1:rs.length+1<=au) (h2:fin.length<=au) (har:Ar al rs) (t:RT Int) (hn:nds t<=au) (hs:Shp al t):
 Sp pW (S,fin,rs,t.a,t.kids) (λ r=>r=true ↔ Acc rs fin t):=
 Sp.step UZ (ag7 (by omega) h2 (λ l1 l2 h1 h2=>Sp.step RP (afj (λ l v h=>Sp.step Nk (ag8 l v h)) l1 l2 h1 h2)) (akx al S fin rs h1 har t hn hs))
theorem aeB (t:RT Int) (h:nds t<=au) (m:Int) (h0:0<=m) (h1:m<=1000):Sp jF (t.a,t.kids,m) (λ r=>1<=r/\r<=m+1):=adA O6 t h m h0 h1
theorem Jv (t:RT Int) (h:nds t<=au) (m:Int) (h0:0<=m) (h1:m<=1000):Sp ou (t.a,t.kids,m) (λ _=>True):=Sp.step UW (SB (aeB t h m h0 h1))
theorem OD (al:List Int) (t:RT Int) (h:nds t<=au):Sp qJ (al,t.a,t.kids) (λ r=>r=true->Shp al t):=
 Sp.step O5 (LW (Jv t h 300 (by omega) (by omega)) (Sp.step tZ (rO al)) (Zr LP al t h))
theorem Yr {b:List Int} (M M':Aut) (hv:dV b M) (hv':dV b M'):Sp kX (M.1,M.2.1,M.2.2,M'.1,M'.2.1,M'.2.2) (λ r=>r=true ↔ M=M'):=by
 have hw:=hv.wf;have hw':=hv'.wf
 exact Sp.step RI (Ph M M' (Sp.step zS (adx _ _ (GX hw).1)) (Sp.step ig (Sr (λ x y hx hy=>Sp.step LM (Zk Uf x y hx hy)) _ _ (by have:=hw.2.2.2.1;omega)
  (λ r hr=>by have:=(hw.2.2.2.2.2 r hr).2.2;omega) (λ r hr=>by have:=(hw'.2.2.2.2.2 r hr).2.2;omega))))
theorem aex (x:List Rule) (hx:x.length<=1000000000) (hr: ∀r∈x,r.2.1.length<=1000):Sp tC x (λ r:List Rule=>r.length<=x.length/\ ∀y∈r,y∈x):=
 Sp.step RS (afy (λ r h=>Sp.step U1 (ahd r h)) (λ a b ha=>Sp.step RN (afx a b ha)) x hx hr)
theorem WO (b:List Int) (x y:Aut) (t:RT Int) (hnt:nds t<=1100000) (hx:x.2.2.length<=1100000) (hy:y.2.2.length<=1100000):
 Sp zx (b,x.1,x.2.1,x.2.2,y.1,y.2.1,y.2.2,t.a,t.kids) (λ r=>r=true):=by
 have hm:=ji
 have hFw:Sp vI (b,[x,y]) (λ r=>r=true->V8 b x/\V8 b y):=by
  refine(Sp.step UR (Sz (Sp.step UY (SC b [x,y] (by simp only[abe,acy];omega) λ c hc=> ?_)))).mono λ r hr h=>⟨hr h _ (by simp),hr h _ (by simp)⟩;simp only[aaR,ab3,or_false]at hc;rcases hc with rfl|rfl<;>omega
 have hMi: ∀z:Aut,V8 b z-> ∃v:Int×List Int×List Rule×Int,(v.2.2.2=0->dV b z/\V9 b z.2.1 z.2.2 (v.1,v.2.1,v.2.2.1))/\Sp dQ (b,z.1,z.2.1,z.2.2) (λ r=>r=v):=λ z hf=>by
  obtain⟨f1,f2,f3,f4,f5⟩:=hf;obtain⟨v,hv,N,hN⟩:=QN b z.1 z.2.1 z.2.2 (by omega) (by omega) (by omega) (λ r hr=>by have:=f5 r hr;omega) λ hv=> .inl (by have:=hv.2.2.1;dsimp only at this;omega);exact⟨v,hv.1,v,rfl,N,hN⟩
 have hal: ∀{M:Aut},dV b M->b.length<=au:=λ h=>by have:=h.1.1;omega
 refine Sp.step HY (U7 b x y t aeA hFw (Jv t (by omega) 400 (by omega) (by omega)) (λ h=>hMi x h.1) (λ h=>hMi y h.2) (λ M hv hd=> ?_) (λ M hv=> ?_) (λ vx vy hvx hvy mx my ex ey hmx hmy=> ?_) (λ M M'=>Yr M M') (λ hv=> ?_) (λ hv=> ?_) (OD b t (by omega)) (λ M hv hs=> ?_))
 ·have hw:=hv.wf;exact(QN b M.1 M.2.1 M.2.2 (hal hv) (GX hw).1 (GX hw).2.1 (GX hw).2.2 λ _=> .inr hd).mono λ v h=>⟨h.2 hv hd,(h.1 (h.2 hv hd)).2⟩
 ·exact Sp.step O7 (LX b (Sp.step tZ (rO b)) M.1 M.2.1 M.2.2 hv)
 ·exact Sp.step UU (afk b x y ((Ug b x.1 x.2.1 x.2.2 (hal hvx) hvx.wf).mono λ r h=>h.2 hvx) ((Ug b y.1 y.2.1 y.2.2 (hal hvy) hvy.wf).mono λ r h=>h.2 hvy) mx my ex ey (Yr _ _ hmx hmy))
 ·have hw:=hv.wf;exact Sp.step U0 (ag9 y.1 y.2.1 y.2.2 (by have:=hw.2.2.2.1;omega) (λ r hr=>by have:=(hw.2.2.2.2.2 r hr).2.2;omega) λ x y hx=>Sp.step GN (afi x y (by omega)))
 ·have hw:=hv.wf;exact Sp.step Kr (Xl (Sp.step RV (afn y.1 y.2.1 y.2.2 hw (Sp.step Kq (Xj y.1 y.2.1 y.2.2 hw)))) λ keep hk=>Sp.step RJ (adz y.1 y.2.1 y.2.2 keep hw hk aex))
 ·have hw:=hv.wf;exact aic b M.1 M.2.1 M.2.2 (by have:=hw.2.2.2.1;omega) (GX hw).1 hv.ar t (by omega) hs
end Go.Proofs.YtdchbjmbgecejaaGreatDoor.Am
end
