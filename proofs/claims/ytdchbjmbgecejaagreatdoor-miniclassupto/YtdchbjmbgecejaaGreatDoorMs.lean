import Derived.Test.YtdchbjmbgecejaaGreatDoorMt
import Derived.Test.YtdchbjmbgecejaaGreatDoorMk
import Derived.Test.YtdchbjmbgecejaaGreatDoorMj
import Derived.Test.YtdchbjmbgecejaaGreatDoorMd
set_option linter.unusedVariables false
noncomputable section
namespace Go.Bk
open Go Go.AM
theorem adL {S:Int} {fin fin':LI} {rs f:LR} {R U:List Bool} {ν:Int->Int} (i:Closed rs R) (k:Useful fin rs R U) (v:ahS (λ s=>bat U s=true) ν fin fin') (q:Ren (λ s=>bat U s=true) ν rs f) {s:Int} (h:Up rs fin s):bat U s=true/\Up f fin' (ν s):=by
 have rch: ∀x,Rch rs x->bat R x=true:=λ x ⟨t,m⟩=>i.reach t x m;have e: ∀x,Rch rs x->bat U x=true->Rch f (ν x):=λ x ⟨t,m⟩ z=>⟨t,SA i k q t x m z⟩
 induction h with
 |fin h g=>exact⟨k.1 _ h (rch _ g),.fin ((v _).2 ⟨_,h,k.1 _ h (rch _ g),rfl⟩) (e _ g (k.1 _ h (rch _ g)))⟩
 | @rule r s g h u hs p=>
   have d:=k.2 r g p.1 λ x l=>rch x (u x l);refine⟨d s hs,.rule ((q _).2 ⟨r,g,p.1,d,rfl⟩) p.2 (λ y A=> ?_) (aaC.2 ⟨s,hs,rfl⟩)⟩;obtain⟨x,l,rfl⟩:=aaC.1 A;exact e x (u x l) (d x l)
def Rn (S:Int) (fin:LI) (rs:LR) (a:Aut):Prop:=Wf a.1 a.2.1 a.2.2/\a.1<=S/\(Det rs->Det a.2.2)/\(Sy rs->Sy a.2.2)/\(∀t,Acc a.2.2 a.2.1 t ↔ Acc rs fin t)/\
 (∀q,bg a.1 q->Up a.2.2 a.2.1 q)/\(∀al,Ar al rs->Ar al a.2.2)/\a.2.2.length<=rs.length/\a.2.2.Pairwise λ a b=>vI a b<0
theorem Mc {S:Int} {fin:LI} {rs:LR} {U R:List Bool} {a:Aut} (t:Wf S fin rs) (k: ∀s,bg S s->bat U s=true->Up rs fin s) (e:Closed rs R) (u:Useful fin rs R U) (h:sH S fin rs U a):Rn S fin rs a:=by
 refine⟨h.1.1,h.1.2.1,λ v=>aeF t h v,λ hs l d=> ?_,aeE t e u h,λ q y=> ?_,λ al z l d=> ?_,?_⟩
 all_goals obtain⟨_,ν,_,A,m,C,f,g,p⟩:=h
 ·obtain⟨r,i,_,_,rfl⟩:=(m l).1 d;exact hs r i
 ·obtain⟨s,i,B,rfl⟩:=f q y;exact(adL e u A m (S:=S) (k s i B)).2
 ·obtain⟨r,i,_,_,rfl⟩:=(m l).1 d;have:=z r i;exact⟨this.1,by simpa using this.2⟩
 ·exact⟨g,p⟩
abbrev PW (d:Nat->Int×LI×LR->Option (List Bool)):Prop:= ∀(S:Int) (fin:LI) (rs:LR),Wf S fin rs->Sp d (S,fin,rs) (λ U=>U.length=S.toNat/\(∀s,bg S s->bat U s=true->Up rs fin s)/\ ∃R,Closed rs R/\Useful fin rs R U)
abbrev af2 (d:Nat->Int×LI×LR×List Bool->Option (Int×LI×LR)):Prop:= ∀(S:Int) (fin:LI) (rs:LR) (keep:List Bool),Wf S fin rs->keep.length=S.toNat->Sp d (S,fin,rs,keep) (sH S fin rs keep)
theorem ahn {d:Nat->Int×LI×LR×List Bool->Option Ab} {e:Nat->Ab->Option (List Bool)} (i:af2 d) (k:PW e) (S:Int) (fin:LI) (rs:LR) (f:Wf S fin rs):
 Sp (λ n=>DC.P (d n) (e n) n) (S,fin,rs) (Rn S fin rs):=by
 show Tt (λ n=>DC.P (d n) (e n) n (S,fin,rs)) _;unfold DC.P;dsimp only;refine aZ1 (k S fin rs f) ?_;rintro U ⟨l,g,R,m,p⟩;exact aZ1 (i S fin rs U f l) λ a q=>aZ0 (Mc f g m p q)
theorem XI {al:LI} {S:Int} {fin:LI} {rs:LR} {U:List Bool} {a:Aut} (hv:bW al (S,fin,rs)) (h:Rn S fin rs a) (t:sH S fin rs U a):bW al (a.1,a.2.1,a.2.2):=by
 obtain⟨w,G,_,_,_,_,f,m,_⟩:=h
 have hs:fin.Pairwise λ a b=>a<b:=by
  have step: ∀(i d:Nat) (h:i+d+1<fin.length),fin[i]' Ω<fin[i+d+1]:=by
   intro i d
   induction d with
   |zero=>intro h;exact(hv.2.2.2.2.1 (i+1) h h).2 Ω
   |succ d u=>
    intro h;have v:=u Ω;have y:=(hv.2.2.2.2.1 (i+(d+1)+1) h h).2 Ω;exact Int.lt_trans v y
  refine aaN.2 λ i j p q z=> ?_;obtain⟨d,rfl⟩: ∃d,j=i+d+1:=⟨j-i-1,Ω⟩;exact step i d q
 have A:=aaN.1 (t.1.2.2 hs);have f:=f al hv.ar;have g:=hv.2.2.1;have k:=hv.2.2.2.1;dsimp only at g k;refine⟨hv.1,w.1,by dsimp only;omega,by dsimp only;omega,λ i p e=>⟨w.2.2.2.2.1 _ (aaf e),λ I=>A (i-1) i (by dsimp only at e;omega) e Ω⟩,λ i p e=> ?_⟩;obtain⟨B,g2⟩:=f _ (aaf e);obtain⟨g3,C⟩:=aad.1 g2;obtain⟨D,E,_⟩:=w.2.2.2.2.2 _ (aaf e);exact⟨B,by dsimp only at g3 ⊢;omega,λ _=>C.symm,D,λ j q l=>E _ (aaf l)⟩
theorem aeG {S:Int} {fin:LI} {rs:LR} {U:List Bool} {a:Aut} (m: ∀s,bg S s->bat U s=true->Up rs fin s) (z:sH S fin rs U a) (k:Nat) (h:UpB rs fin k):a.1<=(k:Int):=by
 classical
 obtain⟨⟨w,_⟩,ν,_,_,_,_,d,_⟩:=z
 obtain⟨g,p⟩: ∃g:Int->Int,∀q,bg a.1 q->bg S (g q)/\bat U (g q)=true/\ν (g q)=q:=⟨λ q=>if f:bg a.1 q then(d q f).choose else 0,λ q f=>by
  simp only[f,dite_true];exact(d q f).choose_spec⟩
 have:=h ((XY a.1).map g) (aaN.2 λ i j t u v e=> ?_) λ s hs=> ?_
 ·rw[aaH,Hf]at this;have:=w.1;omega
 ·simp only[aaH]at t u;simp only[List.getElem_map]at e;have l:=p _ (yH.1 (aaf t));have y:=p _ (yH.1 (aaf u));have A:(XY a.1)[i]=(XY a.1)[j]:=l.2.2.symm.trans ((congrArg ν e).trans y.2.2);exact aaN.1 (zy a.1) i j t u v A
 ·obtain⟨q,f,rfl⟩:=aaC.1 hs;obtain⟨l,y,_⟩:=p q (yH.1 f);exact⟨l.1,m _ l y⟩
theorem ahu {e:Nat->Int×LI×LR×List Bool->Option Ab} {f:Nat->Ab->Option (List Bool)} {V:Nat->Aa->Option Bool} (l:af2 e) (m:PW f) (al:LI) (S:Int) (fin:LI) (rs:LR) (hv:bW al (S,fin,rs))
 (p:Sp V (al,S,fin,rs) (λ r=>r=true ↔ bW al (S,fin,rs))):
 Sp (λ n=>DF.P (e n) (V n) (f n) n) (al,S,fin,rs) (λ r=>r.2.2.2=0/\Wf r.1 r.2.1 r.2.2.1/\(r.1<=S/\bW al (r.1,r.2.1,r.2.2.1)/\ ∀k:Nat,UpB rs fin k->r.1<=(k:Int))/\ ∀t,Acc r.2.2.1 r.2.1 t ↔ Acc rs fin t):=by
 have g:=hv.wf;show Tt (λ n=>DF.P (e n) (V n) (f n) n (al,S,fin,rs)) _;unfold DF.P;dsimp only;refine aZ1 p λ b q=> ?_;rw[q.2 hv];refine aW rfl (aZ1 (m S fin rs g) ?_);rintro U ⟨u,d,R,v,y⟩;refine aZ1 (l S fin rs U g u) λ a i=> ?_;have h:=Mc g d v y i;exact aZ0 ⟨rfl,h.1,⟨h.2.1,XI hv h i,aeG d i⟩,h.2.2.2.2.1⟩
theorem Nj {S:Int} {fin:LI} {rs l:LR} {ν:LI} (C:Wf S fin rs) (z: ∀s t,bg S s->bg S t->0<=iat ν s->iat ν s=iat ν t->s=t) (K: ∀r∈rs,(∀s∈r.2.1,0<=iat ν s)->0<=iat ν r.2.2) (D:Img (iat ν) rs l):
 (∀t s,Reach rs t s->0<=iat ν s)/\ ∀t c,Reach l t c ↔ ∃s,Reach rs t s/\iat ν s=c:=by
 have m: ∀t s,Reach rs t s->0<=iat ν s:=by
  intro t
  induction t using uz with
  |h a ks v=>
   intro s hs;obtain⟨r,A,y,p,q,u⟩:=bV.1 hs;rw[←p];refine K r A λ f g=> ?_;obtain⟨i,z,e⟩:=aay g;have d:i<ks.length:=by omega
   exact v _ (aaf d) f (u i _ f (aac d) (by rw[aac z,e]))
 refine⟨m,λ t=> ?_⟩
 induction t using uz with
 |h a ks v=>
  intro c;constructor
  ·intro L;obtain⟨M,B,y,p,q,u⟩:=bV.1 L;obtain⟨r,E,rfl⟩:=(D M).1 B;simp only[aaH]at q;refine⟨r.2.2,bV.2 ⟨r,E,y,rfl,q,λ i k f d g=> ?_⟩,p⟩;obtain⟨s,G,N⟩:=(v k (aai d) (iat ν f)).1 (u i k _ d (by rw[aau,g];rfl));have:=z s f (CQ C G) ((C.2.2.2.2.2 r E).2.1 f (aai g)) (m k s G) N
   rwa [←this]
  ·rintro⟨s,hs,rfl⟩;obtain⟨r,A,y,p,q,u⟩:=bV.1 hs;refine bV.2 ⟨_,(D _).2 ⟨r,A,rfl⟩,y,by rw[p],by simpa using q,λ i k f d g=> ?_⟩;simp only[aau,aaK]at g;obtain⟨I,e,rfl⟩:=g;exact(v k (aai d) _).2 ⟨I,u i k I d e,rfl⟩
abbrev akm (d:Nat->Int×LI×LR×Int×LI->Option (Int×LI×LR)):Prop:= ∀(S:Int) (fin:LI) (rs:LR) (m:Int) (to:LI),Wf S fin rs->to.length=S.toNat->
 Sp d (S,fin,rs,m,to) (λ a=>a.1=m/\ad2 (iat to) fin a.2.1/\Img (iat to) rs a.2.2/\a.2.1.length<=fin.length/\a.2.2.length<=rs.length/\(a.2.1.Pairwise λ a b=>a<b)/\a.2.2.Pairwise λ a b=>vI a b<0)
abbrev Ctx:Type:=List (Int×List (RT Int)×List (RT Int))
def plug:Ctx->RT Int->RT Int
 | [],t=>t
 |(a,l,r)::c,t=>plug c (.mk a (l++t::r))
theorem WJ {α:Type} {l r:List α} {x y:α} {i:Nat}:(l++x::r)[i]? =if i=l.length then some x else(l++y::r)[i]? :=by
 by_cases h:i=l.length
 ·rw[if_pos h,h,aaB (aaw _),acy];rfl
 ·rw[if_neg h];rcases aaG i l.length with d|d
  ·rw[aax d,aax d]
  ·obtain⟨k,rfl⟩: ∃k,i=l.length+1+k:=⟨i-l.length-1,Ω⟩;rw[aaB d,aaB d,show l.length+1+k-l.length=k+1 by omega];rfl
theorem UU {rs:LR} {t g:RT Int} (h: ∀q,Reach rs t q->Reach rs g q) {a:Int} {l r:List (RT Int)} {q:Int} (u:Reach rs (.mk a (l++t::r)) q):Reach rs (.mk a (l++g::r)) q:=by
 obtain⟨x,v,z,A,B,m⟩:=bV.1 u;refine bV.2 ⟨x,v,z,A,by simpa using B,λ i k f d p=> ?_⟩;rw[WJ (y:=t)]at d;split at d
 ·rename_i e;cases d;exact h f (m i t f (by rw[WJ (y:=t),if_pos e]) p)
 ·exact m i k f d p
theorem I5 {rs:LR}: ∀(c:Ctx) {t e:RT Int},(∀q,Reach rs t q->Reach rs e q)-> ∀q,Reach rs (plug c t) q->Reach rs (plug c e) q
 | [],_,_,h,q,d=>h q d
 |(a,l,r)::c,_,_,h,q,d=>I5 c (λ _ f=>UU h f) q d
theorem MR {rs:LR}: ∀(c:Ctx) {t:RT Int} {q:Int},Reach rs (plug c t) q-> ∃p,Reach rs t p
 | [],_,q,h=>⟨q,h⟩
 |(a,l,r)::c,t,q,h=>by
  obtain⟨p,d⟩:=MR c h;obtain⟨x,i,k,m,e,f⟩:=bV.1 d;have g:l.length<x.2.1.length:=by rw[e];simp
  exact⟨x.2.1[l.length],f l.length t _ (by rw[WJ (y:=t),if_pos rfl]) (aac g)⟩
def Ner (rs:LR) (fin:LI) (t d:RT Int):Prop:= ∀c,Acc rs fin (plug c t) ↔ Acc rs fin (plug c d)
theorem Ner.symm {rs:LR} {fin:LI} {t d:RT Int} (h:Ner rs fin t d):Ner rs fin d t:=λ c=>(h c).symm
theorem Ner.trans {rs:LR} {fin:LI} {t d u:RT Int} (h:Ner rs fin t d) (e:Ner rs fin d u):Ner rs fin t u:=λ c=>(h c).trans (e c)
theorem O7 {rs:LR} {fin:LI} (k:Uni rs) {t d:RT Int} {q:Int} (h:Reach rs t q) (l:Reach rs d q):Ner rs fin t d:=by
 have e: ∀p,Reach rs t p ↔ Reach rs d p:=λ p=>⟨λ f=>k t q p h f▸l,λ f=>k d q p l f▸h⟩;exact λ c=>⟨λ⟨p,g,i⟩=>⟨p,I5 c (λ p=>(e p).1) p g,i⟩,λ⟨p,g,i⟩=>⟨p,I5 c (λ p=>(e p).2) p g,i⟩⟩
structure Can (M:Aut):Prop where
 det:Det M.2.2
 st: ∀r∈M.2.2,bg M.1 r.2.2/\ ∀q∈r.2.1,bg M.1 q
 fin: ∀q∈M.2.1,bg M.1 q
 reach: ∀q,bg M.1 q-> ∃t,Reach M.2.2 t q
 co: ∀q,bg M.1 q-> ∃t c,Reach M.2.2 t q/\Acc M.2.2 M.2.1 (plug c t)
 red: ∀h:Int->Int,Gy M.1 M.2.1 M.2.2 h-> ∀s t,bg M.1 s->bg M.1 t->h s=h t->s=t
theorem Can.co' {M:Aut} (h:Can M) {q:Int} (d:bg M.1 q) {t:RT Int} (e:Reach M.2.2 t q): ∃c,Acc M.2.2 M.2.1 (plug c t):=by
 obtain⟨u,c,f,g⟩:=h.co q d;exact⟨c,(O7 h.det.uni f e c).1 g⟩
theorem Can.st' {M:Aut} (h:Can M) {t:RT Int} {q:Int} (d:Reach M.2.2 t q):bg M.1 q:=by
 cases t with
 |mk a ks=>
  obtain⟨r,e,_,f,_⟩:=bV.1 d;rw[←f];exact(h.st r e).1
theorem QW {α:Type} {l:List α} {i:Nat} {x:α} (h:l[i]? =some x):l=l.take i++x::l.drop (i+1)/\(l.take i).length=i:=by
 have d:=(aad.1 h).1;have e:=(aad.1 h).2;refine⟨?_,Δ⟩;have:=abb i l;rw[aaI d,e]at this;exact this.symm
theorem adf {rs:LR} (g:Uni rs) {a:Int} {ks:List (RT Int)} {q:Int} (h:Reach rs (.mk a ks) q) {l:LI} (z:l.length=ks.length) (m: ∀(i:Nat) (k:RT Int) (f:Int),ks[i]? =some k->l[i]? =some f->Reach rs k f):(a,l,q)∈rs:=by
 obtain⟨r,p,t,u,A,v⟩:=bV.1 h
 have:r.2.1=l:=acK Ω λ i y e=>by
  have d:i<ks.length:=by omega
  exact g _ _ _ (v i _ _ (aac d) (aac y)) (m i _ _ (aac d) (aac e))
 rw[←this,←t,←u];exact p
theorem Can.sep {M:Aut} (h:Can M) {t S:RT Int} {q K:Int} (m:Reach M.2.2 t q) (D:Reach M.2.2 S K) (hn:Ner M.2.2 M.2.1 t S):q=K:=by
 classical
 have G:=h.det.uni
 obtain⟨T,v⟩: ∃T:Int->RT Int,∀q,bg M.1 q->Reach M.2.2 (T q) q:=⟨λ q=>if E:bg M.1 q then(h.reach q E).choose else .mk 0 [],λ q E=>by
  simp only[E,dite_true];exact(h.reach q E).choose_spec⟩
 let g:Int->Int:=λ s=>Classical.epsilon λ u=>bg M.1 u/\Ner M.2.2 M.2.1 (T u) (T s)
 have U: ∀s,bg M.1 s->bg M.1 (g s)/\Ner M.2.2 M.2.1 (T (g s)) (T s):=λ s hs=>Classical.epsilon_spec (p:=λ u=>bg M.1 u/\Ner M.2.2 M.2.1 (T u) (T s)) ⟨s,hs,λ _=>ab7⟩
 have W: ∀s t,Ner M.2.2 M.2.1 (T s) (T t)->g s=g t:=λ s t d=>by
  have:(λ u=>bg M.1 u/\Ner M.2.2 M.2.1 (T u) (T s))=λ u=>bg M.1 u/\Ner M.2.2 M.2.1 (T u) (T t):=funext λ u=>propext ⟨λ⟨a,b⟩=>⟨a,b.trans d⟩,λ⟨a,b⟩=>⟨a,b.trans d.symm⟩⟩;exact congrArg Classical.epsilon this
 have Y: ∀s t,bg M.1 s->bg M.1 t->g s=g t->Ner M.2.2 M.2.1 (T s) (T t):=λ s t hs m e=>(U s hs).2.symm.trans (e▸(U t m).2);refine h.red g ⟨λ s t hs m e=> ?_,λ s t hs m e r i hr=> ?_⟩ q K (h.st' m) (h.st' D) (W q K ((O7 G (v q (h.st' m)) m).trans (hn.trans (O7 G D (v K (h.st' D))))))
 ·have f: ∀s,bg M.1 s->(Acc M.2.2 M.2.1 (T s) ↔ s∈M.2.1):=λ s hs=>⟨λ⟨p,I,N⟩=>G _ _ _ I (v s hs)▸N,λ I=>⟨s,v s hs,I⟩⟩;exact(f s hs).symm.trans ((Y s t hs m e []).trans (f t m))
 ·obtain⟨I,N⟩:=hr;have d:=h.st r I;have O:(r.2.1.map T)[i]? =some (T s):=by rw[aau,N];rfl
  obtain⟨Z,e2⟩:=QW O
  have L:Reach M.2.2 (.mk r.1 (r.2.1.map T)) r.2.2:=bV.2 ⟨r,I,rfl,rfl,Θ,λ j k f z A=>by
   rw[aau,A]at z;cases z;exact v f (d.2 f (aai A))⟩
  obtain⟨c,hc⟩:=h.co' d.1 L
  have B:Ner M.2.2 M.2.1 (.mk r.1 (r.2.1.map T)) (.mk r.1 ((r.2.1.map T).take i++T t::(r.2.1.map T).drop (i+1))):=λ c=>by
   have:=Y s t hs m e ((r.1,(r.2.1.map T).take i,(r.2.1.map T).drop (i+1))::c);unfold plug at this
   rwa [←Z]at this
  obtain⟨p,hp,_⟩:=(B c).1 hc;obtain⟨q,E⟩:=MR c hp;have Q:=(aad.1 N).1
  have C:=adf G E (l:=r.2.1.set i t) Δ (λ j k f z A=>by
   rw[WJ (y:=T s),e2,←Z]at z;rw[aaR]at A;by_cases e:j=i
   ·rw[if_pos e]at z;rw[if_pos e.symm,if_pos Q]at A;cases z;cases A;exact v t m
   ·rw[if_neg e]at z;rw[if_neg (Ne.symm e)]at A;rw[aau,A]at z;cases z;exact v f (d.2 f (aai A)))
  have R:=(h.st _ C).1;exact⟨_,C,rfl,rfl,W _ _ ((O7 G (v _ R) E).trans (B.symm.trans (O7 G L (v _ d.1))))⟩
def Iz (M d:Aut):Prop:= ∀t,Acc M.2.2 M.2.1 t ↔ Acc d.2.2 d.2.1 t
def Rl (M d:Aut) (q p:Int):Prop:= ∃t,Reach M.2.2 t q/\Reach d.2.2 t p
theorem Rl.symm {M d:Aut} {q p:Int} (h:Rl M d q p):Rl d M p q:=let⟨t,a,b⟩:=h; ⟨t,b,a⟩
theorem aiS {M d:Aut} (h:Can M) (hs:Iz M d) {t:RT Int} {q:Int} (e:Reach M.2.2 t q): ∃p,Reach d.2.2 t p:=by
 obtain⟨c,f⟩:=h.co' (h.st' e) e;obtain⟨p,g,_⟩:=(hs _).1 f;exact MR c g
theorem ac8 {M d:Aut} (h:Can M) (f:Can d) (hs:Iz M d) {q p e:Int} (a:Rl M d q p) (b:Rl M d q e):p=e:=by
 obtain⟨t,g,i⟩:=a;obtain⟨u,k,l⟩:=b;exact f.sep i l λ c=>(hs _).symm.trans ((O7 h.det.uni g k c).trans (hs _))
theorem ac9 {M g:Aut} (h:Can M) (D:Can g) (hs:Iz M g) {r:Rule} (E:r∈M.2.2) {l:LI} (z:l.length=r.2.1.length) (e: ∀(i:Nat) (q p:Int),r.2.1[i]? =some q->l[i]? =some p->Rl M g q p): ∃p,Rl M g r.2.2 p/\(r.1,l,p)∈g.2.2:=by
 have u: ∀i:Nat,∃t:RT Int,∀q p:Int,r.2.1[i]? =some q->l[i]? =some p->Reach M.2.2 t q/\Reach g.2.2 t p:=by
  intro i;by_cases d:i<l.length
  ·obtain⟨t,G,I⟩:=e i _ _ (aac (z▸d)) (aac d)
   exact⟨t,λ q p A m=>by
    rw[aac (z▸d)]at A;rw[aac d]at m;cases A;cases m;exact⟨G,I⟩⟩
  ·exact⟨.mk 0 [],λ q p A m=>absurd (aad.1 m).1 d⟩
 obtain⟨T,C⟩: ∃T:Nat->RT Int,∀i q p,r.2.1[i]? =some q->l[i]? =some p->Reach M.2.2 (T i) q/\Reach g.2.2 (T i) p:=⟨λ i=>(u i).choose,λ i=>(u i).choose_spec⟩
 have v: ∀(i:Nat) (k:RT Int),((List.range l.length).map T)[i]? =some k->i<l.length/\k=T i:=λ i k e=>by
  rw[aau]at e;by_cases d:i<l.length
  ·rw[ach d]at e;cases e;exact⟨d,rfl⟩
  ·rw[aal Δ]at e;cases e
 have y:Reach M.2.2 (.mk r.1 ((List.range l.length).map T)) r.2.2:=bV.2 ⟨r,E,rfl,rfl,by simp[z],λ i k f e B=>by
  obtain⟨d,rfl⟩:=v i k e;exact(C i f _ B (aac d)).1⟩
 obtain⟨p,m⟩:=aiS h hs y
 exact⟨p,⟨_,y,m⟩,adf D.det.uni m Θ λ i k f e B=>by
  obtain⟨d,rfl⟩:=v i k e;exact(C i _ f (aac (z▸d)) B).2⟩
def Num (M:Aut):Prop:= ∃d:Nat->Nat,d 0=0/\ ∀q:Nat,(q:Int)<M.1->
 (∃s f,(s,f,(q:Int))∈M.2.2/\(∀x∈f,x<(d q:Int))/\ ∀r∈M.2.2,(∀x∈r.2.1,x<(d q:Int))->(q:Int)<=r.2.2->vI (s,f,0) (r.1,r.2.1,0)<=0)/\
 ((q:Int)+1<M.1->d (q+1)=d q\/d (q+1)=q+1/\ ∀r∈M.2.2,(∀x∈r.2.1,x<(d q:Int))->r.2.2<=(q:Int))
theorem ag7 {M d:Aut} (h:Can M) (m:Can d) (hs:Iz M d) {f:LI} {q:Nat} (g: ∀j:Nat,j<q->Rl M d j j) (B: ∀x∈f,0<=x/\x<(q:Int)) {s to:Int} (C:(s,f,to)∈M.2.2) (D:(q:Int)<=to): ∃p,Rl M d to p/\(s,f,p)∈d.2.2/\(q:Int)<=p:=by
 obtain⟨p,v,y⟩:=ac9 h m hs C (l:=f) rfl λ i a b k z=>by
  have k:f[i]? =some a:=k;rw[k]at z;cases z;have E:=B a (aai k);have:=g a.toNat Ω
  rwa [abI E.1]at this
 refine⟨p,v,y,?_⟩;apply aaT;intro G;have A:=(m.st _ y).1.1;dsimp only at A;have:=g p.toNat Ω;rw[abI A]at this;have u:Iz d M:=λ t=>(hs t).symm;have e:to=p:=ac8 m h u v.symm this.symm;omega
theorem aiK {M g:Aut} (h:Can M) (u:Can g) (hs:Iz M g) {k d:Nat->Nat} (h0:k 0=0) (L:d 0=0)
 (Z: ∀q:Nat,(q:Int)<M.1->(∃s f,(s,f,(q:Int))∈M.2.2/\(∀x∈f,x<(k q:Int))/\ ∀r∈M.2.2,(∀x∈r.2.1,x<(k q:Int))->(q:Int)<=r.2.2->vI (s,f,0) (r.1,r.2.1,0)<=0)/\
  ((q:Int)+1<M.1->k (q+1)=k q\/k (q+1)=q+1/\ ∀r∈M.2.2,(∀x∈r.2.1,x<(k q:Int))->r.2.2<=(q:Int)))
 (y: ∀q:Nat,(q:Int)<g.1->(∃s f,(s,f,(q:Int))∈g.2.2/\(∀x∈f,x<(d q:Int))/\ ∀r∈g.2.2,(∀x∈r.2.1,x<(d q:Int))->(q:Int)<=r.2.2->vI (s,f,0) (r.1,r.2.1,0)<=0)/\
  ((q:Int)+1<g.1->d (q+1)=d q\/d (q+1)=q+1/\ ∀r∈g.2.2,(∀x∈r.2.1,x<(d q:Int))->r.2.2<=(q:Int))):
 ∀q:Nat,(∀j:Nat,j<q->(j:Int)<M.1->(j:Int)<g.1->Rl M g j j)/\((q:Int)<M.1->(q:Int)<g.1->k q=d q/\k q<=q):=by
 have z:Iz g M:=λ t=>(hs t).symm;intro q
 induction q with
 |zero=>exact⟨λ j m=>absurd m (Nat.not_lt_zero _),λ _ _=>⟨by rw[h0,L],Ω⟩⟩
 |succ q ih=>
  obtain⟨A,N⟩:=ih;by_cases O:(q:Int)<M.1/\(q:Int)<g.1
  ·obtain⟨B,C⟩:=O;obtain⟨e,le⟩:=N B C;have v: ∀j:Nat,j<q->Rl M g j j:=λ j m=>A j m Ω Ω;obtain⟨⟨s,f,a1,a2,a3⟩,I⟩:=Z q B;obtain⟨⟨s',Q,R,b2,b3⟩,K⟩:=y q C;have fs: ∀x∈f,0<=x/\x<(q:Int):=λ x l=>⟨((h.st _ a1).2 x l).1,by have:=a2 x l;omega⟩;have S: ∀x∈Q,0<=x/\x<(q:Int):=λ x l=>⟨((u.st _ R).2 x l).1,by have:=b2 x l;omega⟩;obtain⟨p,p1,p2,p3⟩:=ag7 h u hs v fs a1 (acY _);obtain⟨p',q1,q2,q3⟩:=ag7 u h z (λ j m=>(v j m).symm) S R (acY _);have c1:=a3 _ q2 (λ x l=>by rw[e];exact b2 x l) q3;have c2:=b3 _ p2 (λ x l=>by rw[←e];exact a2 x l) p3;dsimp only at c1 c2;have hz:=oM.anti (s,f,0) (s',Q,0);have D:=oM.eq _ _ (show vI (s,f,0) (s',Q,0)=0 by omega);simp only[aaz,and_true]at D;obtain⟨rfl,rfl⟩:=D;have U:p=(q:Int):=u.det _ p2 _ R rfl rfl;have W:Rl M g q q:=by rw[U]at p1;exact p1
   have i: ∀j:Nat,j<q+1->Rl M g j j:=λ j m=>by
    rcases aa1 (Nat.lt_succ_iff.1 m)with Y|rfl
    ·exact v j Y
    ·exact W
   refine⟨λ j m _ _=>i j m,λ E g2=> ?_⟩
   have G: ∀{M g:Aut} {k d:Nat->Nat},Can M->Can g->Iz M g->(∀j:Nat,j<q+1->Rl M g j j)->(∃s f,(s,f,((q+1:Nat):Int))∈M.2.2/\ ∀x∈f,x<(k (q+1):Int))->k (q+1)=k q->k q=d q->k q<=q->(∀r∈g.2.2,(∀x∈r.2.1,x<(d q:Int))->r.2.2<=(q:Int))->False:=by
    intro M g k d h u hs i ⟨s,f,d1,d2⟩ d3 d4 d5 d6;obtain⟨p,e1,e2,e3⟩:=ag7 h u hs i (λ x l=>⟨((h.st _ d1).2 x l).1,by have:=d2 x l;omega⟩) d1 (acY _);have:=d6 _ e2 λ x l=>by have:=d2 x l;omega
    dsimp only at this;omega
   obtain⟨⟨s1,f1,k1,k2,_⟩,_⟩:=Z (q+1) E;obtain⟨⟨s2,f2,l1,l2,_⟩,_⟩:=y (q+1) g2;rcases I Ω with I|⟨I,a5⟩<;>rcases K Ω with K|⟨K,b5⟩
   ·exact⟨Ω,Ω⟩
   ·exact absurd (G h u hs i ⟨s1,f1,k1,k2⟩ I e le b5) id
   ·exact absurd (G u h z (λ j m=>(i j m).symm) ⟨s2,f2,l1,l2⟩ K e.symm Ω a5) id
   ·exact⟨Ω,Ω⟩
  ·refine⟨λ j m E g2=> ?_,λ E g2=>absurd ⟨Ω,Ω⟩ O⟩;rcases aa1 (Nat.lt_succ_iff.1 m)with Y|rfl
   ·exact A j Y E g2
   ·exact absurd ⟨E,g2⟩ O
theorem afB {M d:Aut} (h:Can M) (g:Can d) (hs:Iz M d) (S:Num M) (z:Num d) (A:0<=M.1) (B:0<=d.1):M.1=d.1/\(∀r,r∈M.2.2 ↔ r∈d.2.2)/\ ∀q,q∈M.2.1 ↔ q∈d.2.1:=by
 have u:Iz d M:=λ t=>(hs t).symm;obtain⟨mm,U,W⟩:=S;obtain⟨Y,Z,bm⟩:=z;have f: ∀j:Nat,(j:Int)<M.1->(j:Int)<d.1->Rl M d j j:=λ j C g2=>(aiK h g hs U Z W bm (j+1)).1 j (Nat.lt_succ_self _) C g2
 have y: ∀{M d:Aut},Can M->Can d->Iz M d->(∀j:Nat,(j:Int)<M.1->(j:Int)<d.1->Rl M d j j)->0<=M.1-> ¬M.1<d.1:=by
  intro M d h g hs f A D;have u:Iz d M:=λ t=>(hs t).symm;obtain⟨t,K⟩:=g.reach M.1 ⟨A,D⟩;obtain⟨q,k⟩:=aiS g u K;have m:=h.st' k;have:=f q.toNat (by have:=m.1;have:=m.2;omega) (by have:=m.1;have:=m.2;omega);rw[abI m.1]at this;have e:=ac8 h g hs ⟨t,k,K⟩ this;have:=m.2;omega
 have L:M.1=d.1:=by
  have:=y h g hs f A;have:=y g h u (λ j C g2=>(f j g2 C).symm) B;omega
 have v: ∀q,bg M.1 q->Rl M d q q:=λ q k=>by
  have:=f q.toNat (by have:=k.1;have:=k.2;omega) (by have:=k.1;have:=k.2;omega)
  rwa [abI k.1]at this
 have sub: ∀{M d:Aut},Can M->Can d->Iz M d->(∀q,bg M.1 q->Rl M d q q)->(∀r∈M.2.2,r∈d.2.2)/\ ∀q∈M.2.1,q∈d.2.1:=by
  intro M d h g hs f;refine⟨λ r E=> ?_,λ q k=> ?_⟩
  ·obtain⟨p,G,I⟩:=ac9 h g hs E (l:=r.2.1) rfl λ i a b N O=>by
    rw[N]at O;cases O;exact f a ((h.st r E).2 a (aai N))
   have:=ac8 h g hs G (f _ (h.st r E).1);subst this;exact I
  ·obtain⟨t,G,I⟩:=f q (h.fin q k);obtain⟨p,h3,h4⟩:=(hs t).1 ⟨q,G,k⟩;rw[g.det.uni t q p I h3];exact h4
 have Q:=sub h g hs v;have R:=sub g h u (λ q k=>(v q (by rw[L];exact k)).symm);exact⟨L,λ r=>⟨Q.1 r,R.1 r⟩,λ q=>⟨Q.2 q,R.2 q⟩⟩
theorem ahN {rs:LR} {fin:LI} {s:Int} (h:Up rs fin s): ∀t,Reach rs t s-> ∃c,Acc rs fin (plug c t):=by
 induction h with
 |fin h y=>exact λ t m=>⟨[],_,m,h⟩
 | @rule r s y h z hs A=>
   intro t m;obtain⟨i,B,e⟩:=aay hs
   have l: ∀j:Nat,∃t:RT Int,∀f:Int,r.2.1[j]? =some f->Reach rs t f:=by
    intro j;rcases aaG j r.2.1.length with g|g
    ·obtain⟨t,m⟩:=z _ (aaf g);exact⟨t,λ f d=>by rw[aac g]at d;cases d;exact m⟩
    ·exact⟨.mk 0 [],λ f d=>absurd (aad.1 d).1 Ω⟩
   let ks:List (RT Int):=(List.range r.2.1.length).map λ j=>if j=i then t else(l j).choose
   have p: ∀j,j<r.2.1.length->ks[j]? =some (if j=i then t else(l j).choose):=λ j g=>by
    show((List.range r.2.1.length).map _)[j]? =_;rw[aau,ach g];rfl
   have v:Reach rs (.mk r.1 ks) r.2.2:=bV.2 ⟨r,y,rfl,rfl,by simp[ks],λ j k f q d=>by
    have g:=(aad.1 d).1;rw[p j g]at q;cases q;split
    ·rename_i C;subst C;rw[aac g,e]at d;cases d;exact m
    ·exact(l j).choose_spec f d⟩
   obtain⟨c,D⟩:=A _ v;have u:=p i B;rw[if_pos rfl]at u;obtain⟨E,_⟩:=QW u;exact⟨(r.1,ks.take i,ks.drop (i+1))::c,by unfold plug;rw[←E];exact D⟩
theorem Gy.pull {S B:Int} {fin fin':LI} {rs d:LR} {ν q:Int->Int} (u:Wf S fin rs) (g:Gy S fin rs ν) (C:Img ν rs d) (hF:ad2 ν fin fin') (st: ∀s,bg S s->bg B (ν s)) (D:Gy B fin' d q):Gy S fin rs (λ s=>q (ν s)):=by
 refine⟨λ s t hs k e=> ?_,λ s t hs k e r i N=> ?_⟩
 ·have f: ∀s,bg S s->(ν s∈fin' ↔ s∈fin):=λ s hs=>⟨λ h=>by obtain⟨x,m,v⟩:=(hF _).1 h;exact(g.1 s x hs (u.2.2.2.2.1 x m) v).2 m,λ h=>(hF _).2 ⟨s,h,rfl⟩⟩;exact(f s hs).symm.trans ((D.1 _ _ (st s hs) (st t k) e).trans (f t k))
 ·obtain⟨m,v⟩:=N;have z:Occ d (r.1,r.2.1.map ν,ν r.2.2) i (ν s):=⟨(C _).2 ⟨r,m,rfl⟩,by rw[aau,v];rfl⟩;obtain⟨x,O,E,G,I⟩:=D.2 _ _ (st s hs) (st t k) e _ i z;obtain⟨K,Q,rfl⟩:=(C x).1 O;dsimp only at E G I;have p:K.2.1.map ν=(r.2.1.set i t).map ν:=by rw[G,List.map_set]
  have R:(r.2.1.set i t).length=K.2.1.length:=by have:=congrArg List.length p;simpa using this.symm
  obtain⟨L,U,W,M,Y⟩:=g.list u Q (l:=r.2.1.set i t) R (λ x A=>by
   rcases abv A with h|rfl
   ·exact(u.2.2.2.2.2 r m).2.1 x h
   ·exact k) (λ j x y A Z=>by
   have:=congrArg (λ l:LI=>l[j]?) p;simp only[aau,A,Z,aaL,aag]at this;exact this.symm) _ (aaw _)
  rw[aar,aa3 Ω,aaM]at M;refine⟨L,U,W.trans E,M,?_⟩;show q (ν L.2.2)=q (ν r.2.2);rw[Y];exact I
theorem Wi {S:Int} {fin:LI} {rs:LR} {ν:Int->Int} (g: ∀s t,bg S s->bg S t->ν s=ν t->s=t):Gy S fin rs ν:=
 ⟨λ s t hs d e=>by rw[g s t hs d e],λ s t hs d e r i f=>⟨r,f.1,rfl,by
  have:=g s t hs d e;subst this;apply aaZ;intro j;rw[aaR];split
  ·rename_i e;subst e;rw[f.2,if_pos (aad.1 f.2).1]
  ·rfl,rfl⟩⟩
theorem UL {a M:Aut} (v:Wf a.1 a.2.1 a.2.2) (W:Det a.2.2) (G: ∀q,bg a.1 q->Up a.2.2 a.2.1 q) {ν:Int->Int} (k:Gy a.1 a.2.1 a.2.2 ν) (A:Img ν a.2.2 M.2.2) (hF:ad2 ν a.2.1 M.2.1) (st: ∀s,bg a.1 s->bg M.1 (ν s)) (m: ∀q,bg M.1 q-> ∃s,bg a.1 s/\ν s=q)
 (B: ∀h,Gy a.1 a.2.1 a.2.2 h-> ∀s t,bg a.1 s->bg a.1 t->h s=h t->ν s=ν t):Can M/\ ∀q,bg M.1 q->Up M.2.2 M.2.1 q:=by
 have g: ∀t s,Reach a.2.2 t s->Reach M.2.2 t (ν s):=λ t s h=>(ET v k A t _).2 ⟨s,h,rfl⟩;have rch: ∀s,Rch a.2.2 s->Rch M.2.2 (ν s):=λ s ⟨t,D⟩=>⟨t,g t s D⟩
 have I: ∀s,Up a.2.2 a.2.1 s->Up M.2.2 M.2.1 (ν s):=by
  intro s h
  induction h with
  |fin h K=>exact .fin ((hF _).2 ⟨_,h,rfl⟩) (rch _ K)
  | @rule r s K h Y hs Z=>exact .rule ((A _).2 ⟨r,K,rfl⟩) Z (λ y p=>by obtain⟨x,u,rfl⟩:=aaC.1 p;exact rch x (Y x u)) (aaC.2 ⟨s,hs,rfl⟩)
 have f: ∀q,bg M.1 q->Up M.2.2 M.2.1 q:=λ q i=>by
  obtain⟨s,C,rfl⟩:=m q i;exact I s (G s C)
 refine⟨⟨λ x u y p R L=> ?_,λ x u=> ?_,λ q i=> ?_,λ q i=>(f q i).rch,λ q i=> ?_,λ h hh c d N O e=> ?_⟩,f⟩
 ·obtain⟨r,Q,rfl⟩:=(A x).1 u;obtain⟨E,S,rfl⟩:=(A y).1 p;dsimp only at R L ⊢;have hl:E.2.1.length=r.2.1.length:=by have:=congrArg List.length L;simpa using this.symm
  obtain⟨r2,c1,c2,U,c4⟩:=k.list v Q (l:=E.2.1) hl (v.2.2.2.2.2 E S).2.1 (λ j x y u p=>by
   have:=congrArg (λ l:LI=>l[j]?) L;simp only[aau,u,p,aaL,aag]at this;exact this.symm) _ (aaw _)
  rw[aar,aa3 Ω,aaM]at U;rw[←c4,W r2 c1 E S (c2.trans R) U]
 ·obtain⟨r,Q,rfl⟩:=(A x).1 u;have:=v.2.2.2.2.2 r Q;refine⟨st _ this.1,λ y p=> ?_⟩;obtain⟨z,hz,rfl⟩:=aaC.1 p;exact st z (this.2.1 z hz)
 ·obtain⟨s,C,rfl⟩:=(hF q).1 i;exact st s (v.2.2.2.2.1 s C)
 ·obtain⟨t,D⟩:=(f q i).rch;obtain⟨c,N⟩:=ahN (f q i) t D;exact⟨t,c,D,N⟩
 ·obtain⟨s,C,rfl⟩:=m c N;obtain⟨t,h2,rfl⟩:=m d O;exact B _ (k.pull v A hF st hh) s t C h2 e
theorem ZW {q M:Aut} {num:LI} (v:Wf q.1 q.2.1 q.2.2) (i:Img (iat num) q.2.2 M.2.2) (k: ∀s,bg q.1 s->0<=iat num s) (l:RnI q.2.2 num M.1):Num M:=by
 obtain⟨z,A,B,_⟩:=l;have e: ∀(d:Rule) (b:Int),d∈q.2.2->(∀x∈d.2.1.map (iat num),x<b)-> ∀x∈d.2.1,0<=iat num x/\iat num x<b:=λ d b h m x e=>⟨k x ((v.2.2.2.2.2 d h).2.1 x e),m _ (aaC.2 ⟨x,e,rfl⟩)⟩;refine⟨z,A,λ n l=> ?_⟩;obtain⟨⟨N,r,C,D,E,G⟩,I⟩:=B n l;refine⟨⟨r.1,r.2.1.map (iat num),(i _).2 ⟨r,C,by rw[D]⟩,λ x e=> ?_,λ p f t u=> ?_⟩,λ K=> ?_⟩
 ·obtain⟨y,L,rfl⟩:=aaC.1 e;exact(E y L).2
 ·obtain⟨d,g,rfl⟩:=(i p).1 f;exact G d g (e d _ g t) (.inr u)
 ·rcases I K with h|⟨h,m⟩
  ·exact .inl h
  ·refine .inr ⟨h,λ p f t=> ?_⟩;obtain⟨d,g,rfl⟩:=(i p).1 f;exact(m d g (e d _ g t)).2
theorem agq {rs:LR} (m:Det rs) (p:rs.Pairwise λ a b=>vI a b<0):Iy rs:=λ j k r e d f g ⟨i,l⟩=>by
 obtain⟨q,t⟩:=aad.1 f;obtain⟨u,g2⟩:=aad.1 g;have:=aaN.1 p j k q u d;rw[t,g2]at this;have v:=m r (aai f) e (aai g) i l;have:r=e:=ab9 i (ab9 l v);subst this;have:=oM.refl r;omega
def V6 (al fin:LI) (rs:LR) (M:Aut):Prop:=Can M/\Num M/\(M.2.1.Pairwise λ a b=>a<b)/\(M.2.2.Pairwise λ a b=>vI a b<0)/\(∀t,Acc M.2.2 M.2.1 t ↔ Acc rs fin t)/\(0<=M.1/\M.1<=300)/\M.2.2.length<=20000/\Ar al M.2.2/\Wf M.1 M.2.1 M.2.2
theorem V6.eq {al fin fin':LI} {rs e:LR} {M f:Aut} (h:V6 al fin rs M) (d:V6 al fin' e f) (hs: ∀t,Acc rs fin t ↔ Acc e fin' t):M=f:=by
 obtain⟨g,i,k⟩:=afB h.1 d.1 (λ t=>(h.2.2.2.2.1 t).trans ((hs t).trans (d.2.2.2.2.1 t).symm)) h.2.1 d.2.1 h.2.2.2.2.2.1.1 d.2.2.2.2.2.1.1;exact ab9 g (ab9 (xu (λ a b l m=>Ω) h.2.2.1 d.2.2.1 k) (xu Gv.asym h.2.2.2.1 d.2.2.2.1 i))
theorem X8 {Le:Nat->Ab->Option Ab} {De:Nat->Aa->Option Aq} {Ro Cl:Nat->Ab->Option LI} {Ma:Nat->Bz->Option Ab}
 (a8: ∀S fin rs,Wf S fin rs->Sp Le (S,fin,rs) (Rn S fin rs)) (a9: ∀S fin rs,Wf S fin rs->Sp Ro (S,fin,rs) (af5 S rs))
 (b0: ∀S fin rs,Wf S fin rs->S<=300->Sy rs->Iy rs->Sp Cl (S,fin,rs) (λ cl=>cl.length=S.toNat/\(∀v∈cl,bg S v)/\Gy S fin rs (iat cl)/\adZ S fin rs cl)) (Q:akm Ma)
 (al:LI) (S:Int) (fin:LI) (rs:LR) (b1:Sp De (al,S,fin,rs) (λ r=>(r.2.2.2=0->bW al (S,fin,rs)/\Yv al fin rs (r.1,r.2.1,r.2.2.1))/\(bW al (S,fin,rs)->r.2.2.2=0\/r.2.2.2=3/\ ¬Iy rs/\ ¬UG al fin rs)/\(¬bW al (S,fin,rs)->r.2.2.2=1))):
 Sp (λ n=>kW.P (Le n) (De n) (Ro n) (Cl n) (Ma n) n) (al,S,fin,rs) (λ r=>(r.2.2.2=0->bW al (S,fin,rs)/\V6 al fin rs (r.1,r.2.1,r.2.2.1))/\(bW al (S,fin,rs)->r.2.2.2=0\/r.2.2.2=3/\ ¬Iy rs/\ ¬UG al fin rs)/\(¬bW al (S,fin,rs)->r.2.2.2=1)):=by
 show Tt (λ n=>kW.P (Le n) (De n) (Ro n) (Cl n) (Ma n) n (al,S,fin,rs)) _;unfold kW.P;dsimp only;refine aZ1 b1 λ d hd=>aY4 (λ l=>aZ0 ⟨λ h=> ?_,hd.2.1,hd.2.2⟩) (λ l=> ?_)
 ·dsimp only at h;rw[h]at l;cases l
 obtain⟨A,dw,U,du,da,ds,dl,W⟩:=hd.1 (by simpa using l);dsimp only at dw U du da ds dl W;refine aZ1 (a8 _ _ _ dw) λ a ha=> ?_;obtain⟨w,e6,wu,ws,wa,b4,b5,d5,b6⟩:=ha;refine aZ1 (b0 _ _ _ w Ω (ws ds) (agq (wu du) b6)) λ cl E=> ?_;obtain⟨c1,c2,c3,c4,c5⟩:=E;have f2:=w.1;have f3:=w.2.1
 refine aZ1 (R:=λ t=> ∃m:Int,t=((0:Int),([]:LI),([]:LR),a.1,a.2.1,a.2.2,cl,m)/\0<=m/\m<=a.1/\(∀v∈cl,v<m)/\(m=0\/ ∃w∈cl,m=w+1))
  (aZ8 (L:=λ n=>kW.L1) (aZ6 cl.length (λ i t=> ∃m:Int,t=((0:Int),([]:LI),([]:LR),a.1,a.2.1,a.2.2,cl,m,cl,(cl.length:Int),(i:Int))/\0<=m/\m<=a.1/\(∀v∈cl.take i,v<m)/\(m=0\/ ∃w∈cl,m=w+1)) ?_ ?_ ⟨0,rfl,Ω,Ω,Θ,.inl rfl⟩)) ?_
 ·rintro i t B ⟨m,rfl,m0,m1,K,N⟩;unfold kW.L1;dsimp only;have hv:=c2 _ (aaf B);have f4:=hv.1;have f5:=hv.2;refine aY1 Ω (aY B (aZ2 ⟨max m (cl[i]+1),by rw[ak Ω,jX _ Ω Ω],Ω,Ω,λ v hv=> ?_,?_⟩))
  ·rw[aat,aac B,aap]at hv;rcases hv with hv|hv
   ·have:=K v hv;omega
   ·simp only[aaQ,aah]at hv;omega
  ·rcases Int.le_total m (cl[i]+1)with h|h
   ·exact .inr ⟨_,aaf B,Int.max_eq_right h⟩
   ·rw[Int.max_eq_left h];exact N
 ·rintro t ⟨m,rfl,m0,m1,K,N⟩;unfold kW.L1;dsimp only;rw[aar]at K;exact aY3 Ω (aZ4 ⟨m,rfl,m0,m1,K,N⟩)
 rintro _ ⟨m,rfl,m0,m1,K,N⟩;dsimp only;refine aZ1 (Q a.1 a.2.1 a.2.2 m cl w c1) λ q hq=> ?_;obtain⟨q1,q2,q3,q4,q5,_,_⟩:=hq
 have p: ∀s,bg a.1 s->bg q.1 (iat cl s):=λ s hs=>by
  have u:s.toNat<cl.length:=by clear N;have:=hs.1;have:=hs.2;omega
  have hm:=aaf u;rw[tJ u]at hm;rw[q1];exact⟨(c2 _ hm).1,K _ hm⟩
 have Y: ∀c,bg q.1 c-> ∃s,bg a.1 s/\iat cl s=c:=λ c l=>by
  rw[q1]at l
  have E:c∈cl:=by
   rcases N with h|⟨w,y,h2⟩
   ·have:=l.1;have:=l.2;omega
   ·exact c5 w y c l.1 (by have:=l.2;omega)
  obtain⟨i,B,e⟩:=aay E;exact⟨(i:Int),⟨Ω,Ω⟩,l7 (by rw[aam,aac B,e])⟩
 have f:Wf q.1 q.2.1 q.2.2:=by
  refine⟨Ω,Ω,by have:=w.2.2.1;omega,by have:=w.2.2.2.1;omega,λ x hx=> ?_,λ r' G=> ?_⟩
  ·obtain⟨s,y,rfl⟩:=(q2 x).1 hx;exact p s (w.2.2.2.2.1 s y)
  ·obtain⟨r,y,rfl⟩:=(q3 r').1 G;obtain⟨g1,g2,g3⟩:=w.2.2.2.2.2 r y;refine⟨p _ g1,λ x hx=> ?_,by simpa using g3⟩;obtain⟨s,hs,rfl⟩:=aaC.1 hx;exact p s (g2 s hs)
 obtain⟨C,Z⟩:=UL (M:=q) w (wu du) b4 c3 q3 q2 p Y c4;refine aZ1 (a9 _ _ _ f) λ num a0=> ?_;obtain⟨n1,n2,n3,n4,k,nk,nI⟩:=a0;refine aZ1 (Q q.1 q.2.1 q.2.2 m num f n1) λ M hM=>aZ0 ⟨λ _=>⟨A,?_⟩,λ _=> .inl rfl,λ h=>absurd A h⟩;obtain⟨M1,M2,O,M4,M5,M6,M7⟩:=hM;obtain⟨a1,_⟩:=Nj f n2 n4 O
 have z: ∀s,bg q.1 s->0<=iat num s:=λ s hs=>by
  obtain⟨t,ht⟩:=(Z s hs).rch;exact a1 t s ht
 have u: ∀s,bg q.1 s->iat num s<m:=λ s hs=>by
  have h:s.toNat<num.length:=by have:=hs.1;have:=hs.2;omega
  have:=n3 _ (by rw[←tJ h];exact aaf h:iat num s∈num);omega
 have hk:k=m:=by
  have h5:=nk.2.2.2.2
  have e4:num.countP (λ v=>decide (0<=v))=num.length:=List.countP_eq_length.2 λ v hv=>by
   obtain⟨i,B,e⟩:=aay hv;have:=z (i:Int) ⟨Ω,Ω⟩;have e2:iat num (i:Int)=num[i]:=l7 (by rw[aam,aac B]);rw[←e,decide_eq_true_eq,←e2];exact this
  omega
 have c7: ∀s,bg q.1 s->bg M.1 (iat num s):=λ s hs=>by rw[M1];exact⟨z s hs,u s hs⟩
 have D:Gy q.1 q.2.1 q.2.2 (iat num):=Wi λ s t hs ht e=>n2 s t hs ht (z s hs) e
 have I: ∀c,bg M.1 c-> ∃s,bg q.1 s/\iat num s=c:=λ c l=>by
  obtain⟨mm,_,hP,_⟩:=nI;have h4:=l.1;have h6:=l.2;obtain⟨⟨_,r,r1,r2,_⟩,_⟩:=hP c.toNat Ω;exact⟨r.2.2,(f.2.2.2.2.2 r r1).1,by rw[r2];omega⟩
 obtain⟨g,_⟩:=UL (M:=M) f C.det Z D O M2 c7 I λ h hh s t hs ht e=>by rw[C.red h hh s t hs ht e]
 have c8:Ar al M.2.2:=λ r' G=>by
  obtain⟨r,y,rfl⟩:=(O r').1 G;obtain⟨r0,h2,rfl⟩:=(q3 r).1 y;have:=b5 al W r0 h2;exact⟨this.1,by simpa using this.2⟩
 have d0:M.2.2.length<=20000:=by omega
 refine⟨g,ZW f O z (by rw[M1,←hk];exact nI),M6,M7,λ t=> ?_,⟨by dsimp only;omega,by dsimp only;omega⟩,d0,c8,by dsimp only;omega,by dsimp only;omega,by have:=f.2.2.1;dsimp only;omega,by dsimp only;omega,g.fin,λ r hr=>⟨(g.st r hr).1,(g.st r hr).2,?_⟩⟩
 ·exact(Kw f D O M2 t).trans ((Kw w c3 q3 q2 t).trans ((wa t).trans (da t)))
 ·obtain⟨r0,y,rfl⟩:=(O r).1 hr;simpa using(f.2.2.2.2.2 r0 y).2.2
theorem agL {lo d:Nat} (h:d<=1099511627776) (g:lo<=d):IntKind.wrap .i64 (Int.tdiv (IntKind.wrap .i64 ((lo:Int)+(d:Int))) 2)=(((lo+d)/2:Nat):Int):=by
 rw[jX ((lo:Int)+(d:Int)) Ω Ω]
 have e:Int.tdiv ((lo:Int)+(d:Int)) 2=(((lo+d)/2:Nat):Int):=by
  have f:(lo:Int)+(d:Int)=((lo+d:Nat):Int):=by omega
  rw[f,aco Ω];omega
 rw[e,jX _ Ω Ω]
theorem Zj {α:Type} (l:List α) (z r:α) (lo:Nat) (h:lo<=l.length):
 List.set (List.append (List.append (List.take (lo+1) (List.append l [z])) (List.take (Nat.min (List.length (List.drop lo (List.take (List.length (List.append l [z])) (List.append l [z])))) (List.length (List.append l [z])-(lo+1))) (List.drop lo (List.take (List.length (List.append l [z])) (List.append l [z])))))
  (List.drop ((lo+1)+Nat.min (List.length (List.drop lo (List.take (List.length (List.append l [z])) (List.append l [z])))) (List.length (List.append l [z])-(lo+1))) (List.append l [z]))) lo r=l.take lo++r::l.drop lo:=by
 have g:List.append l [z]=l++[z]:=rfl;rw[g];have k:List.take (l++[z]).length (l++[z])=l++[z]:=aar;rw[k]
 have m:Nat.min (List.drop lo (l++[z])).length ((l++[z]).length-(lo+1))=l.length-lo:=by
  simp only[abh,aaq,aaY];show min _ _=_;omega
 rw[m];have p:List.drop (lo+1+(l.length-lo)) (l++[z])= []:=List.drop_eq_nil_of_le Δ;rw[p];show List.set ((List.take (lo+1) (l++[z])++List.take (l.length-lo) (List.drop lo (l++[z])))++[]) lo r=_;rw[aaM];apply aaZ;intro i;have f:(List.take (lo+1) (l++[z])).length=lo+1:=by simp;omega
 have d:(List.take lo l).length=lo:=by simp;omega
 rw[aaR];rcases acg i lo with e|e|e
 ·rw[if_neg Ω,aax Ω,aax Ω,aan,aan,if_pos Ω,if_pos e,aax Ω]
 ·subst e;rw[if_pos rfl,aaB Ω,d,acy];rw[if_pos Δ];rfl
 ·rw[if_neg Ω,aaB Ω,f,aaB Ω,d,aan];obtain⟨j,rfl⟩: ∃j,i=lo+1+j:=⟨i-(lo+1),Ω⟩;have q:lo+1+j-lo=j+1:=by omega
  rw[q,List.getElem?_cons_succ,aas];have t:lo+1+j-(lo+1)=j:=by omega
  rw[t];split
  ·rename_i u;rw[aas,aax Ω]
  ·rename_i u;rw[aal Δ]
section
variable {K:Nat->Rule->Option LI} {L:Nat->Au->Option Int}
end
theorem SQ (l:List Bool) (i:Nat):nf (l.set i true)<=nf l:=by
 unfold nf;by_cases h:i<l.length
 ·rw[List.count_set h];simp
 ·rw[List.set_eq_of_length_le Ω];exact aaw _
theorem DI {R:List Bool} {s:Int} {e:Bool} (h:R[s.toNat]? =some e):bat R s=e:=by unfold bat;rw[h];rfl
theorem YH {R:List Bool} {s:Int} {e:Bool} (h:R[s.toNat]? =some e):bat R s=e:=DI h
theorem agd {R:List Bool} {s:Int} {i:Nat} (h:bat R s=true):bat (R.set i true) s=true:=by
 unfold bat at h ⊢;rw[aaR];split
 ·split
  ·rfl
  ·rename_i d e;rw[aal Ω]at h;cases h
 ·exact h
theorem PY {R:List Bool} {l:LI} {j:Nat} {e:Bool} (d:j<l.length) (h:(l.take j).all (bat R)=true) (f:bat R l[j]=e):e=(l.take (j+1)).all (bat R):=by
 rw[aat,aac d,acO,h];simp[f]
theorem YC {R:List Bool} {l:LI} {j:Nat} (h:(l.take j).all (bat R)=false):false=(l.take (j+1)).all (bat R):=by
 rw[aat,acO,h];rfl
theorem ahp (x y:LI) (l:x.length<=ay):Sp qB.P (x,y) (λ r=>r=true ↔ x=y):=by
 rw[Ci]at l;show Tt (λ n=>qB.P n (x,y)) _;unfold qB.P;dsimp only;refine aY4 (λ h=> ?_) (λ h=> ?_)
 ·have:x.length≠y.length:=by intro e;simp[e]at h
  exact aZ0 ⟨λ h=>(by cases h),λ h=>absurd (congrArg List.length h) this⟩
 ·have m:x.length=y.length:=by simp at h;omega
  refine aZ1 (R:=λ q=>q=Sum.inl ()/\x=y\/q=Sum.inr false/\x≠y) (aZ8 (aZ6 x.length (λ i s=>s=(x,y,(x.length:Int),(i:Int))/\ ∀j,j<i->x[j]? =y[j]?) ?_ ?_ ⟨rfl,λ j h=>absurd h Ω⟩)) ?_
  ·rintro i s k ⟨rfl,f⟩;unfold qB.L1;dsimp only;refine aY1 Ω (aY k (aY Ω (aY9 (λ h=> ?_) (λ h=> ?_))))
   ·refine aZ4 (.inr ⟨rfl,λ e=> ?_⟩);subst e;simp at h
   ·refine aZ2 ⟨by rw[ak Ω],λ j p=> ?_⟩;rcases aaG j i with d|d
    ·exact f j d
    ·obtain rfl:j=i:=by omega
     rw[aac k,aac Ω];simp at h;rw[h]
  ·rintro s ⟨rfl,f⟩;unfold qB.L1;dsimp only;refine aY3 Ω (aZ4 (.inl ⟨rfl,?_⟩));apply aaZ;intro j;rcases aaG j x.length with d|d
   ·exact f j d
   ·rw[aal d,aal Ω]
  ·rintro q (⟨rfl,h⟩|⟨rfl,h⟩)
   ·exact aZ0 ⟨λ _=>h,λ _=>rfl⟩
   ·exact aZ0 ⟨λ g=>(by cases g),λ g=>absurd g h⟩
theorem aiX {F:Nat->Au->Option Bool} (S:Int) (fin:LI) (rs:LR) (G:rs.length<=1000000) (B: ∀r∈rs,r.2.1.length<=1000)
 (hF: ∀x y:LI,x.length<=1000->Sp F (x,y) (λ r=>r=true ↔ x=y)):Sp (λ n=>oq.P (F n) n) (S,fin,rs) (λ r=>r=true->Iy rs):=by
 show Tt (λ n=>oq.P (F n) n (S,fin,rs)) _;unfold oq.P;dsimp only;refine aZ1 (R:=λ q=>(q=Sum.inl ()/\Iy rs)\/q=Sum.inr false) (aZ8 (aZ6 rs.length (λ i s=>s=(S,fin,rs,rs,(rs.length:Int),(i:Int))/\ ∀(j k:Nat) (r g:Rule),j<k->k<i->rs[j]? =some r->rs[k]? =some g-> ¬(r.1=g.1/\r.2.1=g.2.1)) ?_ ?_ ⟨rfl,λ j k r g _ h=>absurd h Ω⟩)) ?_
 ·rintro i s v ⟨rfl,z⟩;unfold oq.L2;dsimp only;refine aY1 Ω (aY v (aZ9 Δ ?_));have e:List.drop (Int.toNat 0) (List.take (Int.toNat (i:Int)) rs)=rs.take i:=by simp
  rw[e];have C:(rs.take i).length=i:=by simp;omega
  refine aZ7 (R:=λ q=>(q=Sum.inl (S,fin,rs,rs,(rs.length:Int),(i:Int))/\ ∀(j:Nat) (r:Rule),j<i->rs[j]? =some r-> ¬(r.1=rs[i].1/\r.2.1=rs[i].2.1))\/q=Sum.inr (Sum.inr false)) (aZ8 (aZ6 (rs.take i).length (λ j s=>s=(S,fin,rs,rs[i].1,rs[i].2.1,rs[i].2.2,rs,(rs.length:Int),(i:Int),rs.take i,((rs.take i).length:Int),(j:Int))/\ ∀(k:Nat) (r:Rule),k<j->rs[k]? =some r-> ¬(r.1=rs[i].1/\r.2.1=rs[i].2.1)) ?_ ?_ ⟨rfl,λ k r h=>absurd h Ω⟩)) ?_
  ·rintro j s l ⟨rfl,u⟩;unfold oq.L1;dsimp only;refine aY1 Ω (aY l ?_);have D:j<i:=by omega
   have E:(rs.take i)[j]=rs[j]:=abV;rw[E];refine aZ7 (R:=λ t=> ∃b:Bool,(b=false-> ¬(rs[j].1=rs[i].1/\rs[j].2.1=rs[i].2.1))/\t=(S,fin,rs,rs[i].1,rs[i].2.1,rs[i].2.2,rs,(rs.length:Int),(i:Int),rs.take i,((rs.take i).length:Int),(j:Int),b)) ?_ ?_
   ·refine aY4 (λ _=>aZ1 (hF _ _ (B _ (aaf v))) λ b A=>aZ0 ⟨b,λ h m=> ?_,rfl⟩) (λ h=>aZ0 ⟨_,λ _ m=>dec_not h m.1.symm,rfl⟩);have:=A.2 m.2.symm;rw[h]at this;cases this
   ·rintro _ ⟨b,A,rfl⟩;dsimp only;refine aY9 (λ _=>aZ4 (.inr rfl)) (λ h=>aZ2 ⟨by rw[ak Ω],λ k r p d=> ?_⟩);rcases aa1 (aa9 p)with m|rfl
    ·exact u k r m d
    ·rw[aac Ω]at d;cases d;exact A h
  ·rintro s ⟨rfl,u⟩;unfold oq.L1;dsimp only;exact aY3 Ω (aZ4 (.inl ⟨rfl,λ j r l=>u j r Ω⟩))
  ·rintro _ (⟨rfl,u⟩|rfl)
   ·dsimp only;refine aZ2 ⟨by rw[ak Ω],λ j k r g f p l d=> ?_⟩;rcases aa1 (aa9 p)with m|rfl
    ·exact z j k r g f m l d
    ·rw[aac v]at d;cases d;exact u j r f l
   ·exact aZ4 (.inr rfl)
 ·rintro s ⟨rfl,z⟩;unfold oq.L2;dsimp only;exact aY3 Ω (aZ4 (.inl ⟨rfl,λ j k r g f l p=>z j k r g f (aad.1 p).1 l p⟩))
 ·rintro q (⟨rfl,h⟩|rfl)
  ·exact aZ0 λ _=>h
  ·exact aZ0 λ h=>by cases h
theorem ahO {rs:LR} {fin:LI} {R U:List Bool} (d:Closed rs R) (f:Useful fin rs R U) {s:Int} (h:Up rs fin s):bat U s=true:=by
 have rch: ∀x,Rch rs x->bat R x=true:=λ x ⟨t,g⟩=>d.reach t x g
 induction h with
 |fin h e=>exact f.1 _ h (rch _ e)
 | @rule r s e h i hs k=>exact f.2 r e k (λ x l=>rch x (i x l)) s hs
theorem aej {U:List Bool} {l:LI} (k:l.Nodup) (f: ∀s∈l,0<=s/\bat U s=true):l.length<=U.count true:=by
 have m:U=(List.range U.length).map λ i=>U[i]?.getD false:=by
  apply aaZ;intro i;rw[aau];rcases aaG i U.length with h|h
  ·rw[ach h,aaL];show _=some (U[i]?.getD false);rw[aac h];rfl
  ·rw[aal h,aal (by simpa using h)];rfl
 have t:U.count true=((List.range U.length).filter λ i=>U[i]?.getD false).length:=by
  rw[←List.countP_eq_length_filter]
  conv=>lhs;rw[m]
  rw[List.count,List.countP_map];congr 1;funext i;show(U[i]?.getD false==true)=U[i]?.getD false;cases U[i]?.getD false<;>rfl
 have g:(l.map Int.toNat).Nodup:=acT.2 (List.Pairwise.imp_of_mem (λ{a b} p d h e=>h (by have:=(f a p).1;have:=(f b d).1;omega)) k)
 have:=g.length_le_of_subset (l₂:=(List.range U.length).filter λ i=>U[i]?.getD false) λ i q=>by
  obtain⟨s,hs,rfl⟩:=aaC.1 q;have d:=(f s hs).2;unfold bat at d;refine List.mem_filter.2 ⟨ab1.2 ?_,d⟩;rcases aaG s.toNat U.length with h|h
  ·exact h
  ·rw[aal h]at d;cases d
 rw[aaH]at this;omega
theorem V6.valid {al fin:LI} {rs:LR} {M:Aut} (f:ED al) (h:V6 al fin rs M):bW al M:=by
 obtain⟨g,A,p,B,C,m,q,t,D⟩:=h;refine⟨f,m.1,m.2,q,λ i u d=>⟨g.fin _ (aaf d),λ E=>aaN.1 p (i-1) i Ω d Ω⟩,λ i u d=> ?_⟩;have k:=aaf d;obtain⟨v,y⟩:=t _ k;obtain⟨z,e⟩:=aad.1 y;exact⟨v,Ω,λ h=>e.symm,(g.st _ k).1,λ j G l=>(g.st _ k).2 _ (aaf l)⟩
theorem Xj {α:Type} {f:α->Nat}: ∀{l:List α} {x:α},x∈l->f x<=sumW f l
 |a::l,x,h=>by
  simp only[sumW];rcases aaU.mp h with rfl|h
  ·omega
  ·have:=Xj (f:=f) h;omega
theorem QX {α:Type} {f:α->Nat} (h: ∀x,1<=f x): ∀l:List α,l.length<=sumW f l
 | []=>by simp[sumW]
 |a::l=>by
  have:=QX h l;have:=h a;simp only[sumW,aaX];omega
mutual
theorem aiI (f:Int->Nat): ∀t:RT Int,nds t<=RT.wt f t
 | .mk a ks=>by
   have:=Qv f ks;simp only[nds,RT.wt];omega
theorem Qv (f:Int->Nat): ∀ks:List (RT Int),yw ks<=RT.wts f ks
 | []=>by simp[yw,RT.wts]
 |k::ks=>by
  have:=aiI f k;have:=Qv f ks;simp only[yw,RT.wts];omega
end
theorem aiE (l:LI):l.length+1<=wt (.sl [.int .i64]) l:=by
 have:=QX (f:=wtA [.int .i64]) (λ x=>aaw _) l;exact Nat.succ_le_succ this
theorem afb (l:LR):l.length+1<=wt (.sl [.int .i64,.sl [.int .i64],.int .i64]) l/\ ∀r∈l,r.2.1.length<=wt (.sl [.int .i64,.sl [.int .i64],.int .i64]) l:=by
 have d: ∀r:Rule,1<=wtA [.int .i64,.sl [.int .i64],.int .i64] r:=λ r=>by
  show 1<=1+_;omega
 have:=QX (f:=wtA [.int .i64,.sl [.int .i64],.int .i64]) d l;refine⟨Nat.succ_le_succ this,λ r e=> ?_⟩;have g:=Xj (f:=wtA [.int .i64,.sl [.int .i64],.int .i64]) e
 have i:r.2.1.length+1<=wtA [.int .i64,.sl [.int .i64],.int .i64] r:=by
  have:=aiE r.2.1;show _<=1+(wt (.sl [.int .i64]) r.2.1+1);omega
 exact aaP (aaP (Nat.le_succ _) i) (aaP g (Nat.le_succ _))
theorem agG (s:Int) (ks:List (RT Int)):nds (.mk s ks)<=wt (.rsl [.int .i64]) ks:=by
 have:=Qv (wtA [.int .i64]) ks;exact Nat.succ_le_succ this
end Go.Bk
end
