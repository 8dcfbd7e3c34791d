import Derived.Test.YtdchbjmbgecejaaGreatDoorMo
import Derived.Test.YtdchbjmbgecejaaGreatDoorMk
set_option linter.unusedVariables false
noncomputable section
namespace Go.Bk
open Go Go.AM
theorem Kv {α β:Type} {q:α->α->Bool} (x:α) (y:β): ∀l:List (α×β),oV q x l=none->(Iw q x y l).length=l.length+1
 | [],_=>rfl
 |p::l,h=>by
  simp only[oV,cond_eq_ite]at h;split at h
  ·cases h
  ·rename_i d;simp only[Iw,cond_eq_ite];rw[if_neg d,aaX,aaX,Kv x y l h]
def ai8 {α:Type} (q:α->α->Bool) (d:Option (List (α×Int))×LI×List α×Int×Int) (f:Option (List (α×Int))×LI×List α×Int×Int->Option (Option (List (α×Int))×LI)):Option (Option (List (α×Int))×LI):=
 bif decide (d.2.2.2.2<d.2.2.2.1)then
  (nth? d.2.2.1 d.2.2.2.2).bind λ g=>
   (bif !(Option.isSome (oV q g (mX d.1)))then
    ((d.1).bind λ i=>some (some (Iw q g (WO d.1:Int) i),d.2.1,(WO d.1:Int),d.2.2.1,d.2.2.2.1,d.2.2.2.2))
   else some (d.1,d.2.1,Option.getD (oV q g (mX d.1)) (0:Int),d.2.2.1,d.2.2.2.1,d.2.2.2.2)).bind λ e=>
   bif decide (List.length e.2.1+List.length ([e.2.2.1]:LI)<=ay)then
    f (e.1,List.append e.2.1 ([e.2.2.1]:LI),e.2.2.2.1,e.2.2.2.2.1,IntKind.wrap .i64 (e.2.2.2.2.2+(1:Int)))
   else none
 else some (d.1,d.2.1)
def MOk {α:Type} (q:α->α->Bool) (d:List (α×Int)):Prop:=(∀a v,oV q a d=some v->0<=v/\v<(d.length:Int))/\ ∀a b v,oV q a d=some v->oV q b d=some v->a=b
theorem MOk.put {α:Type} [DecidableEq α] {q:α->α->Bool} (g: ∀a b,q a b=true ↔ a=b) {e:List (α×Int)} (h:MOk q e) {x:α} (i:oV q x e=none):MOk q (Iw q x (e.length:Int) e):=by
 have k:=Kv (q:=q) x (e.length:Int) e i;refine⟨λ a v d=> ?_,λ a b v d f=> ?_⟩
 ·rw[k];rw[tN g]at d;split at d
  ·cases d;omega
  ·have:=h.1 a v d;omega
 ·rw[tN g]at d f;split at d<;>split at f
  ·rename_i l m;rw[l,m]
  ·cases d;have:=(h.1 b _ f).2;omega
  ·cases f;have:=(h.1 a _ d).2;omega
  ·exact h.2 a b v d f
def afu {α:Type} (x:List α) (r:Af):Prop:=
 r.1.length=x.length/\0<=r.2/\r.2<=(x.length:Int)/\(∀v∈r.1,0<=v/\v<r.2)/\(∀v:Int,0<=v->v<r.2->v∈r.1)/\ ∀(i j:Nat) (a b:α) (u v:Int),x[i]? =some a->x[j]? =some b->r.1[i]? =some u->r.1[j]? =some v->(u=v ↔ a=b)
theorem afT {α:Type} [DecidableEq α] {q:α->α->Bool} (K: ∀a b,q a b=true ↔ a=b) (x:List α) (W:x.length<=1000000):
 Tt (λ n=>(bH (ai8 q) n ((some []:Option (List (α×Int))),([]:LI),x,(x.length:Int),(0:Int))).bind λ M=>some (M.2,(WO M.1:Int))) (afu x):=by
 refine aZ1 (R:=λ t=>afu x (t.2,(WO t.1:Int)))
  (aZ8 (L:=λ _=>ai8 q) (aZ6 x.length (λ i t=> ∃(d:List (α×Int)) (out:LI),t=(some d,out,x,(x.length:Int),(i:Int))/\out.length=i/\d.length<=i/\MOk q d/\(∀v:Int,0<=v->v<(d.length:Int)->v∈out)/\
   ∀(j:Nat) (a:α) (v:Int),x[j]? =some a->out[j]? =some v->oV q a d=some v) ?_ ?_ ?_)) λ r O=>aZ0 O
 ·rintro i t l ⟨d,out,rfl,D,Q,A,hs,y⟩;unfold ai8;dsimp only
  have m: ∀(j:Nat) (a:α) (v w:Int),x[j]? =some a->(out++[w])[j]? =some v->(j<i/\out[j]? =some v)\/(j=i/\a=x[i]/\v=w):=by
   intro j a v w k hv;rcases aaG j out.length with h|h
   ·rw[aax h]at hv;exact .inl ⟨Ω,hv⟩
   ·have E:=(aad.1 hv).1;simp at E;have:j=i:=by omega
    subst this;rw[aaB Ω,D,acy]at hv;rw[aac l]at k;exact .inr ⟨rfl,(aak k).symm,by simpa using hv.symm⟩
  refine aY1 Ω (aY l ?_);refine aY2 (λ G=> ?_) (λ G=> ?_)
  ·have f:oV q x[i] d=none:=by simpa [mX]using G
   have B:=Kv (q:=q) x[i] (d.length:Int) d f;refine aZ3 (aZ3 (aZ9 (jK (by dsimp only;simp;omega)) (aZ2 ⟨Iw q x[i] (d.length:Int) d,out++[(d.length:Int)],by dsimp only;rw[ak Ω];rfl,Δ,by rw[B];omega,A.put K f,λ v C p=> ?_,λ j a v k hv=> ?_⟩)))
   ·rw[B]at p;by_cases e:v=(d.length:Int)
    ·rw[e];exact aa4 _ Θ
    ·exact aaF _ (hs v C Ω)
   ·rw[tN K];rcases m j a v _ k hv with⟨h,g⟩|⟨h,g,I⟩
    ·split
     ·rename_i e;have:=y j a v k g;rw[e,f]at this;cases this
     ·exact y j a v k g
    ·rw[if_pos g,I]
  ·have z:(oV q x[i] d).isSome=true:=by simpa [mX]using G
   obtain⟨w,N⟩:=acF.1 z;have S:Option.getD (oV q x[i] (mX (some d))) (0:Int)=w:=by rw[show mX (some d)=d from rfl,N];rfl
   refine aZ3 (aZ9 (jK (by dsimp only;simp;omega)) (aZ2 ⟨d,out++[w],by dsimp only;rw[ak Ω,S];rfl,Δ,Ω,A,λ v C p=>aaF _ (hs v C p),λ j a v k hv=> ?_⟩));rcases m j a v _ k hv with⟨h,g⟩|⟨h,g,I⟩
   ·exact y j a v k g
   ·rw[g,I];exact N
 ·rintro t ⟨d,out,rfl,D,Q,A,hs,y⟩;unfold ai8;dsimp only;refine aY3 Ω (aZ4 ⟨D,by show(0:Int)<=(d.length:Int);omega,by show(d.length:Int)<=_;omega,λ v hv=> ?_,hs,λ i j a b u v l k U hv=> ?_⟩)
  ·obtain⟨i,l,rfl⟩:=aay hv;exact A.1 x[i] _ (y i _ _ (aac (by have l:i<out.length:=l;omega)) (aac l))
  ·have p:=y i a u l U;have g:=y j b v k hv;constructor
   ·intro e;subst e;exact A.2 a b u p g
   ·intro e;subst e;rw[p]at g;exact aak g
 ·exact⟨[],[],rfl,rfl,Θ,⟨λ a v h=>by simp[oV]at h,λ a b v h=>by simp[oV]at h⟩,λ v C p=>absurd p Δ,λ j a v _ h=>by simp at h⟩
theorem Ox (x:List Bool) (d:x.length<=1000000):Sp og.P x (afu x):=afT aec x d
theorem J3 (x:List ByteArray) (d:x.length<=1000000):Sp lT.P x (afu x):=afT Et x d
theorem xu {α:Type} {R:α->α->Prop} (d: ∀a b,R a b-> ¬R b a): ∀{l g:List α},l.Pairwise R->g.Pairwise R->(∀y,y∈l ↔ y∈g)->l=g
 | [],[],_,_,_=>rfl
 | [],b::g,_,_,h=>absurd ((h b).2 (abG ..)) Θ
 |a::l,[],_,_,h=>absurd ((h a).1 (abG ..)) Θ
 |a::l,b::g,m,p,h=>by
  obtain⟨p1,p2⟩:=ab4.1 m;obtain⟨q1,q2⟩:=ab4.1 p
  have i:a=b:=by
   rcases aaU.1 ((h a).1 (abG ..))with e|e
   ·exact e
   ·rcases aaU.1 ((h b).2 (abG ..))with k|k
    ·exact k.symm
    ·exact absurd (q1 a e) (d _ _ (p1 b k))
  subst i;rw[xu d p2 q2 λ y=>⟨λ f=> ?_,λ f=> ?_⟩]
  ·rcases aaU.1 ((h y).1 (aaS _ f))with e|e
   ·subst e;exact absurd (p1 y f) (d _ _ (p1 y f))
   ·exact e
  ·rcases aaU.1 ((h y).2 (aaS _ f))with e|e
   ·subst e;exact absurd (q1 y f) (d _ _ (q1 y f))
   ·exact e
theorem Iy.at {rs:LR} (h:Iy rs) {j k:Nat} {r d:Rule} (f:rs[j]? =some r) (g:rs[k]? =some d) (i:r.1=d.1) (l:r.2.1=d.2.1):j=k:=by
 rcases acg j k with e|e|e
 ·exact absurd ⟨i,l⟩ (h j k r d e f g)
 ·exact e
 ·exact absurd ⟨i.symm,l.symm⟩ (h k j d r e g f)
theorem Iy.det {rs:LR} (h:Iy rs):Det rs:=λ r e m d f g=>by
 obtain⟨j,i,rfl⟩:=aay e;obtain⟨k,l,rfl⟩:=aay d;have:=h.at (aac i) (aac l) f g;subst this;rfl
theorem Y0 {r d:Rule} {k f:Nat} {s:Int} (y: ∀q∈d.2.1,0<=q) (u:r.2.1[k]? =some s) (v:d.2.1[f]? =some s) (i:r.2.1.set k (-1)=d.2.1.set f (-1)):k=f/\r.2.1=d.2.1:=by
 have A:k<r.2.1.length:=(aad.1 u).1;have z:f<d.2.1.length:=(aad.1 v).1;have B:r.2.1.length=d.2.1.length:=by have:=congrArg List.length i;simpa using this
 have m:k=f:=by
  apply aaT;intro p;have g:(r.2.1.set k (-1))[k]? =(d.2.1.set f (-1))[k]? :=congrArg (λ l:LI=>l[k]?) i;rw[abe Ω,aa5 (λ e=>p e.symm)]at g;have:=y (-1) (aai g.symm);omega
 subst m;refine⟨rfl,aaZ λ x=> ?_⟩;by_cases t:x=k
 ·rw[t,u,v]
 ·have g:(r.2.1.set k (-1))[x]? =(d.2.1.set k (-1))[x]? :=congrArg (λ l:LI=>l[x]?) i
  rwa [aa5 (λ e=>t e.symm),aa5 (λ e=>t e.symm)]at g
def Occ (rs:LR) (r:Rule) (i:Nat) (s:Int):Prop:=r∈rs/\r.2.1[i]? =some s
def ah3 (S:Int) (rs:LR) (U:List (List Ac)):Prop:=
 U.length=S.toNat/\(∀l∈U,(l.length<=3*rs.length/\l.Pairwise λ a b=>a.1<b.1)/\ ∀p∈l,0<=p.1/\p.1<=300000/\bg S p.2)/\ ∃e:Int->LI->Int,
  (∀r i s d f s',Occ rs r i s->Occ rs d f s'->e r.1 (r.2.1.set i (-1))=e d.1 (d.2.1.set f (-1))->r.1=d.1/\r.2.1.set i (-1)=d.2.1.set f (-1))/\
  ∀(s:Int) (l:List Ac),0<=s->U[s.toNat]? =some l-> ∀c to,(c,to)∈l ↔ ∃r i,Occ rs r i s/\c=e r.1 (r.2.1.set i (-1))/\to=r.2.2
abbrev ah1 (F:Nat->List (Int×Int)->Option (List (Int×Int))):Prop:= ∀x:List (Int×Int),x.length<=1000000->(∀p∈x,0<=p.1/\p.1<=300000)->(∀p∈x,∀d∈x,p.1=d.1->p=d)->Sp F x (λ r=>r.Perm x/\r.Pairwise λ a b=>a.1<=b.1)
def UI (rs:LR) (d:Nat->Nat->Prop) (V:List (List Ac)) (e:List (ByteArray×Int)):Prop:=
 (∀(s:Int) (l:List Ac),0<=s->V[s.toNat]? =some l-> ∀c to,(c,to)∈l-> ∃(j i:Nat) (r:Rule),d j i/\rs[j]? =some r/\r.2.1[i]? =some s/\oV seq (Og r.1 (r.2.1.set i (-1))) e=some c/\to=r.2.2)/\
 ∀(j i:Nat) (r:Rule) (s:Int),d j i->rs[j]? =some r->r.2.1[i]? =some s-> ∃l c,V[s.toNat]? =some l/\(c,r.2.2)∈l/\oV seq (Og r.1 (r.2.1.set i (-1))) e=some c
theorem UI.step {rs:LR} {L:Nat->Nat->Prop} {V:List (List Ac)} {M C:List (ByteArray×Int)} (h:UI rs L V M) (A: ∀key c,oV seq key M=some c->oV seq key C=some c) {k p:Nat} {q:Rule} {s0 D:Int} (Q:0<=s0) (v:rs[k]? =some q) (y:q.2.1[p]? =some s0)
 (z:oV seq (Og q.1 (q.2.1.set p (-1))) C=some D) (B:s0.toNat<V.length):UI rs (λ j i=>L j i\/(j=k/\i=p)) (V.set s0.toNat (List.append V[s0.toNat] [(D,q.2.2)])) C:=by
 obtain⟨N,O⟩:=h;refine⟨λ s l hs f c to d=> ?_,λ j i r s E G g=> ?_⟩
 ·rw[aaR]at f;split at f
  ·rename_i e;cases f;have es:s0=s:=by omega
   subst es;simp only[abA,aap,aah,aaz]at d;rcases d with d|⟨rfl,rfl⟩
   ·obtain⟨j,i,r,m,t,u,I,K⟩:=N s0 _ hs (aac B) c to d;exact⟨j,i,r,.inl m,t,u,A _ _ I,K⟩
   ·exact⟨k,p,q,.inr ⟨rfl,rfl⟩,v,y,z,rfl⟩
  ·obtain⟨j,i,r,m,t,u,I,K⟩:=N s l hs f c to d;exact⟨j,i,r,.inl m,t,u,A _ _ I,K⟩
 ·rw[aaR];rcases E with E|⟨rfl,rfl⟩
  ·obtain⟨l,c,m,t,u⟩:=O j i r s E G g;split
   ·rename_i e;rw[e]at B;rw[aac B]at m;cases m;exact⟨_,c,rfl,by simp only[abA,aap];left;simpa [e]using t,A _ _ u⟩
   ·exact⟨l,c,m,t,A _ _ u⟩
  ·rw[v]at G;cases G;rw[y]at g;cases g;rw[if_pos rfl,if_pos B];exact⟨_,D,rfl,Θ,z⟩
theorem UI.congr {rs:LR} {m d:Nat->Nat->Prop} {V:List (List Ac)} {p:List (ByteArray×Int)} (h:UI rs m V p) (q: ∀j i r s,rs[j]? =some r->r.2.1[i]? =some s->(d j i ↔ m j i)):UI rs d V p:=by
 refine⟨λ s l hs f c to g=> ?_,λ j i r s k t e=>h.2 j i r s ((q j i r s t e).1 k) t e⟩;obtain⟨j,i,r,y,u,v,z⟩:=h.1 s l hs f c to g;exact⟨j,i,r,(q j i r s u v).2 y,u,v,z⟩
def ahT (S:Int) (V:List (List Ac)) (b:Nat):Prop:=V.length=S.toNat/\ ∀l∈V,(l.length<=b/\l.Nodup)/\ ∀p∈l,0<=p.1/\p.1<=300000/\bg S p.2
theorem ahz {K:Nat->BS->Option ByteArray} {Cl:Nat->LI->Option LI} {So:Nat->List Ac->Option (List Ac)} (hK: ∀s l,I64 s->(∀q∈l,I64 q)->l.length<=1000000->Sp K (s,l) (λ r=>r=Og s l))
 (f3: ∀l:LI,l.length<=1000000->Sp Cl l (λ r=>r=l)) (f4:ah1 So) (S:Int) (fin:LI) (rs:LR) (hw:Wf S fin rs) (y: ∀r∈rs,I64 r.1) (c8:Iy rs):
 Sp (λ n=>jk.P (K n) (Cl n) (So n) n) (S,fin,rs) (λ x=> ∃U,x=rows U/\ah3 S rs U):=by
 obtain⟨h0,hS,j3,j4,i4,hr⟩:=hw;have c9:=c8.det
 have d0: ∀r∈rs,∀q∈r.2.1,I64 q:=λ r h q hq=>by
  have:=(hr r h).2.1 q hq;exact⟨by have:=this.1;omega,by have:=this.2;omega⟩
 have m: ∀r∈rs,∀i:Nat,∀q∈r.2.1.set i (-1),I64 q:=λ r h i q hq=>by
  rcases abv hq with h2|rfl
  ·exact d0 r h q h2
  ·exact⟨Ω,Ω⟩
 show Tt (λ n=>jk.P (K n) (Cl n) (So n) n (S,fin,rs)) _;unfold jk.P;dsimp only;refine aX (tV h0 Ω) ?_
 refine aZ1 (R:=λ x=> ∃(U:List (List Ac)) (A:List (ByteArray×Int)),x=rows U/\MOk seq A/\A.length<=3*rs.length/\ahT S U (3*rs.length)/\UI rs (λ j _=>j<rs.length) U A)
  (aZ8 (L:=λ n=>jk.L2 (Cl n) (K n) n) (aZ6 rs.length (λ k t=> ∃(U:List (List Ac)) (A:List (ByteArray×Int)),t=(some A,rows U,rs,(rs.length:Int),(k:Int))/\MOk seq A/\A.length<=3*k/\ahT S U (3*k)/\UI rs (λ j _=>j<k) U A) ?_ ?_ ?_)) ?_
 ·rintro k t hk ⟨U,A,rfl,W,E,hU,C⟩;unfold jk.L2;dsimp only;obtain⟨f7,d5,i5⟩:=hr rs[k] (aaf hk);have Y:=aaf hk;have b5:=aac hk;refine aY1 Ω (aY hk ?_)
  refine aZ7 (R:=λ t=> ∃(V:List (List Ac)) (d:List (ByteArray×Int)),t=(some d,rows V,rs,(rs.length:Int),(k:Int))/\MOk seq d/\d.length<=3*k+3/\ahT S V (3*k+3)/\UI rs (λ j _=>j<k+1) V d)
   (aZ8 (L:=λ n=>jk.L1 (Cl n) (K n)) (aZ6 rs[k].2.1.length (λ p t=> ∃(V:List (List Ac)) (d:List (ByteArray×Int)),t=(some d,rows V,rs[k].1,rs[k].2.1,rs[k].2.2,rs,(rs.length:Int),(k:Int),rs[k].2.1,((rs[k].2.1.length:Nat):Int),(p:Int))/\MOk seq d/\d.length<=3*k+p/\ahT S V (3*k+p)/\
    UI rs (λ j i=>j<k\/(j=k/\i<p)) V d) ?_ ?_ ⟨U,A,rfl,W,Ω,hU,C.congr λ j i r s _ _=>Ω⟩)) ?_
  ·rintro p t B ⟨V,d,rfl,g1,g2,g3,g4⟩;unfold jk.L1;dsimp only;have u:=d5 _ (aaf B);have G:rs[k].2.1[p].toNat<V.length:=by have:=u.1;have:=u.2;have:=g3.1;omega
   refine aY1 Ω (aY B (aZ7 (f3 rs[k].2.1 Ω) ?_));rintro _ rfl;refine aZ9 (rng Ω Ω) ?_;rw[aam];refine aY6 B λ _ _ _=>aZ7 (hK _ _ (y _ Y) (m _ Y p) (by rw[aa7];omega)) ?_;rintro _ rfl
   have a7: ∀(m3:List (ByteArray×Int)) (c0:Int),MOk seq m3->m3.length<=3*k+(p+1)->oV seq (Og rs[k].1 (rs[k].2.1.set p (-1))) m3=some c0->(∀key c,oV seq key d=some c->oV seq key m3=some c)->
    Bd (λ n rec=>bif decide (0<=rs[k].2.1[p])&&decide (rs[k].2.1[p]<(List.length (rows V):Int))then
     (rowAt? (rows V) (Int.toNat rs[k].2.1[p])).bind λ j6=>(rowAt? (rows V) (Int.toNat rs[k].2.1[p])).bind λ d7=>
     bif decide (List.length d7+List.length ([(c0,rs[k].2.2)]:List Ac)<=ay)then
     bif decide (0<=rs[k].2.1[p])&&decide (rs[k].2.1[p]<(List.length (List.set (rows V) (Int.toNat rs[k].2.1[p]) none):Int))then
     rec (some m3,List.set (List.set (rows V) (Int.toNat rs[k].2.1[p]) none) (Int.toNat rs[k].2.1[p]) (some (List.append d7 ([(c0,rs[k].2.2)]:List Ac))),rs[k].1,rs[k].2.1,rs[k].2.2,rs,(rs.length:Int),(k:Int),rs[k].2.1,((rs[k].2.1.length:Nat):Int),IntKind.wrap .i64 ((p:Int)+(1:Int)))
     else none else none else none)
    (λ t=> ∃(V:List (List Ac)) (d:List (ByteArray×Int)),t=(some d,rows V,rs[k].1,rs[k].2.1,rs[k].2.2,rs,(rs.length:Int),(k:Int),rs[k].2.1,((rs[k].2.1.length:Nat):Int),((p+1:Nat):Int))/\MOk seq d/\d.length<=3*k+(p+1)/\ahT S V (3*k+(p+1))/\UI rs (λ j i=>j<k\/(j=k/\i<p+1)) V d)
    (λ t=> ∃(V:List (List Ac)) (d:List (ByteArray×Int)),t=(some d,rows V,rs,(rs.length:Int),(k:Int))/\MOk seq d/\d.length<=3*k+3/\ahT S V (3*k+3)/\UI rs (λ j _=>j<k+1) V d):=by
    intro m3 c0 q1 q2 q3 q4;have a8:=g3.2 _ (aaf G);refine aZ9 (rng u.1 (by rw[vC];have:=u.1;omega)) (Bd.row G (Bd.row G (aZ9 (jK Δ) (aZ9 (rng u.1 (by rw[aa7,vC];have:=u.1;omega)) (aZ2 ?_)))));rw[H9];refine⟨_,m3,by rw[ak Ω],q1,q2,⟨by rw[aa7];exact g3.1,λ l g=> ?_⟩,(g4.step q4 u.1 b5 (aac B) q3 G).congr λ j i r s _ _=>Ω⟩;rcases abv g with h|rfl
    ·have:=g3.2 l h;exact⟨⟨Ω,this.1.2⟩,this.2⟩
    ·have d8:((c0,rs[k].2.2):Ac)∉V[rs[k].2.1[p].toNat]:=λ f8=>by
      obtain⟨j,i,r,d1,d2,d3,d4,_⟩:=g4.1 rs[k].2.1[p] _ u.1 (aac G) _ _ f8;have W:=aai d2;obtain⟨I,M⟩:=key_inj (y _ W) (y _ Y) (m _ W i) (m _ Y p) (q1.2 _ _ _ (q4 _ _ d4) q3);obtain⟨e3,e4⟩:=Y0 (λ q hq=>(d5 q hq).1) d3 (aac B) M;have:=c8.at d2 b5 I e4;omega
     refine⟨⟨Δ,?_⟩,λ x hx=> ?_⟩
     ·rw[abA,acE];exact⟨a8.1.2,Θ,λ a ha b hb e=>d8 (by rw[aah.1 hb]at e;rw[←e];exact ha)⟩
     simp only[abA,aap,aah]at hx;rcases hx with hx|rfl
     ·exact a8.2 x hx
     ·have:=q1.1 _ _ q3;exact⟨this.1,by have:=this.2;dsimp only;omega,f7⟩
   refine aY2 (λ Z=> ?_) (λ Z=> ?_)
   ·have z:oV seq (Og rs[k].1 (rs[k].2.1.set p (-1))) d=none:=by simpa [mX]using Z
    have E:=Kv (q:=seq) (Og rs[k].1 (rs[k].2.1.set p (-1))) (d.length:Int) d z;refine aZ3 (aZ3 ?_);refine a7 (Iw seq (Og rs[k].1 (rs[k].2.1.set p (-1))) (d.length:Int) d) (d.length:Int) (g1.put Et z) (by rw[E];omega) (by rw[tN Et,if_pos rfl]) λ key c h=> ?_;rw[tN Et,if_neg]
    ·exact h
    ·rintro rfl;rw[z]at h;cases h
   ·have b7:(oV seq (Og rs[k].1 (rs[k].2.1.set p (-1))) d).isSome=true:=by simpa [mX]using Z
    obtain⟨w,hw⟩:=acF.1 b7;refine aZ3 ?_;have:=a7 d w g1 Ω hw λ _ _ h=>h;have I:Option.getD (oV seq (Og rs[k].1 (rs[k].2.1.set p (-1))) (mX (some d))) (0:Int)=w:=by rw[show mX (some d)=d from rfl,hw];rfl
    dsimp only;rw[I];exact this
  ·rintro t ⟨V,d,rfl,g1,g2,g3,g4⟩;unfold jk.L1;dsimp only;refine aY3 Ω (aZ4 ⟨V,d,rfl,g1,Ω,⟨g3.1,λ l g=>⟨⟨by have:=(g3.2 l g).1.1;omega,(g3.2 l g).1.2⟩,(g3.2 l g).2⟩⟩,g4.congr λ j i r s hj hi=> ?_⟩);constructor
   ·intro h;rcases aa1 (aa9 h)with h|rfl
    ·exact .inl h
    ·rw[b5]at hj;cases hj;exact .inr ⟨rfl,(aad.1 hi).1⟩
   ·omega
  ·rintro _ ⟨V,d,rfl,g1,g2,g3,g4⟩;exact aZ2 ⟨V,d,by dsimp only;rw[ak Ω],g1,Ω,g3,g4⟩
 ·rintro t ⟨U,A,rfl,W,E,hU,C⟩;unfold jk.L2;dsimp only;exact aY3 Ω (aZ4 ⟨U,A,rfl,W,E,hU,C⟩)
 ·refine⟨List.replicate S.toNat [],[],by rw[KA];rfl,⟨λ a v h=>by simp[oV]at h,λ a b v h=>by simp[oV]at h⟩,Θ,⟨Θ,λ l g=>by rw[(acN.1 g).2];simp⟩,⟨λ s l hs g c to h=> ?_,λ j i r s h=>absurd h Ω⟩⟩;rw[abn]at g;split at g
  ·cases g;cases h
  ·cases g
 rintro _ ⟨U,A,rfl,W,E,⟨d9,e0⟩,hA,hB⟩
 have N: ∀(i:Nat) (hi:i<U.length),∀p∈U[i],∀p'∈U[i],p.1=p'.1->p=p':=by
  intro i hi p B p' c1 e;have ei:U[(i:Int).toNat]? =some U[i]:=by rw[aam];exact aac hi
  obtain⟨j,k,r,_,a1,a2,a3,a4⟩:=hA (i:Int) _ Ω ei p.1 p.2 B;obtain⟨j',k',r',_,b1,b2,b3,b4⟩:=hA (i:Int) _ Ω ei p'.1 p'.2 c1;rw[←e]at b3;have m1:=aai a1;have d:=aai b1;obtain⟨I,M⟩:=key_inj (y _ m1) (y _ d) (m _ m1 k) (m _ d k') (W.2 _ _ _ a3 b3);have hf:=(Y0 (λ q hq=>((hr r' d).2.1 q hq).1) a2 b2 M).2;exact ab9 e (by rw[a4,b4];exact c9 r m1 r' d I hf)
 refine aZ1 (R:=λ x=> ∃V:List (List Ac),x=rows V/\V.length=S.toNat/\ ∀(s:Nat) (l:List Ac),V[s]? =some l-> ∃l0,U[s]? =some l0/\l.Perm l0/\l.Pairwise λ a b=>a.1<=b.1)
  (aZ8 (L:=λ n=>jk.L3 (So n)) (aZ6 S.toNat (λ i t=> ∃V:List (List Ac),t=(rows V,(S.toNat:Int),(i:Int))/\V.length=S.toNat/\(∀s,i<=s->V[s]? =U[s]?)/\ ∀(s:Nat) (l:List Ac),s<i->V[s]? =some l-> ∃l0,U[s]? =some l0/\l.Perm l0/\l.Pairwise λ a b=>a.1<=b.1) ?_ ?_ ?_)) ?_
 ·rintro i t hi ⟨V,rfl,O,c3,D⟩;unfold jk.L3;dsimp only;have Q:i<V.length:=by omega
  have a6:i<U.length:=by omega
  have h7:V[i]=U[i]:=by
   have:=c3 i (aaw _);rw[aac Q,aac a6]at this;exact aak this
  have C:=e0 _ (aaf a6);refine aY1 Ω (aZ9 (rng Ω (by rw[vC];omega)) ?_);rw[aam];refine Bd.row Q (Bd.row Q ?_);rw[h7];refine aZ7 (f4 U[i] Ω (λ p B=>⟨(C.2 p B).1,(C.2 p B).2.1⟩) λ p B p' c1 e=>N i a6 p B p' c1 e) ?_;rintro l' ⟨h8,h9⟩;refine aZ2 ⟨V.set i l',by rw[H9,ak Ω],by simpa using O,λ s hs=> ?_,λ s l k4 g=> ?_⟩
  ·rw[aa5 Ω];exact c3 s Ω
  ·rw[aaR]at g;split at g
   ·rename_i e;cases g;exact⟨U[i],by rw[←e];exact aac a6,h8,h9⟩
   ·exact D s l Ω g
 ·rintro t ⟨V,rfl,O,c3,D⟩;unfold jk.L3;dsimp only;exact aY3 Ω (aZ4 ⟨V,rfl,O,λ s l g=>D s l (by have:=(aad.1 g).1;omega) g⟩)
 ·exact⟨U,by rw[vC,d9];rfl,d9,λ _ _=>rfl,λ s l h=>absurd h Ω⟩
 rintro _ ⟨V,rfl,O,D⟩;refine aZ0 ⟨V,rfl,O,λ l g=> ?_,λ f l=>(oV seq (Og f l) A).getD 0,λ r i s r' i' s' ⟨o1,o2⟩ ⟨o3,o4⟩ he=> ?_,λ s l hs g c to=> ?_⟩
 ·obtain⟨i,hi,rfl⟩:=aay g;obtain⟨l0,I,M,e3⟩:=D i _ (aac hi);have:=e0 l0 (aai I);obtain⟨Q,e7⟩:=aad.1 I;refine⟨⟨by rw[M.length_eq];omega,List.Pairwise.imp_of_mem (λ ha hb h=> ?_) (e3.and (M.nodup_iff.2 this.1.2))⟩,λ p B=>this.2 p (M.mem_iff.1 B)⟩;rename_i a b;rcases abS h.1 with h1|h1
  ·exact h1
  ·exact absurd (N i Q a (by rw[e7];exact M.mem_iff.1 ha) b (by rw[e7];exact M.mem_iff.1 hb) h1) h.2
 ·obtain⟨j,hj,rfl⟩:=aay o1;obtain⟨j',e8,rfl⟩:=aay o3;obtain⟨_,c,_,_,a3⟩:=hB j i _ s hj (aac hj) o2;obtain⟨_,c',_,_,b3⟩:=hB j' i' _ s' e8 (aac e8) o4;dsimp only at he;rw[a3,b3]at he;have he:c=c':=he;subst he;exact key_inj (y _ o1) (y _ o3) (m _ o1 i) (m _ o3 i') (W.2 _ _ c a3 b3)
 ·obtain⟨l0,I,M,e3⟩:=D s.toNat l g;rw[M.mem_iff];constructor
  ·intro h;obtain⟨j,i,r,a1,a2,a3,a4,a5⟩:=hA s l0 hs I c to h;exact⟨r,i,⟨aai a2,a3⟩,by dsimp only;rw[a4];rfl,a5⟩
  ·rintro⟨r,i,⟨o1,o2⟩,Z,rfl⟩;obtain⟨j,hj,rfl⟩:=aay o1;obtain⟨l2,c',b1,b2,b3⟩:=hB j i _ s hj (aac hj) o2;rw[I]at b1;cases b1;dsimp only at Z;rw[b3]at Z;have Z:c=c':=Z;rw[Z];exact b2
def XY (c:Int):LI:=(List.range c.toNat).map λ i:Nat=>(i:Int)
theorem yH {c v:Int}:v∈XY c ↔ 0<=v/\v<c:=by
 unfold XY;rw[aaC];constructor
 ·rintro⟨i,d,rfl⟩;have:=ab1.1 d;omega
 ·rintro⟨e,f⟩;exact⟨v.toNat,ab1.2 Ω,Ω⟩
theorem zy (c:Int):(XY c).Nodup:=by
 unfold XY;rw[List.nodup_iff_pairwise_ne,acT];exact(List.nodup_iff_pairwise_ne.1 List.nodup_range).imp λ h e=>h Ω
theorem Hf (c:Int):(XY c).length=c.toNat:=by unfold XY;simp
theorem pig {out cls:LI} {c m:Int} (R:out.length=cls.length) (E:0<=c) (G:0<=m) (z: ∀v∈out,0<=v/\v<c) (I: ∀v:Int,0<=v->v<m->v∈cls)
 (D: ∀(i j:Nat) (u:Int) (a b:Int),out[i]? =some u->out[j]? =some u->cls[i]? =some a->cls[j]? =some b->a=b):
 m<=c/\(c=m-> ∀(i j:Nat) (u v a:Int),out[i]? =some u->out[j]? =some v->cls[i]? =some a->cls[j]? =some a->u=v):=by
 classical
 let f:Int->Int:=λ v=>if h: ∃i:Nat,out[i]? =some v then(cls[h.choose]?).getD 0 else 0
 have l: ∀(i:Nat) (u a:Int),out[i]? =some u->cls[i]? =some a->f u=a:=by
  intro i u a d p;have g: ∃i:Nat,out[i]? =some u:=⟨i,d⟩;have hs:=g.choose_spec;have K:=(aad.1 hs).1;have e:f u=(cls[g.choose]?).getD 0:=dif_pos g;have q:=aac (show g.choose<cls.length by omega);rw[e,q];exact D _ i u _ a hs d q p
 have t: ∀w∈XY m,∃(i:Nat) (u:Int),out[i]? =some u/\cls[i]? =some w:=by
  intro w y;obtain⟨L,d⟩:=yH.1 y;obtain⟨i,M,e⟩:=aay (I w L d);exact⟨i,out[i],aac Ω,by rw[aac M,e]⟩
 refine⟨?_,λ N i j u v a d p O Q=> ?_⟩
 ·have:=(zy m).length_le_of_subset (l₂:=(XY c).map f) λ w y=>by
   obtain⟨i,u,d,p⟩:=t w y;exact aaC.2 ⟨u,yH.2 (z u (aai d)),l i u w d p⟩
  rw[aaH,Hf,Hf]at this;omega
 ·apply aaT;intro A;have hv:=z v (aai p);have B:v∈XY c:=yH.2 hv
  have:=(zy m).length_le_of_subset (l₂:=((XY c).erase v).map f) λ w y=>by
   obtain⟨k,x,C,g2⟩:=t w y;by_cases e:x=v
   ·subst e;have:w=a:=D k j x w a C p g2 Q;refine aaC.2 ⟨u,((zy c).mem_erase_iff).2 ⟨A,yH.2 (z u (aai d))⟩,?_⟩;rw[l i u a d O,this]
   ·exact aaC.2 ⟨x,((zy c).mem_erase_iff).2 ⟨e,yH.2 (z x (aai C))⟩,l k x w C g2⟩
  rw[aaH,List.length_erase_of_mem B,Hf,Hf]at this;omega
def jS (cl:LI) (l:List Ac):List Ac:=l.flatMap λ p=>[((32:Int),p.1),((58:Int),iat cl p.2)]
def ajx (cl:LI) (c:Int) (l:List Ac):ByteArray:=yg (dig c++enc (jS cl l))
theorem ac2 (cl:LI) (l:List Ac):(jS cl l).length=2*l.length:=by
 induction l with
 |nil=>rfl
 |cons p l d=>
  have e:jS cl (p::l)= [((32:Int),p.1),((58:Int),iat cl p.2)]++jS cl l:=rfl;rw[e,aaq,d,aaX,aaX,aaX,aci];omega
theorem WV (cl:LI): ∀l d:List Ac,jS cl l=jS cl d-> ∀p∈l,∃f∈d,f.1=p.1/\iat cl p.2=iat cl f.2
 | [],_,_,p,e=>by cases e
 |q::l,[],h,_,_=>by cases h
 |q::l,g::d,h,p,e=>by
  have h:((32:Int),q.1)::((58:Int),iat cl q.2)::jS cl l=((32:Int),g.1)::((58:Int),iat cl g.2)::jS cl d:=h;simp only[abk,aaz,true_and]at h;obtain⟨i,k,m⟩:=h;rcases aaU.1 e with rfl|e
  ·exact⟨g,Θ,i.symm,k⟩
  ·obtain⟨f,t,u⟩:=WV cl l d m p e;exact⟨f,by simp[t],u⟩
def Gy (S:Int) (fin:LI) (rs:LR) (h:Int->Int):Prop:=
 (∀s t,bg S s->bg S t->h s=h t->(s∈fin ↔ t∈fin))/\
 ∀s t,bg S s->bg S t->h s=h t-> ∀r i,Occ rs r i s-> ∃d∈rs,d.1=r.1/\d.2.1=r.2.1.set i t/\h d.2.2=h r.2.2
theorem agn {S:Int} {fin:LI} {rs:LR} {U:List (List Ac)} {h:Int->Int} (I:Wf S fin rs) (K:ah3 S rs U)
 (L: ∀s t l C,bg S s->bg S t->h s=h t->U[s.toNat]? =some l->U[t.toNat]? =some C-> ∀p∈l,∃g∈C,g.1=p.1/\h p.2=h g.2):
 ∀s t,bg S s->bg S t->h s=h t-> ∀r i,Occ rs r i s-> ∃d∈rs,d.1=r.1/\d.2.1=r.2.1.set i t/\h d.2.2=h r.2.2:=by
 intro s t hs q u r i v;obtain⟨M,N,O,y,k⟩:=K;have lt: ∀s,bg S s->s.toNat<U.length:=λ s hs=>by have:=hs.1;have:=hs.2;omega
 have es:=aac (lt s hs);have D:=aac (lt t q);obtain⟨g,Q,R,W⟩:=L s t _ _ hs q u es D (O r.1 (r.2.1.set i (-1)),r.2.2) ((k s _ hs.1 es _ _).2 ⟨r,i,v,rfl,rfl⟩);obtain⟨d,m,f,Y,Z⟩:=(k t _ q.1 D g.1 g.2).1 Q;obtain⟨a1,z⟩:=y r i s d m t v f (R.symm.trans Y);have a3:i<r.2.1.length:=(aad.1 v.2).1;have E:m<d.2.1.length:=(aad.1 f.2).1;have G:r.2.1.length=d.2.1.length:=by have:=congrArg List.length z;simpa using this
 have A:i=m:=by
  apply aaT;intro B;have:(r.2.1.set i (-1))[i]? =(d.2.1.set m (-1))[i]? :=congrArg (λ l:LI=>l[i]?) z;rw[abe Ω,aa5 (λ e=>B e.symm)]at this;have k:=aai this.symm;have:=((I.2.2.2.2.2 d f.1).2.1 (-1) k).1;omega
 subst A;refine⟨d,f.1,a1.symm,?_,?_⟩
 ·apply aaZ;intro j;rw[aaR];split
  ·rename_i e;subst e;exact f.2
  ·rename_i e;have:(r.2.1.set i (-1))[j]? =(d.2.1.set i (-1))[j]? :=congrArg (λ l:LI=>l[j]?) z;rw[aa5 e,aa5 e]at this;exact this.symm
 ·rw[←Z];exact W.symm
def adZ (S:Int) (fin:LI) (rs:LR) (cl:LI):Prop:=
 (∀h,Gy S fin rs h-> ∀s t,bg S s->bg S t->h s=h t->iat cl s=iat cl t)/\ ∀w∈cl,∀v:Int,0<=v->v<=w->v∈cl
theorem XT {S:Int} {fin:LI} {rs:LR} {U:List (List Ac)} {h:Int->Int} {cl:LI} (v:Wf S fin rs) (D:ah3 S rs U) (E:Gy S fin rs h) (m: ∀s t,bg S s->bg S t->h s=h t->iat cl s=iat cl t)
 {s t:Int} (hs:bg S s) (f:bg S t) (e:h s=h t) {l d:List Ac} (es:U[s.toNat]? =some l) (g:U[t.toNat]? =some d):jS cl l=jS cl d:=by
 obtain⟨G,k,W,_,z⟩:=D
 have sub: ∀{s t:Int} {l d:List Ac},bg S s->bg S t->h s=h t->U[s.toNat]? =some l->U[t.toNat]? =some d-> ∀y∈l.map (λ p=>(p.1,iat cl p.2)),y∈d.map (λ p=>(p.1,iat cl p.2)):=by
  intro s t l d hs f e es g y I;obtain⟨p,K,rfl⟩:=aaC.1 I;obtain⟨r,i,q,L,M⟩:=(z s l hs.1 es p.1 p.2).1 K;obtain⟨u,A,N,B,O⟩:=E.2 s t hs f e r i q;have Q:=(aad.1 q.2).1;refine aaC.2 ⟨(p.1,u.2.2),(z t d f.1 g _ _).2 ⟨u,i,⟨A,by rw[B];exact abe Q⟩,by rw[L,N,B,List.set_set],rfl⟩,?_⟩;dsimp only;rw[M,m _ _ (v.2.2.2.2.2 u A).1 (v.2.2.2.2.2 r q.1).1 O]
 have key:l.map (λ p=>(p.1,iat cl p.2))=d.map (λ p=>(p.1,iat cl p.2)):=
  xu (R:=λ a b:Ac=>a.1<b.1) (λ a b Y Z=>Ω) (acT.2 (k l (aai es)).1.2) (acT.2 (k d (aai g)).1.2) λ y=>⟨sub hs f e es g y,sub f hs e.symm g es y⟩
 have C: ∀l:List Ac,jS cl l=(l.map λ p=>(p.1,iat cl p.2)).flatMap λ p=>[((32:Int),p.1),((58:Int),p.2)]:=λ l=>by unfold jS;rw[List.flatMap_map]
 rw[C,C,key]
theorem Yb {Fi:Nat->Ab->Option (List Bool)} {NB:Nat->List Bool->Option Af} {NS:Nat->List ByteArray->Option Af} {Us:Nat->Ab->Option (List (Option (List Ac)))} {A:Nat->An->Option LI}
 (e9:ad1 Fi) (f0: ∀x:List Bool,x.length<=1000000->Sp NB x (afu x)) (f4: ∀x:List ByteArray,x.length<=1000000->Sp NS x (afu x)) (hA:ajb A) (S:Int) (fin:LI) (rs:LR) (hw:Wf S fin rs) (hS:S<=300)
 (f6:Sp Us (S,fin,rs) (λ x=> ∃U,x=rows U/\ah3 S rs U)):
 Sp (λ n=>fB.P (Fi n) (NB n) (NS n) (Us n) (A n) n) (S,fin,rs) (λ cl=>cl.length=S.toNat/\(∀v∈cl,bg S v)/\Gy S fin rs (iat cl)/\adZ S fin rs cl):=by
 have h0:=hw.1;show Tt (λ n=>fB.P (Fi n) (NB n) (NS n) (Us n) (A n) n (S,fin,rs)) _;unfold fB.P;dsimp only;refine aZ1 (e9 S fin rs h0 hS (by have:=hw.2.2.1;omega) hw.2.2.2.2.1) λ R hR=> ?_;obtain⟨j2,Y⟩:=hR;refine aZ1 (f0 R Ω) λ nb f7=> ?_;obtain⟨b1,b2,b3,b4,b5,b6⟩:=f7;refine aZ1 f6 ?_;rintro _ ⟨U,rfl,hU⟩;rw[H8];refine aY7 ?_
 have B: ∀(l:LI) (s:Int),l.length=S.toNat->bg S s->l[s.toNat]? =some (iat l s):=λ l s hl hs=>by
  have I:s.toNat<l.length:=by have:=hs.1;have:=hs.2;omega
  rw[aac I,tJ I]
 refine aZ1 (R:=λ t=> ∃cl:LI,t=Sum.inr cl/\cl.length=S.toNat/\(∀v∈cl,bg S v)/\Gy S fin rs (iat cl)/\adZ S fin rs cl)
  (aZ8 (L:=λ n=>fB.L3 (A n) n (NS n)) (aX1 (λ t=> ∃(cl:LI) (m:Int),t=(S,fin,rs,cl,m,U)/\cl.length=S.toNat/\0<=m/\m<=S/\(∀v∈cl,0<=v/\v<m)/\(∀v:Int,0<=v->v<m->v∈cl)/\
   (∀s t,bg S s->bg S t->iat cl s=iat cl t->(s∈fin ↔ t∈fin))/\ ∀h,Gy S fin rs h-> ∀s t,bg S s->bg S t->h s=h t->iat cl s=iat cl t) (λ t=>(S-t.2.2.2.2.1).toNat) ?_ ?_)) ?_
 ·rintro _ ⟨cl,m,rfl,z,f8,j6,hv,hs,hf,c0⟩;unfold fB.L3;dsimp only;refine aZ9 (tV h0 Ω) ?_;rw[abC];have j8:=hU.1;have D: ∀v∈cl,I64 v:=λ v h=>⟨by have:=(hv v h).1;omega,by have:=(hv v h).2;omega⟩;have a4: ∀s,bg S s->iat cl s∈cl:=λ s hs=>aai (B cl s z hs)
  refine aZ7 (R:=λ t=> ∃d:List ByteArray,t=(S,fin,rs,m,U,d)/\d.length=S.toNat/\ ∀(s:Nat) (k:ByteArray),d[s]? =some k-> ∃c l,cl[s]? =some c/\U[s]? =some l/\k=ajx cl c l)
   (aZ8 (L:=λ n=>fB.L2 (A n) n) (aZ6 S.toNat (λ i t=> ∃d:List ByteArray,t=(S,fin,rs,cl,m,U,d,(S.toNat:Int),(i:Int))/\d.length=S.toNat/\ ∀(s:Nat) (k:ByteArray),s<i->d[s]? =some k-> ∃c l,cl[s]? =some c/\U[s]? =some l/\k=ajx cl c l) ?_ ?_ ⟨_,rfl,Θ,λ s k h=>absurd h Ω⟩)) ?_
  ·rintro i t hi ⟨d,rfl,Z,E⟩;unfold fB.L2;dsimp only;have b7:i<cl.length:=by omega
   have a0:i<U.length:=by omega
   have c3:=hU.2.1 _ (aaf a0);have k0:=hw.2.2.2.1;refine aY1 Ω (aY b7 (aZ7 (hA [] cl[i] Θ (D _ (aaf b7))) ?_));rintro _ rfl;refine aZ9 (rng Ω Ω) ?_;rw[aam];refine aY6 a0 λ row _ M=> ?_;rw[aac a0]at M;cases M
   refine aZ7 (R:=λ t=>t=(S,fin,rs,cl,m,U,d,(i:Int),dig cl[i]++enc (jS cl U[i]),(S.toNat:Int),(i:Int)))
    (aZ8 (L:=λ n=>fB.L1 (A n)) (aZ6 U[i].length (λ p t=>t=(S,fin,rs,cl,m,U,d,(i:Int),dig cl[i]++enc (jS cl (U[i].take p)),(S.toNat:Int),(i:Int),U[i],((U[i].length:Nat):Int),(p:Int))) ?_ ?_ (by simp[jS,enc]))) ?_
   ·rintro p t W rfl;unfold fB.L1;dsimp only;have a1:=c3.2 _ (aaf W)
    have hb:(dig cl[i]++enc (jS cl (U[i].take p))).length<=22+46*p:=by
     have:=P9 cl[i];have:=Y6 (jS cl (U[i].take p));rw[ac2,aaE]at this;rw[aaq];omega
    have k1:p<=300000:=by omega
    refine aY1 Ω (aY W (aZ9 (jK (by rw[aaY];omega)) (aZ7 (hA _ U[i][p].1 (by show List.length (_++_)<=_;rw[aaq,aaY];omega) ⟨Ω,Ω⟩) ?_)));rintro _ rfl;have k2:=P9 U[i][p].1;have f9:=B cl U[i][p].2 z a1.2.2;have I:=(aad.1 f9).1
    have en:nth? cl U[i][p].2=some (iat cl U[i][p].2):=by
     rw[Cm a1.2.2.1 (by have:=a1.2.2.1;omega),tJ I]
    have k4:(List.append (dig cl[i]++enc (jS cl (U[i].take p))) [(32:Int)]++dig U[i][p].1).length<=22+46*p+23:=by
     rw[aaq];show List.length (_++_)+_<=_;rw[aaq,aaY];omega
    refine aZ9 (jK (by rw[aaY];omega)) ?_;rw[en];refine aZ3 (aZ7 (hA _ (iat cl U[i][p].2) (by show List.length (_++_)<=_;rw[aaq,aaY];omega) (D _ (a4 _ a1.2.2))) ?_);rintro _ rfl;refine aZ2 ?_
    have e:jS cl (U[i].take (p+1))=(jS cl (U[i].take p)++[((32:Int),U[i][p].1)])++[((58:Int),iat cl U[i][p].2)]:=by
     unfold jS;rw[aat,aac W,List.flatMap_append];simp
    rw[ak Ω,e,Qa,Qa];simp
   ·rintro t rfl;unfold fB.L1;dsimp only;rw[aar];exact aY3 Ω (aZ4 rfl)
   ·rintro _ rfl;dsimp only;refine aZ9 (rng Ω Ω) ?_;rw[aam];refine aY6 Ω λ _ _ _=>aZ2 ⟨_,by rw[ak Ω],by simpa using Z,λ s k hs hk=> ?_⟩;rw[aaR]at hk;split at hk
    ·rename_i e;subst e;rw[if_pos Ω]at hk;exact⟨cl[i],U[i],aac b7,aac a0,(aak hk).symm⟩
    ·exact E s k Ω hk
  ·rintro t ⟨d,rfl,Z,E⟩;unfold fB.L2;dsimp only;exact aY3 Ω (aZ4 ⟨d,rfl,Z,λ s k hk=>E s k (by have:=(aad.1 hk).1;omega) hk⟩)
  rintro _ ⟨d,rfl,Z,E⟩;dsimp only;refine aZ7 (f4 d Ω) λ nx g0=> ?_;obtain⟨out,c⟩:=nx;obtain⟨n1,n2,n3,n4,n5,n6⟩:=g0;dsimp only at n1 n2 n3 n4 n5 n6 ⊢
  have same: ∀(i j:Nat) (u a b:Int) (l C:List Ac),out[i]? =some u->out[j]? =some u->cl[i]? =some a->cl[j]? =some b->U[i]? =some l->U[j]? =some C->a=b/\jS cl l=jS cl C:=by
   intro i j u a b l C N h2 h3 h4 h5 h6;have c5:i<d.length:=by have:=(aad.1 N).1;omega
   have c6:j<d.length:=by have:=(aad.1 h2).1;omega
   have c7:=(n6 i j _ _ u u (aac c5) (aac c6) N h2).1 rfl;obtain⟨c1,l1,d1,d2,d3⟩:=E i _ (aac c5);obtain⟨c2,l2,f1,f2,f3⟩:=E j _ (aac c6);rw[h3]at d1;cases d1;rw[h4]at f1;cases f1;rw[h5]at d2;cases d2;rw[h6]at f2;cases f2;rw[d3,f3]at c7
   have bb: ∀l:List Ac,∀p∈jS cl l,0<=p.1/\p.1<256:=λ l p W=>by
    obtain⟨q,_,hq⟩:=acp.1 W;simp only[aaU,acL,or_false]at hq;rcases hq with rfl|rfl
    ·exact⟨show(0:Int)<=32 by decide,show(32:Int)<256 by decide⟩
    ·exact⟨show(0:Int)<=58 by decide,show(58:Int)<256 by decide⟩
   have ss: ∀(i:Nat) (l:List Ac),U[i]? =some l->ad6 (jS cl l):=λ i l hl p W=>by
    obtain⟨q,g9,hq⟩:=acp.1 W;have h7:=(hU.2.1 l (aai hl)).2 q g9;simp only[aaU,acL,or_false]at hq;rcases hq with rfl|rfl
    ·exact⟨λ h=>by rcases h with h|h<;>dsimp only at h<;>omega,by dsimp only;omega,by dsimp only;omega⟩
    ·exact⟨λ h=>by rcases h with h|h<;>dsimp only at h<;>omega,D _ (a4 _ h7.2.2)⟩
   exact Wn (D _ (aai h3)) (D _ (aai h4)) (ss i l h5) (ss j C h6) (bytes_inj (GX (bb l)) (GX (bb C)) c7)
  have K: ∀i:Nat,i<S.toNat-> ∃l,U[i]? =some l:=λ i hi=>⟨_,aac Ω⟩
  have a6:=pig (out:=out) (cls:=cl) (c:=c) (m:=m) Ω n2 f8 n4 hs λ i j u a b N h2 h3 h4=>by
   obtain⟨l,e1⟩:=K i (by have:=(aad.1 h3).1;omega);obtain⟨C,e2⟩:=K j (by have:=(aad.1 h4).1;omega);exact(same i j u a b l C N h2 h3 h4 e1 e2).1
  have G:out.length=S.toNat:=by omega
  have O: ∀s t,bg S s->bg S t->iat out s=iat out t->iat cl s=iat cl t/\ ∀l C,U[s.toNat]? =some l->U[t.toNat]? =some C->jS cl l=jS cl C:=by
   intro s t hs f e;have g1:=B out s G hs;have g2:=B out t G f;rw[e]at g1;obtain⟨l,e1⟩:=K s.toNat (by have:=hs.1;have:=hs.2;omega);obtain⟨C,e2⟩:=K t.toNat (by have:=f.1;have:=f.2;omega);refine⟨(same _ _ _ _ _ l C g1 g2 (B cl s z hs) (B cl t z f) e1 e2).1,λ l C e1 e2=>(same _ _ _ _ _ l C g1 g2 (B cl s z hs) (B cl t z f) e1 e2).2⟩
  have Q: ∀s t,bg S s->bg S t->iat out s=iat out t->(s∈fin ↔ t∈fin):=λ s t hs f e=>hf s t hs f (O s t hs f e).1
  have a9: ∀h,Gy S fin rs h-> ∀s t,bg S s->bg S t->h s=h t->iat out s=iat out t:=λ h hh s t hs f e=>by
   have d5:s.toNat<d.length:=by have:=hs.1;have:=hs.2;omega
   have d6:t.toNat<d.length:=by have:=f.1;have:=f.2;omega
   obtain⟨c1,l1,d1,d2,d3⟩:=E s.toNat _ (aac d5);obtain⟨c2,l2,f1,f2,f3⟩:=E t.toNat _ (aac d6);rw[B cl s z hs]at d1;cases d1;rw[B cl t z f]at f1;cases f1;refine(n6 _ _ _ _ _ _ (aac d5) (aac d6) (B out s G hs) (B out t G f)).2 ?_;rw[d3,f3];unfold ajx;rw[c0 h hh s t hs f e,XT hw hU hh (c0 h hh) hs f e d2 f2]
  refine aY9 (λ hc=> ?_) (λ hc=> ?_)
  ·have i0:c=m:=fZ hc;refine aZ3 (aZ4 ⟨out,rfl,G,λ v hv=>⟨(n4 v hv).1,by have:=(n4 v hv).2;omega⟩,⟨Q,agn hw hU λ s t l C hs f e e1 e2 p W=> ?_⟩,a9,λ w hw v h0 N=>n5 v h0 (by have:=(n4 w hw).2;omega)⟩);obtain⟨p',N,h2,h3⟩:=WV cl l C ((O s t hs f e).2 l C e1 e2) p W;have d7:=(hU.2.1 l (aai e1)).2 p W;have d8:=(hU.2.1 C (aai e2)).2 p' N;refine⟨p',N,h2,?_⟩;have q1:=B cl p.2 z d7.2.2;rw[h3]at q1;exact a6.2 i0 _ _ _ _ _ (B out p.2 G d7.2.2) (B out p'.2 G d8.2.2) q1 (B cl p'.2 z d8.2.2)
  ·have l4:c≠m:=dec_not hc;have:=a6.1;exact aZ2 ⟨⟨out,c,rfl,G,n2,Ω,n4,n5,Q,a9⟩,by dsimp only;omega⟩
 ·have g: ∀s,bg S s-> ∃x,R[s.toNat]? =some x/\bat R s=x:=λ s hs=>by
   have I:s.toNat<R.length:=by have:=hs.1;have:=hs.2;omega
   exact⟨R[s.toNat],aac I,by unfold bat;rw[aac I];rfl⟩
  refine⟨nb.1,nb.2,rfl,Ω,b2,Ω,b4,b5,λ s t hs f e=> ?_,λ h hh s t hs f e=> ?_⟩
  all_goals obtain⟨x,x1,x2⟩:=g s hs
  all_goals obtain⟨y,y1,y2⟩:=g t f
  all_goals have q1:=B nb.1 s Ω hs
  all_goals have q2:=B nb.1 t Ω f
  ·have:=(b6 _ _ x y _ _ x1 y1 q1 q2).1 e;rw[←Y s hs,←Y t f,x2,y2,this]
  ·refine(b6 _ _ x y _ _ x1 y1 q1 q2).2 ?_;have N:=Y s hs;have h2:=Y t f;rw[x2]at N;rw[y2]at h2;exact Bool.eq_iff_iff.2 (N.trans ((hh.1 s t hs f e).trans h2.symm))
 ·rintro _ ⟨cl,rfl,h⟩;exact aZ0 h
def Img (ν:Int->Int) (rs d:LR):Prop:= ∀e,e∈d ↔ ∃r∈rs,e=(r.1,r.2.1.map ν,ν r.2.2)
def ad2 (ν:Int->Int) (fin fin':LI):Prop:= ∀q,q∈fin' ↔ ∃s∈fin,q=ν s
theorem Gy.list {S:Int} {fin:LI} {rs:LR} {h:Int->Int} (t:Wf S fin rs) (u:Gy S fin rs h) {r:Rule} (m:r∈rs) {l:LI} (B:l.length=r.2.1.length) (f: ∀x∈l,bg S x) (v: ∀(i:Nat) (x y:Int),l[i]? =some x->r.2.1[i]? =some y->h x=h y):
 ∀p,p<=l.length-> ∃q∈rs,q.1=r.1/\q.2.1=l.take p++r.2.1.drop p/\h q.2.2=h r.2.2
 |0,_=>⟨r,m,rfl,Θ,rfl⟩
 |p+1,N=>by
  obtain⟨z,C,D,A,E⟩:=Gy.list t u m B f v p Ω;have e:p<l.length:=by omega
  have d:p<r.2.1.length:=by omega
  have g:(l.take p).length=p:=by simp;omega
  have k:Occ rs z p r.2.1[p]:=⟨C,by rw[A,aaB Ω,g,acy,aaI d];rfl⟩;obtain⟨G,I,K,L,M⟩:=u.2 r.2.1[p] l[p] ((t.2.2.2.2.2 r m).2.1 _ (aaf d)) (f _ (aaf e)) (v p _ _ (aac e) (aac d)).symm z p k;refine⟨G,I,K.trans D,?_,M.trans E⟩;rw[L,A,List.set_append_right _ _ Ω,g,acy,aaI d,List.set_cons_zero,aat,aac e,aaD];rfl
theorem ET {S:Int} {fin:LI} {rs u:LR} {h:Int->Int} (R:Wf S fin rs) (hc:Gy S fin rs h) (U:Img h rs u): ∀t c,Reach u t c ↔ ∃s,Reach rs t s/\h s=c:=by
 intro t
 induction t using uz with
 |h a ks W=>
  intro c;constructor
  ·intro v;obtain⟨r',E,G,I,K,L⟩:=bV.1 v;obtain⟨r,a1,rfl⟩:=(U r').1 E;simp only[aaH]at K
   have z: ∀i:Nat,∃q:Int,∀d:i<ks.length,Reach rs ks[i] q/\ ∀f,r.2.1[i]? =some f->h q=h f:=by
    intro i;by_cases d:i<ks.length
    ·have A:i<r.2.1.length:=by omega
     obtain⟨q,v,e⟩:=(W _ (aaf d) (h r.2.1[i])).1 (L i _ _ (aac d) (by rw[aau,aac A];rfl));exact⟨q,λ _=>⟨v,λ f p=>by rw[aac A]at p;cases p;exact e⟩⟩
    ·exact⟨0,λ h'=>absurd h' d⟩
   obtain⟨g,M⟩: ∃g:Nat->Int,∀i,∀d:i<ks.length,Reach rs ks[i] (g i)/\ ∀f,r.2.1[i]? =some f->h (g i)=h f:=⟨λ i=>(z i).choose,λ i=>(z i).choose_spec⟩
   let l:LI:=(List.range ks.length).map g
   have N:l.length=ks.length:=by simp[l]
   have B: ∀i,i<ks.length->l[i]? =some (g i):=λ i m=>by simp only[l,aau,ach m,aaL]
   have O: ∀t q,Reach rs t q->bg S q:=λ t q v=>by
    cases t with
    |mk a ks=>
     obtain⟨r,Q,_,C,_⟩:=bV.1 v;rw[←C];exact(R.2.2.2.2.2 r Q).1
   obtain⟨Y,Q,c2,C,c4⟩:=hc.list R a1 (l:=l) Ω (λ x D=>by
    obtain⟨i,m,rfl⟩:=aaC.1 D;exact O _ _ (M i (ab1.1 m)).1) (λ i x y D hy=>by
    have m:i<ks.length:=by have:=(aad.1 D).1;omega
    rw[B i m]at D;cases D;exact(M i m).2 y hy) l.length (aaw _)
   rw[aar,aa3 Ω,aaM]at C;refine⟨Y.2.2,bV.2 ⟨Y,Q,c2.trans G,rfl,by rw[C];exact N,λ i k f d p=> ?_⟩,c4.trans I⟩;have m:=(aad.1 d).1;rw[C,B i m]at p;cases p;have:=(M i m).1
   rwa [(aad.1 d).2]at this
  ·rintro⟨s,hs,rfl⟩;obtain⟨r,hr,G,I,K,L⟩:=bV.1 hs;refine bV.2 ⟨_,(U _).2 ⟨r,hr,rfl⟩,G,by rw[I],by simpa using K,λ i k f d p=> ?_⟩;simp only[aau,aaK]at p;obtain⟨Z,e,rfl⟩:=p;exact(W k (aai d) _).2 ⟨Z,L i k Z d e,rfl⟩
theorem CQ {S:Int} {fin:LI} {rs:LR} (d:Wf S fin rs) {t:RT Int} {q:Int} (e:Reach rs t q):bg S q:=by
 cases t with
 |mk a ks=>
  obtain⟨r,f,_,g,_⟩:=bV.1 e;rw[←g];exact(d.2.2.2.2.2 r f).1
theorem Kw {S:Int} {fin fin':LI} {rs d:LR} {h:Int->Int} (e:Wf S fin rs) (f:Gy S fin rs h) (k:Img h rs d) (hF:ad2 h fin fin') (t:RT Int):Acc d fin' t ↔ Acc rs fin t:=by
 constructor
 ·rintro⟨c,g,i⟩;obtain⟨s,l,rfl⟩:=(ET e f k t c).1 g;obtain⟨s',m,p⟩:=(hF _).1 i;exact⟨s,l,(f.1 s s' (CQ e l) (e.2.2.2.2.1 s' m) p).2 m⟩
 ·rintro⟨s,g,i⟩;exact⟨h s,(ET e f k t _).2 ⟨s,g,rfl⟩,(hF _).2 ⟨s,i,rfl⟩⟩
end Go.Bk
end
section
namespace Go.Bk
open Go Go.AM
theorem Qk {α:Type} (le:α->α->Bool) (x:α): ∀l:List α,(ins le x l).Perm (x::l)
 | []=>List.Perm.refl _
 |y::l=>by
  unfold ins;cases le x y
  ·rw[cond_false];exact((Qk le x l).cons y).trans (List.Perm.swap x y l)
  ·rw[cond_true]
theorem mP {α:Type} (le:α->α->Bool): ∀l:List α,(He le l).Perm l
 | []=>List.Perm.refl _
 |x::l=>(Qk le x _).trans ((mP le l).cons x)
theorem O1 {α:Type} {le:α->α->Bool} (e: ∀a b,le a b=true\/le b a=true) (tr: ∀a b c,le a b=true->le b c=true->le a c=true) (x:α): ∀l:List α,l.Pairwise (λ a b=>le a b=true)->(ins le x l).Pairwise (λ a b=>le a b=true)
 | [],_=>abR _ _
 |y::l,h=>by
  obtain⟨g,i⟩:=ab4.1 h;unfold ins;cases f:le x y
  ·rw[cond_false,ab4];refine⟨λ z d=> ?_,O1 e tr x l i⟩;rcases aaU.1 ((Qk le x l).mem_iff.1 d)with rfl|d
   ·rcases e z y with h|h
    ·rw[f]at h;cases h
    ·exact h
   ·exact g z d
  ·rw[cond_true,ab4];refine⟨λ z d=> ?_,h⟩;rcases aaU.1 d with rfl|d
   ·exact f
   ·exact tr _ _ _ f (g z d)
theorem qc {α:Type} {le:α->α->Bool} (d: ∀a b,le a b=true\/le b a=true) (tr: ∀a b c,le a b=true->le b c=true->le a c=true): ∀l:List α,(He le l).Pairwise (λ a b=>le a b=true)
 | []=>List.Pairwise.nil
 |x::l=>O1 d tr x _ (qc d tr l)
structure KF {α:Type} (c:α->α->Int):Prop where
 refl: ∀a,c a a=0
 anti: ∀a b,c b a= -c a b
 tr: ∀a b d,c a b<=0->c b d<=0->c a d<=0
 eq: ∀a b,c a b=0->a=b
theorem KF.lt {α:Type} {c:α->α->Int} (h:KF c) {a b d:α} (i:c a b<0) (f:c b d<=0):c a d<0:=by
 have g:=h.tr a b d Ω f;rcases abS g with e|e
 ·exact e
 ·have:=h.eq a d e;subst this;have:=h.anti a b;omega
theorem sQ:KF GK:=by
 have key: ∀a b:Int,(a<b/\GK a b= -1)\/(a=b/\GK a b=0)\/(b<a/\GK a b=1):=by
  intro a b;unfold GK;by_cases g:a<b
  ·simp[g]
  ·by_cases i:b<a
   ·simp[g,i]
   ·have:a=b:=by omega
    simp[this]
 refine⟨λ a=> ?_,λ a b=> ?_,λ a b d g i=> ?_,λ a b h=> ?_⟩
 ·rcases key a a with h|h|h<;>omega
 ·rcases key a b with h|h|h<;>rcases key b a with e|e|e<;>omega
 ·rcases key a b with h|h|h<;>rcases key b d with e|e|e<;>rcases key a d with f|f|f<;>omega
 ·rcases key a b with e|e|e<;>omega
theorem afP {α β γ:Type} [DecidableEq α] {l:α->α->Int} {p:β->β->Int} (q:KF l) (v:KF p) (f:γ->α) (g:γ->β) (z: ∀x y,f x=f y->g x=g y->x=y):KF λ x y:γ=>bif decide (f x=f y)then p (g x) (g y)else l (f x) (f y):=by
 have t: ∀x y,f x=f y->(bif decide (f x=f y)then p (g x) (g y)else l (f x) (f y))=p (g x) (g y):=λ x y h=>by simp[h]
 have n: ∀x y,f x≠f y->(bif decide (f x=f y)then p (g x) (g y)else l (f x) (f y))=l (f x) (f y):=λ x y h=>by simp[h]
 refine⟨λ a=> ?_,λ a b=> ?_,λ a b d u m=> ?_,λ a b h=> ?_⟩
 ·rw[t a a rfl];exact v.refl _
 ·by_cases e:f a=f b
  ·rw[t a b e,t b a e.symm];exact v.anti _ _
  ·rw[n a b e,n b a (Ne.symm e)];exact q.anti _ _
 ·by_cases k:f a=f b
  ·rw[t a b k]at u;by_cases i:f b=f d
   ·rw[t b d i]at m;rw[t a d (k.trans i)];exact v.tr _ _ _ u m
   ·rw[n b d i]at m;rw[n a d (by rw[k];exact i),k];exact m
  ·rw[n a b k]at u;by_cases i:f b=f d
   ·rw[n a d (by rw[←i];exact k),←i];exact u
   ·rw[n b d i]at m
    have A:l (f a) (f b)<0:=by
     rcases abS u with h|h
     ·exact h
     ·exact absurd (q.eq _ _ h) k
    have B:=q.lt A m;have:f a≠f d:=λ e=>by rw[e,q.refl]at B;omega
    rw[n a d this];omega
 ·by_cases e:f a=f b
  ·rw[t a b e]at h;exact z _ _ e (v.eq _ _ h)
  ·rw[n a b e]at h;exact absurd (q.eq _ _ h) e
theorem vH (a b:Int) (l m:LI):cmpL (a::l) (b::m)=bif decide (a=b)then cmpL l m else GK a b:=rfl
theorem GL: ∀l,cmpL l l=0
 | []=>rfl
 |a::l=>by unfold cmpL;simp[GL l]
theorem RP: ∀l m,cmpL m l= -cmpL l m
 | [],[]=>rfl
 | [],_::_=>rfl
 |_::_,[]=>rfl
 |a::l,b::m=>by
  unfold cmpL;by_cases h:a=b
  ·subst h;simp[RP l m]
  ·simp[h,Ne.symm h,sQ.anti a b]
theorem cmpL_eq: ∀l m,cmpL l m=0->l=m
 | [],[],_=>rfl
 | [],_::_,h=>by simp[cmpL]at h
 |_::_,[],h=>by simp[cmpL]at h
 |a::l,b::m,h=>by
  unfold cmpL at h;by_cases e:a=b
  ·subst e;simp at h;rw[cmpL_eq l m h]
  ·simp[e]at h;exact absurd (sQ.eq _ _ h) e
theorem YW: ∀l m k,cmpL l m<=0->cmpL m k<=0->cmpL l k<=0
 | [],[],_,_,h=>h
 | [],_::_,[],_,h=>by simp[cmpL]at h
 | [],_::_,_::_,_,_=>by simp[cmpL]
 |_::_,[],_,h,_=>by simp[cmpL]at h
 |_::_,_::_,[],_,h=>by simp[cmpL]at h
 |a::l,b::m,c::k,f,d=>by
  unfold cmpL at f d ⊢;by_cases i:a=b
  ·subst i;by_cases g:a=c
   ·subst g;simp at f d ⊢;exact YW l m k f d
   ·simp[g]at d ⊢;exact d
  ·simp only[i,decide_false,cond_false]at f;by_cases g:b=c
   ·subst g;simp[i];exact f
   ·simp only[g,decide_false,cond_false]at d
    have p:GK a b<0:=by
     rcases abS f with h|h
     ·exact h
     ·exact absurd (sQ.eq _ _ h) i
    have q:=sQ.lt p d;have:a≠c:=λ e=>by rw[e,sQ.refl]at q;omega
    simp[this];omega
theorem IB:KF cmpL:=⟨GL,RP,YW,cmpL_eq⟩
theorem oM:KF vI:=by
 have f:KF λ x y:Af=>bif decide (x.1=y.1)then GK x.2 y.2 else cmpL x.1 y.1:=afP IB sQ Prod.fst Prod.snd λ x y h d=>ab9 h d;have g:=afP sQ f (Prod.fst:Ru->Int) Prod.snd λ x y h d=>ab9 h d
 have:vI=λ x y:Ru=>bif decide (x.1=y.1)then(bif decide (x.2.1=y.2.1)then GK x.2.2 y.2.2 else cmpL x.2.1 y.2.1)else GK x.1 y.1:=by
  funext x y;unfold vI
  have:decide (cmpL x.2.1 y.2.1=0)=decide (x.2.1=y.2.1):=by
   by_cases h:x.2.1=y.2.1
   ·simp[h,GL]
   ·have:cmpL x.2.1 y.2.1≠0:=λ e=>h (cmpL_eq _ _ e);simp[h,this]
  rw[this]
 rw[this];exact g
theorem agH (p q:Ru):decide (vI p q<=0)=true\/decide (vI q p<=0)=true:=by
 have:=oM.anti p q;simp only[decide_eq_true_eq];omega
theorem aiD (p q r:Ru) (d:decide (vI p q<=0)=true) (e:decide (vI q r<=0)=true):decide (vI p r<=0)=true:=by
 simp only[decide_eq_true_eq]at *;exact oM.tr p q r d e
end Go.Bk
end
noncomputable section
namespace Go.Bk
open Go Go.AM
theorem wrap_small {x:Int} (d: -4611686018427387904<=x) (e:x<=4611686018427387904):IntKind.wrap .i64 x=x:=jX _ Ω Ω
abbrev OrF:Type:=Nat->Int×LI×Int×Int×LI×Int->Option Int
def ai2 (O:OrF):Prop:= ∀x y:Rule,x.2.1.length<=1000->y.2.1.length<=1000->Sp O (x.1,x.2.1,x.2.2,y.1,y.2.1,y.2.2) (λ v=>v=0 ↔ x=y)
def Base (D:LR):Prop:=D.length<=100000/\ ∀r∈D,r.2.1.length<=1000
abbrev Same {α:Type} (x y:List α):Prop:= ∀r,r∈x ↔ r∈y
theorem X9 {O:OrF} (d:ai2 O) (x y:Rule) (e:x.2.1.length<=1000) (f:y.2.1.length<=1000):
 Sp (λ n=>sK.P (O n) n) (x.1,x.2.1,x.2.2,y.1,y.2.1,y.2.2) (λ v=>v=true ↔ x=y):=by
 show Tt (λ n=>sK.P (O n) n (x.1,x.2.1,x.2.2,y.1,y.2.1,y.2.2)) _;unfold sK.P;dsimp only;exact aZ1 (d x y e f) λ v hv=>aZ0 (by rw[decide_eq_true_eq,hv])
theorem Jl {α:Type} {d:List α} {k:Nat} {y z:α} (e:k<d.length):z∈(d.set k y).take (k+1) ↔ z∈d.take k\/z=y:=by
 rw[aat,List.take_set_of_le (aaw k),abe e];simp
theorem kD {α:Type} {d:List α} {k:Nat} {y z:α} (e:d[k]? =some y):z∈d.take (k+1) ↔ z∈d.take k\/z=y:=by
 rw[aat,e];simp
abbrev Wk {α:Type} (R:α->α->Prop) (X:List α):Prop:=X.Pairwise λ a b=>a=b\/R a b
structure Strict {α:Type} (R:α->α->Prop):Prop where
 asym: ∀a b,R a b-> ¬R b a
 tr: ∀a b c,R a b->R b c->R a c
theorem JL {α:Type} {R:α->α->Prop}: ∀{X:List α},X.length<2->X.Pairwise R
 | [],_=>List.Pairwise.nil
 | [a],_=>abR _ _
 |a::b::l,h=>by simp at h;omega
theorem C9 {α:Type} {R:α->α->Prop} (m:Strict R) {X:List α} (W:Wk R X) {k:Nat} (t:k<=X.length) (d: ∀j,j+1<k->X[j]? ≠X[j+1]?):(X.take k).Pairwise R:=by
 have W:=aaN.1 W;refine aaN.2 λ i j p q f=> ?_;simp only[aaE]at p q;rw[abV,abV];have ad: ∀j (h:j+1<k),X[j]' Ω≠X[j+1]' Ω:=λ j h e=>d j h (by rw[aac (show j<X.length by omega),aac (show j+1<X.length by omega),e]);rcases W i j Ω Ω f with h|h
 ·have g:=(W i (i+1) Ω Ω Ω).resolve_left (ad i Ω);by_cases e:i+1=j
  ·subst e;exact g
  ·rcases W (i+1) j Ω Ω Ω with l|l
   ·rw[←l];exact g
   ·exact m.tr _ _ _ g l
 ·exact h
theorem NT {α:Type} {R:α->α->Prop} (A:Strict R) {X d:List α} (W:Wk R X) {p k:Nat} {x y:α} (B:X[p+1]? =some x) (C:X[p]? =some y) (m:x≠y) (q: ∀z,z∈d.take k->z∈X.take (p+1)) (D:k<d.length) (E:(d.take k).Pairwise R):((d.set k x).take (k+1)).Pairwise R:=by
 have e:(d.set k x).take (k+1)=d.take k++[x]:=by
  rw[aat,List.take_set_of_le (aaw k),abe D];rfl
 rw[e,abY];refine⟨E,abR _ _,λ z G b I=> ?_⟩;rw[aah.1 I];have W:=aaN.1 W;obtain⟨j,K,l⟩:=aay (q z G);simp only[aaE]at K;rw[abV]at l;obtain⟨t,u⟩:=aad.1 B;obtain⟨i,f⟩:=aad.1 C
 have g:R y x:=by
  have:=W p (p+1) i t Ω;rw[u,f]at this;exact this.resolve_left λ e=>m e.symm
 by_cases v:j=p
 ·subst v;rw[f]at l;rw[←l];exact g
 ·have:=W j p Ω i Ω;rw[l,f]at this;rcases this with h|h
  ·rw[h];exact g
  ·exact A.tr _ _ _ h g
theorem X6 {R:Rule->Rule->Prop} (hR:Strict R) {O:OrF} (hO:ai2 O) {G:Nat->Al->Option Bool} (hG: ∀x y:Rule,x.2.1.length<=1000->y.2.1.length<=1000->Sp G (x.1,x.2.1,x.2.2,y.1,y.2.1,y.2.2) (λ v=>v=true ↔ x=y))
 {X:LR} (E:Base X):Sp (λ n=>dM.P (G n) n) X (λ r=>Same r X/\r.length<=X.length/\(Wk R X->r.Pairwise R)):=by
 have a9:=E.1;show Tt (λ n=>dM.P (G n) n X) _;unfold dM.P;refine aY4 (λ h=>aZ0 ⟨λ r=>ab7,aaw _,λ _=>JL (by have:=fZ h;omega)⟩) (λ h2=> ?_);have h2:=dec_not h2;refine aZ1 (R:=λ q:Sum (LR) (LR)=> ∃d,(Same d X/\d.length<=X.length/\(Wk R X->d.Pairwise R))/\(q= .inl d\/q= .inr d)) (aZ8 (aX1 (λ s=> ∃k:Nat,1<=k/\k<=X.length/\s=(X,(k:Int))/\ ∀j,j+1<k->X[j]? ≠X[j+1]?) (λ s=>X.length-s.2.toNat) ?_ ⟨1,Ω,Ω,rfl,λ j h=>absurd h Ω⟩)) ?_
 rotate_left
 ·rintro _ ⟨d,hd,(rfl|rfl)⟩
  ·exact aZ0 hd
  ·exact aZ0 hd
 rintro _ ⟨f,a1,a2,rfl,A⟩;unfold dM.L2;dsimp only
 refine aY9 (λ h=> ?_) (λ h=>aZ4 ⟨X,⟨λ r=>ab7,aaw _,λ W=>by
  have:=C9 hR W (k:=f) a2 A
  rwa [show f=X.length by have:=dec_not h;omega,aar]at this⟩,.inl rfl⟩)
 have b4:f<X.length:=by have:=fZ h;omega
 have e1:(f:Int)-1=((f-1:Nat):Int):=by omega
 simp(discharger:=omega) only[wrap_small];rw[e1];refine aZ9 (rng Ω Ω) (aY6 Ω λ x I K=>aZ9 (rng Ω Ω) (aY6 Ω λ y L Z=>aZ7 (hG x y (E.2 x I) (E.2 y L)) λ v hv=>aY9 (λ a3=> ?_) (λ M=> ?_)))
 rotate_left
 ·rw[show(f:Int)+1=((f+1:Nat):Int) by omega];refine aZ2 ⟨⟨f+1,Ω,Ω,rfl,λ j hj e=> ?_⟩,by dsimp only;omega⟩;by_cases ej:j+1=f
  ·have u:X[j+1]? =some x:=by rw[ej];exact K
   have B:X[j]? =some y:=by rw[show j=f-1 by omega];exact Z
   rw[u,B]at e;have e:x=y:=(aak e).symm;rw[hv.2 e]at M;cases M
  ·exact A j Ω e
 have D:=hv.1 a3;subst D
 have N:(decide (0<=(f:Int))&&decide ((f:Int)<=(X.length:Int))&&decide ((X.length:Int)<=(X.length:Int)))=true:=by
  simp only[aae,decide_eq_true_eq];omega
 refine aZ9 N ?_;refine aZ7 (R:=λ t=> ∃(d:LR) (k:Nat),d.length=X.length/\k<=X.length/\Same (d.take k) X/\(Wk R X->(d.take k).Pairwise R)/\t=(d,(k:Int))) (aZ8 (aZ6 (X.length-f-1) (λ i s=> ∃(d:LR) (k:Nat),d.length=X.length/\1<=k/\k<=f+i/\Same (d.take k) (X.take (f+i+1))/\(Wk R X->(d.take k).Pairwise R)/\(∀j,f+i<=j->d[j]? =X[j]?)/\s=(d,(k:Int),(f:Int),(X.length:Int),((i+1:Nat):Int))) ?_ ?_ ?_)) ?_
 ·rintro i _ hi ⟨d,k,m,Q,S,g,l,p,rfl⟩;unfold dM.L1;dsimp only;simp only[aam];simp(discharger:=omega) only[wrap_small];rw[show((i+1:Nat):Int)-1=(i:Int) by omega];simp only[aam];refine aX6 (dY (by simp only[abh,aaE];omega)) (aZ9 (rng Ω Ω) (aY6 Ω λ x I K=>aZ9 (rng Ω Ω) (aY6 Ω λ y L Z=> ?_)));have u:X[f+(i+1)]? =some x:=by rw[←p _ Ω];exact K
  have B:X[f+i]? =some y:=by rw[←p _ Ω];exact Z
  have a4:x∈X:=aai u;have a5:y∈X:=aai B;refine aZ7 (hG x y (E.2 x a4) (E.2 y a5)) λ v hv=> ?_;refine aZ7 (R:=λ t=> ∃(d:LR) (k:Nat),d.length=X.length/\1<=k/\k<=f+(i+1)/\Same (d.take k) (X.take (f+(i+1)+1))/\(Wk R X->(d.take k).Pairwise R)/\(∀j,f+(i+1)<=j->d[j]? =X[j]?)/\t=(d,(k:Int),(f:Int),(X.length:Int),((i+1:Nat):Int))) (aY4 (λ U=> ?_) (λ b7=> ?_)) ?_
  ·refine aX (rng Ω Ω) (aX8 Ω λ x2 _ Y=>aX (rng Ω Ω) (aX8 Ω λ _ _ _=> ?_));have:x2=x:=by rw[K]at Y;exact(aak Y).symm
   subst this;rw[show(k:Int)+1=((k+1:Nat):Int) by omega];refine aZ0 ⟨d.set k x2,k+1,by simp only[aa7];exact m,Ω,Ω,λ z=> ?_,λ W=>NT hR W u B ?_ (λ z hz=>(g z).1 hz) Ω (l W),λ j hj=> ?_,rfl⟩
   ·rw[Jl Ω,kD u,show f+(i+1)=f+i+1 by omega,g z]
   ·intro e;rw[hv.2 e]at U;cases U
   ·rw[aa5 Ω];exact p j Ω
  ·have a6:v=true:=by cases v<;>simp_all
   have D:=hv.1 a6;subst D;refine aZ0 ⟨d,k,m,Q,Ω,λ z=> ?_,l,λ j hj=>p j Ω,rfl⟩;rw[kD u,show f+(i+1)=f+i+1 by omega,g z];constructor
   ·exact .inl
   ·rintro(h|rfl)
    ·exact h
    ·rw[kD B];exact .inr rfl
  ·rintro _ ⟨d,k,m,Q,S,g,l,p,rfl⟩;dsimp only;simp only[aam];rw[ak Ω];exact aZ2 ⟨d,k,m,Q,Ω,g,l,p,rfl⟩
 ·rintro _ ⟨d,k,m,Q,S,g,l,p,rfl⟩;unfold dM.L1;dsimp only;simp only[aam];refine aX9 (by simp only[decide_eq_false_iff_not,abh,aaE];omega) (aZ4 ⟨d,k,m,Ω,?_,l,rfl⟩);rw[show f+(X.length-f-1)+1=X.length by omega,aar]at g;exact g
 ·refine⟨X,f,rfl,a1,Ω,λ z=> ?_,λ W=>C9 hR W Ω A,λ j _=>rfl,by simp only[aam];rfl⟩;rw[kD (k:=f+0) K];constructor
  ·exact .inl
  ·rintro(h|rfl)
   ·exact h
   ·have a7:X[f-1]? =some z:=Z;have:=kD (z:=z) a7;rw[show f-1+1=f by omega]at this;exact this.2 (.inr rfl)
 ·rintro _ ⟨d,k,m,Q,g,l,rfl⟩;dsimp only;simp only[aam]
  have C:List.length (List.append (List.append (List.take k d) (List.replicate (List.length d-k) (((0:Int),([]:LI),(0:Int)):A1_))) (List.drop (List.length d) d))=X.length:=by
   simp only[abA,aaq,aaE,abC,abh];omega
  refine aZ9 (by simp only[aae,decide_eq_true_eq];omega) (aZ9 (by simp only[aae,decide_eq_true_eq];rw[C];omega) (aZ4 ⟨_,⟨?_,?_,?_⟩,.inr rfl⟩))
  rotate_left 1
  ·refine aaP (List.Sublist.length_le (List.drop_sublist _ _)) ?_;rw[aaE,C];omega
  all_goals have e:List.drop (Int.toNat 0) (List.take k (List.append (List.append (List.take k d) (List.replicate (List.length d-k) (((0:Int),([]:LI),(0:Int)):A1_))) (List.drop (List.length d) d)))=List.take k d:=by(simp only[abA,aaD];rw[abE (by simp only[aaE];omega),ab2,Nat.min_self];rfl)
  ·rw[e];exact l
  ·rw[e];exact g
theorem VP {R:Int->Int->Prop} (N:Strict R) {X:LI} (hX:X.length<=1000000):Sp bY.P X (λ r=>Same r X/\r.length<=X.length/\(Wk R X->r.Pairwise R)):=by
 have a2:=hX;show Tt (λ n=>bY.P n X) _;unfold bY.P;refine aY4 (λ h=>aZ0 ⟨λ r=>ab7,aaw _,λ _=>JL (by have:=fZ h;omega)⟩) (λ h2=> ?_);have h2:=dec_not h2;refine aZ1 (R:=λ q:Sum LI LI=> ∃d,(Same d X/\d.length<=X.length/\(Wk R X->d.Pairwise R))/\(q= .inl d\/q= .inr d)) (aZ8 (aX1 (λ s=> ∃k:Nat,1<=k/\k<=X.length/\s=(X,(k:Int))/\ ∀j,j+1<k->X[j]? ≠X[j+1]?) (λ s=>X.length-s.2.toNat) ?_ ⟨1,Ω,Ω,rfl,λ j h=>absurd h Ω⟩)) ?_
 rotate_left
 ·rintro _ ⟨d,hd,(rfl|rfl)⟩
  ·exact aZ0 hd
  ·exact aZ0 hd
 rintro _ ⟨f,O,Q,rfl,v⟩;unfold bY.L2;dsimp only
 refine aY9 (λ h=> ?_) (λ h=>aZ4 ⟨X,⟨λ r=>ab7,aaw _,λ W=>by
  have:=C9 N W (k:=f) Q v
  rwa [show f=X.length by have:=dec_not h;omega,aar]at this⟩,.inl rfl⟩)
 have a8:f<X.length:=by have:=fZ h;omega
 have e1:(f:Int)-1=((f-1:Nat):Int):=by omega
 simp(discharger:=omega) only[wrap_small];rw[e1];refine aZ9 (rng Ω Ω) (aY6 Ω λ x S D=>aZ9 (rng Ω Ω) (aY6 Ω λ y U M=>aY9 (λ Y=> ?_) (λ Z=> ?_)))
 rotate_left
 ·rw[show(f:Int)+1=((f+1:Nat):Int) by omega];refine aZ2 ⟨⟨f+1,Ω,Ω,rfl,λ j hj e=> ?_⟩,by dsimp only;omega⟩;by_cases ej:j+1=f
  ·have u:X[j+1]? =some x:=by rw[ej];exact D
   have A:X[j]? =some y:=by rw[show j=f-1 by omega];exact M
   rw[u,A]at e;have e:x=y:=(aak e).symm;exact absurd e (dec_not Z)
  ·exact v j Ω e
 have C:=fZ Y;subst C
 have E:(decide (0<=(f:Int))&&decide ((f:Int)<=(X.length:Int))&&decide ((X.length:Int)<=(X.length:Int)))=true:=by
  simp only[aae,decide_eq_true_eq];omega
 refine aZ9 E ?_;refine aZ7 (R:=λ t=> ∃(d:LI) (k:Nat),d.length=X.length/\k<=X.length/\Same (d.take k) X/\(Wk R X->(d.take k).Pairwise R)/\t=(d,(k:Int))) (aZ8 (aZ6 (X.length-f-1) (λ i s=> ∃(d:LI) (k:Nat),d.length=X.length/\1<=k/\k<=f+i/\Same (d.take k) (X.take (f+i+1))/\(Wk R X->(d.take k).Pairwise R)/\(∀j,f+i<=j->d[j]? =X[j]?)/\s=(d,(k:Int),(f:Int),(X.length:Int),((i+1:Nat):Int))) ?_ ?_ ?_)) ?_
 ·rintro i _ hi ⟨d,k,m,G,I,g,l,p,rfl⟩;unfold bY.L1;dsimp only;simp only[aam];simp(discharger:=omega) only[wrap_small];rw[show((i+1:Nat):Int)-1=(i:Int) by omega];simp only[aam];refine aX6 (dY (by simp only[abh,aaE];omega)) (aZ9 (rng Ω Ω) (aY6 Ω λ x S D=>aZ9 (rng Ω Ω) (aY6 Ω λ y U M=> ?_)));have u:X[f+(i+1)]? =some x:=by rw[←p _ Ω];exact D
  have A:X[f+i]? =some y:=by rw[←p _ Ω];exact M
  have b1:x∈X:=aai u;have b2:y∈X:=aai A;refine aZ7 (R:=λ t=> ∃(d:LI) (k:Nat),d.length=X.length/\1<=k/\k<=f+(i+1)/\Same (d.take k) (X.take (f+(i+1)+1))/\(Wk R X->(d.take k).Pairwise R)/\(∀j,f+(i+1)<=j->d[j]? =X[j]?)/\t=(d,(k:Int),(f:Int),(X.length:Int),((i+1:Nat):Int))) (aY4 (λ K=> ?_) (λ a0=> ?_)) ?_
  ·refine aX (rng Ω Ω) (aX8 Ω λ x2 _ L=>aX (rng Ω Ω) (aX8 Ω λ _ _ _=> ?_));have:x2=x:=by rw[D]at L;exact(aak L).symm
   subst this;rw[show(k:Int)+1=((k+1:Nat):Int) by omega];refine aZ0 ⟨d.set k x2,k+1,by simp only[aa7];exact m,Ω,Ω,λ z=> ?_,λ W=>NT N W u A ?_ (λ z hz=>(g z).1 hz) Ω (l W),λ j hj=> ?_,rfl⟩
   ·rw[Jl Ω,kD u,show f+(i+1)=f+i+1 by omega,g z]
   ·intro e;rw[e]at K;simp at K
   ·rw[aa5 Ω];exact p j Ω
  ·have C:x=y:=by simpa using a0
   subst C;refine aZ0 ⟨d,k,m,G,Ω,λ z=> ?_,l,λ j hj=>p j Ω,rfl⟩;rw[kD u,show f+(i+1)=f+i+1 by omega,g z];constructor
   ·exact .inl
   ·rintro(h|rfl)
    ·exact h
    ·rw[kD A];exact .inr rfl
  ·rintro _ ⟨d,k,m,G,I,g,l,p,rfl⟩;dsimp only;simp only[aam];rw[ak Ω];exact aZ2 ⟨d,k,m,G,Ω,g,l,p,rfl⟩
 ·rintro _ ⟨d,k,m,G,I,g,l,p,rfl⟩;unfold bY.L1;dsimp only;simp only[aam];refine aX9 (by simp only[decide_eq_false_iff_not,abh,aaE];omega) (aZ4 ⟨d,k,m,Ω,?_,l,rfl⟩);rw[show f+(X.length-f-1)+1=X.length by omega,aar]at g;exact g
 ·refine⟨X,f,rfl,O,Ω,λ z=> ?_,λ W=>C9 N W Ω v,λ j _=>rfl,by simp only[aam];rfl⟩;rw[kD (k:=f+0) D];constructor
  ·exact .inl
  ·rintro(h|rfl)
   ·exact h
   ·have a1:X[f-1]? =some z:=M;have:=kD (z:=z) a1;rw[show f-1+1=f by omega]at this;exact this.2 (.inr rfl)
 ·rintro _ ⟨d,k,m,G,g,l,rfl⟩;dsimp only;simp only[aam]
  have B:List.length (List.append (List.append (List.take k d) (List.replicate (List.length d-k) ((0:Int):Int))) (List.drop (List.length d) d))=X.length:=by
   simp only[abA,aaq,aaE,abC,abh];omega
  refine aZ9 (by simp only[aae,decide_eq_true_eq];omega) (aZ9 (by simp only[aae,decide_eq_true_eq];rw[B];omega) (aZ4 ⟨_,⟨?_,?_,?_⟩,.inr rfl⟩))
  rotate_left 1
  ·refine aaP (List.Sublist.length_le (List.drop_sublist _ _)) ?_;rw[aaE,B];omega
  all_goals have e:List.drop (Int.toNat 0) (List.take k (List.append (List.append (List.take k d) (List.replicate (List.length d-k) ((0:Int):Int))) (List.drop (List.length d) d)))=List.take k d:=by(simp only[abA,aaD];rw[abE (by simp only[aaE];omega),ab2,Nat.min_self];rfl)
  ·rw[e];exact l
  ·rw[e];exact g
theorem Xg (z:Int):Sp (λ n=>cmp_isNaN_int.P n) z (λ r=>r=false):=⟨_,rfl,.all λ n=>by simp only[cmp_isNaN_int.P,decide_true,abm]⟩
theorem afR {N:Nat->Int->Option Bool} (e: ∀z,Sp N z (λ r=>r=false)) (x y:Int):Sp (λ n=>cmp_Compare_int.P (N n) n) (x,y) (λ v=>v=GK x y):=by
 show Tt (λ n=>cmp_Compare_int.P (N n) n (x,y)) _;unfold cmp_Compare_int.P GK;refine aZ1 (e _) ?_;rintro _ rfl;refine aZ1 (e _) ?_;rintro _ rfl;refine aW rfl (aW rfl (aY4 (λ h=> ?_) (λ h=>aY4 (λ d=> ?_) (λ d=> ?_))))
 ·have h:decide (x<y)=true:=h;exact aZ0 (by rw[h];rfl)
 ·have h:decide (x<y)=false:=h;have d:decide (y<x)=true:=d;exact aZ0 (by rw[h,d];rfl)
 ·have h:decide (x<y)=false:=h;have d:decide (y<x)=false:=d;exact aZ0 (by rw[h,d];rfl)
theorem NK {C:Nat->Ac->Option Int} (t: ∀x y,Sp C (x,y) (λ v=>v=GK x y)) (d f:LI) (u:d.length<=1000):
 Sp (λ n=>dI.P (C n) n) (d,f) (λ v=>v=cmpL d f):=by
 show Tt (λ n=>dI.P (C n) n (d,f)) _;unfold dI.P;dsimp only;refine aZ1 (R:=λ q:Sum Au Int=>(q= .inl (d,f)/\cmpL [] (f.drop d.length)=cmpL d f)\/q= .inr (cmpL d f)) (aZ8 (aZ6 d.length (λ i s=>s=(d,f,d,(d.length:Int),(i:Int))/\cmpL (d.drop i) (f.drop i)=cmpL d f) ?_ ?_ ⟨rfl,rfl⟩)) ?_
 ·rintro i _ m ⟨rfl,g⟩;unfold dI.L1;dsimp only;rw[aaI m]at g;refine aY1 Ω (aY m ?_);refine aY9 (λ h=> ?_) (λ h=> ?_)
  ·have h:=fZ h;rw[List.drop_eq_nil_of_le (as:=f) Ω]at g;exact aZ4 (.inr (by rw[←g];rfl))
  ·have h:=dec_not h;have k:i<f.length:=by omega
   rw[aaI k,vH]at g;refine aY k (aZ7 (t _ _) λ v hv=>aY9 (λ h=> ?_) (λ h=> ?_))
   ·have l:v≠0:=by simpa using h
    have:d[i]≠f[i]:=λ e=>l (by rw[hv,e,sQ.refl]);exact aZ4 (.inr (by rw[←g,hv];simp[this]))
   ·have p:v=0:=by simpa using h
    rw[hv]at p;rw[ak Ω];refine aZ2 ⟨rfl,?_⟩;rw[←g];simp[sQ.eq _ _ p]
 ·rintro _ ⟨rfl,g⟩;unfold dI.L1;dsimp only;rw[acV]at g;exact aX9 (by simp only[decide_eq_false_iff_not];omega) (aZ4 (.inl ⟨rfl,g⟩))
 ·rintro _ (⟨rfl,g⟩|rfl)
  ·dsimp only;refine aY4 (λ h=> ?_) (λ h=> ?_)
   ·have h:=fZ h;rw[aaI Ω]at g;exact aZ0 (by rw[←g];rfl)
   ·have h:=dec_not h;rw[List.drop_eq_nil_of_le (as:=f) Ω]at g;exact aZ0 (by rw[←g];rfl)
  ·exact aZ0 rfl
def orz:LI->Int
 | []=>0
 |a::l=>bif decide (a=0)then orz l else a
theorem afS (d:LI) (m:d.length<=1000):Sp (λ n=>oC.P n) d (λ v=>v=orz d):=by
 show Tt (λ n=>oC.P n d) _;unfold oC.P;refine aZ1 (R:=λ q:Sum Int Int=>q= .inl (orz d)\/q= .inr (orz d)) (aZ8 (aZ6 d.length (λ i s=>s=((0:Int),d,(d.length:Int),(i:Int))/\orz (d.drop i)=orz d) ?_ ?_ ⟨rfl,rfl⟩)) ?_
 ·rintro i _ g ⟨rfl,e⟩;unfold oC.L1;dsimp only;rw[aaI g,show∀a l,orz (a::l)=bif decide (a=0)then orz l else a from λ _ _=>rfl]at e;refine aY1 Ω (aY g (aY9 (λ h=> ?_) (λ h=> ?_)))
  ·have f:d[i]≠0:=by simpa using h
   exact aZ4 (.inr (by rw[←e];simp[f]))
  ·have k:d[i]=0:=by simpa using h
   rw[ak Ω];exact aZ2 ⟨rfl,by rw[←e];simp[k]⟩
 ·rintro _ ⟨rfl,e⟩;unfold oC.L1;dsimp only;rw[acV]at e;exact aX9 (by simp only[decide_eq_false_iff_not];omega) (aZ4 (.inl (by rw[←e];rfl)))
 ·rintro _ (rfl|rfl)<;>exact aZ0 rfl
theorem Ti {C:Nat->Ac->Option Int} {f:Nat->LI->Option Int} {S:Nat->Au->Option Int}
 (m: ∀x y,Sp C (x,y) (λ v=>v=GK x y)) (g: ∀d:LI,d.length<=1000->Sp f d (λ v=>v=orz d))
 (D: ∀d p:LI,d.length<=1000->Sp S (d,p) (λ v=>v=cmpL d p)) (x y:Rule) (E:x.2.1.length<=1000):Sp (λ n=>xg.P (C n) (f n) (S n) n) (x.1,x.2.1,x.2.2,y.1,y.2.1,y.2.2) (λ v=>v=vI x y):=by
 obtain⟨i,q,t⟩:=x;obtain⟨k,u,z⟩:=y;show Tt (λ n=>xg.P (C n) (f n) (S n) n (i,q,t,k,u,z)) _;unfold xg.P;dsimp only;refine aZ1 (m _ _) λ L G=>aZ1 (D _ _ E) λ M I=>aZ1 (m _ _) λ N K=>aZ1 (g _ Θ) λ v hv=>aZ0 ?_;subst G I K;rw[hv];unfold vI;dsimp only;by_cases l:i=k
 ·subst l;simp only[orz,sQ.refl,decide_true,cond_true];by_cases A:cmpL q u=0
  ·simp only[A,decide_true,cond_true];by_cases B:GK t z=0
   ·simp[B]
   ·simp[B]
  ·simp[A]
 ·have:GK i k≠0:=λ e=>l (sQ.eq _ _ e);simp[orz,this,l]
theorem Z9 {O:OrF} (h: ∀x y:Rule,x.2.1.length<=1000->Sp O (x.1,x.2.1,x.2.2,y.1,y.2.1,y.2.2) (λ v=>v=vI x y)):ai2 O:=λ x y d _=>
 (h x y d).mono λ v hv=>⟨λ e=>oM.eq _ _ (by rw[←hv,e]),λ e=>by rw[hv,e,oM.refl]⟩
theorem adD:Strict λ a b:Int=>a<b:=⟨λ a b d e=>Ω,λ a b c d e=>Ω⟩
theorem Gv:Strict λ a b:Rule=>vI a b<0:=⟨λ a b d e=>by have:=oM.anti a b;omega,λ a b c d e=>oM.lt d Ω⟩
theorem adt {d e:Nat->LR->Option (LR)} (k:af7 d) (l: ∀X,Base X->Sp e X (λ r=>Same r X/\r.length<=X.length/\(Wk (λ a b=>vI a b<0) X->r.Pairwise λ a b=>vI a b<0))):ad7 (λ n=>xw.P (e n) (d n) n):=λ x m g=>by
 show Tt (λ n=>xw.P (e n) (d n) n x) _;unfold xw.P;refine aZ1 (k x m g) λ y f=>aZ1 (l y ⟨Ω,λ r h=>by have:=g r ((f.2.1 r).1 h);omega⟩) λ z i=>aZ0 ⟨Ω,λ r=>(i.1 r).trans (f.2.1 r),i.2.2 (f.2.2.imp λ{a b} h=> ?_)⟩;rcases abS h with h|h
 ·exact .inr h
 ·exact .inl (oM.eq a b h)
abbrev SortI (F:Nat->LI->Option LI):Prop:= ∀x:LI,x.length<=1000000->Sp F x (λ r=>r.length=x.length/\(∀y,y∈r ↔ y∈x)/\r.Pairwise λ a b=>a<=b)
abbrev ahU (F:Nat->LI->Option LI):Prop:= ∀x:LI,x.length<=1000000->Sp F x (λ r=>Same r x/\r.length<=x.length/\(Wk (λ a b:Int=>a<b) x->r.Pairwise λ a b=>a<b))
theorem Vj {l:LI} {s S:Int} (e:l.length=S.toNat) (h:bg S s):nth? l s=some (iat l s):=by
 have d:s.toNat<l.length:=by have:=h.1;have:=h.2;omega
 rw[Cm h.1 (by have:=h.1;have:=h.2;omega),tJ d]
theorem adz {So:Nat->LR->Option (LR)} {y z:Nat->LI->Option LI} (A:ad7 So) (B:ahU y) (C:SortI z) (S:Int) (fin:LI) (rs:LR) (M:Wf S fin rs) (m:Int) (to:LI) (e:to.length=S.toNat):
 Sp (λ n=>fO.P (So n) (y n) (z n) n) (S,fin,rs,m,to) (λ a=>a.1=m/\ad2 (iat to) fin a.2.1/\Img (iat to) rs a.2.2/\a.2.1.length<=fin.length/\a.2.2.length<=rs.length/\(a.2.1.Pairwise λ a b=>a<b)/\a.2.2.Pairwise λ a b=>vI a b<0):=by
 obtain⟨Y,Z,N,O,l,K⟩:=M;show Tt (λ n=>fO.P (So n) (y n) (z n) n (S,fin,rs,m,to)) _;unfold fO.P;dsimp only
 refine aZ1 (R:=λ t=>t=(to,S,fin,rs,(0:Int),([]:LI),([]:LR),m,fin.map (iat to),([]:LR)))
  (aZ8 (L:=λ n=>fO.L1) (aZ6 fin.length (λ i t=>t=(to,S,fin,rs,(0:Int),([]:LI),([]:LR),m,(fin.take i).map (iat to),([]:LR),fin,(fin.length:Int),(i:Int))) ?_ ?_ rfl)) ?_
 ·rintro i t f rfl;unfold fO.L1;dsimp only;refine aY1 Ω (aY f ?_);rw[Vj e (l _ (aaf f))];refine aZ3 (aZ9 (jK Δ) (aZ2 ?_));rw[ak Ω,aat,aac f,abt];rfl
 ·rintro t rfl;unfold fO.L1;dsimp only;rw[aar];exact aY3 Ω (aZ4 rfl)
 rintro _ rfl;dsimp only;refine aZ1 (C _ Δ) λ Q g=> ?_;rw[aaH]at g;refine aZ1 (B Q Ω) λ v p=> ?_
 refine aZ1 (R:=λ t=>t=((0:Int),([]:LI),([]:LR),m,v,rs.map λ r=>(r.1,r.2.1.map (iat to),iat to r.2.2)))
  (aZ8 (L:=λ n=>fO.L3 n) (aZ6 rs.length (λ i t=>t=(to,(0:Int),([]:LI),([]:LR),m,v,(rs.take i).map (λ r=>(r.1,r.2.1.map (iat to),iat to r.2.2)),rs,(rs.length:Int),(i:Int))) ?_ ?_ rfl)) ?_
 ·rintro i t f rfl;unfold fO.L3;dsimp only;obtain⟨u,D,U⟩:=K rs[i] (aaf f);refine aY1 Ω (aY f ?_);rw[Vj e u]
  refine aZ3 (aZ7 (R:=λ t=>t=(to,(0:Int),([]:LI),([]:LR),m,v,(rs.take i).map (λ r=>(r.1,r.2.1.map (iat to),iat to r.2.2)),rs[i].1,rs[i].2.1.map (iat to),iat to rs[i].2.2,rs,(rs.length:Int),(i:Int)))
   (aZ8 (L:=λ n=>fO.L2) (aZ6 rs[i].2.1.length (λ j t=>t=(to,(0:Int),([]:LI),([]:LR),m,v,(rs.take i).map (λ r=>(r.1,r.2.1.map (iat to),iat to r.2.2)),rs[i].1,(rs[i].2.1.take j).map (iat to),iat to rs[i].2.2,rs,(rs.length:Int),(i:Int),rs[i].2.1,((rs[i].2.1.length:Nat):Int),(j:Int))) ?_ ?_ rfl)) ?_)
  ·rintro j t E rfl;unfold fO.L2;dsimp only;refine aY1 Ω (aY E ?_);rw[Vj e (D _ (aaf E))];refine aZ3 (aZ9 (jK Δ) (aZ2 ?_));rw[ak Ω,aat,aac E,abt];rfl
  ·rintro t rfl;unfold fO.L2;dsimp only;rw[aar];exact aY3 Ω (aZ4 rfl)
  ·rintro _ rfl;dsimp only;refine aZ9 (jK Δ) (aZ2 ?_);rw[ak Ω,aat,aac f,abt];rfl
 ·rintro t rfl;unfold fO.L3;dsimp only;rw[aar];exact aY3 Ω (aZ4 rfl)
 rintro _ rfl;dsimp only;refine aZ1 (A _ Δ λ W G=> ?_) λ out I=>aZ0 ⟨rfl,λ q=> ?_,λ W=> ?_,by dsimp only;omega,by have:=I.1;rw[aaH]at this;exact this,p.2.2 (g.2.2.imp λ{a b} h=> ?_),I.2.2⟩
 ·obtain⟨r,d,rfl⟩:=aaC.1 G;simpa using(K r d).2.2
 ·rw[p.1,g.2.1,aaC];exact⟨λ⟨s,d,k⟩=>⟨s,d,k.symm⟩,λ⟨s,d,k⟩=>⟨s,d,k.symm⟩⟩
 ·rw[I.2.1,aaC];exact⟨λ⟨s,d,k⟩=>⟨s,d,k.symm⟩,λ⟨s,d,k⟩=>⟨s,d,k.symm⟩⟩
 ·rcases abS h with h|h
  ·exact .inr h
  ·exact .inl h
def Lbl {σ d A τ:Type} (L:(d->Option τ)->σ->(σ->Option (Sum A τ))->Option (Sum A τ)) (s:σ) (Q:A->Prop) (I:d->Prop):Prop:=
 (∃v,Q v/\ ∃N,∀m,N<=m-> ∀k,bH (L k) m s=some (Sum.inl v))\/(∃s',I s'/\ ∃N,∀m,N<=m-> ∀k,bH (L k) m s=(k s').bind λ r=>some (Sum.inr r))
theorem Lbl.count {σ f A τ:Type} {L:(f->Option τ)->σ->(σ->Option (Sum A τ))->Option (Sum A τ)} {Q:A->Prop} {I:f->Prop} (len:Nat) (J:Nat->σ->Prop)
 (hs: ∀i s,i<len->J i s->(∃g,J (i+1) g/\ ∀k r,L k s r=r g)\/(∃s',I s'/\ ∀k r,L k s r=(k s').bind λ r=>some (Sum.inr r)))
 (u: ∀s,J len s-> ∃v,Q v/\ ∀k r,L k s r=some (Sum.inl v)) {s:σ} (h:J 0 s):Lbl L s Q I:=by
 have key: ∀d i s,i+d=len->J i s->Lbl L s Q I:=by
  intro d
  induction d with
  |zero=>
   intro i s y h;obtain rfl:i=len:=by omega
   obtain⟨v,hv,e⟩:=u s h
   exact .inl ⟨v,hv,1,λ m l k=>by
    obtain⟨m,rfl⟩: ∃j,m=j+1:=⟨m-1,Ω⟩;exact e k _⟩
  |succ d z=>
   intro i s y h;rcases hs i s Ω h with⟨g,p,e⟩|⟨s',p,e⟩
   ·rcases z (i+1) g Ω p with⟨v,hv,N,q⟩|⟨s',t,N,q⟩
    ·exact .inl ⟨v,hv,N+1,λ m l k=>by
      obtain⟨m,rfl⟩: ∃j,m=j+1:=⟨m-1,Ω⟩;exact(e k _).trans (q m Ω k)⟩
    ·exact .inr ⟨s',t,N+1,λ m l k=>by
      obtain⟨m,rfl⟩: ∃j,m=j+1:=⟨m-1,Ω⟩;exact(e k _).trans (q m Ω k)⟩
   ·exact .inr ⟨s',p,1,λ m l k=>by
     obtain⟨m,rfl⟩: ∃j,m=j+1:=⟨m-1,Ω⟩;exact e k _⟩
 exact key len 0 s Ω h
theorem Bd.label {σ d A τ:Type} {L:(d->Option τ)->σ->(σ->Option (Sum A τ))->Option (Sum A τ)} {s:σ} {Q:A->Prop} {I I0:d->Prop} {R:τ->Prop} {H:Nat->(d->Option τ)->Sum A τ->Option τ} (h:Lbl L s Q I0) (m: ∀v,Q v->Bd (λ n k=>H n k (Sum.inl v)) I R) (p: ∀s',I0 s'->I s')
 (q: ∀n k r,H n k (Sum.inr r)=some r):Bd (λ n k=>(bH (L k) n s).bind (H n k)) I R:=by
 rcases h with⟨v,hv,N,e⟩|⟨s',f,N,e⟩
 ·rcases m v hv with⟨u,g,M,i⟩|⟨t,g,M,i⟩
  ·exact .inl ⟨u,g,max N M,λ n l k=>by
    show(bH (L k) n s).bind _=_;rw[e n Ω k];exact i n Ω k⟩
  ·exact .inr ⟨t,g,max N M,λ n l k=>by
    show(bH (L k) n s).bind _=_;rw[e n Ω k];exact i n Ω k⟩
 ·exact .inl ⟨s',p s' f,N,λ n l k=>by
   show(bH (L k) n s).bind _=_;rw[e n l k]
   cases k s' with
   |none=>rfl
   |some r=>exact q n k r⟩
def ai3 (S:Int) (num:LI) (m:Int):Prop:=
 num.length=S.toNat/\0<=m/\(∀v∈num,-1<=v/\v<m)/\(∀s t,bg S s->bg S t->0<=iat num s->iat num s=iat num t->s=t)/\(num.countP (λ v=>decide (0<=v)):Int)=m
theorem count_set {l:LI} {i:Nat} {v:Int} (h:i<l.length) (d:l[i]<0) (hv:0<=v):(l.set i v).countP (λ v=>decide (0<=v))=l.countP (λ v=>decide (0<=v))+1:=by
 rw[List.countP_set h];simp only[hv,decide_true,if_true];rw[decide_eq_false (show¬0<=l[i] by omega)];simp
theorem IL {l:LI} {s t v:Int} (h:s.toNat<l.length) (hs:0<=s) (d:0<=t):iat (l.set s.toNat v) t=if t=s then v else iat l t:=by
 unfold iat;rw[aaR];by_cases e:t=s
 ·subst e;rw[if_pos rfl,if_pos h,if_pos rfl];rfl
 ·rw[if_neg Ω,if_neg e]
theorem Xv {a b t u:Int} {f g:LI} (h:vI (a,f,t) (b,g,u)<=0):vI (a,f,0) (b,g,0)<=0:=by
 unfold vI at h ⊢;dsimp only at h ⊢;by_cases e:a=b
 ·simp only[e,decide_true,cond_true]at h ⊢;by_cases d:cmpL f g=0
  ·simp only[d,decide_true,cond_true];exact Int.le_of_eq (sQ.refl 0)
  ·simp only[d,decide_false,cond_false]at h ⊢;exact h
 ·simp only[e,decide_false,cond_false]at h ⊢;exact h
def akA (rs:LR) (ν:Int->Int) (c:Int) (d:Nat->Nat):Prop:= ∀n:Nat,(n:Int)<c->
 (d n<=n/\ ∃r∈rs,ν r.2.2=n/\(∀x∈r.2.1,0<=ν x/\ν x<d n)/\ ∀e∈rs,(∀x∈e.2.1,0<=ν x/\ν x<d n)->(ν e.2.2<0\/n<=ν e.2.2)->vI (r.1,r.2.1.map ν,0) (e.1,e.2.1.map ν,0)<=0)/\
 ((n:Int)+1<c->d (n+1)=d n\/d (n+1)=n+1/\ ∀r∈rs,(∀x∈r.2.1,0<=ν x/\ν x<d n)->0<=ν r.2.2/\ν r.2.2<=n)
def RnI (rs:LR) (num:LI) (m:Int):Prop:= ∃d:Nat->Nat,d 0=0/\akA rs (iat num) m d/\ ∀n:Nat,(n:Int)+1=m-> ∀r∈rs,(∀x∈r.2.1,0<=iat num x/\iat num x<d n)->0<=iat num r.2.2
def ajd (S:Int) (num num':LI) (m:Int):Prop:= ∀s,bg S s->(0<=iat num s->iat num' s=iat num s)/\(iat num s<0->iat num' s<0\/m<=iat num' s)
theorem Pn {S:Int} {rs:LR} {num num':LI} {m D:Int} (g: ∀r∈rs,bg S r.2.2/\ ∀q∈r.2.1,bg S q) (h0:0<=m) (N:m<D) (E: ∀s,bg S s->iat num s<m) (O:RnI rs num m) (L:ajd S num num' m)
 (Q: ∀n:Nat,m<=(n:Int)->(n:Int)<D-> ∃r∈rs,iat num' r.2.2=n/\(∀x∈r.2.1,0<=iat num x)/\ ∀d∈rs,iat num d.2.2<0->(∀x∈d.2.1,0<=iat num x)->(iat num' d.2.2<0\/n<=iat num' d.2.2)->vI (r.1,r.2.1.map (iat num),0) (d.1,d.2.1.map (iat num),0)<=0)
 (R: ∀r∈rs,iat num r.2.2<0->(∀x∈r.2.1,0<=iat num x)->0<=iat num' r.2.2):RnI rs num' D:=by
 obtain⟨y,U,W,Y⟩:=O
 have old: ∀s,bg S s-> ∀b:Int,b<=m->(0<=iat num' s/\iat num' s<b)->0<=iat num s/\iat num s<b/\iat num' s=iat num s:=λ s hs b Z h=>by
  obtain⟨g1,g2⟩:=L s hs;rcases acs (iat num s) 0 with C|C
  ·have:=g2 C;omega
  ·have:=g1 C;exact⟨C,Ω,this⟩
 have new: ∀s,bg S s->0<=iat num s->iat num' s=iat num s:=λ s hs h=>(L s hs).1 h;have mp: ∀r∈rs,(∀x∈r.2.1,0<=iat num x)->r.2.1.map (iat num')=r.2.1.map (iat num):=λ r G h=>acj λ x e=>new x ((g r G).2 x e) (h x e);refine⟨λ n=>if n<m.toNat then y n else m.toNat,?_,λ n M=> ?_,λ n M r p e=> ?_⟩
 ·dsimp only;split
  ·exact U
  ·omega
 ·by_cases k:n<m.toNat
  ·obtain⟨⟨c1,r,l,I,v,K⟩,c2⟩:=W n Ω;simp only[k,if_true];refine⟨⟨c1,r,l,by rw[new _ (g r l).1 Ω];exact I,λ x e=> ?_,λ d f t i=> ?_⟩,λ a3=> ?_⟩
   ·rw[new x ((g r l).2 x e) (v x e).1];exact v x e
   ·have u: ∀x∈d.2.1,0<=iat num x/\iat num x<y n:=λ x e=>by
     have:=old x ((g d f).2 x e) (y n) Ω (t x e);exact⟨this.1,this.2.1⟩
    rw[mp r l λ x e=>(v x e).1,mp d f λ x e=>(u x e).1];refine K d f u ?_;rcases acs (iat num d.2.2) 0 with h|h
    ·exact .inl h
    ·rw[new _ (g d f).1 h]at i;exact i
   ·by_cases z:n+1<m.toNat
    ·simp only[z,if_true];rcases c2 Ω with h|⟨h,h'⟩
     ·exact .inl h
     ·refine .inr ⟨h,λ d f t=> ?_⟩
      have i:=h' d f λ x e=>by
       have:=old x ((g d f).2 x e) (y n) Ω (t x e);exact⟨this.1,this.2.1⟩
      rw[new _ (g d f).1 i.1];exact i
    ·simp only[z,if_false];refine .inr ⟨Ω,λ d f t=> ?_⟩
     have i:=Y n Ω d f λ x e=>by
      have:=old x ((g d f).2 x e) (y n) Ω (t x e);exact⟨this.1,this.2.1⟩
     have:=E _ (g d f).1;rw[new _ (g d f).1 i];exact⟨i,Ω⟩
  ·have A: ¬n+1<m.toNat:=by omega
   simp only[k,A,if_false];obtain⟨r,l,I,v,K⟩:=Q n Ω M;refine⟨⟨Ω,r,l,I,λ x e=> ?_,λ d f t i=> ?_⟩,λ _=>by first|exact .inl rfl|exact .inl trivial⟩
   ·have:=E x ((g r l).2 x e);have h:=v x e;rw[new x ((g r l).2 x e) h];exact⟨h,Ω⟩
   ·have u: ∀x∈d.2.1,0<=iat num x:=λ x e=>(old x ((g d f).2 x e) m.toNat Ω (t x e)).1;rw[mp r l v,mp d f u];refine K d f ?_ u i;rcases acs (iat num d.2.2) 0 with h|h
    ·exact h
    ·have:=new _ (g d f).1 h;have:=E _ (g d f).1;omega
 ·have k: ¬n<m.toNat:=by omega
  simp only[k,if_false]at e;have u: ∀x∈r.2.1,0<=iat num x:=λ x B=>(old x ((g r p).2 x B) m.toNat Ω (e x B)).1;rcases acs (iat num r.2.2) 0 with h|h
  ·exact R r p h u
  ·rw[new _ (g r p).1 h];exact h
def LIn (num:LI) (rs l:LR):Prop:= ∀d,d∈l ↔ ∃r∈rs,iat num r.2.2<0/\(∀s∈r.2.1,0<=iat num s)/\d=(r.1,r.2.1.map (iat num),r.2.2)
theorem LIn.skip {num:LI} {rs l:LR} {i:Nat} (g:i<rs.length) (h:LIn num (rs.take i) l) (k: ¬(iat num rs[i].2.2<0/\ ∀s∈rs[i].2.1,0<=iat num s)):LIn num (rs.take (i+1)) l:=by
 intro m;rw[h m,aat,aac g];constructor
 ·rintro⟨r,d,e⟩;exact⟨r,aaF _ d,e⟩
 ·rintro⟨r,d,e,f,p⟩;rcases aap.1 d with d|d
  ·exact⟨r,d,e,f,p⟩
  ·simp only[aaQ,aah]at d;subst d;exact absurd ⟨e,f⟩ k
theorem LIn.main {num:LI} {rs l:LR} {i:Nat} (k:i<rs.length) (h:LIn num (rs.take i) l) (e:iat num rs[i].2.2<0) (f: ∀s∈rs[i].2.1,0<=iat num s):LIn num (rs.take (i+1)) (l++[(rs[i].1,rs[i].2.1.map (iat num),rs[i].2.2)]):=by
 intro m;rw[aap,h m,aat,aac k,aah];constructor
 ·rintro(⟨r,d,e⟩|rfl)
  ·exact⟨r,aaF _ d,e⟩
  ·exact⟨rs[i],aa4 _ Θ,e,f,rfl⟩
 ·rintro⟨r,d,e,f,g⟩;rcases aap.1 d with d|d
  ·exact .inl ⟨r,d,e,f,g⟩
  ·simp only[aaQ,aah]at d;subst d;exact .inr g
def af5 (S:Int) (rs:LR) (num:LI):Prop:=
 num.length=S.toNat/\(∀s t,bg S s->bg S t->0<=iat num s->iat num s=iat num t->s=t)/\(∀v∈num,v<S)/\(∀r∈rs,(∀s∈r.2.1,0<=iat num s)->0<=iat num r.2.2)/\ ∃m,ai3 S num m/\RnI rs num m
theorem ads {SF:Nat->LR->Option (LR)} (e5:af7 SF) (S:Int) (fin:LI) (rs:LR) (hw:Wf S fin rs):
 Sp (λ n=>bP.P (SF n) n) (S,fin,rs) (af5 S rs):=by
 obtain⟨h0,hS,i6,i7,g9,hr⟩:=hw;have e6: ∀r∈rs,bg S r.2.2/\ ∀q∈r.2.1,bg S q:=λ r h=>⟨(hr r h).1,(hr r h).2.1⟩;show Tt (λ n=>bP.P (SF n) n (S,fin,rs)) _;unfold bP.P;dsimp only;refine aX (tV h0 Ω) ?_;rw[abC]
 refine aZ1 (R:=λ t=>t=(S,fin,rs,List.replicate S.toNat (-1:Int)))
  (aZ8 (L:=λ n=>bP.L1) (aZ6 S.toNat (λ i t=> ∃num:LI,t=(S,fin,rs,num,(S.toNat:Int),(i:Int))/\num.length=S.toNat/\ ∀j:Nat,j<i->num[j]? =some (-1)) ?_ ?_ ⟨_,rfl,Θ,λ j h=>absurd h Ω⟩)) ?_
 ·rintro i t K ⟨num,rfl,hn,hI⟩;unfold bP.L1;dsimp only;refine aY1 Ω (aZ9 (rng Ω Ω) ?_);rw[aam];refine aY6 Ω λ _ _ _=>aZ2 ⟨_,by rw[ak Ω],by simpa using hn,λ j hj=> ?_⟩;rw[aaR];split
  ·rename_i e;rw[if_pos Ω]
  ·exact hI j Ω
 ·rintro t ⟨num,rfl,hn,hI⟩;unfold bP.L1;dsimp only;refine aY3 Ω (aZ4 ?_)
  have:num=List.replicate S.toNat (-1:Int):=by
   apply aaZ;intro j;rw[abn];split
   ·rename_i h;exact hI j h
   ·rw[aal Ω]
  rw[this]
 rintro _ rfl;dsimp only
 refine aZ1 (R:=λ num:LI=>af5 S rs num)
  (aZ8 (L:=λ n=>bP.L5 n (SF n)) (aX1 (λ t=> ∃(num:LI) (m:Int),t=(S,fin,rs,num,m)/\ai3 S num m/\RnI rs num m) (λ t=>(S-t.2.2.2.2).toNat) ?_ ?_)) λ num h=>aZ0 h
 ·rintro _ ⟨num,m,rfl,hn,b6⟩;have b7:=hn;obtain⟨n1,n2,n3,n4,n5⟩:=hn;unfold bP.L5;dsimp only;have i9:m<=S:=by have:=acu (p:=λ v:Int=>decide (0<=v)) (l:=num);omega
  have O: ∀s,bg S s->s.toNat<num.length:=λ s hs=>by have:=hs.1;have:=hs.2;omega
  have e9: ∀s,bg S s->iat num s<m:=λ s hs=>(n3 _ (by rw[←tJ (O s hs)];exact aaf (O s hs))).2;by_cases d0:m<S
  ·refine aX6 (dY d0) ?_
   refine aZ7 (R:=λ t=> ∃l:LR,t=(S,fin,rs,num,m,l)/\l.length<=rs.length/\LIn num rs l)
    (aZ8 (L:=λ n=>bP.L3 n) (aZ6 rs.length (λ i t=> ∃l:LR,t=(S,fin,rs,num,m,l,rs,(rs.length:Int),(i:Int))/\l.length<=i/\LIn num (rs.take i) l) ?_ ?_ ⟨[],rfl,Θ,λ E=>Θ⟩)) ?_
   ·rintro i t K ⟨l,rfl,b8,g⟩;unfold bP.L3;dsimp only;obtain⟨u,f0,j0⟩:=hr rs[i] (aaf K);refine aY1 Ω (aY K (aZ9 (rng u.1 (by have:=u.1;have:=u.2;omega)) (aY6 (O _ u) λ e _ he=> ?_)));have d1:iat num rs[i].2.2=e:=l7 he;refine aY9 (λ G=> ?_) (λ G=> ?_)
    ·have G:=of_decide_eq_true G;exact aZ2 ⟨l,by rw[ak Ω],Ω,g.skip K λ h=>Ω⟩
    ·have G:=of_decide_eq_false G
     refine Bd.label (s:=(S,fin,rs,num,m,l,rs[i].1,([]:LI),rs[i].2.2,rs,(rs.length:Int),(i:Int),rs[i].2.1,((rs[i].2.1.length:Nat):Int),(0:Int))) (I0:=λ s'=>s'=(S,fin,rs,num,m,l,rs,(rs.length:Int),IntKind.wrap .i64 ((i:Int)+1))/\ ∃s∈rs[i].2.1,iat num s<0) (Q:=λ v=>v=(S,fin,rs,num,m,l,rs[i].1,(rs[i].2.1.take rs[i].2.1.length).map (iat num),rs[i].2.2,rs,(rs.length:Int),(i:Int))/\ ∀s∈rs[i].2.1.take rs[i].2.1.length,0<=iat num s)
      (Lbl.count (L:=bP.L2) rs[i].2.1.length (λ j t=>t=(S,fin,rs,num,m,l,rs[i].1,(rs[i].2.1.take j).map (iat num),rs[i].2.2,rs,(rs.length:Int),(i:Int),rs[i].2.1,((rs[i].2.1.length:Nat):Int),(j:Int))/\ ∀s∈rs[i].2.1.take j,0<=iat num s) ?_ ?_ ⟨rfl,Θ⟩) ?_ ?_ (λ _ _ _=>rfl)
     ·rintro j t hj ⟨rfl,A⟩;have a7:=f0 _ (aaf hj);have C:=O _ a7;have hx:=fE hj;have U:(decide (0<=rs[i].2.1[j])&&decide (rs[i].2.1[j]<(num.length:Int)))=true:=rng a7.1 (by have:=a7.1;have:=a7.2;omega);have d2:at? num rs[i].2.1[j].toNat=some (iat num rs[i].2.1[j]):=by unfold at?;rw[aac C,tJ C]
      have i1:((rs[i].2.1.take j).map (iat num)).length<=3:=by simp;omega
      by_cases I:iat num rs[i].2.1[j]<0
      ·refine .inr ⟨_,⟨rfl,_,aaf hj,I⟩,λ k r=> ?_⟩;unfold bP.L2;dsimp only;rw[dY (show(j:Int)<((rs[i].2.1.length:Nat):Int) by omega),cond_true,hx,aaj,U,cond_true,d2,aaj,dY I,cond_true]
      ·refine .inl ⟨_,⟨by rw[aat,aac hj,abt],λ s hs=> ?_⟩,λ k r=> ?_⟩
       ·rw[aat,aac hj,aap]at hs;rcases hs with hs|hs
        ·exact A s hs
        ·simp only[aaQ,aah]at hs;rw[hs];omega
       unfold bP.L2;dsimp only;rw[dY (show(j:Int)<((rs[i].2.1.length:Nat):Int) by omega),cond_true,hx,aaj,U,cond_true,d2,aaj,decide_eq_false I,cond_false,cond_true,aaj,jK Δ,cond_true,ak Ω];rfl
     ·rintro t ⟨rfl,A⟩;refine⟨_,⟨rfl,A⟩,λ k r=> ?_⟩;unfold bP.L2;dsimp only;rw[decide_eq_false Ω];rfl
     ·rintro _ ⟨rfl,A⟩;dsimp only;rw[aar]at A ⊢;exact aZ9 (jK Δ) (aZ2 ⟨_,by rw[ak Ω];rfl,Δ,g.main K Ω A⟩)
     ·rintro s' ⟨rfl,s,f2,j1⟩;exact⟨l,by rw[ak Ω],Ω,g.skip K λ h=>by have:=h.2 s f2;omega⟩
   ·rintro t ⟨l,rfl,b8,g⟩;unfold bP.L3;dsimp only;rw[aar]at g;exact aY3 Ω (aZ4 ⟨l,rfl,b8,g⟩)
   rintro _ ⟨l,rfl,b8,g⟩;dsimp only;refine aY9 (λ G=> ?_) (λ G=> ?_)
   ·have f3:l= []:=aav (by have:=fZ G;omega);refine aZ4 ⟨n1,n4,λ v hv=>by have:=(n3 v hv).2;omega,λ r W hf=> ?_,m,b7,b6⟩;rcases acs (iat num r.2.2) 0 with h|h
    ·have:=(g _).2 ⟨r,W,h,hf,rfl⟩;rw[f3]at this;cases this
    ·exact h
   ·have f4:l≠[]:=λ h=>absurd (dec_not G) (by rw[h];simp);refine aZ7 (e5 l Ω λ E h=> ?_) λ B f5=> ?_
    ·obtain⟨r,h1,_,_,rfl⟩:=(g E).1 h;simpa using(hr r h1).2.2
    obtain⟨k1,k2,k3⟩:=f5
    have Y: ∀E∈B,bg S E.2.2/\iat num E.2.2<0:=λ E h=>by
     obtain⟨r,h1,h2,_,rfl⟩:=(g E).1 ((k2 E).1 h);exact⟨(hr r h1).1,h2⟩
    refine aZ7 (R:=λ t=> ∃(num':LI) (z:Int),t=(S,fin,rs,num',z)/\ai3 S num' z/\RnI rs num' z/\m<z)
     (aZ8 (L:=λ n=>bP.L4) (aZ6 B.length (λ i t=> ∃(num':LI) (z:Int),t=(S,fin,rs,num',z,B,(B.length:Int),(i:Int))/\ai3 S num' z/\m<=z/\ajd S num num' m/\
      (∀n:Nat,m<=(n:Int)->(n:Int)<z-> ∃(j:Nat) (r0:Rule),j<i/\B[j]? =some r0/\iat num' r0.2.2=n/\ ∀(k:Nat) (d:Rule),k<j->B[k]? =some d->iat num' d.2.2<n)/\ ∀(k:Nat) (d:Rule),k<i->B[k]? =some d->0<=iat num' d.2.2) ?_ ?_
      ⟨num,m,rfl,b7,acY _,λ s hs=>⟨λ _=>rfl,λ h=> .inl h⟩,λ n h1 h2=>absurd h1 Ω,λ k d h=>absurd h Ω⟩)) ?_
    ·rintro i t K ⟨num',z,rfl,⟨p1,p2,p3,p4,p5⟩,b9,hE,a8,M⟩;unfold bP.L4;dsimp only;obtain⟨u,I⟩:=Y B[i] (aaf K);have C:B[i].2.2.toNat<num'.length:=by have:=u.1;have:=u.2;omega
     have U:(decide (0<=B[i].2.2)&&decide (B[i].2.2<(List.length num':Int)))=true:=rng u.1 (by have:=u.1;have:=u.2;omega);refine aY1 Ω (aZ9 (rng Ω Ω) ?_);rw[aam];refine aY6 K λ r j4 a9=> ?_;rw[aac K]at a9;cases a9;refine aZ9 U (aY6 C λ e _ he=> ?_);have d1:iat num' B[i].2.2=e:=l7 he;have j5:z<=S:=by have:=acu (p:=λ v:Int=>decide (0<=v)) (l:=num');omega
     have hb: ∀s,bg S s->iat num' s<z:=λ s hs=>(p3 _ (by
      have y:s.toNat<num'.length:=by have:=hs.1;have:=hs.2;omega
      rw[←tJ y];exact aaf y)).2
     refine aY2 (λ G=> ?_) (λ G=> ?_)
     ·have G:=of_decide_eq_true G;have f: ∀s,bg S s->iat (num'.set B[i].2.2.toNat z) s=if s=B[i].2.2 then z else iat num' s:=λ s hs=>IL C u.1 hs.1;have D: ∀(k:Nat) (d:Rule),B[k]? =some d->bg S d.2.2:=λ k d h=>(Y d (aai h)).1;refine aY0 U (aY5 (aY6 C λ _ _ _=>aZ3 (aZ2 ⟨_,z+1,by rw[ak Ω,jX (z+1) Ω Ω],⟨by simpa using p1,Ω,λ v hv=> ?_,λ s t hs ht h0 e=> ?_,?_⟩,Ω,λ s hs=> ?_,λ n Z g2=> ?_,λ k d Z g2=> ?_⟩)))
      ·rcases abv hv with h|rfl
       ·have:=p3 v h;exact⟨this.1,Ω⟩
       ·exact⟨Ω,Ω⟩
      ·rw[f s hs,f t ht]at e;rw[f s hs]at h0;split at e<;>split at e
       ·rename_i N e2;rw[N,e2]
       ·have:=hb t ht;omega
       ·have:=hb s hs;omega
       ·rename_i N e2;rw[if_neg N]at h0;exact p4 s t hs ht h0 e
      ·rw[count_set C (by rw[tJ C,d1];exact G) p2];omega
      ·rw[f s hs];split
       ·rename_i N;rw[N];exact⟨λ h=>Ω,λ _=> .inr b9⟩
       ·exact hE s hs
      ·rcases abS (Int.lt_add_one_iff.1 g2)with h|h
       ·obtain⟨j,r0,a1,a2,a3,a4⟩:=a8 n Z h;refine⟨j,r0,Ω,a2,?_,λ k d b1 b2=> ?_⟩
        ·rw[f _ (D j r0 a2),if_neg]
         ·exact a3
         ·intro N;rw[N]at a3;omega
        ·have b3:=a4 k d b1 b2;have b4:=M k d Ω b2;rw[f _ (D k d b2),if_neg]
         ·exact b3
         ·intro N;rw[N]at b4;omega
       ·refine⟨i,B[i],Ω,aac K,by rw[f _ u,if_pos rfl];exact h.symm,λ k d b1 b2=> ?_⟩;have b4:=M k d b1 b2;have:=hb _ (D k d b2);rw[f _ (D k d b2),if_neg]
        ·omega
        ·intro N;rw[N]at b4;omega
      ·rw[f _ (D k d g2)];split
       ·exact p2
       ·rename_i N;rcases aa1 (aa9 Z)with h|rfl
        ·exact M k d h g2
        ·rw[aac K]at g2;cases g2;exact absurd rfl N
     ·have G:=of_decide_eq_false G;refine aZ3 (aZ2 ⟨num',z,by rw[ak Ω],⟨p1,p2,p3,p4,p5⟩,b9,hE,λ n Z g2=> ?_,λ k d Z g2=> ?_⟩)
      ·obtain⟨j,r0,a1,a2⟩:=a8 n Z g2;exact⟨j,r0,Ω,a2⟩
      ·rcases aa1 (aa9 Z)with h|rfl
       ·exact M k d h g2
       ·rw[aac K]at g2;cases g2;omega
    ·rintro t ⟨num',z,rfl,hp,b9,hE,a8,M⟩;unfold bP.L4;dsimp only;have a0: ∀(k:Nat) (d:Rule),B[k]? =some d->0<=iat num' d.2.2:=λ k d h=>M k d (aad.1 h).1 h
     have y:m<z:=by
      obtain⟨r,W⟩:=List.exists_mem_of_ne_nil l f4;have h1:=(k2 r).2 W;obtain⟨k,hk,e⟩:=aay h1;have h2:=a0 k r (by rw[aac hk,e]);obtain⟨h3,h4⟩:=Y r h1;have h5:=(hE _ h3).2 h4;have h6:r.2.2.toNat<num'.length:=by have:=hp.1;have:=h3.1;have:=h3.2;omega
      have h7:=(hp.2.2.1 _ (by rw[←tJ h6];exact aaf h6:iat num' r.2.2∈num')).2;omega
     refine aY3 Ω (aZ4 ⟨num',z,rfl,hp,Pn e6 n2 y e9 b6 hE (λ n Z g2=> ?_) (λ r Z g2 g3=> ?_),y⟩)
     ·obtain⟨j,r0,a1,a2,a3,a4⟩:=a8 n Z g2;obtain⟨r,b1,b2,b3,rfl⟩:=(g r0).1 ((k2 r0).1 (aai a2));refine⟨r,b1,a3,b3,λ E c1 c2 c3 c4=> ?_⟩;have c0:=(k2 _).2 ((g (E.1,E.2.1.map (iat num),E.2.2)).2 ⟨E,c1,c2,c3,rfl⟩);obtain⟨k,hk,e⟩:=aay c0;have e':B[k]? =some (E.1,E.2.1.map (iat num),E.2.2):=by rw[aac hk,e]
      have g4: ¬k<j:=λ h=>by
       have h1:=a4 k _ h e';have h2:=a0 k _ e';dsimp only at h1 h2;omega
      rcases aa1 (Nat.not_lt.1 g4)with h|rfl
      ·obtain⟨g5,ej⟩:=aad.1 a2;have:=aaN.1 k3 j k g5 hk h;rw[ej,e]at this;exact Xv this
      ·rw[a2]at e';have:=aak e';simp only[aaz]at this;rw[this.1,this.2.1];exact Int.le_of_eq (oM.refl _)
     ·have c0:=(k2 _).2 ((g (r.1,r.2.1.map (iat num),r.2.2)).2 ⟨r,Z,g2,g3,rfl⟩);obtain⟨k,hk,e⟩:=aay c0;exact a0 k (r.1,r.2.1.map (iat num),r.2.2) (by rw[aac hk,e])
    ·rintro _ ⟨num',z,rfl,hp,g7,y⟩;refine aZ2 ⟨⟨num',z,rfl,hp,g7⟩,?_⟩;dsimp only;omega
  ·refine aX9 (decide_eq_false d0) (aZ4 ⟨n1,n4,λ v hv=>by have:=(n3 v hv).2;omega,λ r W _=> ?_,m,b7,b6⟩);have g8:num.countP (λ v=>decide (0<=v))=num.length:=by have:=acu (p:=λ v:Int=>decide (0<=v)) (l:=num);omega
   have d8:=List.countP_eq_length.1 g8;have y:=O _ (hr r W).1;have:=d8 _ (aaf y);rw[tJ y]at this;exact of_decide_eq_true this
 ·refine⟨_,0,rfl,⟨Θ,acY _,λ v hv=>by rw[(acN.1 hv).2];exact⟨Ω,Ω⟩,λ s t hs ht h=> ?_,?_⟩,λ _=>0,rfl,λ n h=>absurd h Ω,λ n h=>absurd h Ω⟩
  ·have y:s.toNat<(List.replicate S.toNat (-1:Int)).length:=by rw[abC];have:=hs.1;have:=hs.2;omega
   rw[←tJ y,List.getElem_replicate]at h;omega
  ·rw[List.countP_replicate];simp
end Go.Bk
end
