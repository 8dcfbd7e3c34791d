import Derived.Test.YtdchbjmbgecejaaGreatDoorMa
import Derived.Test.YtdchbjmbgecejaaGreatDoorMk
import Derived.KernelRfl
set_option linter.unusedVariables false
noncomputable section
namespace Go.Bk
open Go Go.AM
def Ev (p:Nat->Prop):Prop:= ∃N,∀n,N<=n->p n
theorem Ev.all {p:Nat->Prop} (h: ∀n,p n):Ev p:=⟨0,λ n _=>h n⟩
theorem Ev.mono {p q:Nat->Prop} (h:Ev p) (d: ∀n,p n->q n):Ev q:=h.elim λ N e=>⟨N,λ n f=>d n (e n f)⟩
theorem Ev.and {p q:Nat->Prop} (h:Ev p) (d:Ev q):Ev λ n=>p n/\q n:=by
 obtain⟨N,e⟩:=h;obtain⟨M,f⟩:=d;exact⟨max N M,λ n g=>⟨e n Ω,f n Ω⟩⟩
theorem Ev.pred {p:Nat->Prop} (h:Ev λ n=>p (n+1)):Ev p:=by
 obtain⟨N,d⟩:=h;refine⟨N+1,λ n e=> ?_⟩;obtain⟨k,rfl⟩: ∃k,n=k+1:=⟨n-1,Ω⟩;exact d k Ω
theorem aW7 {p:Nat->Prop} (h:Ev p):Ev λ n=>p (n+1):=h.elim λ N d=>⟨N,λ n e=>d (n+1) Ω⟩
def Sp {α β:Type} (F:Nat->α->Option β) (x:α) (Q:β->Prop):Prop:= ∃r,Q r/\Ev λ n=>F n x=some r
theorem Sp.mono {α β:Type} {F:Nat->α->Option β} {x:α} {Q R:β->Prop} (h:Sp F x Q) (e: ∀r,Q r->R r):Sp F x R:=h.elim λ r d=>⟨r,e r d.1,d.2⟩
theorem aZ5 {α β:Type} {F G:Nat->α->Option β} {x:α} {Q:β->Prop} (hF: ∀n x,F (n+1) x=G n x) (h:Sp G x Q):Sp F x Q:=by
 obtain⟨r,d,e⟩:=h;exact⟨r,d,(e.mono (q:=λ n=>F (n+1) x=some r) λ n f=>by rw[hF];exact f).pred⟩
def Lp {σ τ:Type} (L:Nat->σ->(σ->Option τ)->Option τ) (s:σ) (Q:τ->Prop):Prop:= ∃t,Q t/\ ∃N,∀n,N<=n-> ∀m,N<=m->bH (L n) m s=some t
theorem Lp.ev {σ τ:Type} {L:Nat->σ->(σ->Option τ)->Option τ} {s:σ} {Q:τ->Prop} (h:Lp L s Q): ∃t,Q t/\Ev λ n=>bH (L n) n s=some t:=by
 obtain⟨t,e,N,f⟩:=h;exact⟨t,e,N,λ n d=>f n d n d⟩
theorem Lp.mono {σ τ:Type} {L:Nat->σ->(σ->Option τ)->Option τ} {s:σ} {Q R:τ->Prop} (h:Lp L s Q) (e: ∀r,Q r->R r):Lp L s R:=h.elim λ r d=>⟨r,e r d.1,d.2⟩
def St {σ τ:Type} (L:Nat->σ->(σ->Option τ)->Option τ) (s:σ) (I:σ->Prop) (Q:τ->Prop):Prop:=
 (∃s',I s'/\Ev λ n=> ∀k,L n s k=k s')\/(∃t,Q t/\Ev λ n=> ∀k,L n s k=some t)
theorem aW2 {σ τ:Type} {L:Nat->σ->(σ->Option τ)->Option τ} {s:σ} {I:σ->Prop} {Q:τ->Prop} (h:St L s I Q) (f: ∀s',I s'->Lp L s' Q):Lp L s Q:=by
 rcases h with⟨s',hs,N,d⟩|⟨t,e,N,d⟩
 ·obtain⟨t,e,M,g⟩:=f s' hs;refine⟨t,e,max N M+1,λ n i m l=> ?_⟩;obtain⟨k,rfl⟩: ∃k,m=k+1:=⟨m-1,Ω⟩;show L n s (bH (L n) k)=some t;rw[d n Ω];exact g n Ω k Ω
 ·refine⟨t,e,N+1,λ n i m l=> ?_⟩;obtain⟨k,rfl⟩: ∃k,m=k+1:=⟨m-1,Ω⟩;show L n s (bH (L n) k)=some t;exact d n Ω _
theorem aX3 {σ τ:Type} {L:Nat->σ->(σ->Option τ)->Option τ} {Q:τ->Prop} (len:Nat) (I:Nat->σ->Prop)
 (hs: ∀i s,i<len->I i s->St L s (I (i+1)) Q) (e: ∀s,I len s->St L s (λ _=>False) Q): ∀s,I 0 s->Lp L s Q:=by
 have key: ∀d i s,i+d=len->I i s->Lp L s Q:=by
  intro d
  induction d with
  |zero=>intro i s f h;obtain rfl:i=len:=by omega
         exact aW2 (e s h) λ _ g=>g.elim
  |succ d k=>intro i s f h;exact aW2 (hs i s Ω h) λ s' l=>k (i+1) s' Ω l
 intro s h;exact key len 0 s Ω h
theorem aX4 {σ τ:Type} {L:Nat->σ->(σ->Option τ)->Option τ} (len:Nat) (st:Nat->σ) (P:Nat->Prop) (l:Nat->τ) (d:τ)
 (hs: ∀i,i<len->(P i/\Ev λ n=> ∀k,L n (st i) k=k (st (i+1)))\/(¬P i/\Ev λ n=> ∀k,L n (st i) k=some (l i)))
 (p:Ev λ n=> ∀k,L n (st len) k=some d):
 Lp L (st 0) (λ t=>(t=d/\ ∀i,i<len->P i)\/ ∃i,i<len/\ ¬P i/\t=l i):=by
 refine aX3 len (λ i s=>s=st i/\ ∀j,j<i->P j) ?_ ?_ _ ⟨rfl,λ j h=>absurd h Ω⟩
 ·rintro i s m ⟨rfl,e⟩;rcases hs i m with⟨f,g⟩|⟨f,g⟩
  ·refine .inl ⟨_,⟨rfl,λ j q=> ?_⟩,g⟩;rcases aa1 (aa9 q)with u|rfl
   ·exact e j u
   ·exact f
  ·exact .inr ⟨_,.inr ⟨i,m,f,rfl⟩,g⟩
 ·rintro s ⟨rfl,e⟩;exact .inr ⟨_,.inl ⟨rfl,e⟩,p⟩
theorem jX (z:Int) (h: -9223372036854775808<=z) (d:z<9223372036854775808):IntKind.wrap .i64 z=z:=by
 simp only[IntKind.wrap,IntKind.signed,IntKind.bits];simp only[acR,decide_eq_true_eq,Nat.reduceSub,ge_iff_le];split<;>omega
theorem wrap_succ {i m:Nat} (h:i<m) (d:m<=ay):IntKind.wrap .i64 ((i:Int)+1)=((i+1:Nat):Int):=by
 have:ay=1099511627776:=by decide
 rw[jX _ Ω Ω];omega
theorem fE {α:Type} {l:List α} {i:Nat} (h:i<l.length):nth? l (i:Int)=some l[i]:=by
 simp[nth?,h]
theorem Cm {α:Type} {l:List α} {z:Int} (h:0<=z) (d:z<(l.length:Int)):nth? l z=some (l[z.toNat]' Ω):=by
 have:z.toNat<l.length:=by omega
 simp[nth?,h,this]
theorem Uw {i m:Nat} (h:i<m) (d:m<=ay) (e:0<i):IntKind.wrap .i64 ((i:Int)-1)=((i-1:Nat):Int):=by
 have:ay=1099511627776:=by decide
 rw[jX _ Ω Ω];omega
theorem jo {i m:Nat} (h:i<m):((i:Int)<(m:Int))=True:=eq_true Ω
theorem Fp {m:Nat}:((m:Int)<(m:Int))=False:=eq_false Ω
def Tt {β:Type} (F:Nat->Option β) (Q:β->Prop):Prop:= ∃r,Q r/\Ev λ n=>F n=some r
def Bd {σ τ:Type} (F:Nat->(σ->Option τ)->Option τ) (I:σ->Prop) (Q:τ->Prop):Prop:=
 (∃s',I s'/\Ev λ n=> ∀k,F n k=k s')\/(∃t,Q t/\Ev λ n=> ∀k,F n k=some t)
section
variable {α β γ σ τ:Type} {Q:β->Prop}
theorem Tt.mono {F:Nat->Option β} {R:β->Prop} (h:Tt F Q) (e: ∀r,Q r->R r):Tt F R:=h.elim λ r d=>⟨r,e r d.1,d.2⟩
theorem aZ0 {r:β} (h:Q r):Tt (λ _=>some r) Q:=⟨r,h,.all λ _=>rfl⟩
theorem aZ1 {A:Nat->Option α} {G:Nat->α->Option β} {R:α->Prop} (f:Tt A R) (g: ∀r,R r->Tt (λ n=>G n r) Q):Tt (λ n=>(A n).bind (G n)) Q:=by
 obtain⟨r,i,k⟩:=f;obtain⟨t,l,d⟩:=g r i
 exact⟨t,l,(k.and d).mono λ n e=>by
  show(A n).bind (G n)=_;rw[e.1];exact e.2⟩
theorem aX {c:Bool} {A:Nat->Option β} (d:c=true) (h:Tt A Q):Tt (λ n=>bif c then A n else none) Q:=by
 subst d;exact h
theorem aY4 {c:Bool} {A B:Nat->Option β} (d:c=true->Tt A Q) (e:c=false->Tt B Q):Tt (λ n=>bif c then A n else B n) Q:=by
 cases c with
 |true=>exact d rfl
 |false=>exact e rfl
theorem aW8 {l:List β} {i:Int} (d:0<=i) (e:i<(l.length:Int)) (f: ∀h:i.toNat<l.length,Q l[i.toNat]):Tt (λ _=>nth? l i) Q:=
 ⟨_,f Ω,.all λ _=>Cm d e⟩
theorem Tt.at {l:List β} {i:Nat} (h:i<l.length) (d:Q l[i]):Tt (λ _=>at? l i) Q:=⟨_,d,.all λ _=>aac h⟩
theorem aZ8 {L:Nat->σ->(σ->Option β)->Option β} {s:σ} (h:Lp L s Q):Tt (λ n=>bH (L n) n s) Q:=h.ev
theorem aW3 {c:Bool} {A:Nat->Option α} {G:Nat->α->Option β} (d:c=true) (h:Tt (λ n=>(A n).bind (G n)) Q):Tt (λ n=>(bif c then A n else none).bind (G n)) Q:=by
 subst d;exact h
theorem aX2 {c:Bool} {A B:Nat->Option α} {G:Nat->α->Option β} (d:c=true->Tt (λ n=>(A n).bind (G n)) Q) (e:c=false->Tt (λ n=>(B n).bind (G n)) Q):Tt (λ n=>(bif c then A n else B n).bind (G n)) Q:=by
 cases c with
 |true=>exact d rfl
 |false=>exact e rfl
theorem aW4 {A:Nat->Option α} {B:Nat->α->Option γ} {G:Nat->γ->Option β} (h:Tt (λ n=>(A n).bind λ a=>(B n a).bind (G n)) Q):Tt (λ n=>((A n).bind (B n)).bind (G n)) Q:=by
 obtain⟨r,d,e⟩:=h;exact⟨r,d,e.mono λ n f=>(Option.bind_assoc ..).trans f⟩
theorem aY7 {r:α} {G:Nat->α->Option β} (h:Tt (λ n=>G n r) Q):Tt (λ n=>(some r).bind (G n)) Q:=h
end
section
variable {α β γ σ τ:Type} {I:σ->Prop} {Q:τ->Prop}
theorem Bd.mono {F:Nat->(σ->Option τ)->Option τ} {J:σ->Prop} {R:τ->Prop} (h:Bd F I Q) (f: ∀s,I s->J s) (g: ∀t,Q t->R t):Bd F J R:=by
 rcases h with⟨s,d,e⟩|⟨t,d,e⟩
 ·exact .inl ⟨s,f s d,e⟩
 ·exact .inr ⟨t,g t d,e⟩
theorem aZ2 {s:σ} (h:I s):Bd (λ _ k=>k s) I Q:= .inl ⟨s,h,.all λ _ _=>rfl⟩
theorem aZ4 {t:τ} (h:Q t):Bd (λ _ (_:σ->Option τ)=>some t) I Q:= .inr ⟨t,h,.all λ _ _=>rfl⟩
theorem aZ7 {A:Nat->Option α} {G:Nat->(σ->Option τ)->α->Option τ} {R:α->Prop} (i:Tt A R) (l: ∀r,R r->Bd (λ n k=>G n k r) I Q):Bd (λ n k=>(A n).bind (G n k)) I Q:=by
 obtain⟨r,m,g⟩:=i;rcases l r m with⟨s,e,f⟩|⟨t,e,f⟩
 ·exact .inl ⟨s,e,(g.and f).mono λ n d k=>by
   show(A n).bind (G n k)=_;rw[d.1];exact d.2 k⟩
 ·exact .inr ⟨t,e,(g.and f).mono λ n d k=>by
   show(A n).bind (G n k)=_;rw[d.1];exact d.2 k⟩
theorem aZ9 {c:Bool} {A:Nat->(σ->Option τ)->Option τ} (d:c=true) (h:Bd A I Q):Bd (λ n k=>bif c then A n k else none) I Q:=by
 subst d;exact h
theorem aY9 {c:Bool} {A B:Nat->(σ->Option τ)->Option τ} (d:c=true->Bd A I Q) (e:c=false->Bd B I Q):Bd (λ n k=>bif c then A n k else B n k) I Q:=by
 cases c with
 |true=>exact d rfl
 |false=>exact e rfl
theorem aY0 {c:Bool} {A:Nat->Option α} {G:Nat->(σ->Option τ)->α->Option τ} (d:c=true) (h:Bd (λ n k=>(A n).bind (G n k)) I Q):Bd (λ n k=>(bif c then A n else none).bind (G n k)) I Q:=by
 subst d;exact h
theorem aY2 {c:Bool} {A B:Nat->Option α} {G:Nat->(σ->Option τ)->α->Option τ} (d:c=true->Bd (λ n k=>(A n).bind (G n k)) I Q) (e:c=false->Bd (λ n k=>(B n).bind (G n k)) I Q):Bd (λ n k=>(bif c then A n else B n).bind (G n k)) I Q:=by
 cases c with
 |true=>exact d rfl
 |false=>exact e rfl
theorem aY5 {A:Nat->Option α} {B:Nat->α->Option γ} {G:Nat->(σ->Option τ)->γ->Option τ} (h:Bd (λ n k=>(A n).bind λ a=>(B n a).bind (G n k)) I Q):Bd (λ n k=>((A n).bind (B n)).bind (G n k)) I Q:=by
 rcases h with⟨s,d,e⟩|⟨t,d,e⟩
 ·exact .inl ⟨s,d,e.mono λ n f k=>(Option.bind_assoc ..).trans (f k)⟩
 ·exact .inr ⟨t,d,e.mono λ n f k=>(Option.bind_assoc ..).trans (f k)⟩
theorem aZ3 {r:α} {G:Nat->(σ->Option τ)->α->Option τ} (h:Bd (λ n k=>G n k r) I Q):Bd (λ n k=>(some r).bind (G n k)) I Q:=h
end
section
variable {α β σ τ:Type} {I:σ->Prop} {Q:τ->Prop} {P:β->Prop}
theorem aX6 {c:Bool} {A B:Nat->(σ->Option τ)->Option τ} (d:c=true) (h:Bd A I Q):Bd (λ n k=>bif c then A n k else B n k) I Q:=by subst d;exact h
theorem aX9 {c:Bool} {A B:Nat->(σ->Option τ)->Option τ} (d:c=false) (h:Bd B I Q):Bd (λ n k=>bif c then A n k else B n k) I Q:=by subst d;exact h
theorem aX7 {c:Bool} {A B:Nat->Option β} (d:c=true) (h:Tt A P):Tt (λ n=>bif c then A n else B n) P:=by subst d;exact h
theorem aW {c:Bool} {A B:Nat->Option β} (d:c=false) (h:Tt B P):Tt (λ n=>bif c then A n else B n) P:=by subst d;exact h
theorem aY3 {p:Prop} [Decidable p] {A B:Nat->(σ->Option τ)->Option τ} (d: ¬p) (h:Bd B I Q):Bd (λ n k=>bif decide p then A n k else B n k) I Q:=aX9 (decide_eq_false d) h
theorem aY1 {p:Prop} [Decidable p] {A B:Nat->(σ->Option τ)->Option τ} (d:p) (h:Bd A I Q):Bd (λ n k=>bif decide p then A n k else B n k) I Q:=aX6 (decide_eq_true d) h
theorem aW6 {p:Prop} [Decidable p] {A B:Nat->Option β} (d: ¬p) (h:Tt B P):Tt (λ n=>bif decide p then A n else B n) P:=aW (decide_eq_false d) h
theorem aY {l:List α} {i:Nat} {G:Nat->(σ->Option τ)->α->Option τ} (h:i<l.length) (d:Bd (λ n k=>G n k l[i]) I Q):Bd (λ n k=>(nth? l (i:Int)).bind (G n k)) I Q:=by
 rw[fE h];exact d
theorem aW0 {l:List α} {z:Int} {G:Nat->(σ->Option τ)->α->Option τ} (d:0<=z) (f:z<(l.length:Int)) (g: ∀e,e∈l->l[z.toNat]? =some e->Bd (λ n k=>G n k e) I Q):Bd (λ n k=>(nth? l z).bind (G n k)) I Q:=by
 rw[Cm d f];exact g _ (aaf _) (aac _)
theorem aY6 {l:List α} {i:Nat} {G:Nat->(σ->Option τ)->α->Option τ} (h:i<l.length) (d: ∀e,e∈l->l[i]? =some e->Bd (λ n k=>G n k e) I Q):Bd (λ n k=>(at? l i).bind (G n k)) I Q:=by
 unfold at?;rw[aac h];exact d _ (aaf _) (aac _)
theorem aW5 {l:List α} {i:Nat} {G:Nat->α->Option β} (h:i<l.length) (d:Tt (λ n=>G n l[i]) P):Tt (λ n=>(nth? l (i:Int)).bind (G n)) P:=by
 rw[fE h];exact d
theorem aW1 {l:List α} {z:Int} {G:Nat->α->Option β} (d:0<=z) (f:z<(l.length:Int)) (g: ∀e,e∈l->l[z.toNat]? =some e->Tt (λ n=>G n e) P):Tt (λ n=>(nth? l z).bind (G n)) P:=by
 rw[Cm d f];exact g _ (aaf _) (aac _)
theorem aX8 {l:List α} {i:Nat} {G:Nat->α->Option β} (h:i<l.length) (d: ∀e,e∈l->l[i]? =some e->Tt (λ n=>G n e) P):Tt (λ n=>(at? l i).bind (G n)) P:=by
 unfold at?;rw[aac h];exact d _ (aaf _) (aac _)
end
theorem aZ6 {σ τ:Type} {L:Nat->σ->(σ->Option τ)->Option τ} {Q:τ->Prop} (len:Nat) (I:Nat->σ->Prop)
 (hs: ∀i s,i<len->I i s->Bd (λ n k=>L n s k) (I (i+1)) Q) (d: ∀s,I len s->Bd (λ n k=>L n s k) (λ _=>False) Q) {s:σ} (h:I 0 s):Lp L s Q:=aX3 len I hs d s h
theorem aX1 {σ τ:Type} {L:Nat->σ->(σ->Option τ)->Option τ} {Q:τ->Prop} (I:σ->Prop) (m:σ->Nat)
 (hs: ∀s,I s->Bd (λ n k=>L n s k) (λ s'=>I s'/\m s'<m s) Q) {s:σ} (h:I s):Lp L s Q:=by
 have key: ∀d s,m s<d->I s->Lp L s Q:=by
  intro d
  induction d with
  |zero=>intro s e;omega
  |succ d f=>intro s e h;exact aW2 (hs s h) λ s' g=>f s' Ω g.1
 exact key (m s+1) s Ω h
theorem dY {p:Prop} [Decidable p] (h:p):decide p=true:=decide_eq_true h
theorem fZ {p:Prop} [Decidable p] (h:decide p=true):p:=of_decide_eq_true h
theorem dec_not {p:Prop} [Decidable p] (h:decide p=false): ¬p:=of_decide_eq_false h
theorem rng {i m:Int} (d:0<=i) (e:i<m):(decide (0<=i)&&decide (i<m))=true:=by simp[d,e]
theorem tV {i:Int} (d:0<=i) (e:i<=1099511627776):(decide (0<=i)&&decide (i<=i)&&decide (i<=(ay:Int)))=true:=by
 have:ay=1099511627776:=by decide
 simp[d];omega
theorem ak {i:Nat} (h:i<1099511627776):IntKind.wrap .i64 ((i:Int)+1)=((i+1:Nat):Int):=by
 rw[jX _ Ω Ω];omega
theorem Ci:ay=1099511627776:=Ξ
theorem jK {n:Nat} (h:n<=1099511627776):decide (n<=ay)=true:=by
 rw[Ci];exact decide_eq_true h
abbrev Rule:=Int×LI×Int
abbrev Aut:=Int×LI×LR
theorem aic (a b:Int) (c:LI) (d:List Aut) (e f:Int) (rs:LR) (q:rs.length<=ay):
 Lp (λ _=>iV.L1) (a,b,c,d,e,f,rs,(rs.length:Int),(0:Int)) (λ t=>(t= .inl (a,b,c,d,e,f)/\ ∀r∈rs,r.2.1.length<=10)\/t= .inr (.inr false)):=by
 refine aX3 rs.length (λ i s=>s=(a,b,c,d,e,f,rs,(rs.length:Int),(i:Int))/\ ∀j (h:j<rs.length),j<i->rs[j].2.1.length<=10) ?_ ?_ _ ⟨rfl,by intro j h y;omega⟩
 ·rintro i s g ⟨rfl,m⟩;by_cases h:(10:Int)<((rs[i].2.1.length:Nat):Int)
  ·exact .inr ⟨_,.inr rfl,.all λ n k=>by simp only[decide_true,cond_true,aaj,iV.L1,jo g,fE g,h]⟩
  ·refine .inl ⟨_,⟨rfl,λ j l u=> ?_⟩,.all λ n k=>by simp only[decide_true,decide_false,cond_true,cond_false,aaj,iV.L1,jo g,fE g,h,wrap_succ g q]⟩;rcases aa1 (aa9 u)with v|rfl
   ·exact m j l v
   ·omega
 ·rintro s ⟨rfl,m⟩;refine .inr ⟨_,.inl ⟨rfl,λ r p=> ?_⟩,.all λ n k=>by simp only[decide_false,cond_false,aaj,Fp,iV.L1]⟩;obtain⟨j,l,rfl⟩:=aay p;exact m j l l
theorem aie (al:LI) (d:List Aut) (G:d.length<=ay) (I: ∀b∈d,b.2.2.length<=ay):
 Lp (iV.L2) ((8:Int),(40:Int),al,d,(d.length:Int),(0:Int)) (λ t=>(t= .inl al/\ ∀b∈d,b.2.1.length<=40/\b.2.2.length<=40/\(b.1<=8\/300<b.1)/\ ∀r∈b.2.2,r.2.1.length<=10)\/t= .inr false):=by
 refine aX3 d.length (λ i s=>s=((8:Int),(40:Int),al,d,(d.length:Int),(i:Int))/\ ∀j (h:j<d.length),j<i->(d[j].2.1.length<=40/\d[j].2.2.length<=40/\(d[j].1<=8\/300<d[j].1)/\ ∀r∈d[j].2.2,r.2.1.length<=10)) ?_ ?_ _ ⟨rfl,by intro j h L;omega⟩
 ·rintro i s e ⟨rfl,p⟩;by_cases g:(40:Int)<((d[i].2.1.length:Nat):Int)
  ·exact .inr ⟨_,.inr rfl,.all λ n k=>by simp only[decide_true,cond_true,aaj,iV.L2,jo e,fE e,g]⟩
  by_cases l:(40:Int)<((d[i].2.2.length:Nat):Int)
  ·exact .inr ⟨_,.inr rfl,.all λ n k=>by simp only[decide_true,decide_false,cond_true,cond_false,aaj,iV.L2,jo e,fE e,g,l]⟩
  by_cases u:(8:Int)<d[i].1/\d[i].1<=300
  ·exact .inr ⟨_,.inr rfl,.all λ n k=>by simp only[decide_true,decide_false,cond_true,cond_false,aaj,iV.L2,jo e,fE e,g,l,u.1,u.2]⟩
  have D: ∀n k,iV.L2 n ((8:Int),(40:Int),al,d,(d.length:Int),(i:Int)) k=((bH (iV.L1) n ((8:Int),(40:Int),al,d,(d.length:Int),(i:Int),d[i].2.2,((List.length d[i].2.2:Nat):Int),(0:Int))).bind λ q=>match q with
   |Sum.inl f=>(k (f.1,f.2.1,f.2.2.1,f.2.2.2.1,f.2.2.2.2.1,IntKind.wrap .i64 (f.2.2.2.2.2+(1:Int))))
   |Sum.inr r=>some r):=by
   intro n k;by_cases v:(8:Int)<d[i].1
   ·have K: ¬d[i].1<=300:=λ h=>u ⟨v,h⟩;simp only[decide_true,decide_false,cond_true,cond_false,aaj,iV.L2,jo e,fE e,g,l,v,K]<;>rfl
   ·simp only[decide_true,decide_false,cond_true,cond_false,aaj,iV.L2,jo e,fE e,g,l,v]<;>rfl
  obtain⟨t,y,E⟩:=(aic 8 40 al d (d.length:Int) (i:Int) d[i].2.2 (I _ (aaf e))).ev;rcases y with⟨rfl,y⟩|rfl
  ·refine .inl ⟨_,⟨rfl,λ j m z=> ?_⟩,E.mono λ n A k=>by rw[D,A];simp only[aaj,wrap_succ e G]⟩;rcases aa1 (aa9 z)with B|rfl
   ·exact p j m B
   ·exact⟨Ω,Ω,Ω,y⟩
  ·exact .inr ⟨_,.inr rfl,E.mono λ n A k=>by rw[D,A];simp only[aaj]⟩
 ·rintro s ⟨rfl,p⟩;refine .inr ⟨_,.inl ⟨rfl,λ r C=> ?_⟩,.all λ n k=>by simp only[decide_false,cond_false,aaj,Fp,iV.L2]⟩;obtain⟨j,m,rfl⟩:=aay C;exact p j m m
def UE (al:LI) (b:Aut):Prop:=al.length<=40/\b.2.1.length<=40/\b.2.2.length<=40/\(b.1<=8\/300<b.1)/\ ∀r∈b.2.2,r.2.1.length<=10
theorem Ur (al:LI) (d:List Aut) (e:d.length<=ay) (k: ∀b∈d,b.2.2.length<=ay):
 Sp iV.P (al,(8:Int),(40:Int),d) (λ r=>r=true-> ∀b∈d,UE al b):=by
 obtain⟨t,f,i⟩:=(aie al d e k).ev;rcases f with⟨rfl,f⟩|rfl
 ·refine⟨_,λ h b e=>⟨?_,f b e⟩,i.mono λ n g=>by simp only[iV.P,g,aaj];rfl⟩;have:=of_decide_eq_true h;omega
 ·exact⟨false,λ h=>(by cases h),i.mono λ n g=>by simp only[iV.P,g,aaj]⟩
theorem uz {P:RT Int->Prop} (h: ∀a ks,(∀k∈ks,P k)->P (.mk a ks)) (t:RT Int):P t:=by
 match t with
 | .mk a ks=>exact h a ks (λ k d=>uz h k)
termination_by SizeOf.sizeOf t
decreasing_by
 have:=List.sizeOf_lt_of_mem d;simp only[RT.mk.sizeOf_spec];omega
mutual
def nds:RT Int->Nat
 | .mk _ ks=>yw ks+1
def yw:List (RT Int)->Nat
 | []=>0
 |k::ks=>nds k+yw ks
end
theorem ZR: ∀t,1<=nds t
 | .mk _ ks=>by simp only[nds];omega
theorem WS {k:RT Int}: ∀{ks:List (RT Int)},k∈ks->nds k<=yw ks
 |a::ks,h=>by
  simp only[yw];rcases aaU.mp h with rfl|h
  ·omega
  ·have:=WS h;omega
theorem WR: ∀ks:List (RT Int),ks.length<=yw ks
 | []=>by simp[yw]
 |k::ks=>by
  have:=WR ks;have:=ZR k;simp only[yw,aaX];omega
theorem eG:ay=1099511627776:=Ξ
theorem Un {G:Nat->LI×Int×Int×List Aut->Option Bool} {al:LI} {d:List Aut} (h:Sp G (al,(8:Int),(40:Int),d) (λ r=>r=true-> ∀b∈d,UE al b)):
 Sp (λ n=>L9.P (G n) n) (al,d) (λ r=>r=true-> ∀b∈d,UE al b):=by
 obtain⟨r,e,f⟩:=h;exact⟨_,e,f.mono λ n g=>by simp only[L9.P,g,aaj]⟩
def NZ (x:Int):Prop:=0<=x/\x<=3
def ED (al:LI):Prop:=al.length<=12/\ ∀i (h:i<al.length),NZ al[i]
theorem CZ (x:Int):Sp (λ n=>jJ.P n) x (λ r=>r=true ↔ ¬NZ x):=by
 by_cases h:x<0
 ·exact⟨true,by simp only[NZ];simp;omega,.all λ n=>by simp only[decide_true,cond_true,aaj,jJ.P,h]⟩
 ·by_cases d:3<x
  ·exact⟨true,by simp only[NZ];simp;omega,.all λ n=>by simp only[decide_true,decide_false,cond_false,aaj,jJ.P,h,d]⟩
  ·exact⟨false,by simp only[NZ];simp;omega,.all λ n=>by simp only[decide_false,cond_false,aaj,jJ.P,h,d]⟩
theorem Ui {F:Nat->Int->Option Bool} (hF: ∀x,Sp F x (λ r=>r=true ↔ ¬NZ x)) (al:LI) (m:al.length<=ay):
 Sp (λ n=>iI.P (F n) n) al (λ r=>0<=r ↔ ∃i,∃h:i<al.length,¬NZ al[i]):=by
 have:=aX4 (L:=λ n=>iI.L1 (F n)) al.length (λ i=>(al,(al.length:Int),(i:Int))) (λ i=> ∀h:i<al.length,NZ al[i]) (λ i=> .inr (i:Int)) (.inl ()) ?_ ?_
 ·obtain⟨t,g,f⟩:=this.ev;rcases g with⟨rfl,g⟩|⟨i,d,e,rfl⟩
  ·refine⟨-1,⟨λ h=>absurd h Ω,?_⟩,f.mono λ n e=> ?_⟩
   ·rintro⟨i,d,h⟩;exact absurd (g i d d) h
   ·show(bH _ n (al,(al.length:Int),(((0:Nat):Nat):Int))).bind _=_;rw[e];rfl
  ·refine⟨(i:Int),⟨λ _=>⟨i,d,λ h=>e λ _=>h⟩,λ _=>Ω⟩,f.mono λ n e=> ?_⟩;show(bH _ n (al,(al.length:Int),(((0:Nat):Nat):Int))).bind _=_;rw[e];rfl
 ·intro i d;obtain⟨r,l,f⟩:=hF al[i];cases r
  ·exact .inl ⟨λ _=>aaT λ h=>(by have:=l.mpr h;cases this),f.mono λ n e k=>by simp only[decide_true,cond_true,cond_false,aaj,iI.L1,jo d,fE d,e,wrap_succ d m]⟩
  ·exact .inr ⟨λ h=>l.mp rfl (h d),f.mono λ n e k=>by simp only[decide_true,cond_true,aaj,iI.L1,jo d,fE d,e]⟩
 ·exact .all λ n k=>by simp only[decide_false,cond_false,aaj,Fp,iI.L1]
theorem NI {F:Nat->LI->Option Int} {al:LI} {P:Prop} (h:Sp F al (λ r=>0<=r ↔ P)):
 Sp (λ n=>mg.P (F n) n) al (λ r=>r=true ↔ P):=by
 obtain⟨r,d,e⟩:=h;exact⟨decide (0<=r),decide_eq_true_iff.trans d,e.mono λ n f=>by simp only[mg.P,f,aaj]⟩
theorem Ey {F:Nat->LI->Option Bool} {al:LI} (h:Sp F al (λ r=>r=true ↔ ∃i,∃h:i<al.length,¬NZ al[i])):
 Sp (λ n=>lV.P (F n) n) al (λ r=>r=true ↔ ED al):=by
 obtain⟨r,e,g⟩:=h;by_cases f:(al.length:Int)<=12
 ·refine⟨!r,?_,g.mono λ n k=>by simp only[decide_true,cond_true,aaj,lV.P,f,k]⟩;cases r
  ·simp only[acd,true_iff];refine⟨Ω,λ i d=>aaT λ h=> ?_⟩;have:=e.mpr ⟨i,d,h⟩;cases this
  ·simp only[abm];refine⟨λ h=>(by cases h),λ h=> ?_⟩;obtain⟨i,d,l⟩:=e.mp rfl;exact absurd (h.2 i d) l
 ·exact⟨false,⟨λ h=>(by cases h),λ h=>absurd h.1 Ω⟩,.all λ n=>by simp only[decide_false,cond_false,aaj,lV.P,f]⟩
theorem Dv (al:LI):Sp dL.P al (λ r=>r=true ↔ ED al):=by
 by_cases f:(12:Int)<(al.length:Int)
 ·exact⟨false,⟨λ h=>(by cases h),λ h=>absurd h.1 Ω⟩,.all λ n=>by simp only[decide_true,cond_true,dL.P,f]⟩
 have q:al.length<=ay:=by have:=eG;omega
 have:=aX4 (L:=λ _=>dL.L1) al.length (λ i=>(al,(al.length:Int),(i:Int))) (λ i=> ∀h:i<al.length,NZ al[i]) (λ i=> .inr false) (.inl ()) ?_ ?_
 ·obtain⟨t,g,m⟩:=this.ev;rcases g with⟨rfl,g⟩|⟨i,d,e,rfl⟩
  ·refine⟨true,⟨λ _=>⟨Ω,λ i d=>g i d d⟩,λ _=>rfl⟩,m.mono λ n e=> ?_⟩;simp only[decide_false,cond_false,dL.P,f];exact congrArg (Option.bind · _) e
  ·refine⟨false,⟨λ h=>(by cases h),λ h=>absurd (λ _=>h.2 i d) e⟩,m.mono λ n e=> ?_⟩;simp only[decide_false,cond_false,dL.P,f];exact congrArg (Option.bind · _) e
 ·intro i d;by_cases l:al[i]<0
  ·exact .inr ⟨λ h=>absurd (h d).1 Ω,.all λ n k=>by simp only[decide_true,cond_true,aaj,dL.L1,jo d,fE d,l]⟩
  by_cases p:3<al[i]
  ·exact .inr ⟨λ h=>absurd (h d).2 Ω,.all λ n k=>by simp only[decide_true,decide_false,cond_true,cond_false,aaj,dL.L1,jo d,fE d,l,p]⟩
  ·exact .inl ⟨λ _=>⟨Ω,Ω⟩,.all λ n k=>by simp only[decide_true,decide_false,cond_true,cond_false,aaj,dL.L1,jo d,fE d,l,p,wrap_succ d q]⟩
 ·exact .all λ n k=>by simp only[decide_false,cond_false,aaj,Fp,dL.L1]
def bg (S f:Int):Prop:=0<=f/\f<S
def UF (S:Int) (l:LI) (i:Nat):Prop:= ∀h:i<l.length,bg S l[i]/\(0<i->l[i-1]<l[i])
def OC (S:Int) (l:LI) (i:Nat):Prop:= ∀h:i<l.length,bg S l[i]
def Gz (al:LI) (S:Int) (r:Rule):Prop:=0<=r.1/\r.1<(al.length:Int)/\(∀h:r.1.toNat<al.length,(r.2.1.length:Int)=al[r.1.toNat])/\bg S r.2.2/\ ∀i,i<r.2.1.length->OC S r.2.1 i
def OE (al:LI) (S:Int) (l:LR) (i:Nat):Prop:= ∀h:i<l.length,Gz al S l[i]
def bW (al:LI) (a:Aut):Prop:=ED al/\0<=a.1/\a.1<=300/\a.2.2.length<=20000/\(∀i,i<a.2.1.length->UF a.1 a.2.1 i)/\ ∀i,i<a.2.2.length->OE al a.1 a.2.2 i
theorem NJ (x S:Int) (f:LI) (rs:LR):Sp (λ n=>vG.P n) (x,S,f,rs) (λ r=>r=true ↔ bg S x):=by
 by_cases h:0<=x
 ·exact⟨decide (x<S),decide_eq_true_iff.trans ⟨λ d=>⟨h,d⟩,λ d=>d.2⟩,.all λ n=>by simp only[decide_true,cond_true,aaj,vG.P,h]⟩
 ·exact⟨false,⟨λ h=>(by cases h),λ d=>absurd d.1 h⟩,.all λ n=>by simp only[decide_false,cond_false,aaj,vG.P,h]⟩
section
variable {F:Nat->Bl->Option Bool} (hF: ∀x S f rs,Sp F (x,S,f,rs) (λ r=>r=true ↔ bg S x))
include hF
theorem P5 (al:LI) (S:Int) (fin:LI) (rs:LR) (g:fin.length<=ay):
 Lp (λ n=>cu.L1 (F n)) (al,S,fin,rs,fin,(fin.length:Int),(0:Int)) (λ t=>(t= .inl (al,S,fin,rs)/\ ∀i,i<fin.length->UF S fin i)\/ ∃i,i<fin.length/\ ¬UF S fin i/\t= .inr false):=by
 refine aX4 fin.length (λ i=>(al,S,fin,rs,fin,(fin.length:Int),(i:Int))) (UF S fin) (λ _=>Sum.inr false) (Sum.inl (al,S,fin,rs)) ?_ ?_
 ·intro i d;obtain⟨r,p,l⟩:=hF fin[i] S fin rs;cases r
  ·exact .inr ⟨λ h=>(by have:=p.mpr (h d).1;cases this),l.mono λ n f k=>by simp only[decide_true,cond_true,aaj,acd,cu.L1,jo d,fE d,f]⟩
  ·have hs:=p.mp rfl;by_cases m:0<i
   ·have e:(0:Int)<(i:Int):=by omega
    have q:i-1<fin.length:=by omega
    by_cases u:fin[i]<=fin[i-1]
    ·exact .inr ⟨λ h=>by have:=(h d).2 m;omega,l.mono λ n f k=>by simp only[decide_true,cond_true,cond_false,aaj,abm,cu.L1,jo d,fE d,f,e,Uw d g m,fE q,u]⟩
    ·exact .inl ⟨λ _=>⟨hs,λ _=>Ω⟩,l.mono λ n f k=>by simp only[decide_true,decide_false,cond_true,cond_false,aaj,abm,cu.L1,jo d,fE d,f,e,Uw d g m,fE q,u,wrap_succ d g]⟩
   ·have e: ¬(0:Int)<(i:Int):=by omega
    exact .inl ⟨λ _=>⟨hs,λ h=>absurd h m⟩,l.mono λ n f k=>by simp only[decide_true,decide_false,cond_true,cond_false,aaj,abm,cu.L1,jo d,fE d,f,e,wrap_succ d g]⟩
 ·exact .all λ n k=>by simp only[decide_false,cond_false,aaj,Fp,cu.L1]
theorem P6 (al:LI) (S:Int) (fin:LI) (rs d:LR) (a b:Int) (l:LI) (p:l.length<=ay):
 Lp (λ n=>cu.L2 (F n)) (al,S,fin,rs,d,a,b,l,(l.length:Int),(0:Int)) (λ t=>(t= .inl (al,S,fin,rs,d,a,b)/\ ∀i,i<l.length->OC S l i)\/ ∃i,i<l.length/\ ¬OC S l i/\t= .inr (.inr false)):=by
 refine aX4 l.length (λ i=>(al,S,fin,rs,d,a,b,l,(l.length:Int),(i:Int))) (OC S l) (λ _=>Sum.inr (Sum.inr false)) (Sum.inl (al,S,fin,rs,d,a,b)) ?_ ?_
 ·intro i e;obtain⟨r,g,m⟩:=hF l[i] S fin rs;cases r
  ·exact .inr ⟨λ h=>(by have:=g.mpr (h e);cases this),m.mono λ n f k=>by simp only[decide_true,cond_true,aaj,acd,cu.L2,jo e,fE e,f]⟩
  ·exact .inl ⟨λ _=>g.mp rfl,m.mono λ n f k=>by simp only[decide_true,cond_true,cond_false,aaj,abm,cu.L2,jo e,fE e,f,wrap_succ e p]⟩
 ·exact .all λ n k=>by simp only[decide_false,cond_false,aaj,Fp,cu.L2]
theorem P7 (al:LI) (S:Int) (fin:LI) (rs:LR) (A:rs.length<=ay) (B: ∀r∈rs,r.2.1.length<=ay):
 Lp (λ n=>cu.L3 (F n) n) (al,S,fin,rs,rs,(rs.length:Int),(0:Int)) (λ t=>(t= .inl ()/\ ∀i,i<rs.length->OE al S rs i)\/ ∃i,i<rs.length/\ ¬OE al S rs i/\t= .inr false):=by
 refine aX4 rs.length (λ i=>(al,S,fin,rs,rs,(rs.length:Int),(i:Int))) (OE al S rs) (λ _=>Sum.inr false) (Sum.inl ()) ?_ ?_
 ·intro i d;by_cases g:rs[i].1<0
  ·exact .inr ⟨λ h=>absurd (h d).1 Ω,.all λ n k=>by simp only[decide_true,cond_true,aaj,cu.L3,jo d,fE d,g]⟩
  by_cases m:(al.length:Int)<=rs[i].1
  ·exact .inr ⟨λ h=>absurd (h d).2.1 Ω,.all λ n k=>by simp only[decide_true,decide_false,cond_true,cond_false,aaj,cu.L3,jo d,fE d,g,m]⟩
  have u:=Cm (l:=al) (z:=rs[i].1) Ω Ω;by_cases f:((rs[i].2.1.length:Nat):Int)=al[rs[i].1.toNat]' Ω
  ·obtain⟨r,p,v⟩:=hF rs[i].2.2 S fin rs;cases r
   ·exact .inr ⟨λ h=>(by have:=p.mpr (h d).2.2.2.1;cases this),v.mono λ n e k=>by simp only[decide_true,decide_false,cond_true,cond_false,aaj,abm,acd,cu.L3,jo d,fE d,g,m,u,f,e]⟩
   ·obtain⟨t,y,q⟩:=(P6 hF al S fin rs rs (rs.length:Int) (i:Int) rs[i].2.1 (B _ (aaf d))).ev;rcases y with⟨rfl,y⟩|⟨j,C,e,rfl⟩
    ·exact .inl ⟨λ _=>⟨Ω,Ω,λ _=>f,p.mp rfl,y⟩,(v.and q).mono λ n e k=>by rw[f]at e;simp only[decide_true,decide_false,cond_true,cond_false,aaj,abm,cu.L3,jo d,fE d,g,m,u,f,e.1,e.2,wrap_succ d A]⟩
    ·exact .inr ⟨λ h=>e ((h d).2.2.2.2 j C),(v.and q).mono λ n e k=>by rw[f]at e;simp only[decide_true,decide_false,cond_true,cond_false,aaj,abm,cu.L3,jo d,fE d,g,m,u,f,e.1,e.2]⟩
  ·exact .inr ⟨λ h=>f ((h d).2.2.1 Ω),.all λ n k=>by simp only[decide_true,decide_false,cond_true,cond_false,aaj,acd,cu.L3,jo d,fE d,g,m,u,f]⟩
 ·exact .all λ n k=>by simp only[decide_false,cond_false,aaj,Fp,cu.L3]
theorem QV {G:Nat->LI->Option Bool} (z: ∀al,al.length<=ay->Sp G al (λ r=>r=true ↔ ED al)) (al:LI) (S:Int) (fin:LI) (rs:LR) (A:al.length<=ay) (B:fin.length<=ay) (C:rs.length<=ay) (D: ∀r∈rs,r.2.1.length<=ay):
 Sp (λ n=>cu.P (F n) (G n) n) (al,S,fin,rs) (λ r=>r=true ↔ bW al (S,fin,rs)):=by
 obtain⟨r,y,e⟩:=z al A;cases r
 ·exact⟨false,⟨λ h=>(by cases h),λ h=>y.mpr h.1⟩,e.mono λ n d=>by simp only[cond_true,aaj,acd,cu.P,d]⟩
 have u:=y.mp rfl;by_cases m:S<0
 ·exact⟨false,⟨λ h=>(by cases h),λ h=>absurd h.2.1 (by simp only;omega)⟩,e.mono λ n d=>by simp only[decide_true,cond_true,cond_false,aaj,abm,cu.P,d,m]⟩
 by_cases p:300<S
 ·exact⟨false,⟨λ h=>(by cases h),λ h=>absurd h.2.2.1 (by simp only;omega)⟩,e.mono λ n d=>by simp only[decide_true,decide_false,cond_true,cond_false,aaj,abm,cu.P,d,m,p]⟩
 by_cases t:20000<(rs.length:Int)
 ·exact⟨false,⟨λ h=>(by cases h),λ h=>absurd h.2.2.2.1 (by simp only;omega)⟩,e.mono λ n d=>by simp only[decide_true,decide_false,cond_true,cond_false,aaj,abm,cu.P,d,m,p,t]⟩
 obtain⟨t1,f,g⟩:=(P5 hF al S fin rs B).ev;rcases f with⟨rfl,f⟩|⟨i,v,k,rfl⟩
 ·obtain⟨E,l,q⟩:=(P7 hF al S fin rs C D).ev;rcases l with⟨rfl,l⟩|⟨i,v,k,rfl⟩
  ·exact⟨true,⟨λ _=>⟨u,by simp only;omega,by simp only;omega,by simp only;omega,f,l⟩,λ _=>rfl⟩,(e.and (g.and q)).mono λ n d=>by simp only[decide_false,cond_false,aaj,abm,cu.P,d.1,m,p,t,d.2.1,d.2.2]⟩
  ·exact⟨false,⟨λ h=>(by cases h),λ h=>absurd (h.2.2.2.2.2 i v) k⟩,(e.and (g.and q)).mono λ n d=>by simp only[decide_false,cond_false,aaj,abm,cu.P,d.1,m,p,t,d.2.1,d.2.2]⟩
 ·exact⟨false,⟨λ h=>(by cases h),λ h=>absurd (h.2.2.2.2.1 i v) k⟩,(e.and g).mono λ n d=>by simp only[decide_false,cond_false,aaj,abm,cu.P,d.1,m,p,t,d.2]⟩
end
theorem len1 {α:Type} {a:α}:List.length [a]=1:=rfl
theorem UJ {α:Type} {l:List α} {i:Nat} (h:i<l.length):List.append (l.take i) [l[i]]=l.take (i+1):=by
 show l.take i++[l[i]]=_;rw[aat];simp[h]
theorem ajP (l:LI) (v:Int) (p:l.length<=ay):Sp yL.P (l,v) (λ r=>r=true ↔ v∈l):=by
 have:=aX4 (L:=λ _=>yL.L1) l.length (λ i=>(v,l,(l.length:Int),(i:Int))) (λ i=> ∀h:i<l.length,l[i]≠v) (λ _=>Sum.inr true) (Sum.inl ()) ?_ ?_
 ·obtain⟨t,f,g⟩:=this.ev;rcases f with⟨rfl,f⟩|⟨i,d,e,rfl⟩
  ·refine⟨false,⟨λ h=>(by cases h),λ h=> ?_⟩,g.mono λ n e=>congrArg (Option.bind · _) e⟩;obtain⟨j,m,rfl⟩:=aay h;exact absurd rfl (f j m m)
  ·refine⟨true,⟨λ _=> ?_,λ _=>rfl⟩,g.mono λ n e=>congrArg (Option.bind · _) e⟩;have:l[i]=v:=aaT λ h=>e λ _=>h;exact this▸aaf d
 ·intro i d;by_cases h:l[i]=v
  ·exact .inr ⟨λ q=>q d h,.all λ n k=>by simp only[decide_true,cond_true,aaj,yL.L1,jo d,fE d,h]⟩
  ·exact .inl ⟨λ _=>h,.all λ n k=>by simp only[decide_true,decide_false,cond_true,cond_false,aaj,yL.L1,jo d,fE d,h,wrap_succ d p]⟩
 ·exact .all λ n k=>by simp only[decide_false,cond_false,aaj,Fp,yL.L1]
theorem adp (l:LI) (v:Int) (hl:l.length+1<=ay):Sp kH.P (l,v) (λ r=>(∀y,y∈r ↔ y=v\/y∈l)/\r.length<=l.length+1/\((l.Pairwise λ a b=>a<b)->r.Pairwise λ a b=>a<b)):=by
 have R:Lp (λ _=>kH.L1) (l,v,(0:Int)) (λ t=> ∃i:Nat,i<=l.length/\t=(l,v,(i:Int))/\(∀j (h:j<l.length),j<i->l[j]<v)/\ ∀h:i<l.length,v<=l[i]):=by
  refine aX3 l.length (λ i s=>s=(l,v,(i:Int))/\ ∀j (h:j<l.length),j<i->l[j]<v) ?_ ?_ _ ⟨rfl,λ j _ h=>absurd h (Nat.not_lt_zero _)⟩
  ·rintro i s f ⟨rfl,g⟩;by_cases h:l[i]<v
   ·exact .inl ⟨_,⟨rfl,λ j A B=>(aa1 (aa9 B)).elim (g j A) λ e=>by subst e;exact h⟩,.all λ n k=>by simp only[decide_true,cond_true,aaj,kH.L1,jo f,fE f,h,wrap_succ f (m:=l.length) Ω]⟩
   ·exact .inr ⟨_,⟨i,Ω,rfl,g,λ _=>Ω⟩,.all λ n k=>by simp only[decide_true,decide_false,cond_true,cond_false,aaj,kH.L1,jo f,fE f,h]⟩
  ·rintro s ⟨rfl,g⟩;exact .inr ⟨_,⟨_,aaw _,rfl,g,λ h=>absurd h (Nat.lt_irrefl _)⟩,.all λ n k=>by simp only[decide_false,cond_false,aaj,Fp,kH.L1]⟩
 obtain⟨t,⟨i,f,rfl,g,S⟩,C⟩:=R.ev;have D:((0:Int)<=(i:Int))=True:=eq_true Ω;have E:((i:Int)<=(l.length:Int))=True:=eq_true Ω;have L:min i l.length<=ay:=by omega
 have M:min i l.length+1<=ay:=by omega
 have N:min i l.length+1+(l.length-i)<=ay:=by omega
 have O: ∀y,y∈l.take i++v::l.drop i ↔ y=v\/y∈l:=by
  intro y;have:y∈l ↔ y∈l.take i\/y∈l.drop i:=by rw[←aap,abb]
  rw[this];simp only[aap,aaU];constructor
  ·rintro(h|h|h)<;>simp[h]
  ·rintro(h|h|h)<;>simp[h]
 have p:(l.take i++v::l.drop i).length<=l.length+1:=by
  simp only[aaq,aaE,abh,aaX];omega
 have q:(∀h:i<l.length,l[i]≠v)->(l.Pairwise λ a b=>a<b)->(l.take i++v::l.drop i).Pairwise λ a b=>a<b:=λ G I=>by
  have Q: ∀y∈l.drop i,v<y:=λ y U=>by
   obtain⟨k,W,rfl⟩:=aay U;rw[abh]at W;rw[List.getElem_drop];have D:=S Ω;have E:=G Ω;rcases ab5 k with rfl|Y
   ·show v<l[i];omega
   ·have:=aaN.1 I i (i+k) Ω Ω Ω;omega
  refine abY.2 ⟨I.sublist (List.take_sublist _ _),ab4.2 ⟨Q,I.sublist (List.drop_sublist _ _)⟩,λ a Z b K=> ?_⟩;obtain⟨j,A,rfl⟩:=aay Z;rw[aaE]at A;rw[abV];have:=g j Ω Ω;rcases aaU.1 K with rfl|K
  ·exact this
  ·have:=Q b K;omega
 by_cases d:i<l.length
 ·by_cases hv:l[i]=v
  ·refine⟨l,⟨λ y=>⟨.inr,?_⟩,Ω,id⟩,C.mono λ n u=>by simp only[decide_true,cond_true,aaj,kH.P,u,jo d,fE d,hv]⟩;rintro(rfl|h)
   ·exact hv▸aaf d
   ·exact h
  ·refine⟨_,⟨O,p,q λ _=>hv⟩,C.mono λ n u=> ?_⟩;simp only[decide_true,decide_false,cond_true,cond_false,aaj,acr,acR,kH.P,u,jo d,fE d,hv,D,E];simp[aam,aaJ];simp only[decide_true,cond_true,L,M,N]
 ·have z:((i:Int)<(l.length:Int))=False:=eq_false Ω;refine⟨_,⟨O,p,q λ h=>absurd h d⟩,C.mono λ n u=> ?_⟩;simp only[decide_true,decide_false,cond_false,aaj,acr,acR,kH.P,u,z,D,E];simp[aam,aaJ];simp only[decide_true,cond_true,L,M,N]
theorem ahq {F:Nat->Af->Option Bool} (hF: ∀l v,l.length<=ay->Sp F (l,v) (λ r=>r=true ↔ v∈l)) (d g:LI) (A:d.length<=ay) (B:g.length<=ay):
 Sp (λ n=>rX.P (F n) n) (d,g) (λ r=>r=true ↔ ∃q,q∈d/\q∈g):=by
 have:=aX4 (L:=λ n=>rX.L1 (F n)) d.length (λ i=>(g,d,(d.length:Int),(i:Int))) (λ i=> ∀h:i<d.length,¬d[i]∈g) (λ _=>Sum.inr true) (Sum.inl ()) ?_ ?_
 ·obtain⟨t,p,m⟩:=this.ev;rcases p with⟨rfl,p⟩|⟨i,f,e,rfl⟩
  ·refine⟨false,⟨λ h=>(by cases h),λ h=> ?_⟩,m.mono λ n e=>congrArg (Option.bind · _) e⟩;obtain⟨q,C,u⟩:=h;obtain⟨j,y,rfl⟩:=aay C;exact absurd u (p j y y)
  ·refine⟨true,⟨λ _=> ?_,λ _=>rfl⟩,m.mono λ n e=>congrArg (Option.bind · _) e⟩;exact⟨d[i],aaf f,aaT λ h=>e λ _=>h⟩
 ·intro i f;obtain⟨r,z,m⟩:=hF g d[i] B;cases r
  ·exact .inl ⟨λ _ h=>(by have:=z.mpr h;cases this),m.mono λ n e k=>by simp only[decide_true,cond_true,cond_false,aaj,rX.L1,jo f,fE f,e,wrap_succ f A]⟩
  ·exact .inr ⟨λ D=>D f (z.mp rfl),m.mono λ n e k=>by simp only[decide_true,cond_true,aaj,rX.L1,jo f,fE f,e]⟩
 ·exact .all λ n k=>by simp only[decide_false,cond_false,aaj,Fp,rX.L1]
theorem ahk {F:Nat->LI->Option LI} (hF: ∀l:LI,l.length<=ay->Sp F l (λ r=>r=l)) (S:Int) (fin:LI) (rs:LR) (p:fin.length<=ay) (q:rs.length<=ay) (u: ∀r∈rs,r.2.1.length<=ay):
 Sp (λ n=>sJ.P (F n) n) (S,fin,rs) (λ r=>r=(S,fin,rs)):=by
 have v:Lp (λ n=>sJ.L1 (F n)) ((0:Int),([]:LI),([]:LR),S,fin,([]:LR),rs,(rs.length:Int),(0:Int)) (λ t=>t=((0:Int),([]:LI),([]:LR),S,fin,rs)):=by
  refine aX3 rs.length (λ i s=>s=((0:Int),([]:LI),([]:LR),S,fin,rs.take i,rs,(rs.length:Int),(i:Int))) ?_ ?_ _ rfl
  ·rintro i s d rfl;obtain⟨r,rfl,g⟩:=hF rs[i].2.1 (u _ (aaf d));refine .inl ⟨_,rfl,g.mono λ n f k=> ?_⟩;have e:(rs.take i).length+1<=ay:=by rw[aaE];omega
   simp only[decide_true,cond_true,aaj,sJ.L1,jo d,fE d,f,len1,e,wrap_succ d q];rw[←UJ d]
  ·rintro s rfl;exact .inr ⟨_,rfl,.all λ n k=>by simp only[decide_false,cond_false,Fp,sJ.L1,aar]⟩
 obtain⟨r,rfl,g⟩:=hF fin p;obtain⟨t,rfl,m⟩:=v.ev;exact⟨_,rfl,(g.and m).mono λ n f=>by simp only[aaj,sJ.P,f.1,f.2]⟩
theorem afe (S:Int) (fin:LI) (rs:LR) (z:0<=S) (G:S<=300) (A:fin.length<=ay) (B: ∀q∈fin,bg S q):
 Sp oz.P (S,fin,rs) (λ r=>r.length=S.toNat/\ ∀q:Int,bg S q->q<(r.length:Int)/\at? r q.toNat=some (decide (q∈fin))):=by
 have C:Lp (λ _=>oz.L1) (List.replicate S.toNat false,fin,(fin.length:Int),(0:Int)) (λ r=>r.length=S.toNat/\ ∀q:Nat,q<S.toNat->r[q]? =some (decide ((q:Int)∈fin))):=by
  refine aX3 fin.length (λ i s=> ∃r:List Bool,s=(r,fin,(fin.length:Int),(i:Int))/\r.length=S.toNat/\ ∀q:Nat,q<S.toNat->r[q]? =some (decide ((q:Int)∈fin.take i))) ?_ ?_ _ ⟨_,rfl,abC,λ q d=>by simp[d]⟩
  ·rintro i s f ⟨r,rfl,l,m⟩;have hs:=B _ (aaf f);have p:((0:Int)<=fin[i])=True:=eq_true hs.1;have t:(fin[i]<(r.length:Int))=True:=eq_true (by have:=hs.2;have:=hs.1;omega);have u:at? r fin[i].toNat=some (r[fin[i].toNat]'(by have:=hs.2;have:=hs.1;omega)):=aac _;refine .inl ⟨_,⟨r.set fin[i].toNat true,rfl,by rw[aa7];exact l,λ q d=> ?_⟩,.all λ n k=> ?_⟩
   ·rw[aaR]
    have e:(q:Int)∈fin.take (i+1) ↔ (q:Int)∈fin.take i\/(q:Int)=fin[i]:=by
     rw[show fin.take (i+1)=fin.take i++[fin[i]]from(UJ f).symm];simp only[aap,aah]
    by_cases g:fin[i].toNat=q
    ·have:(q:Int)=fin[i]:=by have:=hs.1;omega
     rw[if_pos g,if_pos Ω];exact congrArg some (decide_eq_true (e.mpr (.inr this))).symm
    ·have: ¬(q:Int)=fin[i]:=by omega
     rw[if_neg g,m q d];congr 1;exact decide_eq_decide.mpr ⟨λ h=>e.mpr (.inl h),λ h=>(e.mp h).resolve_right this⟩
   ·simp only[decide_true,cond_true,aaj,acr,oz.L1,jo f,fE f,p,t,u,wrap_succ f A]
  ·rintro s ⟨r,rfl,l,m⟩;exact .inr ⟨r,⟨l,λ q d=>by rw[m q d,aar]⟩,.all λ n k=>by simp only[decide_false,cond_false,Fp,oz.L1]⟩
 obtain⟨r,⟨v,y⟩,D⟩:=C.ev;have p:((0:Int)<=S)=True:=eq_true z;have t:(S<=S)=True:=eq_true (acY _);have u:(S<=(ay:Int))=True:=eq_true (by have:=eG;omega);refine⟨r,⟨v,λ q d=>⟨by have:=d.1;have:=d.2;omega,?_⟩⟩,D.mono λ n E=>by simp only[decide_true,cond_true,aaj,acr,oz.P,p,t,u,E]⟩;have:=y q.toNat (by have:=d.1;have:=d.2;omega);rw[abI d.1]at this;exact this
inductive Shp (al:LI):RT Int->Prop
 |mk (a:Int) (ks:List (RT Int)) (h0:0<=a) (h:al[a.toNat]? =some (ks.length:Int)) (hk: ∀k,k∈ks->Shp al k):Shp al (.mk a ks)
theorem Shp.nonneg {al:LI} {a:Int} {ks:List (RT Int)} (h:Shp al (.mk a ks)):0<=a:=by cases h;assumption
theorem Shp.ar {al:LI} {a:Int} {ks:List (RT Int)} (h:Shp al (.mk a ks)):al[a.toNat]? =some (ks.length:Int):=by cases h;assumption
theorem Shp.kid {al:LI} {a:Int} {ks:List (RT Int)} (h:Shp al (.mk a ks)): ∀k,k∈ks->Shp al k:=by cases h;assumption
theorem MI {a:Int} {ks:List (RT Int)} {k:RT Int} (h:k∈ks):nds k<=nds (.mk a ks):=by
 have:=WS h;simp only[nds];omega
theorem IV {a:Int} {ks:List (RT Int)}:ks.length<=nds (.mk a ks):=by
 have:=WR ks;simp only[nds];omega
theorem adA {F:Nat->LI×Int×List (RT Int)->Option Bool} (hF: ∀n x,F (n+1) x=iE.P (F n) n x) (al:LI) (t:RT Int):
 nds t<=ay->Sp F (al,t.a,t.kids) (λ r=>r=true ↔ Shp al t):=by
 induction t using uz with
 |h a ks K=>
 intro d;have p:ks.length<=ay:=aaP IV d;refine aZ5 (F:=F) (G:=λ n=>iE.P (F n) n) hF ?_;simp only[RT.a,RT.kids];by_cases g:a<0
 ·exact⟨false,⟨λ h=>(by cases h),λ h=>absurd h.nonneg Ω⟩,.all λ n=>by simp only[decide_true,cond_true,aaj,iE.P,g]⟩
 by_cases u:(al.length:Int)<=a
 ·exact⟨false,⟨λ h=>(by cases h),λ h=>absurd h.ar (by rw[aal Ω];simp)⟩,.all λ n=>by simp only[decide_true,decide_false,cond_true,cond_false,aaj,iE.P,g,u]⟩
 have B:a.toNat<al.length:=by omega
 have C:=Cm (l:=al) (z:=a) Ω Ω;by_cases m:(ks.length:Int)=al[a.toNat]
 ·have M:=aX4 (L:=λ n=>iE.L1 (F n)) ks.length (λ i=>(al,ks,(ks.length:Int),(i:Int))) (λ i=> ∀h:i<ks.length,Shp al ks[i]) (λ _=>Sum.inr false) (Sum.inl ()) ?_ ?_
  ·obtain⟨t,v,f⟩:=M.ev;have y:nth? al a=some (ks.length:Int):=by rw[C,m]
   have D: ∀n,iE.P (F n) n (al,a,ks)=(bH (iE.L1 (F n)) n (al,ks,(ks.length:Int),(0:Int))).bind λ q=>match q with
    |Sum.inl _=>(some true)
    |Sum.inr r=>some r:=by
    intro n;simp only[decide_true,decide_false,cond_false,aaj,abm,iE.P,g,u,y]<;>rfl
   rcases v with⟨rfl,v⟩|⟨i,e,A,rfl⟩
   ·refine⟨true,⟨λ _=> .mk _ _ Ω (by rw[aac B,m]) λ k p=> ?_,λ _=>rfl⟩,f.mono λ n d=> ?_⟩
    ·obtain⟨j,E,rfl⟩:=aay p;exact v j E E
    ·exact(D n).trans (congrArg (Option.bind · _) d)
   ·refine⟨false,⟨λ h=>(by cases h),λ h=>absurd (λ _=>h.kid _ (aaf e)) A⟩,f.mono λ n d=> ?_⟩;exact(D n).trans (congrArg (Option.bind · _) d)
  ·intro i e;obtain⟨r,I,f⟩:=K ks[i] (aaf e) (aaP (MI (aaf e)) d);cases r
   ·exact .inr ⟨λ h=>(by have:=I.mpr (h e);cases this),f.mono λ n d k=>by simp only[decide_true,cond_true,aaj,acd,iE.L1,jo e,fE e,d]⟩
   ·exact .inl ⟨λ _=>I.mp rfl,f.mono λ n d k=>by simp only[decide_true,cond_true,cond_false,aaj,abm,iE.L1,jo e,fE e,d,wrap_succ e p]⟩
  ·exact .all λ n k=>by simp only[decide_false,cond_false,aaj,Fp,iE.L1]
 ·refine⟨false,⟨λ h=>(by cases h),λ h=>absurd h.ar ?_⟩,.all λ n=>by simp only[decide_false,cond_true,cond_false,aaj,acd,iE.P,g,u,C,m]⟩;rw[aac B];intro h;exact m (aak h).symm
inductive Reach (rs:LR):RT Int->Int->Prop
 |mk (r:Rule) (a:Int) (ks:List (RT Int)) (hr:r∈rs) (ha:r.1=a) (hl:r.2.1.length=ks.length)
  (hk: ∀(i:Nat) (k:RT Int) (f:Int),ks[i]? =some k->r.2.1[i]? =some f->Reach rs k f):Reach rs (.mk a ks) r.2.2
theorem bV {rs:LR} {a:Int} {ks:List (RT Int)} {q:Int}:Reach rs (.mk a ks) q ↔ ∃r∈rs,r.1=a/\r.2.2=q/\r.2.1.length=ks.length/\ ∀(i:Nat) (k:RT Int) (f:Int),ks[i]? =some k->r.2.1[i]? =some f->Reach rs k f:=by
 constructor
 ·intro h
  cases h with
  |mk r _ _ d e g l=>exact⟨r,d,e,rfl,g,l⟩
 ·rintro⟨r,d,e,rfl,g,l⟩;exact .mk r a ks d e g l
inductive Sub:RT Int->RT Int->Prop
 |refl (t):Sub t t
 |kid (u k:RT Int) (a:Int) (ks:List (RT Int)) (hk:k∈ks) (h:Sub u k):Sub u (.mk a ks)
theorem Shp.sub {al:LI} {u t:RT Int} (h:Sub u t) (hs:Shp al t):Shp al u:=by
 induction h with
 |refl=>exact hs
 |kid k a ks d h e=>exact e (hs.kid k d)
def Ar (al:LI) (rs:LR):Prop:= ∀r∈rs,0<=r.1/\al[r.1.toNat]? =some (r.2.1.length:Int)
def Fit (s:Int) (d:LL) (r:Rule):Prop:=r.1=s/\r.2.1.length=d.length/\ ∀(i:Nat) (l:LI) (f:Int),d[i]? =some l->r.2.1[i]? =some f->f∈l
theorem adv {F:Nat->Af->Option Bool} {G:Nat->Af->Option LI}
 (hF: ∀l v,l.length<=ay->Sp F (l,v) (λ r=>r=true ↔ v∈l))
 (Z: ∀(l:LI) v,l.length+1<=ay->Sp G (l,v) (λ r=>(∀y,y∈r ↔ y=v\/y∈l)/\r.length<=l.length+1/\((l.Pairwise λ a b=>a<b)->r.Pairwise λ a b=>a<b)))
 (S:Int) (fin:LI) (rs:LR) (s:Int) (p:LL) (h1:rs.length+1<=ay) (h2:p.length<=ay) (h3: ∀l∈p,l.length<=ay)
 (R: ∀r∈rs,r.1=s->r.2.1.length=p.length):
 Sp (λ n=>jU.P (F n) (G n) n) (S,fin,rs,s,p) (λ l=>(∀q,q∈l ↔ ∃r∈rs,Fit s p r/\r.2.2=q)/\l.length<=rs.length/\l.Pairwise λ a b=>a<b):=by
 have I: ∀(d:LI) (i:Nat) (r:Rule),r∈rs->Lp (λ n=>jU.L1 (F n)) (s,p,d,r.1,r.2.1,r.2.2,decide (r.1=s),(0:Int),rs,(rs.length:Int),(i:Int))
  (λ t=> ∃b:Bool,t=(s,p,d,r.1,r.2.1,r.2.2,b,rs,(rs.length:Int),(i:Int))/\(b=true ↔ Fit s p r)):=by
  intro d i r g;refine aX3 p.length (λ j x=> ∃b:Bool,x=(s,p,d,r.1,r.2.1,r.2.2,b,(j:Int),rs,(rs.length:Int),(i:Int))/\(b=true ↔ r.1=s/\ ∀(i:Nat) (l:LI) (f:Int),i<j->p[i]? =some l->r.2.1[i]? =some f->f∈l)) ?_ ?_ _ ⟨_,rfl,?_⟩
  ·rintro j x O ⟨b,rfl,K⟩;cases b
   ·refine .inr ⟨_,⟨false,rfl,⟨λ h=>(by cases h),λ h=> ?_⟩⟩,.all λ n k=>by simp only[cond_false,aaj,jU.L1]⟩;exact K.mpr ⟨h.1,λ i l f _ B C=>h.2.2 i l f B C⟩
   ·have L:=K.mp rfl;have B:=R r g L.1;have M:j<r.2.1.length:=by omega
    obtain⟨v,hv,Q⟩:=hF p[j] r.2.1[j] (h3 _ (aaf O));refine .inl ⟨_,⟨v,rfl,hv.trans ⟨λ h=>⟨L.1,λ i l f u B C=> ?_⟩,λ h=>h.2 j _ _ Ω (aac O) (aac M)⟩⟩,Q.mono λ n D k=>by simp only[decide_true,cond_true,aaj,jU.L1,jo O,fE O,fE M,D,wrap_succ O h2]⟩;rcases aa1 (aa9 u)with u|rfl
    ·exact L.2 i l f u B C
    ·rw[aac O]at B;rw[aac M]at C;cases B;cases C;exact h
  ·rintro x ⟨b,rfl,K⟩;refine .inr ⟨_,⟨b,rfl,K.trans ⟨λ h=>⟨h.1,R r g h.1,λ i l f B C=>h.2 i l f ?_ B C⟩,λ h=>⟨h.1,λ i l f _ B C=>h.2.2 i l f B C⟩⟩⟩,.all λ n k=>by cases b<;>simp only[decide_false,cond_true,cond_false,aaj,Fp,jU.L1]⟩;exact(aad.mp B).1
  ·rw[decide_eq_true_iff];exact⟨λ h=>⟨h,λ i l f u=>absurd u Ω⟩,λ h=>h.1⟩
 have N:Lp (λ n=>jU.L2 (F n) n (G n)) (s,p,([]:LI),rs,(rs.length:Int),(0:Int)) (λ l=>(∀q,q∈l ↔ ∃r∈rs,Fit s p r/\r.2.2=q)/\l.length<=rs.length/\l.Pairwise λ a b=>a<b):=by
  refine aX3 rs.length (λ i x=> ∃d:LI,x=(s,p,d,rs,(rs.length:Int),(i:Int))/\(∀q,q∈d ↔ ∃r∈rs.take i,Fit s p r/\r.2.2=q)/\d.length<=i/\d.Pairwise λ a b=>a<b) ?_ ?_ _ ⟨[],rfl,λ q=>Θ,aaw _,List.Pairwise.nil⟩
  ·rintro i x u ⟨d,rfl,z,E,A⟩;obtain⟨t,⟨b,rfl,K⟩,Q⟩:=(I d i rs[i] (aaf u)).ev;have e:rs.take (i+1)=rs.take i++[rs[i]]:=(UJ u).symm;cases b
   ·refine .inl ⟨_,⟨d,rfl,λ q=>(z q).trans ?_,Ω,A⟩,Q.mono λ n D k=>by simp only[decide_true,cond_true,cond_false,aaj,jU.L2,jo u,fE u,D,wrap_succ u (m:=rs.length) Ω]⟩;rw[e];constructor
    ·rintro⟨r,g,h⟩;exact⟨r,aaF _ g,h⟩
    ·rintro⟨r,g,h⟩;rcases aap.mp g with g|g
     ·exact⟨r,g,h⟩
     ·obtain rfl:=aah.mp g;exact absurd (K.mpr h.1) Θ
   ·obtain⟨U,⟨hm,a3,W⟩,Y⟩:=Z d rs[i].2.2 Ω;refine .inl ⟨_,⟨U,rfl,λ q=>(hm q).trans ?_,Ω,W A⟩,(Q.and Y).mono λ n D k=>by simp only[decide_true,cond_true,aaj,jU.L2,jo u,fE u,D.1,D.2,wrap_succ u (m:=rs.length) Ω]⟩;rw[e,z];constructor
    ·rintro(rfl|⟨r,g,h⟩)
     ·exact⟨rs[i],aa4 _ (aah.mpr rfl),K.mp rfl,rfl⟩
     ·exact⟨r,aaF _ g,h⟩
    ·rintro⟨r,g,h⟩;rcases aap.mp g with g|g
     ·exact .inr ⟨r,g,h⟩
     ·obtain rfl:=aah.mp g;exact .inl h.2.symm
  ·rintro x ⟨d,rfl,z,E,A⟩;exact .inr ⟨_,⟨λ q=>by rw[z,aar],E,A⟩,.all λ n k=>by simp only[decide_false,cond_false,Fp,jU.L2]⟩
 obtain⟨t,ht,Q⟩:=N.ev;exact⟨t,ht,Q.mono λ n D=>by simp only[jU.P,D,aaj]⟩
theorem ajQ {F:Nat->Int×LI×LR×Int×List (RT Int)->Option LI} {G:Nat->Ag->Option LI}
 (hF: ∀n x,F (n+1) x=wV.P (F n) (G n) n x) (al:LI) (S:Int) (fin:LI) (rs:LR) (Y:rs.length+1<=ay) (L:Ar al rs)
 (R: ∀s (d:LL),d.length<=ay->(∀l∈d,l.length<=ay)->(∀r∈rs,r.1=s->r.2.1.length=d.length)->Sp G (S,fin,rs,s,d) (λ l=>(∀q,q∈l ↔ ∃r∈rs,Fit s d r/\r.2.2=q)/\l.length<=rs.length))
 (t:RT Int):nds t<=ay->Shp al t->Sp F (S,fin,rs,t.a,t.kids) (λ l=>(∀q,q∈l ↔ Reach rs t q)/\l.length<=rs.length):=by
 induction t using uz with
 |h a ks U=>
 intro v hs;have A:ks.length<=ay:=aaP IV v;refine aZ5 (F:=F) (G:=λ n=>wV.P (F n) (G n) n) hF ?_;simp only[RT.a,RT.kids]
 have W:Lp (λ n=>wV.L1 (F n)) (S,fin,rs,a,ks,([]:LL),ks,(ks.length:Int),(0:Int))
  (λ x=> ∃d:LL,x=(S,fin,rs,a,ks,d)/\d.length=ks.length/\ ∀(j:Nat) (k:RT Int) (l:LI),ks[j]? =some k->d[j]? =some l->(∀q,q∈l ↔ Reach rs k q)/\l.length<=rs.length):=by
  refine aX3 ks.length (λ i x=> ∃d:LL,x=(S,fin,rs,a,ks,d,ks,(ks.length:Int),(i:Int))/\d.length=i/\ ∀(j:Nat) (k:RT Int) (l:LI),ks[j]? =some k->d[j]? =some l->(∀q,q∈l ↔ Reach rs k q)/\l.length<=rs.length) ?_ ?_ _ ⟨[],rfl,rfl,λ j k l _ h=>by simp at h⟩
  ·rintro i x p ⟨d,rfl,B,g⟩;obtain⟨r,C,M⟩:=U ks[i] (aaf p) (aaP (MI (aaf p)) v) (hs.kid _ (aaf p));have e:d.length+1<=ay:=by omega
   refine .inl ⟨_,⟨d++[r],rfl,by simp[B],λ j k l A u=> ?_⟩,M.mono λ n v k=>by simp only[decide_true,cond_true,aaj,wV.L1,jo p,fE p,v,len1,e,wrap_succ p A];rfl⟩;rw[List.getElem?_append]at u;split at u
   ·exact g j k l A u
   ·have D:j=i:=by
     have:=(aad.mp u).1;simp at this;omega
    subst D;rw[aac p]at A;have:l=r:=by simpa [B]using u.symm
    cases A;rw[this];exact C
  ·rintro x ⟨d,rfl,B,g⟩;exact .inr ⟨_,⟨d,rfl,B,g⟩,.all λ n k=>by simp only[decide_false,cond_false,Fp,wV.L1]⟩
 obtain⟨x,⟨d,rfl,B,g⟩,M⟩:=W.ev;have E: ∀j (D:j<ks.length),∃l,d[j]? =some l:=λ j D=>⟨_,aac Ω⟩
 obtain⟨r,⟨C,N⟩,O⟩:=R a d Ω (λ l u=>by
  obtain⟨j,D,rfl⟩:=aay u;have:=(g j _ _ (aac Ω) (aac D)).2;omega) (λ r C I=>by
  have h:=(L r C).2;rw[I,hs.ar]at h;have:=aak h;omega)
 refine⟨r,⟨λ q=> ?_,N⟩,(M.and O).mono λ n v=>by simp only[wV.P,v.1,v.2,aaj]⟩;rw[C,bV];constructor
 ·rintro⟨r,y,⟨I,u,Q⟩,rfl⟩;refine⟨r,y,I,rfl,Ω,λ i k f K z=> ?_⟩;obtain⟨l,m⟩:=E i (aad.mp K).1;exact((g i k l K m).1 f).mp (Q i l f m z)
 ·rintro⟨r,y,I,rfl,u,Q⟩;refine⟨r,y,⟨I,Ω,λ i l f m z=> ?_⟩,rfl⟩;have p:i<ks.length:=by have:=(aad.mp m).1;omega
  exact((g i _ l (aac p) m).1 f).mpr (Q i _ f (aac p) z)
def Acc (rs:LR) (fin:LI) (t:RT Int):Prop:= ∃q,Reach rs t q/\q∈fin
theorem bW.rule {al:LI} {a:Aut} (h:bW al a) {r:Rule} (e:r∈a.2.2):Gz al a.1 r:=by
 obtain⟨i,d,rfl⟩:=aay e;exact h.2.2.2.2.2 i d d
theorem bW.final {al:LI} {a:Aut} (h:bW al a) {q:Int} (e:q∈a.2.1):bg a.1 q:=by
 obtain⟨i,d,rfl⟩:=aay e;exact(h.2.2.2.2.1 i d d).1
section
variable {al:LI} {S:Int}
theorem Gz.from {r:Rule} (h:Gz al S r) {i:Nat} {f:Int} (e:r.2.1[i]? =some f):bg S f:=by
 obtain⟨d,rfl⟩:=aad.mp e;exact h.2.2.2.2 i d d
theorem Gz.ar {r:Rule} (h:Gz al S r):0<=r.1/\al[r.1.toNat]? =some (r.2.1.length:Int):=by
 refine⟨h.1,?_⟩;have:r.1.toNat<al.length:=by have:=h.1;have:=h.2.1;omega
 rw[aac this,h.2.2.1 this]
theorem bW.ar {a:Aut} (h:bW al a):Ar al a.2.2:=λ r d=>(h.rule d).ar
end
def rows {α:Type} (L:List α):List (Option α):=L.map some
theorem vC {α:Type} (L:List α):(rows L).length=L.length:=aaH ..
theorem H9 {α:Type} (L:List α) (i:Nat) (y:α):List.set (List.set (rows L) i none) i (some y)=rows (L.set i y):=by
 rw[List.set_set];exact(List.map_set ..).symm
theorem KA {α:Type} (n:Nat) (y:α):List.replicate n (some y)=rows (List.replicate n y):=(List.map_replicate ..).symm
theorem H8 {α:Type}: ∀L:List α,oO (rows L)=some L
 | []=>rfl
 |x::L=>by show(oO (rows L)).map (x:: ·)=_;rw[H8 L];rfl
theorem ag8 {α:Type} {L:List α} {i:Nat} (h:i<L.length):rowAt? (rows L) i=some L[i]:=by
 unfold rowAt? rows;rw[aau,aac h];rfl
theorem Bd.row {α σ τ:Type} {I:σ->Prop} {Q:τ->Prop} {L:List α} {i:Nat} {G:Nat->(σ->Option τ)->α->Option τ} (h:i<L.length) (d:Bd (λ n k=>G n k L[i]) I Q):Bd (λ n k=>(rowAt? (rows L) i).bind (G n k)) I Q:=by
 rw[ag8 h];exact d
theorem MG {S:Int} {l:LI} (d:l.Nodup) (h: ∀q∈l,bg S q):l.length<=S.toNat:=by
 have:=d.length_le_of_subset (l₂:=(List.range S.toNat).map λ i:Nat=>(i:Int)) λ q e=>by
  obtain⟨f,g⟩:=h q e;exact aaC.2 ⟨q.toNat,ab1.2 Ω,Ω⟩
 simpa using this
theorem tN {α β:Type} [DecidableEq α] {q:α->α->Bool} (d: ∀a b,q a b=true ↔ a=b) (x y:α) (v:β): ∀l:List (α×β),oV q x (Iw q y v l)=if x=y then some v else oV q x l
 | []=>by
   simp only[Iw,oV,cond_eq_ite];by_cases h:x=y
   ·rw[if_pos ((d x y).2 h),if_pos h]
   ·rw[if_neg λ e=>h ((d x y).1 e),if_neg h]
 |p::l=>by
  simp only[Iw,cond_eq_ite];split
  ·rename_i f;have f:=(d y p.1).1 f;simp only[oV,cond_eq_ite];by_cases h:x=y
   ·rw[if_pos ((d x y).2 h),if_pos h]
   ·rw[if_neg λ e=>h ((d x y).1 e),if_neg h,if_neg λ e=>h (((d x p.1).1 e).trans f.symm)]
  ·rename_i f;simp only[oV,cond_eq_ite,tN d x y v l];split
   ·rename_i g;have g:=(d x p.1).1 g;rw[if_neg λ e:x=y=>f ((d y p.1).2 (e.symm.trans g))]
   ·rfl
theorem agz (a b:Int):ieq a b=true ↔ a=b:=decide_eq_true_iff
theorem Et (a b:ByteArray):seq a b=true ↔ a=b:=decide_eq_true_iff
theorem aec (a b:Bool):ah5 a b=true ↔ a=b:=by cases a<;>cases b<;>simp[ah5]
def QOk (l:LI) (m:Option (List Ad)):Prop:=l.Nodup/\ ∀x,Option.getD (oV ieq x (mX m)) false=true ↔ x∈l
theorem ac6:QOk [] none:=⟨List.nodup_nil,λ x=>by simp[mX,oV]⟩
theorem ai0 (l:LI) (m:Option (List Ad)) (x:Int) (h:QOk l m) (t:l.length<=1000000):
 Sp lJ.P (l,m,x) (λ r=>QOk r.1 r.2/\((x∈l/\r.1=l)\/(x∉l/\r.1=l++[x]))):=by
 show Tt (λ n=>lJ.P n (l,m,x)) _
 have key: ∀m:Option (List Ad),QOk l m->m.isNone=false->Tt (λ _:Nat=>(bif !(Option.getD (oV ieq x (mX m)) false)then
  (m.bind λ i=>bif decide (List.length l+List.length ([x]:LI)<=ay)then some (List.append l ([x]:LI),some (Iw ieq x true i))else none)
  else some (l,m)).bind λ g=>some (g.1,g.2)) (λ r=>QOk r.1 r.2/\((x∈l/\r.1=l)\/(x∉l/\r.1=l++[x]))):=by
  intro m h k;refine aX2 (λ d=> ?_) (λ d=> ?_)
  ·have f:x∉l:=λ f=>by rw[(h.2 x).2 f]at d;cases d
   cases m with
   |none=>cases k
   |some m=>
    refine aW3 (jK Δ) (aZ0 ⟨⟨acE.2 ⟨h.1,Θ,λ a p b q e=>f (by rw[←aah.1 q,←e];exact p)⟩,λ y=> ?_⟩,.inr ⟨f,rfl⟩⟩);show Option.getD (oV ieq y (Iw ieq x true m)) false=true ↔ y∈l++[x];rw[tN agz,aap,aah];by_cases e:y=x
    ·rw[if_pos e];simp[e]
    ·rw[if_neg e];simp only[e,or_false];exact h.2 y
  ·have f:x∈l:=(h.2 x).1 (by simpa using d);exact aZ0 ⟨h,.inl ⟨f,rfl⟩⟩
 unfold lJ.P;dsimp only;refine aX2 (λ d=> ?_) (λ d=> ?_)
 ·exact key (some []) ⟨h.1,λ y=>by have:=h.2 y;cases m with|none=>exact this|some _=>cases d⟩ rfl
 ·exact key m h d
def Wf (S:Int) (fin:LI) (rs:LR):Prop:=
 0<=S/\S<=1000/\fin.length<=1000/\rs.length<=100000/\(∀q∈fin,bg S q)/\ ∀r∈rs,bg S r.2.2/\(∀q∈r.2.1,bg S q)/\r.2.1.length<=3
theorem bW.wf {al:LI} {a:Aut} (h:bW al a):Wf a.1 a.2.1 a.2.2:=by
 refine⟨h.2.1,by have:=h.2.2.1;omega,?_,by have:=h.2.2.2.1;omega,λ q k=>h.final k,λ r u=> ?_⟩
 ·have v: ∀(j i:Nat) (f:i<a.2.1.length) (g:j<a.2.1.length),i<j->a.2.1[i]<a.2.1[j]:=by
   intro j
   induction j with
   |zero=>intro i f g d;omega
   |succ j y=>
    intro i f g d;have p:=(h.2.2.2.2.1 (j+1) g g).2 Ω;simp only[Nat.add_sub_cancel]at p;rcases aa1 (aa9 d)with z|rfl
    ·have:=y i f Ω z;omega
    ·exact p
  have m:a.2.1.Nodup:=by
   rw[List.nodup_iff_pairwise_ne,aaN];intro i j f g d e;have:=v j i f g d;omega
  have:=MG m λ q k=>h.final k;have:=h.2.2.1;have:=h.2.1;omega
 ·have l:=h.rule u;refine⟨l.2.2.2.1,λ q k=> ?_,?_⟩
  ·obtain⟨i,f,rfl⟩:=aay k;exact l.2.2.2.2 i f f
  ·have t:r.1.toNat<al.length:=by have:=l.1;have:=l.2.1;omega
   have:=l.2.2.1 t;have:=(h.1.2 _ t).2;omega
def afZ (al:LI) (rs:LR) (d:LL):Prop:=
 d.length=al.length/\ ∀(s:Nat) (l:LI),d[s]? =some l->l.length<=rs.length/\ ∀v,v∈l ↔ ∃(i:Nat) (r:Rule),v=(i:Int)/\rs[i]? =some r/\r.1=(s:Int)
theorem ajO (al:LI) (S:Int) (fin:LI) (rs:LR) (A:al.length<=1000) (B:rs.length<=100000) (hs: ∀r∈rs,0<=r.1/\r.1<(al.length:Int)):
 Sp zM.P (al,S,fin,rs) (afZ al rs):=by
 show Tt (λ n=>zM.P n (al,S,fin,rs)) _;unfold zM.P;dsimp only;refine aX (tV Ω Ω) ?_
 refine aZ1 (R:=λ x=> ∃L,x=rows L/\afZ al rs L) (aZ8 (aZ6 rs.length (λ i s=> ∃L:LL,L.length=al.length/\
  (∀(s:Nat) (l:LI),L[s]? =some l->l.length<=i/\ ∀v,v∈l ↔ ∃(j:Nat) (r:Rule),j<i/\v=(j:Int)/\rs[j]? =some r/\r.1=(s:Int))/\s=(rows L,rs,(rs.length:Int),(i:Int))) ?_ ?_ ?_)) ?_
 ·rintro i s q ⟨L,g,k,rfl⟩;unfold zM.L1;dsimp only;obtain⟨q0,q1⟩:=hs rs[i] (aaf q);have t:rs[i].1.toNat<L.length:=by omega
  have C:=k _ _ (aac t);refine aY1 Ω (aY q (aZ9 (rng q0 (by rw[vC];omega)) (Bd.row t (Bd.row t (aZ9 (jK Δ) (aZ9 (rng q0 (by rw[aa7,vC];omega)) (aZ2 ?_)))))));rw[H9];refine⟨L.set rs[i].1.toNat (List.append L[rs[i].1.toNat] [(i:Int)]),by simpa using g,λ s l f=> ?_,by rw[ak Ω]⟩;rw[aaR]at f
  have step: ∀(v:Int) (Z:Prop),(Z ↔ ∃(j:Nat) (r:Rule),j<i/\v=(j:Int)/\rs[j]? =some r/\r.1=(s:Int))->((Z\/(v=(i:Int)/\rs[i].1=(s:Int))) ↔ ∃(j:Nat) (r:Rule),j<i+1/\v=(j:Int)/\rs[j]? =some r/\r.1=(s:Int)):=by
   intro v Z D;rw[D];constructor
   ·rintro(⟨j,r,m,d,p,u⟩|⟨m,d⟩)
    ·exact⟨j,r,Ω,d,p,u⟩
    ·exact⟨i,rs[i],Ω,m,aac q,d⟩
   ·rintro⟨j,r,m,d,p,u⟩;rcases aa1 (aa9 m)with E|rfl
    ·exact .inl ⟨j,r,E,d,p,u⟩
    ·rw[aac q]at p;cases p;exact .inr ⟨d,u⟩
  split at f
  ·rename_i e;cases f;refine⟨Δ,λ v=> ?_⟩;rw[←step v _ ((k s _ (by rw[←e];exact aac t)).2 v)];simp only[abA,aap,aah];have:rs[i].1=(s:Int):=by omega
   simp[this]
  ·rename_i e;obtain⟨z,y⟩:=k s l f;refine⟨Ω,λ v=> ?_⟩;rw[←step v _ (y v)];have:rs[i].1≠(s:Int):=by omega
   simp[this]
 ·rintro s ⟨L,g,k,rfl⟩;unfold zM.L1;dsimp only;refine aY3 Ω (aZ4 ⟨L,rfl,g,λ s l f=> ?_⟩);obtain⟨z,y⟩:=k s l f;refine⟨z,λ v=>(y v).trans ⟨λ⟨j,r,m,d⟩=>⟨j,r,d⟩,λ⟨j,r,d⟩=>⟨j,r,?_,d⟩⟩⟩;rcases aaG j rs.length with h|h
  ·exact h
  ·rw[aal h]at d;cases d.2.1
 ·refine⟨List.replicate al.length [],Θ,λ s l f=> ?_,by rw[KA];rfl⟩;rw[abn]at f;split at f
  ·cases f;exact⟨Θ,λ v=>⟨λ h=>by simp at h,λ⟨j,r,h,_⟩=>absurd h Ω⟩⟩
  ·cases f
 ·rintro x ⟨L,rfl,g⟩;rw[H8];exact aZ0 g
def nf (l:List Bool):Nat:=l.count false
theorem Hg {l:List Bool} {i:Nat} (h:l[i]? =some false):nf (l.set i true)<nf l:=by
 unfold nf
 have d:i<l.length:=by
  rcases aaG i l.length with e|e
  ·exact e
  ·simp[aal e]at h
 rw[aac d]at h;have h:=aak h;rw[List.count_set d,h];have:0<l.count false:=List.count_pos_iff.2 (h▸aaf d);simp;omega
def cnt (U:LL) (s:Nat) (v:Int):Nat:=(U[s]?.getD []).count v
theorem agl {U:LL} {s0:Nat} (h:s0<U.length) (i:Int) (s:Nat) (v:Int):cnt (U.set s0 (List.append U[s0] [i])) s v=cnt U s v+if s=s0/\v=i then 1 else 0:=by
 unfold cnt;rw[aaR];by_cases e:s0=s
 ·subst e;rw[if_pos rfl,if_pos h,aac h];simp only[aby,abA,List.count_append,List.count_singleton,true_and,beq_iff_eq];congr 1;by_cases e:v=i
  ·simp[e]
  ·rw[if_neg e,if_neg (λ x=>e x.symm)]
 ·rw[if_neg e,if_neg (λ x=>e x.1.symm)];rfl
theorem ae6 (S:Int) (fin fr:LI) (rs:LR) (out:List Bool) (left q:LI) (m:Option (List Ad)) (c:Int) (i:Int) (y d:Int) (f:LI) (g:LR) (k:Int) (U:LL) (b:Nat)
 (D:U.length=S.toNat) (E: ∀l∈U,l.length<=b) (G:b<=1000000) (I:fr.length<=3) (K: ∀s∈fr,bg S s):
 Lp (λ _=>cO.L1) (S,fin,rs,out,left,rows U,q,m,i,y,f,d,g,k,c,fr,(fr.length:Int),(0:Int))
  (λ t=> ∃V:LL,t=(S,fin,rs,out,left,rows V,q,m,i,y,f,d,g,k,c)/\V.length=S.toNat/\(∀l∈V,l.length<=b+3)/\ ∀s v,cnt V s v=cnt U s v+if v=i then fr.count (s:Int)else 0):=by
 refine aZ6 fr.length (λ j t=> ∃V:LL,t=(S,fin,rs,out,left,rows V,q,m,i,y,f,d,g,k,c,fr,(fr.length:Int),(j:Int))/\V.length=S.toNat/\(∀l∈V,l.length<=b+j)/\
  ∀s v,cnt V s v=cnt U s v+if v=i then(fr.take j).count (s:Int)else 0) ?_ ?_ ⟨U,rfl,D,by simpa using E,Θ⟩
 ·rintro j t z ⟨V,rfl,A,p,B⟩;unfold cO.L1;dsimp only;obtain⟨q0,q1⟩:=K fr[j] (aaf z);have u:fr[j].toNat<V.length:=by omega
  have L:=p _ (aaf u);refine aY1 Ω (aY z (aZ9 (rng q0 (by rw[vC];omega)) (Bd.row u (Bd.row u (aZ9 (jK Δ) (aZ9 (rng q0 (by rw[aa7,vC];omega)) (aZ2 ?_)))))));rw[H9];refine⟨_,by rw[ak Ω],by simpa using A,λ l h=> ?_,λ s v=> ?_⟩
  ·rcases abv h with h|rfl
   ·have:=p l h;omega
   ·simp;omega
  ·rw[agl u,B,aat,aac z];simp only[aaQ,List.count_append,List.count_singleton,beq_iff_eq];by_cases e:v=i
   ·simp only[e,if_true,and_true];rw[abK];congr 2;by_cases C:s=fr[j].toNat
    ·rw[if_pos C,if_pos Ω]
    ·rw[if_neg C,if_neg Ω]
   ·simp[e]
 ·rintro t ⟨V,rfl,A,p,B⟩;unfold cO.L1;dsimp only;refine aY3 Ω (aZ4 ⟨V,rfl,A,λ l h=>by have:=p l h;omega,λ s v=> ?_⟩);rw[B,aar]
def Yy (S:Int) (rs:LR) (i:Nat) (U:LL):Prop:=
 U.length=S.toNat/\(∀l∈U,l.length<=3*i)/\ ∀s,(∀(j:Nat) (r:Rule),j<i->rs[j]? =some r->cnt U s (j:Int)=r.2.1.count (s:Int))/\ ∀v,(¬ ∃j:Nat,j<i/\v=(j:Int))->cnt U s v=0
abbrev ad4 (P:Nat->LI×Option (List (Int×Bool))×Int->Option (LI×Option (List (Int×Bool)))):Prop:=
 ∀l m x,QOk l m->l.length<=1000000->Sp P (l,m,x) (λ r=>QOk r.1 r.2/\((x∈l/\r.1=l)\/(x∉l/\r.1=l++[x])))
def Rch (rs:LR) (s:Int):Prop:= ∃t,Reach rs t s
theorem Ky {rs:LR} {r:Rule} (m:r∈rs) (h: ∀s∈r.2.1,Rch rs s):Rch rs r.2.2:=by
 have e: ∀i:Nat,∃t:RT Int,∀f:Int,r.2.1[i]? =some f->Reach rs t f:=by
  intro i;rcases aaG i r.2.1.length with g|g
  ·obtain⟨t,p⟩:=h _ (aaf g);exact⟨t,λ f d=>by rw[aac g]at d;cases d;exact p⟩
  ·exact⟨.mk 0 [],λ f d=>absurd (aad.1 d).1 Ω⟩
 refine⟨.mk r.1 ((List.range r.2.1.length).map λ i=>(e i).choose),bV.2 ⟨r,m,rfl,rfl,Θ,λ i k f l d=> ?_⟩⟩;have g:=(aad.1 d).1;rw[aau,ach g]at l;cases l;exact(e i).choose_spec f d
def QSt (W:Int->Prop) (S:Int) (q:LI) (m:Option (List Ad)):Prop:=QOk q m/\ ∀x∈q,bg S x/\W x
theorem QSt.len {W:Int->Prop} {S:Int} {q:LI} {m:Option (List Ad)} (h:QSt W S q m) (e:S<=1000):q.length<=1000:=by
 have:=MG h.1.1 λ x d=>(h.2 x d).1;omega
theorem QSt.put {W:Int->Prop} {S:Int} {q:LI} {m:Option (List Ad)} {P:Nat->LI×Option (List Ad)×Int->Option (LI×Option (List Ad))} (i:ad4 P) (h:QSt W S q m) (k:S<=1000) {x:Int} (l:bg S x) (p:W x):
 Sp P (q,m,x) (λ r=>QSt W S r.1 r.2/\x∈r.1/\ ∃z,r.1=q++z):=by
 refine(i q m x h.1 (by have:=h.len k;omega)).mono λ r f=> ?_;rcases f.2 with⟨g,d⟩|⟨g,d⟩
 ·exact⟨⟨f.1,by rw[d];exact h.2⟩,by rw[d];exact g,[],by rw[d];simp⟩
 ·refine⟨⟨f.1,λ y e=> ?_⟩,by rw[d];simp,[x],d⟩;rw[d,aap]at e;rcases e with e|e
  ·exact h.2 y e
  ·rw[aah.1 e];exact⟨l,p⟩
theorem KX {T:LI} {e:Int} (f:e∉T) (l:LI):l.countP (λ s=>decide (s∉T++[e]))+l.count e=l.countP (λ s=>decide (s∉T)):=by
 induction l with
 |nil=>rfl
 |cons a l i=>
  rw[List.countP_cons,List.countP_cons,List.count_cons];by_cases h:a=e
  ·subst h;have d:decide (a∉T++[a])=false:=by simp
   have g:decide (a∉T)=true:=by simp[f]
   rw[d,g];simp only[beq_self_eq_true,if_true,abf,if_false];omega
  ·have d:decide (a∉T++[e])=decide (a∉T):=by simp[h]
   rw[d];simp only[beq_iff_eq,h,if_false];omega
theorem Uo {P:Nat->LI×Option (List Ad)×Int->Option (LI×Option (List Ad))} (hP:ad4 P) (S:Int) (fin:LI) (rs:LR) (h:Wf S fin rs):
 Sp (λ n=>cO.P (P n) n) (S,fin,rs) (λ R=>R.length=S.toNat/\(∀r∈rs,(∀s∈r.2.1,R[s.toNat]? =some true)->R[r.2.2.toNat]? =some true)/\ ∀s,bg S s->R[s.toNat]? =some true->Rch rs s):=by
 obtain⟨Z,hS,f3,f4,e9,hr⟩:=h;show Tt (λ n=>cO.P (P n) n (S,fin,rs)) _;unfold cO.P;dsimp only;refine aX (tV Z Ω) (aX (tV Ω Ω) (aX (tV Z Ω) ?_))
 refine aZ1 (R:=λ t=> ∃(left:LI) (U:LL) (q:LI) (m:Option (List Ad)),t=(S,fin,rs,List.replicate S.toNat false,left,rows U,q,m)/\left.length=rs.length/\(∀(j:Nat) (r:Rule),rs[j]? =some r->left[j]? =some (r.2.1.length:Int))/\
  Yy S rs rs.length U/\QSt (Rch rs) S q m/\ ∀(j:Nat) (r:Rule),rs[j]? =some r->r.2.1= []->r.2.2∈q)
  (aZ8 (aZ6 rs.length (λ i t=> ∃(left:LI) (U:LL) (q:LI) (m:Option (List Ad)),t=(S,fin,rs,List.replicate S.toNat false,left,rows U,q,m,rs,(rs.length:Int),(i:Int))/\left.length=rs.length/\
   (∀(j:Nat) (r:Rule),j<i->rs[j]? =some r->left[j]? =some (r.2.1.length:Int))/\Yy S rs i U/\QSt (Rch rs) S q m/\ ∀(j:Nat) (r:Rule),j<i->rs[j]? =some r->r.2.1= []->r.2.2∈q) ?_ ?_ ?_)) ?_
 ·rintro i t hi ⟨left,U,q,m,rfl,hl,O,⟨b5,a7,G⟩,I,K⟩;unfold cO.L2;dsimp only;obtain⟨d6,d7,b6⟩:=hr rs[i] (aaf hi);refine aY1 Ω (aY hi (aZ9 (rng Ω Ω) ?_));rw[aam];refine aY6 Ω λ _ _ _=> ?_;refine aZ7 (aZ8 (ae6 S fin rs[i].2.1 rs _ _ _ _ _ _ _ _ _ _ _ U (3*i) b5 a7 Ω b6 d7)) ?_;rintro _ ⟨V,rfl,hV,d8,b7⟩;dsimp only;refine aZ9 (rng Ω (by rw[aa7];omega)) ?_;rw[aam];refine aY6 (by rw[aa7];omega) λ e _ he=> ?_;rw[aaR,if_pos rfl,if_pos Ω]at he;cases he
  have b8:Yy S rs (i+1) V:=by
   refine⟨hV,λ l h=>by have:=d8 l h;omega,λ s=>⟨λ j r g d=> ?_,λ v hv=> ?_⟩⟩
   ·rw[b7];rcases aa1 (aa9 g)with h|rfl
    ·rw[(G s).1 j r h d,if_neg Ω];rfl
    ·rw[aac hi]at d;cases d;rw[(G s).2 _ (by rintro⟨k,hk,e⟩;omega),if_pos rfl,aa2]
   ·rw[b7,(G s).2 v (by rintro⟨k,hk,e⟩;exact hv ⟨k,Ω,e⟩),if_neg (by rintro rfl;exact hv ⟨i,Ω,rfl⟩)]
  have u: ∀(j:Nat) (r:Rule),j<i+1->rs[j]? =some r->(left.set i ((rs[i].2.1.length:Nat):Int))[j]? =some (r.2.1.length:Int):=by
   intro j r g d;rw[aaR];split
   ·rename_i e;subst e;rw[aac hi]at d;cases d;rw[if_pos Ω]
   ·exact O j r Ω d
  refine aY2 (λ Q=> ?_) (λ Q=> ?_)
  ·refine aY5 (aZ7 (I.put hP hS d6 (Ky (aaf hi) λ s hs=>by have e:rs[i].2.1= []:=aav (by have:=fZ (show decide (((rs[i].2.1.length:Nat):Int)=0)=true from Q);omega);rw[e]at hs;cases hs)) ?_);rintro⟨B,L⟩ ⟨g1,g2,z,g3⟩;dsimp only at g1 g2 g3;refine aZ3 (aZ2 ⟨_,V,B,L,by rw[ak Ω],by rw[aa7];exact hl,u,b8,g1,λ j r g d hn=> ?_⟩);rcases aa1 (aa9 g)with h|rfl
   ·rw[g3];exact aaF _ (K j r h d hn)
   ·rw[aac hi]at d;cases d;exact g2
  ·refine aZ3 (aZ2 ⟨_,V,q,m,by rw[ak Ω],by rw[aa7];exact hl,u,b8,I,λ j r g d hn=> ?_⟩);rcases aa1 (aa9 g)with h|rfl
   ·exact K j r h d hn
   ·rw[aac hi]at d;cases d;have:=dec_not Q;rw[hn]at this;exact absurd rfl this
 ·rintro t ⟨left,U,q,m,rfl,hl,O,hu,I,K⟩;unfold cO.L2;dsimp only;have lt: ∀(j:Nat) (r:Rule),rs[j]? =some r->j<rs.length:=λ j r e=>(aad.1 e).1;exact aY3 Ω (aZ4 ⟨left,U,q,m,rfl,hl,λ j r e=>O j r (lt j r e) e,hu,I,λ j r e=>K j r (lt j r e) e⟩)
 ·refine⟨List.replicate rs.length 0,List.replicate S.toNat [],[],none,by rw[KA];rfl,Θ,λ j r g=>absurd g Ω,⟨Θ,λ l hl=> ?_,λ s=>⟨λ j r g=>absurd g Ω,λ v _=> ?_⟩⟩,⟨ac6,Θ⟩,λ j r g=>absurd g Ω⟩
  ·rw[(acN.1 hl).2];simp
  ·unfold cnt;rw[abn];split<;>rfl
 rintro _ ⟨left,U,q,m,rfl,hl,O,⟨b5,a7,G⟩,I,K⟩;dsimp only;rw[H8];refine aY7 ?_
 refine aZ1 (R:=λ R:List Bool=>R.length=S.toNat/\(∀r∈rs,(∀s∈r.2.1,R[s.toNat]? =some true)->R[r.2.2.toNat]? =some true)/\ ∀s,bg S s->R[s.toNat]? =some true->Rch rs s)
  (aZ8 (aX1 (λ t=> ∃(out:List Bool) (left q:LI) (m:Option (List Ad)) (k:Nat),t=(S,fin,rs,out,left,U,q,m,(k:Int))/\out.length=S.toNat/\left.length=rs.length/\QSt (Rch rs) S q m/\k<=q.length/\
   (∀s:Int,bg S s->(out[s.toNat]? =some true ↔ s∈q.take k))/\ ∀(j:Nat) (r:Rule),rs[j]? =some r->left[j]? =some (r.2.1.countP (λ s=>decide (s∉q.take k)):Int)/\(r.2.1.countP (λ s=>decide (s∉q.take k))=0->r.2.2∈q)) (λ t=>nf t.2.2.2.1) ?_ ?_)) λ R hR=>aZ0 hR
 ·rintro _ ⟨out,left,q,m,k,rfl,ho,hl,I,hk,A,u⟩;unfold cO.L4;dsimp only;by_cases a8:k<q.length
  ·refine aY1 Ω (aZ9 (rng Ω Ω) ?_);rw[aam];refine aY6 a8 λ e c0 he=> ?_;obtain⟨⟨e0,e1⟩,_⟩:=I.2 e c0;refine aZ9 (rng e0 Ω) (aY6 Ω λ _ _ _=>aZ9 (rng Ω Ω) ?_);refine aY6 a8 λ e' _ c1=> ?_;rw[he]at c1;cases c1;refine aZ9 (rng e0 Ω) (aY6 Ω λ row c2 a9=> ?_);have e2:q.take (k+1)=q.take k++[e]:=by rw[aat,he];rfl
   have b0:e∉q.take k:=by
    intro hm;have c3:=I.1.1;rw[←abb k q,acE]at c3;exact c3.2.2 e hm e (by rw[aaI a8,(aad.1 he).2];exact abG ..) rfl
   have a4:out[e.toNat]? =some false:=by
    have c4:e.toNat<out.length:=by omega
    rw[aac c4];cases hb:out[e.toNat]with
    |false=>rfl
    |true=>exact absurd ((A e ⟨e0,e1⟩).1 (by rw[aac c4,hb])) b0
   have c5: ∀v:Int,row.count v=cnt U e.toNat v:=λ v=>by unfold cnt;rw[a9];rfl
   have e4:row.length<=3*rs.length:=a7 row c2
   have e5: ∀v∈row,∃(j:Nat) (r:Rule),v=(j:Int)/\rs[j]? =some r:=by
    intro v hv;by_cases hx: ∃j:Nat,j<rs.length/\v=(j:Int)
    ·obtain⟨j,g,e⟩:=hx;exact⟨j,rs[j],e,aac g⟩
    ·have:=(G e.toNat).2 v hx;rw[←c5]at this;have:=List.count_pos_iff.2 hv;omega
   have c6: ∀(j:Nat) (r:Rule),rs[j]? =some r->row.count (j:Int)=r.2.1.count e:=by
    intro j r g;rw[c5,(G e.toNat).1 j r (aad.1 g).1 g];congr 1;omega
   refine aZ7 (R:=λ t=> ∃(f B:LI) (L:Option (List Ad)) (z:LI),t=(S,fin,rs,List.set out e.toNat true,f,U,B,L,(k:Int))/\f.length=rs.length/\QSt (Rch rs) S B L/\B=q++z/\
    ∀(j:Nat) (r:Rule),rs[j]? =some r->f[j]? =some ((r.2.1.countP (λ s=>decide (s∉q.take k)):Int)-(row.count (j:Int):Int))/\((r.2.1.countP (λ s=>decide (s∉q.take k)):Int)-(row.count (j:Int):Int)=0->r.2.2∈B))
    (aZ8 (aZ6 row.length (λ p t=> ∃(f B:LI) (L:Option (List Ad)) (z:LI),t=(S,fin,rs,List.set out e.toNat true,f,U,B,L,(k:Int),row,(row.length:Int),(p:Int))/\f.length=rs.length/\QSt (Rch rs) S B L/\B=q++z/\
     ∀(j:Nat) (r:Rule),rs[j]? =some r->f[j]? =some ((r.2.1.countP (λ s=>decide (s∉q.take k)):Int)-(((row.take p).count (j:Int):Nat):Int))/\((r.2.1.countP (λ s=>decide (s∉q.take k)):Int)-(((row.take p).count (j:Int):Nat):Int)=0->r.2.2∈B)) ?_ ?_ ?_)) ?_
   ·rintro p t hp ⟨f,B,L,z,rfl,M,N,Q,C⟩;unfold cO.L3;dsimp only;obtain⟨i,r,hi,y⟩:=e5 row[p] (aaf hp);have c7:i<rs.length:=(aad.1 y).1;obtain⟨a1,a2⟩:=C i r y;have W:=hr r (aai y);have g0:r.2.1.countP (λ s=>decide (s∉q.take k))<=3:=aaP acu W.2.2
    have g4:(row.take p).count (i:Int)<=300000:=by
     have:=List.count_le_length (a:=(i:Int)) (l:=row.take p);have:=List.length_take_le p row;have:=List.length_take_le' p row;omega
    have Y: ∀v:Int,(row.take (p+1)).count v=(row.take p).count v+if v=(i:Int)then 1 else 0:=by
     intro v;rw[aat,aac hp,hi];simp only[aaQ,List.count_append,List.count_singleton,beq_iff_eq];congr 1;by_cases e:v=(i:Int)
     ·simp[e]
     ·rw[if_neg e,if_neg (λ x=>e x.symm)]
    refine aY1 Ω (aY hp ?_);rw[hi];refine aZ9 (rng Ω Ω) ?_;rw[aam];refine aY6 Ω λ v1 _ c9=> ?_;rw[a1]at c9;cases c9;refine aZ9 (rng Ω Ω) (aY6 Ω λ v2 _ d0=> ?_);rw[a1]at d0;cases d0;rw[jX _ Ω Ω];refine aZ9 (rng Ω (by rw[aa7];omega)) (aY6 (by rw[aa7];omega) λ v3 _ d1=> ?_);rw[aaR,if_pos rfl,if_pos Ω]at d1;cases d1
    have a5: ∀(j:Nat) (D:Rule),rs[j]? =some D->(List.set f i ((r.2.1.countP (λ s=>decide (s∉q.take k)):Int)-(((row.take p).count (i:Int):Nat):Int)-1))[j]? =some ((D.2.1.countP (λ s=>decide (s∉q.take k)):Int)-(((row.take (p+1)).count (j:Int):Nat):Int)):=by
     intro j D d;rw[aaR];by_cases e:i=j
     ·subst e;rw[y]at d;cases d;rw[if_pos rfl,if_pos Ω,Y,if_pos rfl];congr 1;omega
     ·rw[if_neg e,(C j D d).1,Y,if_neg Ω];rfl
    have a6: ∀(j:Nat) (D:Rule),rs[j]? =some D->j≠i->(D.2.1.countP (λ s=>decide (s∉q.take k)):Int)-(((row.take (p+1)).count (j:Int):Nat):Int)=0->D.2.2∈B:=by
     intro j D d g5 Z;rw[Y,if_neg Ω]at Z;exact(C j D d).2 Z
    refine aY2 (λ b2=> ?_) (λ b2=> ?_)
    ·refine aY5 ?_;rw[fE c7];have er:rs[i]=r:=by rw[aac c7]at y;exact aak y
     refine aZ3 ?_;rw[er]
     have E: ∀s∈r.2.1,s∈q:=by
      intro s hs;apply aaT;intro hn;have h1:=KX b0 r.2.1
      have h2:0<r.2.1.countP (λ s=>decide (s∉q.take k++[e])):=List.countP_pos_iff.2 ⟨s,hs,decide_eq_true λ h=>hn (by
       rcases aap.1 h with h|h
       ·exact abr h
       ·rw[aah.1 h];exact c0)⟩
      have h3:=c6 i r y;have h4:=Y (i:Int);rw[if_pos rfl]at h4;have h5:(row.take (p+1)).count (i:Int)<=row.count (i:Int):=(List.take_sublist _ _).count_le _;have h6:=fZ b2;omega
     refine aY5 (aZ7 (N.put hP hS W.1 (Ky (aai y) λ s hs=>(I.2 s (E s hs)).2)) ?_);rintro⟨q2,m2⟩ ⟨g1,g2,z2,g3⟩;dsimp only at g1 g2 g3;refine aZ3 (aZ2 ⟨_,q2,m2,z++z2,by rw[ak Ω],by rw[aa7];exact M,g1,by rw[g3,Q];simp,λ j D d=>⟨a5 j D d,λ Z=> ?_⟩⟩);by_cases e:j=i
     ·subst e;rw[y]at d;cases d;exact g2
     ·rw[g3];exact aaF _ (a6 j D d e Z)
    ·refine aZ3 (aZ2 ⟨_,B,L,z,by rw[ak Ω],by rw[aa7];exact M,N,Q,λ j D d=>⟨a5 j D d,λ Z=> ?_⟩⟩);by_cases e:j=i
     ·subst e;rw[y]at d;cases d;rw[Y,if_pos rfl]at Z;exact absurd Ω (dec_not b2)
     ·exact a6 j D d e Z
   ·rintro t ⟨f,B,L,z,rfl,M,N,Q,C⟩;unfold cO.L3;dsimp only;rw[aar]at C;exact aY3 Ω (aZ4 ⟨f,B,L,z,rfl,M,N,Q,C⟩)
   ·refine⟨left,q,m,[],rfl,hl,I,Θ,λ j r g=> ?_⟩;obtain⟨a1,a2⟩:=u j r g;simp only[acA,List.count_nil,Int.natCast_zero,Int.sub_zero];exact⟨a1,λ h=>a2 Ω⟩
   ·rintro _ ⟨f,B,L,z,rfl,M,N,Q,C⟩;have d2:B.take (k+1)=q.take k++[e]:=by rw[Q,abE Ω,e2]
    refine aZ2 ⟨⟨_,f,B,L,k+1,by rw[ak (by have:=I.len hS;omega)],by rw[aa7];exact ho,M,N,by rw[Q,aaq];omega,λ s hs=> ?_,λ j r g=> ?_⟩,Hg a4⟩
    ·rw[d2,aaR,aap,aah];by_cases es:e.toNat=s.toNat
     ·rw[if_pos es,if_pos Ω];have:s=e:=by have:=hs.1;omega
      simp[this]
     ·rw[if_neg es,A s hs];have:s≠e:=λ x=>es (by rw[x]);simp[this]
    ·have h8:=KX b0 r.2.1;rw[d2];obtain⟨a1,a2⟩:=C j r g;rw[c6 j r g]at a1 a2;exact⟨by rw[a1];congr 1;omega,λ h=>a2 Ω⟩
  ·refine aY3 Ω (aZ4 ?_);have e7:k=q.length:=by omega
   subst e7;rw[aar]at A u;refine⟨ho,λ r d3 E=> ?_,λ s hs hb=>(I.2 s ((A s hs).1 hb)).2⟩;obtain⟨j,g,rfl⟩:=aay d3;have W:=hr _ d3;refine(A _ W.1).2 ((u j _ (aac g)).2 ?_);rw[List.countP_eq_zero];intro s hs;simpa using(A s (W.2.1 s hs)).1 (E s hs)
 ·refine⟨List.replicate S.toNat false,left,q,m,0,rfl,Θ,hl,I,abH _,λ s hs=> ?_,λ j r g=> ?_⟩
  ·rw[abn];split<;>simp
  ·have e: ∀l:LI,l.countP (λ s=>decide (s∉q.take 0))=l.length:=λ l=>by
    rw[List.countP_eq_length];simp
   rw[e];exact⟨O j r g,λ h=>K j r g (aav h)⟩
def ai7 (f:Int×List Bool->Option Bool) (d:LI×List Bool×Int×Int) (e:LI×List Bool×Int×Int->Option (Sum Unit Int)):Option (Sum Unit Int):=
 bif decide (d.2.2.2<d.2.2.1)then
  (nth? d.1 d.2.2.2).bind λ g=>(f (g,d.2.1)).bind λ i=>
   bif i then(some d.2.2.2).bind λ r=>some (Sum.inr r)else e (d.1,d.2.1,d.2.2.1,IntKind.wrap .i64 (d.2.2.2+(1:Int)))
 else some (Sum.inl ())
theorem ady {F:Nat->Int×List Bool->Option Bool} {l:LI} {R:List Bool} {test:Int->Bool} (hF: ∀s∈l,Sp F (s,R) (λ r=>r=test s)) (k:l.length<=1000000):
 Tt (λ n=>(bH (ai7 (F n)) n (l,R,(l.length:Int),(0:Int))).bind λ q=>match q with|Sum.inl m=>some (-1:Int)|Sum.inr r=>some r) (λ r=>decide (0<=r)=l.any test):=by
 refine aZ1 (R:=λ t=>(t= .inl ()/\l.any test=false)\/ ∃i:Int,t= .inr i/\0<=i/\l.any test=true)
  (aZ8 (aZ6 (L:=λ n=>ai7 (F n)) l.length (λ i s=>s=(l,R,(l.length:Int),(i:Int))/\(l.take i).any test=false) ?_ ?_ ⟨rfl,rfl⟩)) ?_
 ·rintro i s d ⟨rfl,e⟩;unfold ai7;dsimp only;refine aY1 Ω (aY d (aZ7 (hF l[i] (aaf d)) ?_));rintro _ rfl;refine aY9 (λ f=>aZ4 (.inr ⟨_,rfl,Ω,ab8.2 ⟨_,aaf d,f⟩⟩)) (λ f=>aZ2 ⟨by rw[ak Ω],?_⟩);rw[aat,aac d,List.any_append,e];simpa using f
 ·rintro s ⟨rfl,e⟩;unfold ai7;dsimp only;rw[aar]at e;exact aY3 Ω (aZ4 (.inl ⟨rfl,e⟩))
 ·rintro _ (⟨rfl,h⟩|⟨i,rfl,g,h⟩)
  ·exact aZ0 (by rw[h];rfl)
  ·exact aZ0 (by rw[h];exact dY g)
def bat (R:List Bool) (s:Int):Bool:=R[s.toNat]?.getD false
theorem DJ {R:List Bool} {s:Int}:bat R s=true ↔ R[s.toNat]? =some true:=by
 unfold bat
 cases h:R[s.toNat]? with
 |none=>simp
 |some b=>simp
theorem IW {R:List Bool} {s S:Int} (e:R.length=S.toNat) (h:bg S s):nth? R s=some (bat R s):=by
 have d:s.toNat<R.length:=by have:=h.1;have:=h.2;omega
 rw[Cm h.1 (by have:=h.1;have:=h.2;omega)];unfold bat;rw[aac d];rfl
abbrev Yp (C:Nat->LI×List Bool->Option Bool) (d:Bool->Bool):Prop:=
 ∀(S:Int) (l:LI) (R:List Bool),R.length=S.toNat->(∀s∈l,bg S s)->l.length<=1000000->Sp C (l,R) (λ r=>r=l.any λ s=>d (bat R s))
theorem YR {F:Nat->Int×List Bool->Option Bool} {G:Nat->LI×List Bool->Option Int} (hF: ∀n x,F (n+1) x=wO.P n x) (d: ∀n x,G (n+1) x=dD.P (F n) n x):
 Yp (λ n=>fV.P (G n) n) (!·):=λ S l R e hs f=>by
 refine aZ1 (A:=λ n=>G n (l,R)) (aZ5 d (ady (F:=F) (test:=λ s=> !bat R s) (λ s h=>aZ5 hF ⟨_,rfl,.all λ n=> ?_⟩) f)) λ r g=>aZ0 g;unfold wO.P;dsimp only;rw[IW e (hs s h)];rfl
theorem agh {F:Nat->Int×List Bool->Option Bool} {G:Nat->LI×List Bool->Option Int} (hF: ∀n x,F (n+1) x=zN.P n x) (d: ∀n x,G (n+1) x=dG.P (F n) n x):
 Yp (λ n=>gK.P (G n) n) (!·):=λ S l R e hs f=>by
 refine aZ1 (A:=λ n=>G n (l,R)) (aZ5 d (ady (F:=F) (test:=λ s=> !bat R s) (λ s h=>aZ5 hF ⟨_,rfl,.all λ n=> ?_⟩) f)) λ r g=>aZ0 g;unfold zN.P;dsimp only;rw[IW e (hs s h)];rfl
theorem YQ {F:Nat->Int×List Bool->Option Bool} {G:Nat->LI×List Bool->Option Int} (hF: ∀n x,F (n+1) x=uZ.P n x) (d: ∀n x,G (n+1) x=dA.P (F n) n x):
 Yp (λ n=>fQ.P (G n) n) id:=λ S l R e hs f=>by
 refine aZ1 (A:=λ n=>G n (l,R)) (aZ5 d (ady (F:=F) (test:=λ s=>bat R s) (λ s h=>aZ5 hF ⟨_,rfl,.all λ n=> ?_⟩) f)) λ r g=>aZ0 g;unfold uZ.P;dsimp only;rw[IW e (hs s h)];rfl
theorem Yp.all {l:LI} {R:List Bool} (h:l.any (λ s=> !bat R s)=false): ∀s∈l,bat R s=true:=by
 intro s hs;have:=List.any_eq_false.1 h s hs;simpa using this
def ako (S:Int) (rs:LR) (R:List Bool) (i:Nat) (T:LL):Prop:=
 T.length=S.toNat/\(∀l∈T,l.length<=i/\ ∀v∈l,∃j:Nat,j<i/\v=(j:Int))/\(∀(k:Nat) (l:LI),T[k]? =some l-> ∀(j:Nat) (r:Rule),(j:Int)∈l->rs[j]? =some r->r.2.2.toNat=k/\ ∀s∈r.2.1,bat R s=true)/\ ∀(j:Nat) (r:Rule),j<i->rs[j]? =some r->(∀s∈r.2.1,bat R s=true)-> ∃l,T[r.2.2.toNat]? =some l/\(j:Int)∈l
inductive Up (rs:LR) (fin:LI):Int->Prop
 |fin {s:Int} (h:s∈fin) (hr:Rch rs s):Up rs fin s
 |rule {r:Rule} {s:Int} (hr:r∈rs) (h:Up rs fin r.2.2) (hk: ∀x∈r.2.1,Rch rs x) (hs:s∈r.2.1):Up rs fin s
theorem Up.rch {rs:LR} {fin:LI} {s:Int} (h:Up rs fin s):Rch rs s:=by
 cases h with
 |fin h d=>exact d
 |rule d h e hs=>exact e s hs
def Useful (fin:LI) (rs:LR) (R U:List Bool):Prop:=(∀s∈fin,bat R s=true->bat U s=true)/\ ∀r∈rs,bat U r.2.2=true->(∀s∈r.2.1,bat R s=true)-> ∀s∈r.2.1,bat U s=true
def Closed (rs:LR) (R:List Bool):Prop:= ∀r∈rs,(∀s∈r.2.1,bat R s=true)->bat R r.2.2=true
theorem adB {P:Nat->LI×Option (List Ad)×Int->Option (LI×Option (List Ad))} {F:Nat->Ab->Option (List Bool)} {C:Nat->LI×List Bool->Option Bool}
 (hP:ad4 P) (hC:Yp C (!·)) (S:Int) (fin:LI) (rs:LR) (h:Wf S fin rs) (hF:Sp F (S,fin,rs) (λ R=>R.length=S.toNat/\Closed rs R/\ ∀s,bg S s->bat R s=true->Rch rs s)):
 Sp (λ n=>dJ.P (P n) (F n) (C n) n) (S,fin,rs) (λ U=>U.length=S.toNat/\(∀s,bg S s->bat U s=true->Up rs fin s)/\ ∃R,Closed rs R/\Useful fin rs R U):=by
 obtain⟨h0,hS,g0,g4,a9,hr⟩:=h;show Tt (λ n=>dJ.P (P n) (F n) (C n) n (S,fin,rs)) _;unfold dJ.P;dsimp only;refine aZ1 hF λ R hR=> ?_;obtain⟨hR,d6,b0⟩:=hR;refine aX (tV h0 Ω) ?_
 refine aZ1 (R:=λ t=> ∃T:LL,t=(S,fin,rs,R,rows T)/\ako S rs R rs.length T)
  (aZ8 (aZ6 rs.length (λ i t=> ∃T:LL,t=(S,fin,rs,R,rows T,rs,(rs.length:Int),(i:Int))/\ako S rs R i T) ?_ ?_ ?_)) ?_
 ·rintro i t E ⟨T,rfl,hT,G,Q,a2⟩;unfold dJ.L1;dsimp only;obtain⟨u,a3,c1⟩:=hr rs[i] (aaf E);refine aY1 Ω (aY E (aZ7 (hC S rs[i].2.1 R hR a3 Ω) ?_));intro b D;refine aY2 (λ hc=> ?_) (λ hc=> ?_)
  ·have A:rs[i].2.2.toNat<T.length:=by have:=u.1;have:=u.2;omega
   obtain⟨g5,d7⟩:=G _ (aaf A);refine aY0 (rng u.1 (by rw[vC];have:=u.2;omega)) (aY5 (Bd.row A (aY5 (Bd.row A (aY0 (jK Δ) (aY0 (rng u.1 (by rw[aa7,vC];have:=u.2;omega)) (aZ3 (aZ2 ?_))))))));rw[H9];refine⟨_,by rw[ak Ω],by simpa using hT,λ l hl=> ?_,λ k l Z j r hv d=> ?_,λ j r B d hf=> ?_⟩
   ·rcases abv hl with h|rfl
    ·exact⟨by have:=(G l h).1;omega,λ v hv=>by obtain⟨j,B,e⟩:=(G l h).2 v hv;exact⟨j,Ω,e⟩⟩
    ·refine⟨Δ,λ v hv=> ?_⟩;simp only[abA,aap,aah]at hv;rcases hv with hv|hv
     ·obtain⟨j,B,e⟩:=d7 v hv;exact⟨j,Ω,e⟩
     ·exact⟨i,Ω,hv⟩
   ·rw[aaR]at Z;split at Z
    ·rename_i e;cases Z;simp only[abA,aap,aah]at hv;rcases hv with hv|hv
     ·subst e;exact Q _ _ (aac A) j r hv d
     ·have:j=i:=by omega
      subst this;rw[aac E]at d;cases d;refine⟨e,Yp.all ?_⟩;rw[←D];simpa using hc
    ·exact Q k l Z j r hv d
   ·rw[aaR];rcases aa1 (aa9 B)with h|rfl
    ·obtain⟨l,e1,e2⟩:=a2 j r h d hf;split
     ·rename_i e;rw[e]at A;rw[aac A]at e1;cases e1;exact⟨_,rfl,by simp only[abA,aap];left;simpa [e]using e2⟩
     ·exact⟨l,e1,e2⟩
    ·rw[aac E]at d;cases d;rw[if_pos rfl,if_pos A];exact⟨_,rfl,Θ⟩
  ·refine aZ3 (aZ2 ⟨T,by rw[ak Ω],hT,λ l hl=>⟨by have:=(G l hl).1;omega,λ v hv=>by obtain⟨j,B,e⟩:=(G l hl).2 v hv;exact⟨j,Ω,e⟩⟩,Q,λ j r B d hf=> ?_⟩);rcases aa1 (aa9 B)with h|rfl
   ·exact a2 j r h d hf
   ·rw[aac E]at d;cases d;have D:b=true:=by simpa using hc
    subst D;obtain⟨s,hs,hn⟩:=ab8.1 (Eq.symm ‹true=_›);rw[hf s hs]at hn;cases hn
 ·rintro t ⟨T,rfl,hT⟩;unfold dJ.L1;dsimp only;exact aY3 Ω (aZ4 ⟨T,rfl,hT⟩)
 ·refine⟨List.replicate S.toNat [],by rw[KA];rfl,Θ,λ l hl=> ?_,λ k l Z j r hv d=> ?_,λ j r B=>absurd B Ω⟩
  ·rw[(acN.1 hl).2];exact⟨Θ,λ v hv=>by simp at hv⟩
  ·rw[abn]at Z;split at Z
   ·cases Z;cases hv
   ·cases Z
 rintro _ ⟨T,rfl,hT,G,Q,a2⟩;dsimp only;refine aX (tV h0 Ω) ?_
 refine aZ1 (R:=λ t=> ∃(q:LI) (m:Option (List Ad)),t=(S,fin,rs,rows T,List.replicate S.toNat false,q,m)/\QSt (Up rs fin) S q m/\ ∀s∈fin,bat R s=true->s∈q)
  (aZ8 (aZ6 fin.length (λ i t=> ∃(q:LI) (m:Option (List Ad)),t=(S,fin,rs,R,rows T,List.replicate S.toNat false,q,m,fin,(fin.length:Int),(i:Int))/\QSt (Up rs fin) S q m/\ ∀s∈fin.take i,bat R s=true->s∈q) ?_ ?_ ⟨[],none,rfl,⟨ac6,Θ⟩,Θ⟩)) ?_
 ·rintro i t E ⟨q,m,rfl,A,y⟩;unfold dJ.L2;dsimp only;have hs:=a9 fin[i] (aaf E)
  have a4: ∀f:LI,(∀s∈fin.take i,bat R s=true->s∈f)->(bat R fin[i]=true->fin[i]∈f)-> ∀s∈fin.take (i+1),bat R s=true->s∈f:=by
   intro f h1 h2 s hs D;rw[aat,aac E,aap]at hs;rcases hs with hs|hs
   ·exact h1 s hs D
   ·simp only[aaQ,aah]at hs;subst hs;exact h2 D
  refine aY1 Ω (aY E (aZ9 (rng hs.1 (by have:=hs.1;have:=hs.2;omega)) ?_));refine aY6 (by have:=hs.1;have:=hs.2;omega) λ b _ D=> ?_;have b1:bat R fin[i]=b:=by unfold bat;rw[D];rfl
  refine aY2 (λ hc=> ?_) (λ hc=> ?_)
  ·refine aY5 (aZ7 (A.put hP hS hs (.fin (aaf E) (b0 _ hs (b1.trans hc)))) ?_);rintro⟨f,M⟩ ⟨g1,g2,z,g3⟩;dsimp only at g1 g2 g3;exact aZ3 (aZ2 ⟨f,M,by rw[ak Ω],g1,a4 f (λ s h1 h2=>by rw[g3];exact aaF _ (y s h1 h2)) λ _=>g2⟩)
  ·exact aZ3 (aZ2 ⟨q,m,by rw[ak Ω],A,a4 q y λ h=>by rw[b1,hc]at h;cases h⟩)
 ·rintro t ⟨q,m,rfl,A,y⟩;unfold dJ.L2;dsimp only;rw[aar]at y;exact aY3 Ω (aZ4 ⟨q,m,rfl,A,y⟩)
 rintro _ ⟨q,m,rfl,A,y⟩;dsimp only;rw[H8];refine aY7 ?_
 refine aZ1 (R:=λ U:List Bool=>U.length=S.toNat/\(∀s,bg S s->bat U s=true->Up rs fin s)/\Useful fin rs R U)
  (aZ8 (aX1 (λ t=> ∃(out:List Bool) (q:LI) (m:Option (List Ad)) (k:Nat),t=(S,fin,rs,T,out,q,m,(k:Int))/\out.length=S.toNat/\QSt (Up rs fin) S q m/\k<=q.length/\
   (∀s:Int,bg S s->(out[s.toNat]? =some true ↔ s∈q.take k))/\(∀s∈fin,bat R s=true->s∈q)/\ ∀e∈q.take k,∀row,T[e.toNat]? =some row-> ∀(j:Nat) (r:Rule),(j:Int)∈row->rs[j]? =some r-> ∀s∈r.2.1,s∈q) (λ t=>nf t.2.2.2.2.1) ?_ ?_)) λ U hU=>aZ0 ⟨hU.1,hU.2.1,R,d6,hU.2.2⟩
 ·rintro _ ⟨out,q,m,k,rfl,ho,A,Z,g,y,b5⟩;unfold dJ.L5;dsimp only;by_cases b6:k<q.length
  ·refine aY1 Ω (aZ9 (rng Ω Ω) ?_);rw[aam];refine aY6 b6 λ e d9 he=> ?_;obtain⟨⟨e0,e1⟩,e5⟩:=A.2 e d9;refine aZ9 (rng e0 Ω) (aY6 Ω λ _ _ _=>aZ9 (rng Ω Ω) ?_);refine aY6 b6 λ e' _ I=> ?_;rw[he]at I;cases I;refine aZ9 (rng e0 Ω) (aY6 Ω λ row c3 W=> ?_);have a4:q.take (k+1)=q.take k++[e]:=by rw[aat,he];rfl
   have e6:e∉q.take k:=by
    intro hm;have c4:=A.1.1;rw[←abb k q,acE]at c4;exact c4.2.2 e hm e (by rw[aaI b6,(aad.1 he).2];exact abG ..) rfl
   have a6:out[e.toNat]? =some false:=by
    have c5:e.toNat<out.length:=by omega
    rw[aac c5];cases D:out[e.toNat]with
    |false=>rfl
    |true=>exact absurd ((g e ⟨e0,e1⟩).1 (by rw[aac c5,D])) e6
   obtain⟨f5,e7⟩:=G row c3;have f6:row.length<=100000:=by omega
   refine aZ7 (R:=λ t=> ∃(f:LI) (M:Option (List Ad)) (z:LI),t=(S,fin,rs,T,List.set out e.toNat true,f,M,(k:Int))/\QSt (Up rs fin) S f M/\f=q++z/\ ∀v∈row,∀(j:Nat) (r:Rule),v=(j:Int)->rs[j]? =some r-> ∀s∈r.2.1,s∈f)
    (aZ8 (aZ6 row.length (λ p t=> ∃(f:LI) (M:Option (List Ad)) (z:LI),t=(S,fin,rs,T,List.set out e.toNat true,f,M,(k:Int),row,(row.length:Int),(p:Int))/\QSt (Up rs fin) S f M/\f=q++z/\ ∀v∈row.take p,∀(j:Nat) (r:Rule),v=(j:Int)->rs[j]? =some r-> ∀s∈r.2.1,s∈f) ?_ ?_ ⟨q,m,[],rfl,A,Θ,Θ⟩)) ?_
   ·rintro p t hp ⟨f,M,z,rfl,Y,hz,N⟩;unfold dJ.L4;dsimp only;obtain⟨j,B,ej⟩:=e7 row[p] (aaf hp);refine aY1 Ω (aY hp ?_);rw[ej,fE B];refine aZ3 ?_;obtain⟨u,a3,c1⟩:=hr rs[j] (aaf B);obtain⟨k1,k2⟩:=Q _ _ W j _ (by rw[←ej];exact aaf hp) (aac B)
    have c6:Up rs fin rs[j].2.2:=by
     have:rs[j].2.2=e:=by have:=u.1;omega
     rw[this];exact e5
    refine aZ7 (R:=λ t=> ∃(q2:LI) (m2:Option (List Ad)) (z2:LI),t=(S,fin,rs,T,List.set out e.toNat true,q2,m2,(k:Int),row,(row.length:Int),(p:Int))/\QSt (Up rs fin) S q2 m2/\q2=f++z2/\ ∀s∈rs[j].2.1,s∈q2)
     (aZ8 (L:=λ n=>dJ.L3 (P n)) (aZ6 rs[j].2.1.length (λ i t=> ∃(q2:LI) (m2:Option (List Ad)) (z2:LI),t=(S,fin,rs,T,List.set out e.toNat true,q2,m2,(k:Int),row,(row.length:Int),(p:Int),rs[j].2.1,((rs[j].2.1.length:Nat):Int),(i:Int))/\QSt (Up rs fin) S q2 m2/\q2=f++z2/\ ∀s∈rs[j].2.1.take i,s∈q2) ?_ ?_ ⟨f,M,[],rfl,Y,Θ,Θ⟩)) ?_
    ·rintro i t E ⟨q2,m2,z2,rfl,h1,h2,h3⟩;unfold dJ.L3;dsimp only;refine aY1 Ω (aY E (aZ7 (h1.put hP hS (a3 _ (aaf E)) (.rule (aaf B) c6 (λ x hx=>b0 x (a3 x hx) (k2 x hx)) (aaf E))) ?_));rintro⟨q3,m3⟩ ⟨g1,g2,z3,g3⟩;dsimp only at g1 g2 g3;refine aZ2 ⟨q3,m3,z2++z3,by rw[ak Ω],g1,by rw[g3,h2];simp,λ s hs=> ?_⟩;rw[aat,aac E,aap]at hs;rcases hs with hs|hs
     ·rw[g3];exact aaF _ (h3 s hs)
     ·simp only[aaQ,aah]at hs;rw[hs];exact g2
    ·rintro t ⟨q2,m2,z2,rfl,h1,h2,h3⟩;unfold dJ.L3;dsimp only;rw[aar]at h3;exact aY3 Ω (aZ4 ⟨q2,m2,z2,rfl,h1,h2,h3⟩)
    ·rintro _ ⟨q2,m2,z2,rfl,h1,h2,h3⟩;refine aZ2 ⟨q2,m2,z++z2,by rw[ak Ω],h1,by rw[h2,hz];simp,λ v hv j' r ev O s hs=> ?_⟩;rw[aat,aac hp,aap]at hv;rcases hv with hv|hv
     ·rw[h2];exact aaF _ (N v hv j' r ev O s hs)
     ·simp only[aaQ,aah]at hv;have:j'=j:=by rw[hv,ej]at ev;omega
      subst this;rw[aac B]at O;cases O;exact h3 s hs
   ·rintro t ⟨f,M,z,rfl,Y,hz,N⟩;unfold dJ.L4;dsimp only;rw[aar]at N;exact aY3 Ω (aZ4 ⟨f,M,z,rfl,Y,hz,N⟩)
   ·rintro _ ⟨f,M,z,rfl,Y,hz,N⟩;have h5:f.take k=q.take k:=by rw[hz,abE Ω]
    have c7:f.take (k+1)=q.take k++[e]:=by rw[hz,abE Ω,a4]
    refine aZ2 ⟨⟨_,f,M,k+1,by rw[ak (by have:=A.len hS;omega)],by rw[aa7];exact ho,Y,by rw[hz,aaq];omega,λ s hs=> ?_,λ s hs D=>by rw[hz];exact aaF _ (y s hs D),λ e' I c8 K j r d b2 s hs=> ?_⟩,Hg a6⟩
    ·rw[c7,aaR,aap,aah];by_cases es:e.toNat=s.toNat
     ·rw[if_pos es,if_pos Ω];have:s=e:=by have:=hs.1;omega
      simp[this]
     ·rw[if_neg es,g s hs];have:s≠e:=λ x=>es (by rw[x]);simp[this]
    ·rw[c7,aap,aah]at I;rcases I with I|rfl
     ·rw[hz];exact aaF _ (b5 e' I c8 K j r d b2 s hs)
     ·rw[W]at K;cases K;exact N _ d j r rfl b2 s hs
  ·have e9:k=q.length:=by omega
   subst e9;rw[aar]at g b5;refine aY3 Ω (aZ4 ⟨ho,λ s hs D=>(A.2 s ((g s hs).1 (DJ.1 D))).2,λ s hs D=>DJ.2 ((g s (a9 s hs)).2 (y s hs D)),λ r O u b7 s hs=> ?_⟩);obtain⟨j,B,rfl⟩:=aay O;have c9:=hr _ O;obtain⟨row,e1,e2⟩:=a2 j _ B (aac B) b7;exact DJ.2 ((g s (c9.2.1 s hs)).2 (b5 _ ((g _ c9.1).1 (DJ.1 u)) row e1 j _ e2 (aac B) s hs))
 ·refine⟨List.replicate S.toNat false,q,m,0,rfl,Θ,A,abH _,λ s hs=> ?_,y,Θ⟩;rw[abn];split<;>simp
end Go.Bk
end
