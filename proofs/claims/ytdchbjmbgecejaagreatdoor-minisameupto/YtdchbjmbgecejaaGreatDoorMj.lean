import Derived.Test.YtdchbjmbgecejaaGreatDoorMa
import Derived.Test.YtdchbjmbgecejaaGreatDoorMk
import Derived.KernelRfl
set_option linter.unusedVariables false
noncomputable section
namespace Go.Bk
open Go Go.AM
def Ev (p:Nat->Prop):Prop:= ∃N,∀n,N<=n->p n
theorem Ev.all {p:Nat->Prop} (h: ∀n,p n):Ev p:=⟨0,λ n _=>h n⟩
theorem Ev.mono {p q:Nat->Prop} (h:Ev p) (d: ∀n,p n->q n):Ev q:=h.elim λ N e=>⟨N,λ n f=>d n (e n f)⟩
theorem Ev.and {p q:Nat->Prop} (h:Ev p) (d:Ev q):Ev λ n=>p n/\q n:=by
 obtain⟨N,e⟩:=h;obtain⟨M,f⟩:=d;exact⟨max N M,λ n g=>⟨e n (by omega),f n (by omega)⟩⟩
theorem Ev.pred {p:Nat->Prop} (h:Ev λ n=>p (n+1)):Ev p:=by
 obtain⟨N,d⟩:=h;refine⟨N+1,λ n e=> ?_⟩;obtain⟨k,rfl⟩: ∃k,n=k+1:=⟨n-1,by omega⟩;exact d k (by omega)
theorem aW7 {p:Nat->Prop} (h:Ev p):Ev λ n=>p (n+1):=h.elim λ N d=>⟨N,λ n e=>d (n+1) (by omega)⟩
def Sp {α β:Type} (F:Nat->α->Option β) (x:α) (Q:β->Prop):Prop:= ∃r,Q r/\Ev λ n=>F n x=some r
theorem Sp.mono {α β:Type} {F:Nat->α->Option β} {x:α} {Q R:β->Prop} (h:Sp F x Q) (e: ∀r,Q r->R r):Sp F x R:=h.elim λ r d=>⟨r,e r d.1,d.2⟩
theorem aZ7 {α β:Type} {F G:Nat->α->Option β} {x:α} {Q:β->Prop} (hF: ∀n x,F (n+1) x=G n x) (h:Sp G x Q):Sp F x Q:=by
 obtain⟨r,d,e⟩:=h;exact⟨r,d,(e.mono (q:=λ n=>F (n+1) x=some r) λ n f=>by rw[hF];exact f).pred⟩
def Lp {σ τ:Type} (L:Nat->σ->(σ->Option τ)->Option τ) (s:σ) (Q:τ->Prop):Prop:= ∃t,Q t/\ ∃N,∀n,N<=n-> ∀m,N<=m->bK (L n) m s=some t
theorem Lp.ev {σ τ:Type} {L:Nat->σ->(σ->Option τ)->Option τ} {s:σ} {Q:τ->Prop} (h:Lp L s Q): ∃t,Q t/\Ev λ n=>bK (L n) n s=some t:=by
 obtain⟨t,e,N,f⟩:=h;exact⟨t,e,N,λ n d=>f n d n d⟩
theorem Lp.mono {σ τ:Type} {L:Nat->σ->(σ->Option τ)->Option τ} {s:σ} {Q R:τ->Prop} (h:Lp L s Q) (e: ∀r,Q r->R r):Lp L s R:=h.elim λ r d=>⟨r,e r d.1,d.2⟩
def St {σ τ:Type} (L:Nat->σ->(σ->Option τ)->Option τ) (s:σ) (I:σ->Prop) (Q:τ->Prop):Prop:=
 (∃s',I s'/\Ev λ n=> ∀k,L n s k=k s')\/(∃t,Q t/\Ev λ n=> ∀k,L n s k=some t)
theorem aW2 {σ τ:Type} {L:Nat->σ->(σ->Option τ)->Option τ} {s:σ} {I:σ->Prop} {Q:τ->Prop} (h:St L s I Q) (f: ∀s',I s'->Lp L s' Q):Lp L s Q:=by
 rcases h with⟨s',hs,N,d⟩|⟨t,e,N,d⟩
 ·obtain⟨t,e,M,g⟩:=f s' hs;refine⟨t,e,max N M+1,λ n i m l=> ?_⟩;obtain⟨k,rfl⟩: ∃k,m=k+1:=⟨m-1,by omega⟩;show L n s (bK (L n) k)=some t;rw[d n (by omega)];exact g n (by omega) k (by omega)
 ·refine⟨t,e,N+1,λ n i m l=> ?_⟩;obtain⟨k,rfl⟩: ∃k,m=k+1:=⟨m-1,by omega⟩;show L n s (bK (L n) k)=some t;exact d n (by omega) _
theorem aX3 {σ τ:Type} {L:Nat->σ->(σ->Option τ)->Option τ} {Q:τ->Prop} (len:Nat) (I:Nat->σ->Prop)
 (hs: ∀i s,i<len->I i s->St L s (I (i+1)) Q) (e: ∀s,I len s->St L s (λ _=>False) Q): ∀s,I 0 s->Lp L s Q:=by
 have key: ∀d i s,i+d=len->I i s->Lp L s Q:=by
  intro d
  induction d with
  |zero=>intro i s f h;obtain rfl:i=len:=by omega
         exact aW2 (e s h) λ _ g=>g.elim
  |succ d k=>intro i s f h;exact aW2 (hs i s (by omega) h) λ s' l=>k (i+1) s' (by omega) l
 intro s h;exact key len 0 s (by omega) h
theorem aX4 {σ τ:Type} {L:Nat->σ->(σ->Option τ)->Option τ} (len:Nat) (st:Nat->σ) (P:Nat->Prop) (l:Nat->τ) (d:τ)
 (hs: ∀i,i<len->(P i/\Ev λ n=> ∀k,L n (st i) k=k (st (i+1)))\/(¬P i/\Ev λ n=> ∀k,L n (st i) k=some (l i)))
 (p:Ev λ n=> ∀k,L n (st len) k=some d):
 Lp L (st 0) (λ t=>(t=d/\ ∀i,i<len->P i)\/ ∃i,i<len/\ ¬P i/\t=l i):=by
 refine aX3 len (λ i s=>s=st i/\ ∀j,j<i->P j) ?_ ?_ _ ⟨rfl,λ j h=>absurd h (by omega)⟩
 ·rintro i s m ⟨rfl,e⟩;rcases hs i m with⟨f,g⟩|⟨f,g⟩
  ·refine .inl ⟨_,⟨rfl,λ j q=> ?_⟩,g⟩;rcases aa1 (abf q)with u|rfl
   ·exact e j u
   ·exact f
  ·exact .inr ⟨_,.inr ⟨i,m,f,rfl⟩,g⟩
 ·rintro s ⟨rfl,e⟩;exact .inr ⟨_,.inl ⟨rfl,e⟩,p⟩
theorem kS (z:Int) (h: -9223372036854775808<=z) (d:z<9223372036854775808):IntKind.wrap .i64 z=z:=by
 simp only[IntKind.wrap,IntKind.signed,IntKind.bits];simp only[acO,decide_eq_true_eq,Nat.reduceSub,ge_iff_le];split<;>omega
theorem wrap_succ {i m:Nat} (h:i<m) (d:m<=ay):IntKind.wrap .i64 ((i:Int)+1)=((i+1:Nat):Int):=by
 have:ay=1099511627776:=by decide
 rw[kS _ (by omega) (by omega)];omega
theorem gQ {α:Type} {l:List α} {i:Nat} (h:i<l.length):nth? l (i:Int)=some l[i]:=by
 simp[nth?,h]
theorem FV {α:Type} {l:List α} {z:Int} (h:0<=z) (d:z<(l.length:Int)):nth? l z=some (l[z.toNat]'(by omega)):=by
 have:z.toNat<l.length:=by omega
 simp[nth?,h,this]
theorem TW {i m:Nat} (h:i<m) (d:m<=ay) (e:0<i):IntKind.wrap .i64 ((i:Int)-1)=((i-1:Nat):Int):=by
 have:ay=1099511627776:=by decide
 rw[kS _ (by omega) (by omega)];omega
theorem jO {i m:Nat} (h:i<m):((i:Int)<(m:Int))=True:=eq_true (by omega)
theorem GR {m:Nat}:((m:Int)<(m:Int))=False:=eq_false (by omega)
def Tt {β:Type} (F:Nat->Option β) (Q:β->Prop):Prop:= ∃r,Q r/\Ev λ n=>F n=some r
def Bd {σ τ:Type} (F:Nat->(σ->Option τ)->Option τ) (I:σ->Prop) (Q:τ->Prop):Prop:=
 (∃s',I s'/\Ev λ n=> ∀k,F n k=k s')\/(∃t,Q t/\Ev λ n=> ∀k,F n k=some t)
section
variable {α β γ σ τ:Type} {Q:β->Prop}
theorem Tt.mono {F:Nat->Option β} {R:β->Prop} (h:Tt F Q) (e: ∀r,Q r->R r):Tt F R:=h.elim λ r d=>⟨r,e r d.1,d.2⟩
theorem aZ0 {r:β} (h:Q r):Tt (λ _=>some r) Q:=⟨r,h,.all λ _=>rfl⟩
theorem aZ1 {A:Nat->Option α} {G:Nat->α->Option β} {R:α->Prop} (f:Tt A R) (g: ∀r,R r->Tt (λ n=>G n r) Q):Tt (λ n=>(A n).bind (G n)) Q:=by
 obtain⟨r,i,k⟩:=f;obtain⟨t,l,d⟩:=g r i
 exact⟨t,l,(k.and d).mono λ n e=>by
  show(A n).bind (G n)=_;rw[e.1];exact e.2⟩
theorem aX0 {c:Bool} {A:Nat->Option β} (d:c=true) (h:Tt A Q):Tt (λ n=>bif c then A n else none) Q:=by
 subst d;exact h
theorem aY4 {c:Bool} {A B:Nat->Option β} (d:c=true->Tt A Q) (e:c=false->Tt B Q):Tt (λ n=>bif c then A n else B n) Q:=by
 cases c with
 |true=>exact d rfl
 |false=>exact e rfl
theorem aW8 {l:List β} {i:Int} (d:0<=i) (e:i<(l.length:Int)) (f: ∀h:i.toNat<l.length,Q l[i.toNat]):Tt (λ _=>nth? l i) Q:=
 ⟨_,f (by omega),.all λ _=>FV d e⟩
theorem Tt.at {l:List β} {i:Nat} (h:i<l.length) (d:Q l[i]):Tt (λ _=>at? l i) Q:=⟨_,d,.all λ _=>aac h⟩
theorem aZ8 {L:Nat->σ->(σ->Option β)->Option β} {s:σ} (h:Lp L s Q):Tt (λ n=>bK (L n) n s) Q:=h.ev
theorem aW3 {c:Bool} {A:Nat->Option α} {G:Nat->α->Option β} (d:c=true) (h:Tt (λ n=>(A n).bind (G n)) Q):Tt (λ n=>(bif c then A n else none).bind (G n)) Q:=by
 subst d;exact h
theorem aX2 {c:Bool} {A B:Nat->Option α} {G:Nat->α->Option β} (d:c=true->Tt (λ n=>(A n).bind (G n)) Q) (e:c=false->Tt (λ n=>(B n).bind (G n)) Q):Tt (λ n=>(bif c then A n else B n).bind (G n)) Q:=by
 cases c with
 |true=>exact d rfl
 |false=>exact e rfl
theorem aW5 {A:Nat->Option α} {B:Nat->α->Option γ} {G:Nat->γ->Option β} (h:Tt (λ n=>(A n).bind λ a=>(B n a).bind (G n)) Q):Tt (λ n=>((A n).bind (B n)).bind (G n)) Q:=by
 obtain⟨r,d,e⟩:=h;exact⟨r,d,e.mono λ n f=>(Option.bind_assoc ..).trans f⟩
theorem aY8 {r:α} {G:Nat->α->Option β} (h:Tt (λ n=>G n r) Q):Tt (λ n=>(some r).bind (G n)) Q:=h
end
section
variable {α β γ σ τ:Type} {I:σ->Prop} {Q:τ->Prop}
theorem Bd.mono {F:Nat->(σ->Option τ)->Option τ} {J:σ->Prop} {R:τ->Prop} (h:Bd F I Q) (f: ∀s,I s->J s) (g: ∀t,Q t->R t):Bd F J R:=by
 rcases h with⟨s,d,e⟩|⟨t,d,e⟩
 ·exact .inl ⟨s,f s d,e⟩
 ·exact .inr ⟨t,g t d,e⟩
theorem aZ2 {s:σ} (h:I s):Bd (λ _ k=>k s) I Q:= .inl ⟨s,h,.all λ _ _=>rfl⟩
theorem aZ4 {t:τ} (h:Q t):Bd (λ _ (_:σ->Option τ)=>some t) I Q:= .inr ⟨t,h,.all λ _ _=>rfl⟩
theorem aZ5 {A:Nat->Option α} {G:Nat->(σ->Option τ)->α->Option τ} {R:α->Prop} (i:Tt A R) (l: ∀r,R r->Bd (λ n k=>G n k r) I Q):Bd (λ n k=>(A n).bind (G n k)) I Q:=by
 obtain⟨r,m,g⟩:=i;rcases l r m with⟨s,e,f⟩|⟨t,e,f⟩
 ·exact .inl ⟨s,e,(g.and f).mono λ n d k=>by
   show(A n).bind (G n k)=_;rw[d.1];exact d.2 k⟩
 ·exact .inr ⟨t,e,(g.and f).mono λ n d k=>by
   show(A n).bind (G n k)=_;rw[d.1];exact d.2 k⟩
theorem aZ9 {c:Bool} {A:Nat->(σ->Option τ)->Option τ} (d:c=true) (h:Bd A I Q):Bd (λ n k=>bif c then A n k else none) I Q:=by
 subst d;exact h
theorem aY9 {c:Bool} {A B:Nat->(σ->Option τ)->Option τ} (d:c=true->Bd A I Q) (e:c=false->Bd B I Q):Bd (λ n k=>bif c then A n k else B n k) I Q:=by
 cases c with
 |true=>exact d rfl
 |false=>exact e rfl
theorem aY0 {c:Bool} {A:Nat->Option α} {G:Nat->(σ->Option τ)->α->Option τ} (d:c=true) (h:Bd (λ n k=>(A n).bind (G n k)) I Q):Bd (λ n k=>(bif c then A n else none).bind (G n k)) I Q:=by
 subst d;exact h
theorem aY2 {c:Bool} {A B:Nat->Option α} {G:Nat->(σ->Option τ)->α->Option τ} (d:c=true->Bd (λ n k=>(A n).bind (G n k)) I Q) (e:c=false->Bd (λ n k=>(B n).bind (G n k)) I Q):Bd (λ n k=>(bif c then A n else B n).bind (G n k)) I Q:=by
 cases c with
 |true=>exact d rfl
 |false=>exact e rfl
theorem aY5 {A:Nat->Option α} {B:Nat->α->Option γ} {G:Nat->(σ->Option τ)->γ->Option τ} (h:Bd (λ n k=>(A n).bind λ a=>(B n a).bind (G n k)) I Q):Bd (λ n k=>((A n).bind (B n)).bind (G n k)) I Q:=by
 rcases h with⟨s,d,e⟩|⟨t,d,e⟩
 ·exact .inl ⟨s,d,e.mono λ n f k=>(Option.bind_assoc ..).trans (f k)⟩
 ·exact .inr ⟨t,d,e.mono λ n f k=>(Option.bind_assoc ..).trans (f k)⟩
theorem aZ3 {r:α} {G:Nat->(σ->Option τ)->α->Option τ} (h:Bd (λ n k=>G n k r) I Q):Bd (λ n k=>(some r).bind (G n k)) I Q:=h
end
section
variable {α β σ τ:Type} {I:σ->Prop} {Q:τ->Prop} {P:β->Prop}
theorem aX7 {c:Bool} {A B:Nat->(σ->Option τ)->Option τ} (d:c=true) (h:Bd A I Q):Bd (λ n k=>bif c then A n k else B n k) I Q:=by subst d;exact h
theorem aX9 {c:Bool} {A B:Nat->(σ->Option τ)->Option τ} (d:c=false) (h:Bd B I Q):Bd (λ n k=>bif c then A n k else B n k) I Q:=by subst d;exact h
theorem aX6 {c:Bool} {A B:Nat->Option β} (d:c=true) (h:Tt A P):Tt (λ n=>bif c then A n else B n) P:=by subst d;exact h
theorem aW {c:Bool} {A B:Nat->Option β} (d:c=false) (h:Tt B P):Tt (λ n=>bif c then A n else B n) P:=by subst d;exact h
theorem aY3 {p:Prop} [Decidable p] {A B:Nat->(σ->Option τ)->Option τ} (d: ¬p) (h:Bd B I Q):Bd (λ n k=>bif decide p then A n k else B n k) I Q:=aX9 (decide_eq_false d) h
theorem aY1 {p:Prop} [Decidable p] {A B:Nat->(σ->Option τ)->Option τ} (d:p) (h:Bd A I Q):Bd (λ n k=>bif decide p then A n k else B n k) I Q:=aX7 (decide_eq_true d) h
theorem aW6 {p:Prop} [Decidable p] {A B:Nat->Option β} (d: ¬p) (h:Tt B P):Tt (λ n=>bif decide p then A n else B n) P:=aW (decide_eq_false d) h
theorem aY {l:List α} {i:Nat} {G:Nat->(σ->Option τ)->α->Option τ} (h:i<l.length) (d:Bd (λ n k=>G n k l[i]) I Q):Bd (λ n k=>(nth? l (i:Int)).bind (G n k)) I Q:=by
 rw[gQ h];exact d
theorem aW0 {l:List α} {z:Int} {G:Nat->(σ->Option τ)->α->Option τ} (d:0<=z) (f:z<(l.length:Int)) (g: ∀e,e∈l->l[z.toNat]? =some e->Bd (λ n k=>G n k e) I Q):Bd (λ n k=>(nth? l z).bind (G n k)) I Q:=by
 rw[FV d f];exact g _ (aaf _) (aac _)
theorem aY6 {l:List α} {i:Nat} {G:Nat->(σ->Option τ)->α->Option τ} (h:i<l.length) (d: ∀e,e∈l->l[i]? =some e->Bd (λ n k=>G n k e) I Q):Bd (λ n k=>(at? l i).bind (G n k)) I Q:=by
 unfold at?;rw[aac h];exact d _ (aaf _) (aac _)
theorem aW1 {l:List α} {i:Nat} {G:Nat->α->Option β} (h:i<l.length) (d:Tt (λ n=>G n l[i]) P):Tt (λ n=>(nth? l (i:Int)).bind (G n)) P:=by
 rw[gQ h];exact d
theorem aW4 {l:List α} {z:Int} {G:Nat->α->Option β} (d:0<=z) (f:z<(l.length:Int)) (g: ∀e,e∈l->l[z.toNat]? =some e->Tt (λ n=>G n e) P):Tt (λ n=>(nth? l z).bind (G n)) P:=by
 rw[FV d f];exact g _ (aaf _) (aac _)
theorem aX8 {l:List α} {i:Nat} {G:Nat->α->Option β} (h:i<l.length) (d: ∀e,e∈l->l[i]? =some e->Tt (λ n=>G n e) P):Tt (λ n=>(at? l i).bind (G n)) P:=by
 unfold at?;rw[aac h];exact d _ (aaf _) (aac _)
end
theorem aZ6 {σ τ:Type} {L:Nat->σ->(σ->Option τ)->Option τ} {Q:τ->Prop} (len:Nat) (I:Nat->σ->Prop)
 (hs: ∀i s,i<len->I i s->Bd (λ n k=>L n s k) (I (i+1)) Q) (d: ∀s,I len s->Bd (λ n k=>L n s k) (λ _=>False) Q) {s:σ} (h:I 0 s):Lp L s Q:=aX3 len I hs d s h
theorem aX1 {σ τ:Type} {L:Nat->σ->(σ->Option τ)->Option τ} {Q:τ->Prop} (I:σ->Prop) (m:σ->Nat)
 (hs: ∀s,I s->Bd (λ n k=>L n s k) (λ s'=>I s'/\m s'<m s) Q) {s:σ} (h:I s):Lp L s Q:=by
 have key: ∀d s,m s<d->I s->Lp L s Q:=by
  intro d
  induction d with
  |zero=>intro s e;omega
  |succ d f=>intro s e h;exact aW2 (hs s h) λ s' g=>f s' (by omega) g.1
 exact key (m s+1) s (by omega) h
theorem fE {p:Prop} [Decidable p] (h:p):decide p=true:=decide_eq_true h
theorem iy {p:Prop} [Decidable p] (h:decide p=true):p:=of_decide_eq_true h
theorem dec_not {p:Prop} [Decidable p] (h:decide p=false): ¬p:=of_decide_eq_false h
theorem rng {i m:Int} (d:0<=i) (e:i<m):(decide (0<=i)&&decide (i<m))=true:=by simp[d,e]
theorem tY {i:Int} (d:0<=i) (e:i<=1099511627776):(decide (0<=i)&&decide (i<=i)&&decide (i<=(ay:Int)))=true:=by
 have:ay=1099511627776:=by decide
 simp[d];omega
theorem ak {i:Nat} (h:i<1099511627776):IntKind.wrap .i64 ((i:Int)+1)=((i+1:Nat):Int):=by
 rw[kS _ (by omega) (by omega)];omega
theorem xw:ay=1099511627776:=by decide
theorem jS {n:Nat} (h:n<=1099511627776):decide (n<=ay)=true:=by
 rw[xw];exact decide_eq_true h
abbrev Rule:=Int×LI×Int
abbrev Aut:=Int×LI×LR
theorem ahz (a b:Int) (c:LI) (d:List Aut) (e f:Int) (rs:LR) (q:rs.length<=ay):
 Lp (λ _=>iY.L1) (a,b,c,d,e,f,rs,(rs.length:Int),(0:Int)) (λ t=>(t= .inl (a,b,c,d,e,f)/\ ∀r∈rs,r.2.1.length<=10)\/t= .inr (.inr false)):=by
 refine aX3 rs.length (λ i s=>s=(a,b,c,d,e,f,rs,(rs.length:Int),(i:Int))/\ ∀j (h:j<rs.length),j<i->rs[j].2.1.length<=10) ?_ ?_ _ ⟨rfl,by intro j h y;omega⟩
 ·rintro i s g ⟨rfl,m⟩;by_cases h:(10:Int)<((rs[i].2.1.length:Nat):Int)
  ·exact .inr ⟨_,.inr rfl,.all λ n k=>by simp only[decide_true,cond_true,aan,iY.L1,jO g,gQ g,h]⟩
  ·refine .inl ⟨_,⟨rfl,λ j l u=> ?_⟩,.all λ n k=>by simp only[decide_true,decide_false,cond_true,cond_false,aan,iY.L1,jO g,gQ g,h,wrap_succ g q]⟩;rcases aa1 (abf u)with v|rfl
   ·exact m j l v
   ·omega
 ·rintro s ⟨rfl,m⟩;refine .inr ⟨_,.inl ⟨rfl,λ r p=> ?_⟩,.all λ n k=>by simp only[decide_false,cond_false,aan,GR,iY.L1]⟩;obtain⟨j,l,rfl⟩:=aaz p;exact m j l l
theorem ahA (al:LI) (d:List Aut) (G:d.length<=ay) (I: ∀b∈d,b.2.2.length<=ay):
 Lp (iY.L2) ((8:Int),(40:Int),al,d,(d.length:Int),(0:Int)) (λ t=>(t= .inl al/\ ∀b∈d,b.2.1.length<=40/\b.2.2.length<=40/\(b.1<=8\/300<b.1)/\ ∀r∈b.2.2,r.2.1.length<=10)\/t= .inr false):=by
 refine aX3 d.length (λ i s=>s=((8:Int),(40:Int),al,d,(d.length:Int),(i:Int))/\ ∀j (h:j<d.length),j<i->(d[j].2.1.length<=40/\d[j].2.2.length<=40/\(d[j].1<=8\/300<d[j].1)/\ ∀r∈d[j].2.2,r.2.1.length<=10)) ?_ ?_ _ ⟨rfl,by intro j h L;omega⟩
 ·rintro i s e ⟨rfl,p⟩;by_cases g:(40:Int)<((d[i].2.1.length:Nat):Int)
  ·exact .inr ⟨_,.inr rfl,.all λ n k=>by simp only[decide_true,cond_true,aan,iY.L2,jO e,gQ e,g]⟩
  by_cases l:(40:Int)<((d[i].2.2.length:Nat):Int)
  ·exact .inr ⟨_,.inr rfl,.all λ n k=>by simp only[decide_true,decide_false,cond_true,cond_false,aan,iY.L2,jO e,gQ e,g,l]⟩
  by_cases u:(8:Int)<d[i].1/\d[i].1<=300
  ·exact .inr ⟨_,.inr rfl,.all λ n k=>by simp only[decide_true,decide_false,cond_true,cond_false,aan,iY.L2,jO e,gQ e,g,l,u.1,u.2]⟩
  have D: ∀n k,iY.L2 n ((8:Int),(40:Int),al,d,(d.length:Int),(i:Int)) k=((bK (iY.L1) n ((8:Int),(40:Int),al,d,(d.length:Int),(i:Int),d[i].2.2,((List.length d[i].2.2:Nat):Int),(0:Int))).bind λ q=>match q with
   |Sum.inl f=>(k (f.1,f.2.1,f.2.2.1,f.2.2.2.1,f.2.2.2.2.1,IntKind.wrap .i64 (f.2.2.2.2.2+(1:Int))))
   |Sum.inr r=>some r):=by
   intro n k;by_cases v:(8:Int)<d[i].1
   ·have K: ¬d[i].1<=300:=λ h=>u ⟨v,h⟩;simp only[decide_true,decide_false,cond_true,cond_false,aan,iY.L2,jO e,gQ e,g,l,v,K]<;>rfl
   ·simp only[decide_true,decide_false,cond_true,cond_false,aan,iY.L2,jO e,gQ e,g,l,v]<;>rfl
  obtain⟨t,y,E⟩:=(ahz 8 40 al d (d.length:Int) (i:Int) d[i].2.2 (I _ (aaf e))).ev;rcases y with⟨rfl,y⟩|rfl
  ·refine .inl ⟨_,⟨rfl,λ j m z=> ?_⟩,E.mono λ n A k=>by rw[D,A];simp only[aan,wrap_succ e G]⟩;rcases aa1 (abf z)with B|rfl
   ·exact p j m B
   ·exact⟨by omega,by omega,by omega,y⟩
  ·exact .inr ⟨_,.inr rfl,E.mono λ n A k=>by rw[D,A];simp only[aan]⟩
 ·rintro s ⟨rfl,p⟩;refine .inr ⟨_,.inl ⟨rfl,λ r C=> ?_⟩,.all λ n k=>by simp only[decide_false,cond_false,aan,GR,iY.L2]⟩;obtain⟨j,m,rfl⟩:=aaz C;exact p j m m
def O7 (al:LI) (b:Aut):Prop:=al.length<=40/\b.2.1.length<=40/\b.2.2.length<=40/\(b.1<=8\/300<b.1)/\ ∀r∈b.2.2,r.2.1.length<=10
theorem TS (al:LI) (d:List Aut) (e:d.length<=ay) (k: ∀b∈d,b.2.2.length<=ay):
 Sp iY.P (al,(8:Int),(40:Int),d) (λ r=>r=true-> ∀b∈d,O7 al b):=by
 obtain⟨t,f,i⟩:=(ahA al d e k).ev;rcases f with⟨rfl,f⟩|rfl
 ·refine⟨_,λ h b e=>⟨?_,f b e⟩,i.mono λ n g=>by simp only[iY.P,g,aan];rfl⟩;have:=of_decide_eq_true h;omega
 ·exact⟨false,λ h=>(by cases h),i.mono λ n g=>by simp only[iY.P,g,aan]⟩
theorem y8 {P:RT Int->Prop} (h: ∀a d,(∀k∈d,P k)->P (.mk a d)) (t:RT Int):P t:=by
 match t with
 | .mk a d=>exact h a d (λ k e=>y8 h k)
termination_by SizeOf.sizeOf t
decreasing_by
 have:=List.sizeOf_lt_of_mem e;simp only[RT.mk.sizeOf_spec];omega
mutual
def nds:RT Int->Nat
 | .mk _ d=>ah1 d+1
def ah1:List (RT Int)->Nat
 | []=>0
 |k::d=>nds k+ah1 d
end
theorem fH:ay=1099511627776:=by decide
theorem TQ {G:Nat->LI×Int×Int×List Aut->Option Bool} {al:LI} {d:List Aut} (h:Sp G (al,(8:Int),(40:Int),d) (λ r=>r=true-> ∀b∈d,O7 al b)):
 Sp (λ n=>Lh.P (G n) n) (al,d) (λ r=>r=true-> ∀b∈d,O7 al b):=by
 obtain⟨r,e,f⟩:=h;exact⟨_,e,f.mono λ n g=>by simp only[Lh.P,g,aan]⟩
def Nv (x:Int):Prop:=0<=x/\x<=3
def F9 (al:LI):Prop:=al.length<=12/\ ∀i (h:i<al.length),Nv al[i]
theorem Ci (x:Int):Sp (λ n=>jJ.P n) x (λ r=>r=true ↔ ¬Nv x):=by
 by_cases h:x<0
 ·exact⟨true,by simp only[Nv];simp;omega,.all λ n=>by simp only[decide_true,cond_true,aan,jJ.P,h]⟩
 ·by_cases d:3<x
  ·exact⟨true,by simp only[Nv];simp;omega,.all λ n=>by simp only[decide_true,decide_false,cond_false,aan,jJ.P,h,d]⟩
  ·exact⟨false,by simp only[Nv];simp;omega,.all λ n=>by simp only[decide_false,cond_false,aan,jJ.P,h,d]⟩
theorem TL {F:Nat->Int->Option Bool} (hF: ∀x,Sp F x (λ r=>r=true ↔ ¬Nv x)) (al:LI) (m:al.length<=ay):
 Sp (λ n=>iI.P (F n) n) al (λ r=>0<=r ↔ ∃i,∃h:i<al.length,¬Nv al[i]):=by
 have:=aX4 (L:=λ n=>iI.L1 (F n)) al.length (λ i=>(al,(al.length:Int),(i:Int))) (λ i=> ∀h:i<al.length,Nv al[i]) (λ i=> .inr (i:Int)) (.inl ()) ?_ ?_
 ·obtain⟨t,g,f⟩:=this.ev;rcases g with⟨rfl,g⟩|⟨i,d,e,rfl⟩
  ·refine⟨-1,⟨λ h=>absurd h (by omega),?_⟩,f.mono λ n e=> ?_⟩
   ·rintro⟨i,d,h⟩;exact absurd (g i d d) h
   ·show(bK _ n (al,(al.length:Int),(((0:Nat):Nat):Int))).bind _=_;rw[e];rfl
  ·refine⟨(i:Int),⟨λ _=>⟨i,d,λ h=>e λ _=>h⟩,λ _=>by omega⟩,f.mono λ n e=> ?_⟩;show(bK _ n (al,(al.length:Int),(((0:Nat):Nat):Int))).bind _=_;rw[e];rfl
 ·intro i d;obtain⟨r,l,f⟩:=hF al[i];cases r
  ·exact .inl ⟨λ _=>aaP λ h=>(by have:=l.mpr h;cases this),f.mono λ n e k=>by simp only[decide_true,cond_true,cond_false,aan,iI.L1,jO d,gQ d,e,wrap_succ d m]⟩
  ·exact .inr ⟨λ h=>l.mp rfl (h d),f.mono λ n e k=>by simp only[decide_true,cond_true,aan,iI.L1,jO d,gQ d,e]⟩
 ·exact .all λ n k=>by simp only[decide_false,cond_false,aan,GR,iI.L1]
theorem Nb {F:Nat->LI->Option Int} {al:LI} {P:Prop} (h:Sp F al (λ r=>0<=r ↔ P)):
 Sp (λ n=>mD.P (F n) n) al (λ r=>r=true ↔ P):=by
 obtain⟨r,d,e⟩:=h;exact⟨decide (0<=r),decide_eq_true_iff.trans d,e.mono λ n f=>by simp only[mD.P,f,aan]⟩
theorem Eh {F:Nat->LI->Option Bool} {al:LI} (h:Sp F al (λ r=>r=true ↔ ∃i,∃h:i<al.length,¬Nv al[i])):
 Sp (λ n=>lW.P (F n) n) al (λ r=>r=true ↔ F9 al):=by
 obtain⟨r,e,g⟩:=h;by_cases f:(al.length:Int)<=12
 ·refine⟨!r,?_,g.mono λ n k=>by simp only[decide_true,cond_true,aan,lW.P,f,k]⟩;cases r
  ·simp only[acR,true_iff];refine⟨by omega,λ i d=>aaP λ h=> ?_⟩;have:=e.mpr ⟨i,d,h⟩;cases this
  ·simp only[abt];refine⟨λ h=>(by cases h),λ h=> ?_⟩;obtain⟨i,d,l⟩:=e.mp rfl;exact absurd (h.2 i d) l
 ·exact⟨false,⟨λ h=>(by cases h),λ h=>absurd h.1 (by omega)⟩,.all λ n=>by simp only[decide_false,cond_false,aan,lW.P,f]⟩
theorem C9 (al:LI):Sp dN.P al (λ r=>r=true ↔ F9 al):=by
 by_cases f:(12:Int)<(al.length:Int)
 ·exact⟨false,⟨λ h=>(by cases h),λ h=>absurd h.1 (by omega)⟩,.all λ n=>by simp only[decide_true,cond_true,dN.P,f]⟩
 have q:al.length<=ay:=by have:=fH;omega
 have:=aX4 (L:=λ _=>dN.L1) al.length (λ i=>(al,(al.length:Int),(i:Int))) (λ i=> ∀h:i<al.length,Nv al[i]) (λ i=> .inr false) (.inl ()) ?_ ?_
 ·obtain⟨t,g,m⟩:=this.ev;rcases g with⟨rfl,g⟩|⟨i,d,e,rfl⟩
  ·refine⟨true,⟨λ _=>⟨by omega,λ i d=>g i d d⟩,λ _=>rfl⟩,m.mono λ n e=> ?_⟩;simp only[decide_false,cond_false,dN.P,f];exact congrArg (Option.bind · _) e
  ·refine⟨false,⟨λ h=>(by cases h),λ h=>absurd (λ _=>h.2 i d) e⟩,m.mono λ n e=> ?_⟩;simp only[decide_false,cond_false,dN.P,f];exact congrArg (Option.bind · _) e
 ·intro i d;by_cases l:al[i]<0
  ·exact .inr ⟨λ h=>absurd (h d).1 (by omega),.all λ n k=>by simp only[decide_true,cond_true,aan,dN.L1,jO d,gQ d,l]⟩
  by_cases p:3<al[i]
  ·exact .inr ⟨λ h=>absurd (h d).2 (by omega),.all λ n k=>by simp only[decide_true,decide_false,cond_true,cond_false,aan,dN.L1,jO d,gQ d,l,p]⟩
  ·exact .inl ⟨λ _=>⟨by omega,by omega⟩,.all λ n k=>by simp only[decide_true,decide_false,cond_true,cond_false,aan,dN.L1,jO d,gQ d,l,p,wrap_succ d q]⟩
 ·exact .all λ n k=>by simp only[decide_false,cond_false,aan,GR,dN.L1]
def bC (S f:Int):Prop:=0<=f/\f<S
def Uf (S:Int) (l:LI) (i:Nat):Prop:= ∀h:i<l.length,bC S l[i]/\(0<i->l[i-1]<l[i])
def N8 (S:Int) (l:LI) (i:Nat):Prop:= ∀h:i<l.length,bC S l[i]
def Gi (al:LI) (S:Int) (r:Rule):Prop:=0<=r.1/\r.1<(al.length:Int)/\(∀h:r.1.toNat<al.length,(r.2.1.length:Int)=al[r.1.toNat])/\bC S r.2.2/\ ∀i,i<r.2.1.length->N8 S r.2.1 i
def Oa (al:LI) (S:Int) (l:LR) (i:Nat):Prop:= ∀h:i<l.length,Gi al S l[i]
def cu (al:LI) (a:Aut):Prop:=F9 al/\0<=a.1/\a.1<=300/\a.2.2.length<=20000/\(∀i,i<a.2.1.length->Uf a.1 a.2.1 i)/\ ∀i,i<a.2.2.length->Oa al a.1 a.2.2 i
theorem Nc (x S:Int) (f:LI) (rs:LR):Sp (λ n=>uV.P n) (x,S,f,rs) (λ r=>r=true ↔ bC S x):=by
 by_cases h:0<=x
 ·exact⟨decide (x<S),decide_eq_true_iff.trans ⟨λ d=>⟨h,d⟩,λ d=>d.2⟩,.all λ n=>by simp only[decide_true,cond_true,aan,uV.P,h]⟩
 ·exact⟨false,⟨λ h=>(by cases h),λ d=>absurd d.1 h⟩,.all λ n=>by simp only[decide_false,cond_false,aan,uV.P,h]⟩
section
variable {F:Nat->Ba->Option Bool} (hF: ∀x S f rs,Sp F (x,S,f,rs) (λ r=>r=true ↔ bC S x))
include hF
theorem Pv (al:LI) (S:Int) (fin:LI) (rs:LR) (g:fin.length<=ay):
 Lp (λ n=>cZ.L1 (F n)) (al,S,fin,rs,fin,(fin.length:Int),(0:Int)) (λ t=>(t= .inl (al,S,fin,rs)/\ ∀i,i<fin.length->Uf S fin i)\/ ∃i,i<fin.length/\ ¬Uf S fin i/\t= .inr false):=by
 refine aX4 fin.length (λ i=>(al,S,fin,rs,fin,(fin.length:Int),(i:Int))) (Uf S fin) (λ _=>Sum.inr false) (Sum.inl (al,S,fin,rs)) ?_ ?_
 ·intro i d;obtain⟨r,p,l⟩:=hF fin[i] S fin rs;cases r
  ·exact .inr ⟨λ h=>(by have:=p.mpr (h d).1;cases this),l.mono λ n f k=>by simp only[decide_true,cond_true,aan,acR,cZ.L1,jO d,gQ d,f]⟩
  ·have hs:=p.mp rfl;by_cases m:0<i
   ·have e:(0:Int)<(i:Int):=by omega
    have q:i-1<fin.length:=by omega
    by_cases u:fin[i]<=fin[i-1]
    ·exact .inr ⟨λ h=>by have:=(h d).2 m;omega,l.mono λ n f k=>by simp only[decide_true,cond_true,cond_false,aan,abt,cZ.L1,jO d,gQ d,f,e,TW d g m,gQ q,u]⟩
    ·exact .inl ⟨λ _=>⟨hs,λ _=>by omega⟩,l.mono λ n f k=>by simp only[decide_true,decide_false,cond_true,cond_false,aan,abt,cZ.L1,jO d,gQ d,f,e,TW d g m,gQ q,u,wrap_succ d g]⟩
   ·have e: ¬(0:Int)<(i:Int):=by omega
    exact .inl ⟨λ _=>⟨hs,λ h=>absurd h m⟩,l.mono λ n f k=>by simp only[decide_true,decide_false,cond_true,cond_false,aan,abt,cZ.L1,jO d,gQ d,f,e,wrap_succ d g]⟩
 ·exact .all λ n k=>by simp only[decide_false,cond_false,aan,GR,cZ.L1]
theorem Px (al:LI) (S:Int) (fin:LI) (rs d:LR) (a b:Int) (l:LI) (p:l.length<=ay):
 Lp (λ n=>cZ.L2 (F n)) (al,S,fin,rs,d,a,b,l,(l.length:Int),(0:Int)) (λ t=>(t= .inl (al,S,fin,rs,d,a,b)/\ ∀i,i<l.length->N8 S l i)\/ ∃i,i<l.length/\ ¬N8 S l i/\t= .inr (.inr false)):=by
 refine aX4 l.length (λ i=>(al,S,fin,rs,d,a,b,l,(l.length:Int),(i:Int))) (N8 S l) (λ _=>Sum.inr (Sum.inr false)) (Sum.inl (al,S,fin,rs,d,a,b)) ?_ ?_
 ·intro i e;obtain⟨r,g,m⟩:=hF l[i] S fin rs;cases r
  ·exact .inr ⟨λ h=>(by have:=g.mpr (h e);cases this),m.mono λ n f k=>by simp only[decide_true,cond_true,aan,acR,cZ.L2,jO e,gQ e,f]⟩
  ·exact .inl ⟨λ _=>g.mp rfl,m.mono λ n f k=>by simp only[decide_true,cond_true,cond_false,aan,abt,cZ.L2,jO e,gQ e,f,wrap_succ e p]⟩
 ·exact .all λ n k=>by simp only[decide_false,cond_false,aan,GR,cZ.L2]
theorem Py (al:LI) (S:Int) (fin:LI) (rs:LR) (A:rs.length<=ay) (B: ∀r∈rs,r.2.1.length<=ay):
 Lp (λ n=>cZ.L3 (F n) n) (al,S,fin,rs,rs,(rs.length:Int),(0:Int)) (λ t=>(t= .inl ()/\ ∀i,i<rs.length->Oa al S rs i)\/ ∃i,i<rs.length/\ ¬Oa al S rs i/\t= .inr false):=by
 refine aX4 rs.length (λ i=>(al,S,fin,rs,rs,(rs.length:Int),(i:Int))) (Oa al S rs) (λ _=>Sum.inr false) (Sum.inl ()) ?_ ?_
 ·intro i d;by_cases g:rs[i].1<0
  ·exact .inr ⟨λ h=>absurd (h d).1 (by omega),.all λ n k=>by simp only[decide_true,cond_true,aan,cZ.L3,jO d,gQ d,g]⟩
  by_cases m:(al.length:Int)<=rs[i].1
  ·exact .inr ⟨λ h=>absurd (h d).2.1 (by omega),.all λ n k=>by simp only[decide_true,decide_false,cond_true,cond_false,aan,cZ.L3,jO d,gQ d,g,m]⟩
  have u:=FV (l:=al) (z:=rs[i].1) (by omega) (by omega);by_cases f:((rs[i].2.1.length:Nat):Int)=al[rs[i].1.toNat]'(by omega)
  ·obtain⟨r,p,v⟩:=hF rs[i].2.2 S fin rs;cases r
   ·exact .inr ⟨λ h=>(by have:=p.mpr (h d).2.2.2.1;cases this),v.mono λ n e k=>by simp only[decide_true,decide_false,cond_true,cond_false,aan,abt,acR,cZ.L3,jO d,gQ d,g,m,u,f,e]⟩
   ·obtain⟨t,y,q⟩:=(Px hF al S fin rs rs (rs.length:Int) (i:Int) rs[i].2.1 (B _ (aaf d))).ev;rcases y with⟨rfl,y⟩|⟨j,C,e,rfl⟩
    ·exact .inl ⟨λ _=>⟨by omega,by omega,λ _=>f,p.mp rfl,y⟩,(v.and q).mono λ n e k=>by rw[f]at e;simp only[decide_true,decide_false,cond_true,cond_false,aan,abt,cZ.L3,jO d,gQ d,g,m,u,f,e.1,e.2,wrap_succ d A]⟩
    ·exact .inr ⟨λ h=>e ((h d).2.2.2.2 j C),(v.and q).mono λ n e k=>by rw[f]at e;simp only[decide_true,decide_false,cond_true,cond_false,aan,abt,cZ.L3,jO d,gQ d,g,m,u,f,e.1,e.2]⟩
  ·exact .inr ⟨λ h=>f ((h d).2.2.1 (by omega)),.all λ n k=>by simp only[decide_true,decide_false,cond_true,cond_false,aan,acR,cZ.L3,jO d,gQ d,g,m,u,f]⟩
 ·exact .all λ n k=>by simp only[decide_false,cond_false,aan,GR,cZ.L3]
theorem Qy {G:Nat->LI->Option Bool} (z: ∀al,al.length<=ay->Sp G al (λ r=>r=true ↔ F9 al)) (al:LI) (S:Int) (fin:LI) (rs:LR) (A:al.length<=ay) (B:fin.length<=ay) (C:rs.length<=ay) (D: ∀r∈rs,r.2.1.length<=ay):
 Sp (λ n=>cZ.P (F n) (G n) n) (al,S,fin,rs) (λ r=>r=true ↔ cu al (S,fin,rs)):=by
 obtain⟨r,y,e⟩:=z al A;cases r
 ·exact⟨false,⟨λ h=>(by cases h),λ h=>y.mpr h.1⟩,e.mono λ n d=>by simp only[cond_true,aan,acR,cZ.P,d]⟩
 have u:=y.mp rfl;by_cases m:S<0
 ·exact⟨false,⟨λ h=>(by cases h),λ h=>absurd h.2.1 (by simp only;omega)⟩,e.mono λ n d=>by simp only[decide_true,cond_true,cond_false,aan,abt,cZ.P,d,m]⟩
 by_cases p:300<S
 ·exact⟨false,⟨λ h=>(by cases h),λ h=>absurd h.2.2.1 (by simp only;omega)⟩,e.mono λ n d=>by simp only[decide_true,decide_false,cond_true,cond_false,aan,abt,cZ.P,d,m,p]⟩
 by_cases t:20000<(rs.length:Int)
 ·exact⟨false,⟨λ h=>(by cases h),λ h=>absurd h.2.2.2.1 (by simp only;omega)⟩,e.mono λ n d=>by simp only[decide_true,decide_false,cond_true,cond_false,aan,abt,cZ.P,d,m,p,t]⟩
 obtain⟨t1,f,g⟩:=(Pv hF al S fin rs B).ev;rcases f with⟨rfl,f⟩|⟨i,v,k,rfl⟩
 ·obtain⟨E,l,q⟩:=(Py hF al S fin rs C D).ev;rcases l with⟨rfl,l⟩|⟨i,v,k,rfl⟩
  ·exact⟨true,⟨λ _=>⟨u,by simp only;omega,by simp only;omega,by simp only;omega,f,l⟩,λ _=>rfl⟩,(e.and (g.and q)).mono λ n d=>by simp only[decide_false,cond_false,aan,abt,cZ.P,d.1,m,p,t,d.2.1,d.2.2]⟩
  ·exact⟨false,⟨λ h=>(by cases h),λ h=>absurd (h.2.2.2.2.2 i v) k⟩,(e.and (g.and q)).mono λ n d=>by simp only[decide_false,cond_false,aan,abt,cZ.P,d.1,m,p,t,d.2.1,d.2.2]⟩
 ·exact⟨false,⟨λ h=>(by cases h),λ h=>absurd (h.2.2.2.2.1 i v) k⟩,(e.and g).mono λ n d=>by simp only[decide_false,cond_false,aan,abt,cZ.P,d.1,m,p,t,d.2]⟩
end
theorem len1 {α:Type} {a:α}:List.length [a]=1:=rfl
theorem Uh {α:Type} {l:List α} {i:Nat} (h:i<l.length):List.append (l.take i) [l[i]]=l.take (i+1):=by
 show l.take i++[l[i]]=_;rw[aau];simp[h]
theorem aja (l:LI) (v:Int) (p:l.length<=ay):Sp yx.P (l,v) (λ r=>r=true ↔ v∈l):=by
 have:=aX4 (L:=λ _=>yx.L1) l.length (λ i=>(v,l,(l.length:Int),(i:Int))) (λ i=> ∀h:i<l.length,l[i]≠v) (λ _=>Sum.inr true) (Sum.inl ()) ?_ ?_
 ·obtain⟨t,f,g⟩:=this.ev;rcases f with⟨rfl,f⟩|⟨i,d,e,rfl⟩
  ·refine⟨false,⟨λ h=>(by cases h),λ h=> ?_⟩,g.mono λ n e=>congrArg (Option.bind · _) e⟩;obtain⟨j,m,rfl⟩:=aaz h;exact absurd rfl (f j m m)
  ·refine⟨true,⟨λ _=> ?_,λ _=>rfl⟩,g.mono λ n e=>congrArg (Option.bind · _) e⟩;have:l[i]=v:=aaP λ h=>e λ _=>h;exact this▸aaf d
 ·intro i d;by_cases h:l[i]=v
  ·exact .inr ⟨λ q=>q d h,.all λ n k=>by simp only[decide_true,cond_true,aan,yx.L1,jO d,gQ d,h]⟩
  ·exact .inl ⟨λ _=>h,.all λ n k=>by simp only[decide_true,decide_false,cond_true,cond_false,aan,yx.L1,jO d,gQ d,h,wrap_succ d p]⟩
 ·exact .all λ n k=>by simp only[decide_false,cond_false,aan,GR,yx.L1]
theorem ZR (l:LI) (v:Int) (hl:l.length+1<=ay):Sp kH.P (l,v) (λ r=>(∀y,y∈r ↔ y=v\/y∈l)/\r.length<=l.length+1/\((l.Pairwise λ a b=>a<b)->r.Pairwise λ a b=>a<b)):=by
 have R:Lp (λ _=>kH.L1) (l,v,(0:Int)) (λ t=> ∃i:Nat,i<=l.length/\t=(l,v,(i:Int))/\(∀j (h:j<l.length),j<i->l[j]<v)/\ ∀h:i<l.length,v<=l[i]):=by
  refine aX3 l.length (λ i s=>s=(l,v,(i:Int))/\ ∀j (h:j<l.length),j<i->l[j]<v) ?_ ?_ _ ⟨rfl,λ j _ h=>absurd h (Nat.not_lt_zero _)⟩
  ·rintro i s f ⟨rfl,g⟩;by_cases h:l[i]<v
   ·exact .inl ⟨_,⟨rfl,λ j A B=>(aa1 (abf B)).elim (g j A) λ e=>by subst e;exact h⟩,.all λ n k=>by simp only[decide_true,cond_true,aan,kH.L1,jO f,gQ f,h,wrap_succ f (m:=l.length) (by omega)]⟩
   ·exact .inr ⟨_,⟨i,by omega,rfl,g,λ _=>by omega⟩,.all λ n k=>by simp only[decide_true,decide_false,cond_true,cond_false,aan,kH.L1,jO f,gQ f,h]⟩
  ·rintro s ⟨rfl,g⟩;exact .inr ⟨_,⟨_,aav _,rfl,g,λ h=>absurd h (Nat.lt_irrefl _)⟩,.all λ n k=>by simp only[decide_false,cond_false,aan,GR,kH.L1]⟩
 obtain⟨t,⟨i,f,rfl,g,S⟩,C⟩:=R.ev;have D:((0:Int)<=(i:Int))=True:=eq_true (by omega);have E:((i:Int)<=(l.length:Int))=True:=eq_true (by omega);have L:min i l.length<=ay:=by omega
 have M:min i l.length+1<=ay:=by omega
 have N:min i l.length+1+(l.length-i)<=ay:=by omega
 have O: ∀y,y∈l.take i++v::l.drop i ↔ y=v\/y∈l:=by
  intro y;have:y∈l ↔ y∈l.take i\/y∈l.drop i:=by rw[←aap,abj]
  rw[this];simp only[aap,aaQ];constructor
  ·rintro(h|h|h)<;>simp[h]
  ·rintro(h|h|h)<;>simp[h]
 have p:(l.take i++v::l.drop i).length<=l.length+1:=by
  simp only[aaq,aaE,abe,abl];omega
 have q:(∀h:i<l.length,l[i]≠v)->(l.Pairwise λ a b=>a<b)->(l.take i++v::l.drop i).Pairwise λ a b=>a<b:=λ G I=>by
  have Q: ∀y∈l.drop i,v<y:=λ y U=>by
   obtain⟨k,W,rfl⟩:=aaz U;rw[abe]at W;rw[List.getElem_drop];have D:=S (by omega);have E:=G (by omega);rcases ab6 k with rfl|Y
   ·show v<l[i];omega
   ·have:=aaR.1 I i (i+k) (by omega) (by omega) (by omega);omega
  refine abZ.2 ⟨I.sublist (List.take_sublist _ _),ab5.2 ⟨Q,I.sublist (List.drop_sublist _ _)⟩,λ a Z b K=> ?_⟩;obtain⟨j,A,rfl⟩:=aaz Z;rw[aaE]at A;rw[abV];have:=g j (by omega) (by omega);rcases aaQ.1 K with rfl|K
  ·exact this
  ·have:=Q b K;omega
 by_cases d:i<l.length
 ·by_cases hv:l[i]=v
  ·refine⟨l,⟨λ y=>⟨.inr,?_⟩,by omega,id⟩,C.mono λ n u=>by simp only[decide_true,cond_true,aan,kH.P,u,jO d,gQ d,hv]⟩;rintro(rfl|h)
   ·exact hv▸aaf d
   ·exact h
  ·refine⟨_,⟨O,p,q λ _=>hv⟩,C.mono λ n u=> ?_⟩;simp only[decide_true,decide_false,cond_true,cond_false,aan,acr,acO,kH.P,u,jO d,gQ d,hv,D,E];simp[aal,aaJ];simp only[decide_true,cond_true,L,M,N]
 ·have z:((i:Int)<(l.length:Int))=False:=eq_false (by omega);refine⟨_,⟨O,p,q λ h=>absurd h d⟩,C.mono λ n u=> ?_⟩;simp only[decide_true,decide_false,cond_false,aan,acr,acO,kH.P,u,z,D,E];simp[aal,aaJ];simp only[decide_true,cond_true,L,M,N]
theorem agH {F:Nat->Ah->Option Bool} (hF: ∀l v,l.length<=ay->Sp F (l,v) (λ r=>r=true ↔ v∈l)) (d g:LI) (A:d.length<=ay) (B:g.length<=ay):
 Sp (λ n=>rQ.P (F n) n) (d,g) (λ r=>r=true ↔ ∃q,q∈d/\q∈g):=by
 have:=aX4 (L:=λ n=>rQ.L1 (F n)) d.length (λ i=>(g,d,(d.length:Int),(i:Int))) (λ i=> ∀h:i<d.length,¬d[i]∈g) (λ _=>Sum.inr true) (Sum.inl ()) ?_ ?_
 ·obtain⟨t,p,m⟩:=this.ev;rcases p with⟨rfl,p⟩|⟨i,f,e,rfl⟩
  ·refine⟨false,⟨λ h=>(by cases h),λ h=> ?_⟩,m.mono λ n e=>congrArg (Option.bind · _) e⟩;obtain⟨q,C,u⟩:=h;obtain⟨j,y,rfl⟩:=aaz C;exact absurd u (p j y y)
  ·refine⟨true,⟨λ _=> ?_,λ _=>rfl⟩,m.mono λ n e=>congrArg (Option.bind · _) e⟩;exact⟨d[i],aaf f,aaP λ h=>e λ _=>h⟩
 ·intro i f;obtain⟨r,z,m⟩:=hF g d[i] B;cases r
  ·exact .inl ⟨λ _ h=>(by have:=z.mpr h;cases this),m.mono λ n e k=>by simp only[decide_true,cond_true,cond_false,aan,rQ.L1,jO f,gQ f,e,wrap_succ f A]⟩
  ·exact .inr ⟨λ D=>D f (z.mp rfl),m.mono λ n e k=>by simp only[decide_true,cond_true,aan,rQ.L1,jO f,gQ f,e]⟩
 ·exact .all λ n k=>by simp only[decide_false,cond_false,aan,GR,rQ.L1]
theorem agB {F:Nat->LI->Option LI} (hF: ∀l:LI,l.length<=ay->Sp F l (λ r=>r=l)) (S:Int) (fin:LI) (rs:LR) (p:fin.length<=ay) (q:rs.length<=ay) (u: ∀r∈rs,r.2.1.length<=ay):
 Sp (λ n=>sD.P (F n) n) (S,fin,rs) (λ r=>r=(S,fin,rs)):=by
 have v:Lp (λ n=>sD.L1 (F n)) ((0:Int),([]:LI),([]:LR),S,fin,([]:LR),rs,(rs.length:Int),(0:Int)) (λ t=>t=((0:Int),([]:LI),([]:LR),S,fin,rs)):=by
  refine aX3 rs.length (λ i s=>s=((0:Int),([]:LI),([]:LR),S,fin,rs.take i,rs,(rs.length:Int),(i:Int))) ?_ ?_ _ rfl
  ·rintro i s d rfl;obtain⟨r,rfl,g⟩:=hF rs[i].2.1 (u _ (aaf d));refine .inl ⟨_,rfl,g.mono λ n f k=> ?_⟩;have e:(rs.take i).length+1<=ay:=by rw[aaE];omega
   simp only[decide_true,cond_true,aan,sD.L1,jO d,gQ d,f,len1,e,wrap_succ d q];rw[←Uh d]
  ·rintro s rfl;exact .inr ⟨_,rfl,.all λ n k=>by simp only[decide_false,cond_false,GR,sD.L1,aat]⟩
 obtain⟨r,rfl,g⟩:=hF fin p;obtain⟨t,rfl,m⟩:=v.ev;exact⟨_,rfl,(g.and m).mono λ n f=>by simp only[aan,sD.P,f.1,f.2]⟩
theorem aeB (S:Int) (fin:LI) (rs:LR) (z:0<=S) (G:S<=300) (A:fin.length<=ay) (B: ∀q∈fin,bC S q):
 Sp oq.P (S,fin,rs) (λ r=>r.length=S.toNat/\ ∀q:Int,bC S q->q<(r.length:Int)/\at? r q.toNat=some (decide (q∈fin))):=by
 have C:Lp (λ _=>oq.L1) (List.replicate S.toNat false,fin,(fin.length:Int),(0:Int)) (λ r=>r.length=S.toNat/\ ∀q:Nat,q<S.toNat->r[q]? =some (decide ((q:Int)∈fin))):=by
  refine aX3 fin.length (λ i s=> ∃r:List Bool,s=(r,fin,(fin.length:Int),(i:Int))/\r.length=S.toNat/\ ∀q:Nat,q<S.toNat->r[q]? =some (decide ((q:Int)∈fin.take i))) ?_ ?_ _ ⟨_,rfl,abB,λ q d=>by simp[d]⟩
  ·rintro i s f ⟨r,rfl,l,m⟩;have hs:=B _ (aaf f);have p:((0:Int)<=fin[i])=True:=eq_true hs.1;have t:(fin[i]<(r.length:Int))=True:=eq_true (by have:=hs.2;have:=hs.1;omega);have u:at? r fin[i].toNat=some (r[fin[i].toNat]'(by have:=hs.2;have:=hs.1;omega)):=aac _;refine .inl ⟨_,⟨r.set fin[i].toNat true,rfl,by rw[aa5];exact l,λ q d=> ?_⟩,.all λ n k=> ?_⟩
   ·rw[aaU]
    have e:(q:Int)∈fin.take (i+1) ↔ (q:Int)∈fin.take i\/(q:Int)=fin[i]:=by
     rw[show fin.take (i+1)=fin.take i++[fin[i]]from(Uh f).symm];simp only[aap,aah]
    by_cases g:fin[i].toNat=q
    ·have:(q:Int)=fin[i]:=by have:=hs.1;omega
     rw[if_pos g,if_pos (by omega)];exact congrArg some (decide_eq_true (e.mpr (.inr this))).symm
    ·have: ¬(q:Int)=fin[i]:=by omega
     rw[if_neg g,m q d];congr 1;exact decide_eq_decide.mpr ⟨λ h=>e.mpr (.inl h),λ h=>(e.mp h).resolve_right this⟩
   ·simp only[decide_true,cond_true,aan,acr,oq.L1,jO f,gQ f,p,t,u,wrap_succ f A]
  ·rintro s ⟨r,rfl,l,m⟩;exact .inr ⟨r,⟨l,λ q d=>by rw[m q d,aat]⟩,.all λ n k=>by simp only[decide_false,cond_false,GR,oq.L1]⟩
 obtain⟨r,⟨v,y⟩,D⟩:=C.ev;have p:((0:Int)<=S)=True:=eq_true z;have t:(S<=S)=True:=eq_true (acW _);have u:(S<=(ay:Int))=True:=eq_true (by have:=fH;omega);refine⟨r,⟨v,λ q d=>⟨by have:=d.1;have:=d.2;omega,?_⟩⟩,D.mono λ n E=>by simp only[decide_true,cond_true,aan,acr,oq.P,p,t,u,E]⟩;have:=y q.toNat (by have:=d.1;have:=d.2;omega);rw[abI d.1]at this;exact this
inductive Shp (al:LI):RT Int->Prop
 |mk (a:Int) (ks:List (RT Int)) (h0:0<=a) (h:al[a.toNat]? =some (ks.length:Int)) (hk: ∀k,k∈ks->Shp al k):Shp al (.mk a ks)
theorem Shp.ar {al:LI} {a:Int} {d:List (RT Int)} (h:Shp al (.mk a d)):al[a.toNat]? =some (d.length:Int):=by cases h;assumption
theorem Shp.kid {al:LI} {a:Int} {d:List (RT Int)} (h:Shp al (.mk a d)): ∀k,k∈d->Shp al k:=by cases h;assumption
inductive Reach (rs:LR):RT Int->Int->Prop
 |mk (r:Rule) (a:Int) (ks:List (RT Int)) (hr:r∈rs) (ha:r.1=a) (hl:r.2.1.length=ks.length)
  (hk: ∀(i:Nat) (k:RT Int) (f:Int),ks[i]? =some k->r.2.1[i]? =some f->Reach rs k f):Reach rs (.mk a ks) r.2.2
theorem bY {rs:LR} {a:Int} {d:List (RT Int)} {q:Int}:Reach rs (.mk a d) q ↔ ∃r∈rs,r.1=a/\r.2.2=q/\r.2.1.length=d.length/\ ∀(i:Nat) (k:RT Int) (f:Int),d[i]? =some k->r.2.1[i]? =some f->Reach rs k f:=by
 constructor
 ·intro h
  cases h with
  |mk r _ _ e g l m=>exact⟨r,e,g,rfl,l,m⟩
 ·rintro⟨r,e,g,rfl,l,m⟩;exact .mk r a d e g l m
inductive Sub:RT Int->RT Int->Prop
 |refl (t):Sub t t
 |kid (u k:RT Int) (a:Int) (ks:List (RT Int)) (hk:k∈ks) (h:Sub u k):Sub u (.mk a ks)
theorem Shp.sub {al:LI} {u t:RT Int} (h:Sub u t) (hs:Shp al t):Shp al u:=by
 induction h with
 |refl=>exact hs
 |kid k a f d h e=>exact e (hs.kid k d)
def Ar (al:LI) (rs:LR):Prop:= ∀r∈rs,0<=r.1/\al[r.1.toNat]? =some (r.2.1.length:Int)
def Fit (s:Int) (d:LL) (r:Rule):Prop:=r.1=s/\r.2.1.length=d.length/\ ∀(i:Nat) (l:LI) (f:Int),d[i]? =some l->r.2.1[i]? =some f->f∈l
theorem agL {F:Nat->Ah->Option Bool} {G:Nat->Ah->Option LI}
 (hF: ∀l v,l.length<=ay->Sp F (l,v) (λ r=>r=true ↔ v∈l))
 (Z: ∀(l:LI) v,l.length+1<=ay->Sp G (l,v) (λ r=>(∀y,y∈r ↔ y=v\/y∈l)/\r.length<=l.length+1/\((l.Pairwise λ a b=>a<b)->r.Pairwise λ a b=>a<b)))
 (S:Int) (fin:LI) (rs:LR) (s:Int) (p:LL) (h1:rs.length+1<=ay) (h2:p.length<=ay) (h3: ∀l∈p,l.length<=ay)
 (R: ∀r∈rs,r.1=s->r.2.1.length=p.length):
 Sp (λ n=>jV.P (F n) (G n) n) (S,fin,rs,s,p) (λ l=>(∀q,q∈l ↔ ∃r∈rs,Fit s p r/\r.2.2=q)/\l.length<=rs.length/\l.Pairwise λ a b=>a<b):=by
 have I: ∀(d:LI) (i:Nat) (r:Rule),r∈rs->Lp (λ n=>jV.L1 (F n)) (s,p,d,r.1,r.2.1,r.2.2,decide (r.1=s),(0:Int),rs,(rs.length:Int),(i:Int))
  (λ t=> ∃b:Bool,t=(s,p,d,r.1,r.2.1,r.2.2,b,rs,(rs.length:Int),(i:Int))/\(b=true ↔ Fit s p r)):=by
  intro d i r g;refine aX3 p.length (λ j x=> ∃b:Bool,x=(s,p,d,r.1,r.2.1,r.2.2,b,(j:Int),rs,(rs.length:Int),(i:Int))/\(b=true ↔ r.1=s/\ ∀(i:Nat) (l:LI) (f:Int),i<j->p[i]? =some l->r.2.1[i]? =some f->f∈l)) ?_ ?_ _ ⟨_,rfl,?_⟩
  ·rintro j x O ⟨b,rfl,K⟩;cases b
   ·refine .inr ⟨_,⟨false,rfl,⟨λ h=>(by cases h),λ h=> ?_⟩⟩,.all λ n k=>by simp only[cond_false,aan,jV.L1]⟩;exact K.mpr ⟨h.1,λ i l f _ B C=>h.2.2 i l f B C⟩
   ·have L:=K.mp rfl;have B:=R r g L.1;have M:j<r.2.1.length:=by omega
    obtain⟨v,hv,Q⟩:=hF p[j] r.2.1[j] (h3 _ (aaf O));refine .inl ⟨_,⟨v,rfl,hv.trans ⟨λ h=>⟨L.1,λ i l f u B C=> ?_⟩,λ h=>h.2 j _ _ (by omega) (aac O) (aac M)⟩⟩,Q.mono λ n D k=>by simp only[decide_true,cond_true,aan,jV.L1,jO O,gQ O,gQ M,D,wrap_succ O h2]⟩;rcases aa1 (abf u)with u|rfl
    ·exact L.2 i l f u B C
    ·rw[aac O]at B;rw[aac M]at C;cases B;cases C;exact h
  ·rintro x ⟨b,rfl,K⟩;refine .inr ⟨_,⟨b,rfl,K.trans ⟨λ h=>⟨h.1,R r g h.1,λ i l f B C=>h.2 i l f ?_ B C⟩,λ h=>⟨h.1,λ i l f _ B C=>h.2.2 i l f B C⟩⟩⟩,.all λ n k=>by cases b<;>simp only[decide_false,cond_true,cond_false,aan,GR,jV.L1]⟩;exact(aad.mp B).1
  ·rw[decide_eq_true_iff];exact⟨λ h=>⟨h,λ i l f u=>absurd u (by omega)⟩,λ h=>h.1⟩
 have N:Lp (λ n=>jV.L2 (F n) n (G n)) (s,p,([]:LI),rs,(rs.length:Int),(0:Int)) (λ l=>(∀q,q∈l ↔ ∃r∈rs,Fit s p r/\r.2.2=q)/\l.length<=rs.length/\l.Pairwise λ a b=>a<b):=by
  refine aX3 rs.length (λ i x=> ∃d:LI,x=(s,p,d,rs,(rs.length:Int),(i:Int))/\(∀q,q∈d ↔ ∃r∈rs.take i,Fit s p r/\r.2.2=q)/\d.length<=i/\d.Pairwise λ a b=>a<b) ?_ ?_ _ ⟨[],rfl,λ q=>by simp,aav _,List.Pairwise.nil⟩
  ·rintro i x u ⟨d,rfl,z,E,A⟩;obtain⟨t,⟨b,rfl,K⟩,Q⟩:=(I d i rs[i] (aaf u)).ev;have e:rs.take (i+1)=rs.take i++[rs[i]]:=(Uh u).symm;cases b
   ·refine .inl ⟨_,⟨d,rfl,λ q=>(z q).trans ?_,by omega,A⟩,Q.mono λ n D k=>by simp only[decide_true,cond_true,cond_false,aan,jV.L2,jO u,gQ u,D,wrap_succ u (m:=rs.length) (by omega)]⟩;rw[e];constructor
    ·rintro⟨r,g,h⟩;exact⟨r,aaG _ g,h⟩
    ·rintro⟨r,g,h⟩;rcases aap.mp g with g|g
     ·exact⟨r,g,h⟩
     ·obtain rfl:=aah.mp g;exact absurd (K.mpr h.1) (by simp)
   ·obtain⟨U,⟨hm,a3,W⟩,Y⟩:=Z d rs[i].2.2 (by omega);refine .inl ⟨_,⟨U,rfl,λ q=>(hm q).trans ?_,by omega,W A⟩,(Q.and Y).mono λ n D k=>by simp only[decide_true,cond_true,aan,jV.L2,jO u,gQ u,D.1,D.2,wrap_succ u (m:=rs.length) (by omega)]⟩;rw[e,z];constructor
    ·rintro(rfl|⟨r,g,h⟩)
     ·exact⟨rs[i],aa6 _ (aah.mpr rfl),K.mp rfl,rfl⟩
     ·exact⟨r,aaG _ g,h⟩
    ·rintro⟨r,g,h⟩;rcases aap.mp g with g|g
     ·exact .inr ⟨r,g,h⟩
     ·obtain rfl:=aah.mp g;exact .inl h.2.symm
  ·rintro x ⟨d,rfl,z,E,A⟩;exact .inr ⟨_,⟨λ q=>by rw[z,aat],E,A⟩,.all λ n k=>by simp only[decide_false,cond_false,GR,jV.L2]⟩
 obtain⟨t,ht,Q⟩:=N.ev;exact⟨t,ht,Q.mono λ n D=>by simp only[jV.P,D,aan]⟩
def Acc (rs:LR) (fin:LI) (t:RT Int):Prop:= ∃q,Reach rs t q/\q∈fin
theorem cu.rule {al:LI} {a:Aut} (h:cu al a) {r:Rule} (e:r∈a.2.2):Gi al a.1 r:=by
 obtain⟨i,d,rfl⟩:=aaz e;exact h.2.2.2.2.2 i d d
theorem cu.final {al:LI} {a:Aut} (h:cu al a) {q:Int} (e:q∈a.2.1):bC a.1 q:=by
 obtain⟨i,d,rfl⟩:=aaz e;exact(h.2.2.2.2.1 i d d).1
section
variable {al:LI} {S:Int}
theorem Gi.from {r:Rule} (h:Gi al S r) {i:Nat} {f:Int} (e:r.2.1[i]? =some f):bC S f:=by
 obtain⟨d,rfl⟩:=aad.mp e;exact h.2.2.2.2 i d d
theorem Gi.ar {r:Rule} (h:Gi al S r):0<=r.1/\al[r.1.toNat]? =some (r.2.1.length:Int):=by
 refine⟨h.1,?_⟩;have:r.1.toNat<al.length:=by have:=h.1;have:=h.2.1;omega
 rw[aac this,h.2.2.1 this]
theorem cu.ar {a:Aut} (h:cu al a):Ar al a.2.2:=λ r d=>(h.rule d).ar
end
def rows {α:Type} (L:List α):List (Option α):=L.map some
theorem uT {α:Type} (L:List α):(rows L).length=L.length:=aaH ..
theorem Hl {α:Type} (L:List α) (i:Nat) (y:α):List.set (List.set (rows L) i none) i (some y)=rows (L.set i y):=by
 rw[List.set_set];exact(List.map_set ..).symm
theorem JY {α:Type} (n:Nat) (y:α):List.replicate n (some y)=rows (List.replicate n y):=(List.map_replicate ..).symm
theorem Hg {α:Type}: ∀L:List α,oN (rows L)=some L
 | []=>rfl
 |x::L=>by show(oN (rows L)).map (x:: ·)=_;rw[Hg L];rfl
theorem agp {α:Type} {L:List α} {i:Nat} (h:i<L.length):rowAt? (rows L) i=some L[i]:=by
 unfold rowAt? rows;rw[aas,aac h];rfl
theorem Bd.row {α σ τ:Type} {I:σ->Prop} {Q:τ->Prop} {L:List α} {i:Nat} {G:Nat->(σ->Option τ)->α->Option τ} (h:i<L.length) (d:Bd (λ n k=>G n k L[i]) I Q):Bd (λ n k=>(rowAt? (rows L) i).bind (G n k)) I Q:=by
 rw[agp h];exact d
theorem LD {S:Int} {l:LI} (d:l.Nodup) (h: ∀q∈l,bC S q):l.length<=S.toNat:=by
 have:=d.length_le_of_subset (l₂:=(List.range S.toNat).map λ i:Nat=>(i:Int)) λ q e=>by
  obtain⟨f,g⟩:=h q e;exact aaB.2 ⟨q.toNat,ab2.2 (by omega),by omega⟩
 simpa using this
theorem sW {α β:Type} [DecidableEq α] {q:α->α->Bool} (d: ∀a b,q a b=true ↔ a=b) (x y:α) (v:β): ∀l:List (α×β),oU q x (Ie q y v l)=if x=y then some v else oU q x l
 | []=>by
   simp only[Ie,oU,cond_eq_ite];by_cases h:x=y
   ·rw[if_pos ((d x y).2 h),if_pos h]
   ·rw[if_neg λ e=>h ((d x y).1 e),if_neg h]
 |p::l=>by
  simp only[Ie,cond_eq_ite];split
  ·rename_i f;have f:=(d y p.1).1 f;simp only[oU,cond_eq_ite];by_cases h:x=y
   ·rw[if_pos ((d x y).2 h),if_pos h]
   ·rw[if_neg λ e=>h ((d x y).1 e),if_neg h,if_neg λ e=>h (((d x p.1).1 e).trans f.symm)]
  ·rename_i f;simp only[oU,cond_eq_ite,sW d x y v l];split
   ·rename_i g;have g:=(d x p.1).1 g;rw[if_neg λ e:x=y=>f ((d y p.1).2 (e.symm.trans g))]
   ·rfl
theorem afM (a b:Int):ieq a b=true ↔ a=b:=decide_eq_true_iff
theorem Ed (a b:ByteArray):seq a b=true ↔ a=b:=decide_eq_true_iff
theorem adB (a b:Bool):ahs a b=true ↔ a=b:=by cases a<;>cases b<;>simp[ahs]
def QOk (l:LI) (m:Option (List Ad)):Prop:=l.Nodup/\ ∀x,Option.getD (oU ieq x (ng m)) false=true ↔ x∈l
theorem Zy:QOk [] none:=⟨List.nodup_nil,λ x=>by simp[ng,oU]⟩
theorem ail (l:LI) (m:Option (List Ad)) (x:Int) (h:QOk l m) (t:l.length<=1000000):
 Sp lJ.P (l,m,x) (λ r=>QOk r.1 r.2/\((x∈l/\r.1=l)\/(x∉l/\r.1=l++[x]))):=by
 show Tt (λ n=>lJ.P n (l,m,x)) _
 have key: ∀m:Option (List Ad),QOk l m->m.isNone=false->Tt (λ _:Nat=>(bif !(Option.getD (oU ieq x (ng m)) false)then
  (m.bind λ i=>bif decide (List.length l+List.length ([x]:LI)<=ay)then some (List.append l ([x]:LI),some (Ie ieq x true i))else none)
  else some (l,m)).bind λ g=>some (g.1,g.2)) (λ r=>QOk r.1 r.2/\((x∈l/\r.1=l)\/(x∉l/\r.1=l++[x]))):=by
  intro m h k;refine aX2 (λ d=> ?_) (λ d=> ?_)
  ·have f:x∉l:=λ f=>by rw[(h.2 x).2 f]at d;cases d
   cases m with
   |none=>cases k
   |some m=>
    refine aW3 (jS (by simp;omega)) (aZ0 ⟨⟨acD.2 ⟨h.1,by simp,λ a p b q e=>f (by rw[←aah.1 q,←e];exact p)⟩,λ y=> ?_⟩,.inr ⟨f,rfl⟩⟩);show Option.getD (oU ieq y (Ie ieq x true m)) false=true ↔ y∈l++[x];rw[sW afM,aap,aah];by_cases e:y=x
    ·rw[if_pos e];simp[e]
    ·rw[if_neg e];simp only[e,or_false];exact h.2 y
  ·have f:x∈l:=(h.2 x).1 (by simpa using d);exact aZ0 ⟨h,.inl ⟨f,rfl⟩⟩
 unfold lJ.P;dsimp only;refine aX2 (λ d=> ?_) (λ d=> ?_)
 ·exact key (some []) ⟨h.1,λ y=>by have:=h.2 y;cases m with|none=>exact this|some _=>cases d⟩ rfl
 ·exact key m h d
def Wf (S:Int) (fin:LI) (rs:LR):Prop:=
 0<=S/\S<=1000/\fin.length<=1000/\rs.length<=100000/\(∀q∈fin,bC S q)/\ ∀r∈rs,bC S r.2.2/\(∀q∈r.2.1,bC S q)/\r.2.1.length<=3
theorem cu.wf {al:LI} {a:Aut} (h:cu al a):Wf a.1 a.2.1 a.2.2:=by
 refine⟨h.2.1,by have:=h.2.2.1;omega,?_,by have:=h.2.2.2.1;omega,λ q k=>h.final k,λ r u=> ?_⟩
 ·have v: ∀(j i:Nat) (f:i<a.2.1.length) (g:j<a.2.1.length),i<j->a.2.1[i]<a.2.1[j]:=by
   intro j
   induction j with
   |zero=>intro i f g d;omega
   |succ j y=>
    intro i f g d;have p:=(h.2.2.2.2.1 (j+1) g g).2 (by omega);simp only[Nat.add_sub_cancel]at p;rcases aa1 (abf d)with z|rfl
    ·have:=y i f (by omega) z;omega
    ·exact p
  have m:a.2.1.Nodup:=by
   rw[List.nodup_iff_pairwise_ne,aaR];intro i j f g d e;have:=v j i f g d;omega
  have:=LD m λ q k=>h.final k;have:=h.2.2.1;have:=h.2.1;omega
 ·have l:=h.rule u;refine⟨l.2.2.2.1,λ q k=> ?_,?_⟩
  ·obtain⟨i,f,rfl⟩:=aaz k;exact l.2.2.2.2 i f f
  ·have t:r.1.toNat<al.length:=by have:=l.1;have:=l.2.1;omega
   have:=l.2.2.1 t;have:=(h.1.2 _ t).2;omega
def aio (al:LI) (rs:LR) (d:LL):Prop:=
 d.length=al.length/\ ∀(s:Nat) (l:LI),d[s]? =some l->l.length<=rs.length/\ ∀v,v∈l ↔ ∃(i:Nat) (r:Rule),v=(i:Int)/\rs[i]? =some r/\r.1=(s:Int)
theorem ai9 (al:LI) (S:Int) (fin:LI) (rs:LR) (A:al.length<=1000) (B:rs.length<=100000) (hs: ∀r∈rs,0<=r.1/\r.1<(al.length:Int)):
 Sp zx.P (al,S,fin,rs) (aio al rs):=by
 show Tt (λ n=>zx.P n (al,S,fin,rs)) _;unfold zx.P;dsimp only;refine aX0 (tY (by omega) (by omega)) ?_
 refine aZ1 (R:=λ x=> ∃L,x=rows L/\aio al rs L) (aZ8 (aZ6 rs.length (λ i s=> ∃L:LL,L.length=al.length/\
  (∀(s:Nat) (l:LI),L[s]? =some l->l.length<=i/\ ∀v,v∈l ↔ ∃(j:Nat) (r:Rule),j<i/\v=(j:Int)/\rs[j]? =some r/\r.1=(s:Int))/\s=(rows L,rs,(rs.length:Int),(i:Int))) ?_ ?_ ?_)) ?_
 ·rintro i s q ⟨L,g,k,rfl⟩;unfold zx.L1;dsimp only;obtain⟨q0,q1⟩:=hs rs[i] (aaf q);have t:rs[i].1.toNat<L.length:=by omega
  have C:=k _ _ (aac t);refine aY1 (by omega) (aY q (aZ9 (rng q0 (by rw[uT];omega)) (Bd.row t (Bd.row t (aZ9 (jS (by simp;omega)) (aZ9 (rng q0 (by rw[aa5,uT];omega)) (aZ2 ?_)))))));rw[Hl];refine⟨L.set rs[i].1.toNat (List.append L[rs[i].1.toNat] [(i:Int)]),by simpa using g,λ s l f=> ?_,by rw[ak (by omega)]⟩;rw[aaU]at f
  have step: ∀(v:Int) (Z:Prop),(Z ↔ ∃(j:Nat) (r:Rule),j<i/\v=(j:Int)/\rs[j]? =some r/\r.1=(s:Int))->((Z\/(v=(i:Int)/\rs[i].1=(s:Int))) ↔ ∃(j:Nat) (r:Rule),j<i+1/\v=(j:Int)/\rs[j]? =some r/\r.1=(s:Int)):=by
   intro v Z D;rw[D];constructor
   ·rintro(⟨j,r,m,d,p,u⟩|⟨m,d⟩)
    ·exact⟨j,r,by omega,d,p,u⟩
    ·exact⟨i,rs[i],by omega,m,aac q,d⟩
   ·rintro⟨j,r,m,d,p,u⟩;rcases aa1 (abf m)with E|rfl
    ·exact .inl ⟨j,r,E,d,p,u⟩
    ·rw[aac q]at p;cases p;exact .inr ⟨d,u⟩
  split at f
  ·rename_i e;cases f;refine⟨by simp;omega,λ v=> ?_⟩;rw[←step v _ ((k s _ (by rw[←e];exact aac t)).2 v)];simp only[abC,aap,aah];have:rs[i].1=(s:Int):=by omega
   simp[this]
  ·rename_i e;obtain⟨z,y⟩:=k s l f;refine⟨by omega,λ v=> ?_⟩;rw[←step v _ (y v)];have:rs[i].1≠(s:Int):=by omega
   simp[this]
 ·rintro s ⟨L,g,k,rfl⟩;unfold zx.L1;dsimp only;refine aY3 (by omega) (aZ4 ⟨L,rfl,g,λ s l f=> ?_⟩);obtain⟨z,y⟩:=k s l f;refine⟨z,λ v=>(y v).trans ⟨λ⟨j,r,m,d⟩=>⟨j,r,d⟩,λ⟨j,r,d⟩=>⟨j,r,?_,d⟩⟩⟩;rcases aaF j rs.length with h|h
  ·exact h
  ·rw[aai h]at d;cases d.2.1
 ·refine⟨List.replicate al.length [],by simp,λ s l f=> ?_,by rw[JY];rfl⟩;rw[abp]at f;split at f
  ·cases f;exact⟨by simp,λ v=>⟨λ h=>by simp at h,λ⟨j,r,h,_⟩=>absurd h (by omega)⟩⟩
  ·cases f
 ·rintro x ⟨L,rfl,g⟩;rw[Hg];exact aZ0 g
def nf (l:List Bool):Nat:=l.count false
theorem GV {l:List Bool} {i:Nat} (h:l[i]? =some false):nf (l.set i true)<nf l:=by
 unfold nf
 have d:i<l.length:=by
  rcases aaF i l.length with e|e
  ·exact e
  ·simp[aai e]at h
 rw[aac d]at h;have h:=aak h;rw[List.count_set d,h];have:0<l.count false:=List.count_pos_iff.2 (h▸aaf d);simp;omega
def cnt (U:LL) (s:Nat) (v:Int):Nat:=(U[s]?.getD []).count v
theorem afB {U:LL} {s0:Nat} (h:s0<U.length) (i:Int) (s:Nat) (v:Int):cnt (U.set s0 (List.append U[s0] [i])) s v=cnt U s v+if s=s0/\v=i then 1 else 0:=by
 unfold cnt;rw[aaU];by_cases e:s0=s
 ·subst e;rw[if_pos rfl,if_pos h,aac h];simp only[aby,abC,List.count_append,List.count_singleton,true_and,beq_iff_eq];congr 1;by_cases e:v=i
  ·simp[e]
  ·rw[if_neg e,if_neg (λ x=>e x.symm)]
 ·rw[if_neg e,if_neg (λ x=>e x.1.symm)];rfl
theorem aer (S:Int) (fin fr:LI) (rs:LR) (out:List Bool) (left q:LI) (m:Option (List Ad)) (c:Int) (i:Int) (y d:Int) (f:LI) (g:LR) (k:Int) (U:LL) (b:Nat)
 (D:U.length=S.toNat) (E: ∀l∈U,l.length<=b) (G:b<=1000000) (I:fr.length<=3) (K: ∀s∈fr,bC S s):
 Lp (λ _=>dh.L1) (S,fin,rs,out,left,rows U,q,m,i,y,f,d,g,k,c,fr,(fr.length:Int),(0:Int))
  (λ t=> ∃V:LL,t=(S,fin,rs,out,left,rows V,q,m,i,y,f,d,g,k,c)/\V.length=S.toNat/\(∀l∈V,l.length<=b+3)/\ ∀s v,cnt V s v=cnt U s v+if v=i then fr.count (s:Int)else 0):=by
 refine aZ6 fr.length (λ j t=> ∃V:LL,t=(S,fin,rs,out,left,rows V,q,m,i,y,f,d,g,k,c,fr,(fr.length:Int),(j:Int))/\V.length=S.toNat/\(∀l∈V,l.length<=b+j)/\
  ∀s v,cnt V s v=cnt U s v+if v=i then(fr.take j).count (s:Int)else 0) ?_ ?_ ⟨U,rfl,D,by simpa using E,by simp⟩
 ·rintro j t z ⟨V,rfl,A,p,B⟩;unfold dh.L1;dsimp only;obtain⟨q0,q1⟩:=K fr[j] (aaf z);have u:fr[j].toNat<V.length:=by omega
  have L:=p _ (aaf u);refine aY1 (by omega) (aY z (aZ9 (rng q0 (by rw[uT];omega)) (Bd.row u (Bd.row u (aZ9 (jS (by simp;omega)) (aZ9 (rng q0 (by rw[aa5,uT];omega)) (aZ2 ?_)))))));rw[Hl];refine⟨_,by rw[ak (by omega)],by simpa using A,λ l h=> ?_,λ s v=> ?_⟩
  ·rcases abv h with h|rfl
   ·have:=p l h;omega
   ·simp;omega
  ·rw[afB u,B,aau,aac z];simp only[aaS,List.count_append,List.count_singleton,beq_iff_eq];by_cases e:v=i
   ·simp only[e,if_true,and_true];rw[abK];congr 2;by_cases C:s=fr[j].toNat
    ·rw[if_pos C,if_pos (by omega)]
    ·rw[if_neg C,if_neg (by omega)]
   ·simp[e]
 ·rintro t ⟨V,rfl,A,p,B⟩;unfold dh.L1;dsimp only;refine aY3 (by omega) (aZ4 ⟨V,rfl,A,λ l h=>by have:=p l h;omega,λ s v=> ?_⟩);rw[B,aat]
def X3 (S:Int) (rs:LR) (i:Nat) (U:LL):Prop:=
 U.length=S.toNat/\(∀l∈U,l.length<=3*i)/\ ∀s,(∀(j:Nat) (r:Rule),j<i->rs[j]? =some r->cnt U s (j:Int)=r.2.1.count (s:Int))/\ ∀v,(¬ ∃j:Nat,j<i/\v=(j:Int))->cnt U s v=0
abbrev adu (P:Nat->LI×Option (List (Int×Bool))×Int->Option (LI×Option (List (Int×Bool)))):Prop:=
 ∀l m x,QOk l m->l.length<=1000000->Sp P (l,m,x) (λ r=>QOk r.1 r.2/\((x∈l/\r.1=l)\/(x∉l/\r.1=l++[x])))
def Rch (rs:LR) (s:Int):Prop:= ∃t,Reach rs t s
theorem JX {rs:LR} {r:Rule} (m:r∈rs) (h: ∀s∈r.2.1,Rch rs s):Rch rs r.2.2:=by
 have e: ∀i:Nat,∃t:RT Int,∀f:Int,r.2.1[i]? =some f->Reach rs t f:=by
  intro i;rcases aaF i r.2.1.length with g|g
  ·obtain⟨t,p⟩:=h _ (aaf g);exact⟨t,λ f d=>by rw[aac g]at d;cases d;exact p⟩
  ·exact⟨.mk 0 [],λ f d=>absurd (aad.1 d).1 (by omega)⟩
 refine⟨.mk r.1 ((List.range r.2.1.length).map λ i=>(e i).choose),bY.2 ⟨r,m,rfl,rfl,by simp,λ i k f l d=> ?_⟩⟩;have g:=(aad.1 d).1;rw[aas,ach g]at l;cases l;exact(e i).choose_spec f d
def QSt (W:Int->Prop) (S:Int) (q:LI) (m:Option (List Ad)):Prop:=QOk q m/\ ∀x∈q,bC S x/\W x
theorem QSt.len {W:Int->Prop} {S:Int} {q:LI} {m:Option (List Ad)} (h:QSt W S q m) (e:S<=1000):q.length<=1000:=by
 have:=LD h.1.1 λ x d=>(h.2 x d).1;omega
theorem QSt.put {W:Int->Prop} {S:Int} {q:LI} {m:Option (List Ad)} {P:Nat->LI×Option (List Ad)×Int->Option (LI×Option (List Ad))} (i:adu P) (h:QSt W S q m) (k:S<=1000) {x:Int} (l:bC S x) (p:W x):
 Sp P (q,m,x) (λ r=>QSt W S r.1 r.2/\x∈r.1/\ ∃z,r.1=q++z):=by
 refine(i q m x h.1 (by have:=h.len k;omega)).mono λ r f=> ?_;rcases f.2 with⟨g,d⟩|⟨g,d⟩
 ·exact⟨⟨f.1,by rw[d];exact h.2⟩,by rw[d];exact g,[],by rw[d];simp⟩
 ·refine⟨⟨f.1,λ y e=> ?_⟩,by rw[d];simp,[x],d⟩;rw[d,aap]at e;rcases e with e|e
  ·exact h.2 y e
  ·rw[aah.1 e];exact⟨l,p⟩
theorem KA {T:LI} {e:Int} (f:e∉T) (l:LI):l.countP (λ s=>decide (s∉T++[e]))+l.count e=l.countP (λ s=>decide (s∉T)):=by
 induction l with
 |nil=>rfl
 |cons a l i=>
  rw[List.countP_cons,List.countP_cons,List.count_cons];by_cases h:a=e
  ·subst h;have d:decide (a∉T++[a])=false:=by simp
   have g:decide (a∉T)=true:=by simp[f]
   rw[d,g];simp only[beq_self_eq_true,if_true,abb,if_false];omega
  ·have d:decide (a∉T++[e])=decide (a∉T):=by simp[h]
   rw[d];simp only[beq_iff_eq,h,if_false];omega
theorem TR {P:Nat->LI×Option (List Ad)×Int->Option (LI×Option (List Ad))} (hP:adu P) (S:Int) (fin:LI) (rs:LR) (h:Wf S fin rs):
 Sp (λ n=>dh.P (P n) n) (S,fin,rs) (λ R=>R.length=S.toNat/\(∀r∈rs,(∀s∈r.2.1,R[s.toNat]? =some true)->R[r.2.2.toNat]? =some true)/\ ∀s,bC S s->R[s.toNat]? =some true->Rch rs s):=by
 obtain⟨Z,hS,f3,f4,e9,hr⟩:=h;show Tt (λ n=>dh.P (P n) n (S,fin,rs)) _;unfold dh.P;dsimp only;refine aX0 (tY Z (by omega)) (aX0 (tY (by omega) (by omega)) (aX0 (tY Z (by omega)) ?_))
 refine aZ1 (R:=λ t=> ∃(left:LI) (U:LL) (q:LI) (m:Option (List Ad)),t=(S,fin,rs,List.replicate S.toNat false,left,rows U,q,m)/\left.length=rs.length/\(∀(j:Nat) (r:Rule),rs[j]? =some r->left[j]? =some (r.2.1.length:Int))/\
  X3 S rs rs.length U/\QSt (Rch rs) S q m/\ ∀(j:Nat) (r:Rule),rs[j]? =some r->r.2.1= []->r.2.2∈q)
  (aZ8 (aZ6 rs.length (λ i t=> ∃(left:LI) (U:LL) (q:LI) (m:Option (List Ad)),t=(S,fin,rs,List.replicate S.toNat false,left,rows U,q,m,rs,(rs.length:Int),(i:Int))/\left.length=rs.length/\
   (∀(j:Nat) (r:Rule),j<i->rs[j]? =some r->left[j]? =some (r.2.1.length:Int))/\X3 S rs i U/\QSt (Rch rs) S q m/\ ∀(j:Nat) (r:Rule),j<i->rs[j]? =some r->r.2.1= []->r.2.2∈q) ?_ ?_ ?_)) ?_
 ·rintro i t hi ⟨left,U,q,m,rfl,hl,O,⟨b5,a7,G⟩,I,K⟩;unfold dh.L2;dsimp only;obtain⟨d6,d7,b6⟩:=hr rs[i] (aaf hi);refine aY1 (by omega) (aY hi (aZ9 (rng (by omega) (by omega)) ?_));rw[aal];refine aY6 (by omega) λ _ _ _=> ?_;refine aZ5 (aZ8 (aer S fin rs[i].2.1 rs _ _ _ _ _ _ _ _ _ _ _ U (3*i) b5 a7 (by omega) b6 d7)) ?_;rintro _ ⟨V,rfl,hV,d8,b7⟩;dsimp only;refine aZ9 (rng (by omega) (by rw[aa5];omega)) ?_;rw[aal];refine aY6 (by rw[aa5];omega) λ e _ he=> ?_;rw[aaU,if_pos rfl,if_pos (by omega)]at he;cases he
  have b8:X3 S rs (i+1) V:=by
   refine⟨hV,λ l h=>by have:=d8 l h;omega,λ s=>⟨λ j r g d=> ?_,λ v hv=> ?_⟩⟩
   ·rw[b7];rcases aa1 (abf g)with h|rfl
    ·rw[(G s).1 j r h d,if_neg (by omega)];rfl
    ·rw[aac hi]at d;cases d;rw[(G s).2 _ (by rintro⟨k,hk,e⟩;omega),if_pos rfl,aa0]
   ·rw[b7,(G s).2 v (by rintro⟨k,hk,e⟩;exact hv ⟨k,by omega,e⟩),if_neg (by rintro rfl;exact hv ⟨i,by omega,rfl⟩)]
  have u: ∀(j:Nat) (r:Rule),j<i+1->rs[j]? =some r->(left.set i ((rs[i].2.1.length:Nat):Int))[j]? =some (r.2.1.length:Int):=by
   intro j r g d;rw[aaU];split
   ·rename_i e;subst e;rw[aac hi]at d;cases d;rw[if_pos (by omega)]
   ·exact O j r (by omega) d
  refine aY2 (λ Q=> ?_) (λ Q=> ?_)
  ·refine aY5 (aZ5 (I.put hP hS d6 (JX (aaf hi) λ s hs=>by have e:rs[i].2.1= []:=aax (by have:=iy (show decide (((rs[i].2.1.length:Nat):Int)=0)=true from Q);omega);rw[e]at hs;cases hs)) ?_);rintro⟨B,L⟩ ⟨g1,g2,z,g3⟩;dsimp only at g1 g2 g3;refine aZ3 (aZ2 ⟨_,V,B,L,by rw[ak (by omega)],by rw[aa5];exact hl,u,b8,g1,λ j r g d hn=> ?_⟩);rcases aa1 (abf g)with h|rfl
   ·rw[g3];exact aaG _ (K j r h d hn)
   ·rw[aac hi]at d;cases d;exact g2
  ·refine aZ3 (aZ2 ⟨_,V,q,m,by rw[ak (by omega)],by rw[aa5];exact hl,u,b8,I,λ j r g d hn=> ?_⟩);rcases aa1 (abf g)with h|rfl
   ·exact K j r h d hn
   ·rw[aac hi]at d;cases d;have:=dec_not Q;rw[hn]at this;exact absurd rfl this
 ·rintro t ⟨left,U,q,m,rfl,hl,O,hu,I,K⟩;unfold dh.L2;dsimp only;have lt: ∀(j:Nat) (r:Rule),rs[j]? =some r->j<rs.length:=λ j r e=>(aad.1 e).1;exact aY3 (by omega) (aZ4 ⟨left,U,q,m,rfl,hl,λ j r e=>O j r (lt j r e) e,hu,I,λ j r e=>K j r (lt j r e) e⟩)
 ·refine⟨List.replicate rs.length 0,List.replicate S.toNat [],[],none,by rw[JY];rfl,by simp,λ j r g=>absurd g (by omega),⟨by simp,λ l hl=> ?_,λ s=>⟨λ j r g=>absurd g (by omega),λ v _=> ?_⟩⟩,⟨Zy,by simp⟩,λ j r g=>absurd g (by omega)⟩
  ·rw[(acL.1 hl).2];simp
  ·unfold cnt;rw[abp];split<;>rfl
 rintro _ ⟨left,U,q,m,rfl,hl,O,⟨b5,a7,G⟩,I,K⟩;dsimp only;rw[Hg];refine aY8 ?_
 refine aZ1 (R:=λ R:List Bool=>R.length=S.toNat/\(∀r∈rs,(∀s∈r.2.1,R[s.toNat]? =some true)->R[r.2.2.toNat]? =some true)/\ ∀s,bC S s->R[s.toNat]? =some true->Rch rs s)
  (aZ8 (aX1 (λ t=> ∃(out:List Bool) (left q:LI) (m:Option (List Ad)) (k:Nat),t=(S,fin,rs,out,left,U,q,m,(k:Int))/\out.length=S.toNat/\left.length=rs.length/\QSt (Rch rs) S q m/\k<=q.length/\
   (∀s:Int,bC S s->(out[s.toNat]? =some true ↔ s∈q.take k))/\ ∀(j:Nat) (r:Rule),rs[j]? =some r->left[j]? =some (r.2.1.countP (λ s=>decide (s∉q.take k)):Int)/\(r.2.1.countP (λ s=>decide (s∉q.take k))=0->r.2.2∈q)) (λ t=>nf t.2.2.2.1) ?_ ?_)) λ R hR=>aZ0 hR
 ·rintro _ ⟨out,left,q,m,k,rfl,ho,hl,I,hk,A,u⟩;unfold dh.L4;dsimp only;by_cases a8:k<q.length
  ·refine aY1 (by omega) (aZ9 (rng (by omega) (by omega)) ?_);rw[aal];refine aY6 a8 λ e c0 he=> ?_;obtain⟨⟨e0,e1⟩,_⟩:=I.2 e c0;refine aZ9 (rng e0 (by omega)) (aY6 (by omega) λ _ _ _=>aZ9 (rng (by omega) (by omega)) ?_);refine aY6 a8 λ e' _ c1=> ?_;rw[he]at c1;cases c1;refine aZ9 (rng e0 (by omega)) (aY6 (by omega) λ row c2 a9=> ?_);have e2:q.take (k+1)=q.take k++[e]:=by rw[aau,he];rfl
   have b0:e∉q.take k:=by
    intro hm;have c3:=I.1.1;rw[←abj k q,acD]at c3;exact c3.2.2 e hm e (by rw[aaI a8,(aad.1 he).2];exact abG ..) rfl
   have a4:out[e.toNat]? =some false:=by
    have c4:e.toNat<out.length:=by omega
    rw[aac c4];cases hb:out[e.toNat]with
    |false=>rfl
    |true=>exact absurd ((A e ⟨e0,e1⟩).1 (by rw[aac c4,hb])) b0
   have c5: ∀v:Int,row.count v=cnt U e.toNat v:=λ v=>by unfold cnt;rw[a9];rfl
   have e4:row.length<=3*rs.length:=a7 row c2
   have e5: ∀v∈row,∃(j:Nat) (r:Rule),v=(j:Int)/\rs[j]? =some r:=by
    intro v hv;by_cases hx: ∃j:Nat,j<rs.length/\v=(j:Int)
    ·obtain⟨j,g,e⟩:=hx;exact⟨j,rs[j],e,aac g⟩
    ·have:=(G e.toNat).2 v hx;rw[←c5]at this;have:=List.count_pos_iff.2 hv;omega
   have c6: ∀(j:Nat) (r:Rule),rs[j]? =some r->row.count (j:Int)=r.2.1.count e:=by
    intro j r g;rw[c5,(G e.toNat).1 j r (aad.1 g).1 g];congr 1;omega
   refine aZ5 (R:=λ t=> ∃(f B:LI) (L:Option (List Ad)) (z:LI),t=(S,fin,rs,List.set out e.toNat true,f,U,B,L,(k:Int))/\f.length=rs.length/\QSt (Rch rs) S B L/\B=q++z/\
    ∀(j:Nat) (r:Rule),rs[j]? =some r->f[j]? =some ((r.2.1.countP (λ s=>decide (s∉q.take k)):Int)-(row.count (j:Int):Int))/\((r.2.1.countP (λ s=>decide (s∉q.take k)):Int)-(row.count (j:Int):Int)=0->r.2.2∈B))
    (aZ8 (aZ6 row.length (λ p t=> ∃(f B:LI) (L:Option (List Ad)) (z:LI),t=(S,fin,rs,List.set out e.toNat true,f,U,B,L,(k:Int),row,(row.length:Int),(p:Int))/\f.length=rs.length/\QSt (Rch rs) S B L/\B=q++z/\
     ∀(j:Nat) (r:Rule),rs[j]? =some r->f[j]? =some ((r.2.1.countP (λ s=>decide (s∉q.take k)):Int)-(((row.take p).count (j:Int):Nat):Int))/\((r.2.1.countP (λ s=>decide (s∉q.take k)):Int)-(((row.take p).count (j:Int):Nat):Int)=0->r.2.2∈B)) ?_ ?_ ?_)) ?_
   ·rintro p t hp ⟨f,B,L,z,rfl,M,N,Q,C⟩;unfold dh.L3;dsimp only;obtain⟨i,r,hi,y⟩:=e5 row[p] (aaf hp);have c7:i<rs.length:=(aad.1 y).1;obtain⟨a1,a2⟩:=C i r y;have W:=hr r (aaj y);have g0:r.2.1.countP (λ s=>decide (s∉q.take k))<=3:=aaX acu W.2.2
    have g5:(row.take p).count (i:Int)<=300000:=by
     have:=List.count_le_length (a:=(i:Int)) (l:=row.take p);have:=List.length_take_le p row;have:=List.length_take_le' p row;omega
    have Y: ∀v:Int,(row.take (p+1)).count v=(row.take p).count v+if v=(i:Int)then 1 else 0:=by
     intro v;rw[aau,aac hp,hi];simp only[aaS,List.count_append,List.count_singleton,beq_iff_eq];congr 1;by_cases e:v=(i:Int)
     ·simp[e]
     ·rw[if_neg e,if_neg (λ x=>e x.symm)]
    refine aY1 (by omega) (aY hp ?_);rw[hi];refine aZ9 (rng (by omega) (by omega)) ?_;rw[aal];refine aY6 (by omega) λ v1 _ c9=> ?_;rw[a1]at c9;cases c9;refine aZ9 (rng (by omega) (by omega)) (aY6 (by omega) λ v2 _ d0=> ?_);rw[a1]at d0;cases d0;rw[kS _ (by omega) (by omega)];refine aZ9 (rng (by omega) (by rw[aa5];omega)) (aY6 (by rw[aa5];omega) λ v3 _ d1=> ?_);rw[aaU,if_pos rfl,if_pos (by omega)]at d1;cases d1
    have a5: ∀(j:Nat) (D:Rule),rs[j]? =some D->(List.set f i ((r.2.1.countP (λ s=>decide (s∉q.take k)):Int)-(((row.take p).count (i:Int):Nat):Int)-1))[j]? =some ((D.2.1.countP (λ s=>decide (s∉q.take k)):Int)-(((row.take (p+1)).count (j:Int):Nat):Int)):=by
     intro j D d;rw[aaU];by_cases e:i=j
     ·subst e;rw[y]at d;cases d;rw[if_pos rfl,if_pos (by omega),Y,if_pos rfl];congr 1;omega
     ·rw[if_neg e,(C j D d).1,Y,if_neg (by omega)];rfl
    have a6: ∀(j:Nat) (D:Rule),rs[j]? =some D->j≠i->(D.2.1.countP (λ s=>decide (s∉q.take k)):Int)-(((row.take (p+1)).count (j:Int):Nat):Int)=0->D.2.2∈B:=by
     intro j D d g6 Z;rw[Y,if_neg (by omega)]at Z;exact(C j D d).2 Z
    refine aY2 (λ b2=> ?_) (λ b2=> ?_)
    ·refine aY5 ?_;rw[gQ c7];have er:rs[i]=r:=by rw[aac c7]at y;exact aak y
     refine aZ3 ?_;rw[er]
     have E: ∀s∈r.2.1,s∈q:=by
      intro s hs;apply aaP;intro hn;have h1:=KA b0 r.2.1
      have h2:0<r.2.1.countP (λ s=>decide (s∉q.take k++[e])):=List.countP_pos_iff.2 ⟨s,hs,decide_eq_true λ h=>hn (by
       rcases aap.1 h with h|h
       ·exact abq h
       ·rw[aah.1 h];exact c0)⟩
      have h3:=c6 i r y;have h4:=Y (i:Int);rw[if_pos rfl]at h4;have h5:(row.take (p+1)).count (i:Int)<=row.count (i:Int):=(List.take_sublist _ _).count_le _;have h6:=iy b2;omega
     refine aY5 (aZ5 (N.put hP hS W.1 (JX (aaj y) λ s hs=>(I.2 s (E s hs)).2)) ?_);rintro⟨q2,m2⟩ ⟨g1,g2,z2,g3⟩;dsimp only at g1 g2 g3;refine aZ3 (aZ2 ⟨_,q2,m2,z++z2,by rw[ak (by omega)],by rw[aa5];exact M,g1,by rw[g3,Q];simp,λ j D d=>⟨a5 j D d,λ Z=> ?_⟩⟩);by_cases e:j=i
     ·subst e;rw[y]at d;cases d;exact g2
     ·rw[g3];exact aaG _ (a6 j D d e Z)
    ·refine aZ3 (aZ2 ⟨_,B,L,z,by rw[ak (by omega)],by rw[aa5];exact M,N,Q,λ j D d=>⟨a5 j D d,λ Z=> ?_⟩⟩);by_cases e:j=i
     ·subst e;rw[y]at d;cases d;rw[Y,if_pos rfl]at Z;exact absurd (by omega) (dec_not b2)
     ·exact a6 j D d e Z
   ·rintro t ⟨f,B,L,z,rfl,M,N,Q,C⟩;unfold dh.L3;dsimp only;rw[aat]at C;exact aY3 (by omega) (aZ4 ⟨f,B,L,z,rfl,M,N,Q,C⟩)
   ·refine⟨left,q,m,[],rfl,hl,I,by simp,λ j r g=> ?_⟩;obtain⟨a1,a2⟩:=u j r g;simp only[acz,List.count_nil,Int.natCast_zero,Int.sub_zero];exact⟨a1,λ h=>a2 (by omega)⟩
   ·rintro _ ⟨f,B,L,z,rfl,M,N,Q,C⟩;have d2:B.take (k+1)=q.take k++[e]:=by rw[Q,abE (by omega),e2]
    refine aZ2 ⟨⟨_,f,B,L,k+1,by rw[ak (by have:=I.len hS;omega)],by rw[aa5];exact ho,M,N,by rw[Q,aaq];omega,λ s hs=> ?_,λ j r g=> ?_⟩,GV a4⟩
    ·rw[d2,aaU,aap,aah];by_cases es:e.toNat=s.toNat
     ·rw[if_pos es,if_pos (by omega)];have:s=e:=by have:=hs.1;omega
      simp[this]
     ·rw[if_neg es,A s hs];have:s≠e:=λ x=>es (by rw[x]);simp[this]
    ·have h8:=KA b0 r.2.1;rw[d2];obtain⟨a1,a2⟩:=C j r g;rw[c6 j r g]at a1 a2;exact⟨by rw[a1];congr 1;omega,λ h=>a2 (by omega)⟩
  ·refine aY3 (by omega) (aZ4 ?_);have e7:k=q.length:=by omega
   subst e7;rw[aat]at A u;refine⟨ho,λ r d3 E=> ?_,λ s hs hb=>(I.2 s ((A s hs).1 hb)).2⟩;obtain⟨j,g,rfl⟩:=aaz d3;have W:=hr _ d3;refine(A _ W.1).2 ((u j _ (aac g)).2 ?_);rw[List.countP_eq_zero];intro s hs;simpa using(A s (W.2.1 s hs)).1 (E s hs)
 ·refine⟨List.replicate S.toNat false,left,q,m,0,rfl,by simp,hl,I,abH _,λ s hs=> ?_,λ j r g=> ?_⟩
  ·rw[abp];split<;>simp
  ·have e: ∀l:LI,l.countP (λ s=>decide (s∉q.take 0))=l.length:=λ l=>by
    rw[List.countP_eq_length];simp
   rw[e];exact⟨O j r g,λ h=>K j r g (aax h)⟩
def ais (f:Int×List Bool->Option Bool) (d:LI×List Bool×Int×Int) (e:LI×List Bool×Int×Int->Option (Sum Unit Int)):Option (Sum Unit Int):=
 bif decide (d.2.2.2<d.2.2.1)then
  (nth? d.1 d.2.2.2).bind λ g=>(f (g,d.2.1)).bind λ i=>
   bif i then(some d.2.2.2).bind λ r=>some (Sum.inr r)else e (d.1,d.2.1,d.2.2.1,IntKind.wrap .i64 (d.2.2.2+(1:Int)))
 else some (Sum.inl ())
theorem Z4 {F:Nat->Int×List Bool->Option Bool} {l:LI} {R:List Bool} {test:Int->Bool} (hF: ∀s∈l,Sp F (s,R) (λ r=>r=test s)) (k:l.length<=1000000):
 Tt (λ n=>(bK (ais (F n)) n (l,R,(l.length:Int),(0:Int))).bind λ q=>match q with|Sum.inl m=>some (-1:Int)|Sum.inr r=>some r) (λ r=>decide (0<=r)=l.any test):=by
 refine aZ1 (R:=λ t=>(t= .inl ()/\l.any test=false)\/ ∃i:Int,t= .inr i/\0<=i/\l.any test=true)
  (aZ8 (aZ6 (L:=λ n=>ais (F n)) l.length (λ i s=>s=(l,R,(l.length:Int),(i:Int))/\(l.take i).any test=false) ?_ ?_ ⟨rfl,rfl⟩)) ?_
 ·rintro i s d ⟨rfl,e⟩;unfold ais;dsimp only;refine aY1 (by omega) (aY d (aZ5 (hF l[i] (aaf d)) ?_));rintro _ rfl;refine aY9 (λ f=>aZ4 (.inr ⟨_,rfl,by omega,ab8.2 ⟨_,aaf d,f⟩⟩)) (λ f=>aZ2 ⟨by rw[ak (by omega)],?_⟩);rw[aau,aac d,List.any_append,e];simpa using f
 ·rintro s ⟨rfl,e⟩;unfold ais;dsimp only;rw[aat]at e;exact aY3 (by omega) (aZ4 (.inl ⟨rfl,e⟩))
 ·rintro _ (⟨rfl,h⟩|⟨i,rfl,g,h⟩)
  ·exact aZ0 (by rw[h];rfl)
  ·exact aZ0 (by rw[h];exact fE g)
def bat (R:List Bool) (s:Int):Bool:=R[s.toNat]?.getD false
theorem Dp {R:List Bool} {s:Int}:bat R s=true ↔ R[s.toNat]? =some true:=by
 unfold bat
 cases h:R[s.toNat]? with
 |none=>simp
 |some b=>simp
theorem LJ {R:List Bool} {s S:Int} (e:R.length=S.toNat) (h:bC S s):nth? R s=some (bat R s):=by
 have d:s.toNat<R.length:=by have:=h.1;have:=h.2;omega
 rw[FV h.1 (by have:=h.1;have:=h.2;omega)];unfold bat;rw[aac d];rfl
abbrev XT (C:Nat->LI×List Bool->Option Bool) (d:Bool->Bool):Prop:=
 ∀(S:Int) (l:LI) (R:List Bool),R.length=S.toNat->(∀s∈l,bC S s)->l.length<=1000000->Sp C (l,R) (λ r=>r=l.any λ s=>d (bat R s))
theorem Ym {F:Nat->Int×List Bool->Option Bool} {G:Nat->LI×List Bool->Option Int} (hF: ∀n x,F (n+1) x=wC.P n x) (d: ∀n x,G (n+1) x=dH.P (F n) n x):
 XT (λ n=>fU.P (G n) n) (!·):=λ S l R e hs f=>by
 refine aZ1 (A:=λ n=>G n (l,R)) (aZ7 d (Z4 (F:=F) (test:=λ s=> !bat R s) (λ s h=>aZ7 hF ⟨_,rfl,.all λ n=> ?_⟩) f)) λ r g=>aZ0 g;unfold wC.P;dsimp only;rw[LJ e (hs s h)];rfl
theorem afy {F:Nat->Int×List Bool->Option Bool} {G:Nat->LI×List Bool->Option Int} (hF: ∀n x,F (n+1) x=zy.P n x) (d: ∀n x,G (n+1) x=dI.P (F n) n x):
 XT (λ n=>gI.P (G n) n) (!·):=λ S l R e hs f=>by
 refine aZ1 (A:=λ n=>G n (l,R)) (aZ7 d (Z4 (F:=F) (test:=λ s=> !bat R s) (λ s h=>aZ7 hF ⟨_,rfl,.all λ n=> ?_⟩) f)) λ r g=>aZ0 g;unfold zy.P;dsimp only;rw[LJ e (hs s h)];rfl
theorem Yl {F:Nat->Int×List Bool->Option Bool} {G:Nat->LI×List Bool->Option Int} (hF: ∀n x,F (n+1) x=uO.P n x) (d: ∀n x,G (n+1) x=dD.P (F n) n x):
 XT (λ n=>fP.P (G n) n) id:=λ S l R e hs f=>by
 refine aZ1 (A:=λ n=>G n (l,R)) (aZ7 d (Z4 (F:=F) (test:=λ s=>bat R s) (λ s h=>aZ7 hF ⟨_,rfl,.all λ n=> ?_⟩) f)) λ r g=>aZ0 g;unfold uO.P;dsimp only;rw[LJ e (hs s h)];rfl
theorem XT.all {l:LI} {R:List Bool} (h:l.any (λ s=> !bat R s)=false): ∀s∈l,bat R s=true:=by
 intro s hs;have:=List.any_eq_false.1 h s hs;simpa using this
def ajv (S:Int) (rs:LR) (R:List Bool) (i:Nat) (T:LL):Prop:=
 T.length=S.toNat/\(∀l∈T,l.length<=i/\ ∀v∈l,∃j:Nat,j<i/\v=(j:Int))/\(∀(k:Nat) (l:LI),T[k]? =some l-> ∀(j:Nat) (r:Rule),(j:Int)∈l->rs[j]? =some r->r.2.2.toNat=k/\ ∀s∈r.2.1,bat R s=true)/\ ∀(j:Nat) (r:Rule),j<i->rs[j]? =some r->(∀s∈r.2.1,bat R s=true)-> ∃l,T[r.2.2.toNat]? =some l/\(j:Int)∈l
inductive Up (rs:LR) (fin:LI):Int->Prop
 |fin {s:Int} (h:s∈fin) (hr:Rch rs s):Up rs fin s
 |rule {r:Rule} {s:Int} (hr:r∈rs) (h:Up rs fin r.2.2) (hk: ∀x∈r.2.1,Rch rs x) (hs:s∈r.2.1):Up rs fin s
theorem Up.rch {rs:LR} {fin:LI} {s:Int} (h:Up rs fin s):Rch rs s:=by
 cases h with
 |fin h d=>exact d
 |rule d h e hs=>exact e s hs
def Useful (fin:LI) (rs:LR) (R U:List Bool):Prop:=(∀s∈fin,bat R s=true->bat U s=true)/\ ∀r∈rs,bat U r.2.2=true->(∀s∈r.2.1,bat R s=true)-> ∀s∈r.2.1,bat U s=true
def Closed (rs:LR) (R:List Bool):Prop:= ∀r∈rs,(∀s∈r.2.1,bat R s=true)->bat R r.2.2=true
theorem Z7 {P:Nat->LI×Option (List Ad)×Int->Option (LI×Option (List Ad))} {F:Nat->Ab->Option (List Bool)} {C:Nat->LI×List Bool->Option Bool}
 (hP:adu P) (hC:XT C (!·)) (S:Int) (fin:LI) (rs:LR) (h:Wf S fin rs) (hF:Sp F (S,fin,rs) (λ R=>R.length=S.toNat/\Closed rs R/\ ∀s,bC S s->bat R s=true->Rch rs s)):
 Sp (λ n=>dL.P (P n) (F n) (C n) n) (S,fin,rs) (λ U=>U.length=S.toNat/\(∀s,bC S s->bat U s=true->Up rs fin s)/\ ∃R,Closed rs R/\Useful fin rs R U):=by
 obtain⟨h0,hS,g0,g5,a9,hr⟩:=h;show Tt (λ n=>dL.P (P n) (F n) (C n) n (S,fin,rs)) _;unfold dL.P;dsimp only;refine aZ1 hF λ R hR=> ?_;obtain⟨hR,d6,b0⟩:=hR;refine aX0 (tY h0 (by omega)) ?_
 refine aZ1 (R:=λ t=> ∃T:LL,t=(S,fin,rs,R,rows T)/\ajv S rs R rs.length T)
  (aZ8 (aZ6 rs.length (λ i t=> ∃T:LL,t=(S,fin,rs,R,rows T,rs,(rs.length:Int),(i:Int))/\ajv S rs R i T) ?_ ?_ ?_)) ?_
 ·rintro i t E ⟨T,rfl,hT,G,Q,a2⟩;unfold dL.L1;dsimp only;obtain⟨u,a3,c1⟩:=hr rs[i] (aaf E);refine aY1 (by omega) (aY E (aZ5 (hC S rs[i].2.1 R hR a3 (by omega)) ?_));intro b D;refine aY2 (λ hc=> ?_) (λ hc=> ?_)
  ·have A:rs[i].2.2.toNat<T.length:=by have:=u.1;have:=u.2;omega
   obtain⟨g6,d7⟩:=G _ (aaf A);refine aY0 (rng u.1 (by rw[uT];have:=u.2;omega)) (aY5 (Bd.row A (aY5 (Bd.row A (aY0 (jS (by simp;omega)) (aY0 (rng u.1 (by rw[aa5,uT];have:=u.2;omega)) (aZ3 (aZ2 ?_))))))));rw[Hl];refine⟨_,by rw[ak (by omega)],by simpa using hT,λ l hl=> ?_,λ k l Z j r hv d=> ?_,λ j r B d hf=> ?_⟩
   ·rcases abv hl with h|rfl
    ·exact⟨by have:=(G l h).1;omega,λ v hv=>by obtain⟨j,B,e⟩:=(G l h).2 v hv;exact⟨j,by omega,e⟩⟩
    ·refine⟨by simp;omega,λ v hv=> ?_⟩;simp only[abC,aap,aah]at hv;rcases hv with hv|hv
     ·obtain⟨j,B,e⟩:=d7 v hv;exact⟨j,by omega,e⟩
     ·exact⟨i,by omega,hv⟩
   ·rw[aaU]at Z;split at Z
    ·rename_i e;cases Z;simp only[abC,aap,aah]at hv;rcases hv with hv|hv
     ·subst e;exact Q _ _ (aac A) j r hv d
     ·have:j=i:=by omega
      subst this;rw[aac E]at d;cases d;refine⟨e,XT.all ?_⟩;rw[←D];simpa using hc
    ·exact Q k l Z j r hv d
   ·rw[aaU];rcases aa1 (abf B)with h|rfl
    ·obtain⟨l,e1,e2⟩:=a2 j r h d hf;split
     ·rename_i e;rw[e]at A;rw[aac A]at e1;cases e1;exact⟨_,rfl,by simp only[abC,aap];left;simpa [e]using e2⟩
     ·exact⟨l,e1,e2⟩
    ·rw[aac E]at d;cases d;rw[if_pos rfl,if_pos A];exact⟨_,rfl,by simp⟩
  ·refine aZ3 (aZ2 ⟨T,by rw[ak (by omega)],hT,λ l hl=>⟨by have:=(G l hl).1;omega,λ v hv=>by obtain⟨j,B,e⟩:=(G l hl).2 v hv;exact⟨j,by omega,e⟩⟩,Q,λ j r B d hf=> ?_⟩);rcases aa1 (abf B)with h|rfl
   ·exact a2 j r h d hf
   ·rw[aac E]at d;cases d;have D:b=true:=by simpa using hc
    subst D;obtain⟨s,hs,hn⟩:=ab8.1 (Eq.symm ‹true=_›);rw[hf s hs]at hn;cases hn
 ·rintro t ⟨T,rfl,hT⟩;unfold dL.L1;dsimp only;exact aY3 (by omega) (aZ4 ⟨T,rfl,hT⟩)
 ·refine⟨List.replicate S.toNat [],by rw[JY];rfl,by simp,λ l hl=> ?_,λ k l Z j r hv d=> ?_,λ j r B=>absurd B (by omega)⟩
  ·rw[(acL.1 hl).2];exact⟨by simp,λ v hv=>by simp at hv⟩
  ·rw[abp]at Z;split at Z
   ·cases Z;cases hv
   ·cases Z
 rintro _ ⟨T,rfl,hT,G,Q,a2⟩;dsimp only;refine aX0 (tY h0 (by omega)) ?_
 refine aZ1 (R:=λ t=> ∃(q:LI) (m:Option (List Ad)),t=(S,fin,rs,rows T,List.replicate S.toNat false,q,m)/\QSt (Up rs fin) S q m/\ ∀s∈fin,bat R s=true->s∈q)
  (aZ8 (aZ6 fin.length (λ i t=> ∃(q:LI) (m:Option (List Ad)),t=(S,fin,rs,R,rows T,List.replicate S.toNat false,q,m,fin,(fin.length:Int),(i:Int))/\QSt (Up rs fin) S q m/\ ∀s∈fin.take i,bat R s=true->s∈q) ?_ ?_ ⟨[],none,rfl,⟨Zy,by simp⟩,by simp⟩)) ?_
 ·rintro i t E ⟨q,m,rfl,A,y⟩;unfold dL.L2;dsimp only;have hs:=a9 fin[i] (aaf E)
  have a4: ∀f:LI,(∀s∈fin.take i,bat R s=true->s∈f)->(bat R fin[i]=true->fin[i]∈f)-> ∀s∈fin.take (i+1),bat R s=true->s∈f:=by
   intro f h1 h2 s hs D;rw[aau,aac E,aap]at hs;rcases hs with hs|hs
   ·exact h1 s hs D
   ·simp only[aaS,aah]at hs;subst hs;exact h2 D
  refine aY1 (by omega) (aY E (aZ9 (rng hs.1 (by have:=hs.1;have:=hs.2;omega)) ?_));refine aY6 (by have:=hs.1;have:=hs.2;omega) λ b _ D=> ?_;have b1:bat R fin[i]=b:=by unfold bat;rw[D];rfl
  refine aY2 (λ hc=> ?_) (λ hc=> ?_)
  ·refine aY5 (aZ5 (A.put hP hS hs (.fin (aaf E) (b0 _ hs (b1.trans hc)))) ?_);rintro⟨f,M⟩ ⟨g1,g2,z,g3⟩;dsimp only at g1 g2 g3;exact aZ3 (aZ2 ⟨f,M,by rw[ak (by omega)],g1,a4 f (λ s h1 h2=>by rw[g3];exact aaG _ (y s h1 h2)) λ _=>g2⟩)
  ·exact aZ3 (aZ2 ⟨q,m,by rw[ak (by omega)],A,a4 q y λ h=>by rw[b1,hc]at h;cases h⟩)
 ·rintro t ⟨q,m,rfl,A,y⟩;unfold dL.L2;dsimp only;rw[aat]at y;exact aY3 (by omega) (aZ4 ⟨q,m,rfl,A,y⟩)
 rintro _ ⟨q,m,rfl,A,y⟩;dsimp only;rw[Hg];refine aY8 ?_
 refine aZ1 (R:=λ U:List Bool=>U.length=S.toNat/\(∀s,bC S s->bat U s=true->Up rs fin s)/\Useful fin rs R U)
  (aZ8 (aX1 (λ t=> ∃(out:List Bool) (q:LI) (m:Option (List Ad)) (k:Nat),t=(S,fin,rs,T,out,q,m,(k:Int))/\out.length=S.toNat/\QSt (Up rs fin) S q m/\k<=q.length/\
   (∀s:Int,bC S s->(out[s.toNat]? =some true ↔ s∈q.take k))/\(∀s∈fin,bat R s=true->s∈q)/\ ∀e∈q.take k,∀row,T[e.toNat]? =some row-> ∀(j:Nat) (r:Rule),(j:Int)∈row->rs[j]? =some r-> ∀s∈r.2.1,s∈q) (λ t=>nf t.2.2.2.2.1) ?_ ?_)) λ U hU=>aZ0 ⟨hU.1,hU.2.1,R,d6,hU.2.2⟩
 ·rintro _ ⟨out,q,m,k,rfl,ho,A,Z,g,y,b5⟩;unfold dL.L5;dsimp only;by_cases b6:k<q.length
  ·refine aY1 (by omega) (aZ9 (rng (by omega) (by omega)) ?_);rw[aal];refine aY6 b6 λ e d9 he=> ?_;obtain⟨⟨e0,e1⟩,e5⟩:=A.2 e d9;refine aZ9 (rng e0 (by omega)) (aY6 (by omega) λ _ _ _=>aZ9 (rng (by omega) (by omega)) ?_);refine aY6 b6 λ e' _ I=> ?_;rw[he]at I;cases I;refine aZ9 (rng e0 (by omega)) (aY6 (by omega) λ row c3 W=> ?_);have a4:q.take (k+1)=q.take k++[e]:=by rw[aau,he];rfl
   have e6:e∉q.take k:=by
    intro hm;have c4:=A.1.1;rw[←abj k q,acD]at c4;exact c4.2.2 e hm e (by rw[aaI b6,(aad.1 he).2];exact abG ..) rfl
   have a6:out[e.toNat]? =some false:=by
    have c5:e.toNat<out.length:=by omega
    rw[aac c5];cases D:out[e.toNat]with
    |false=>rfl
    |true=>exact absurd ((g e ⟨e0,e1⟩).1 (by rw[aac c5,D])) e6
   obtain⟨f5,e7⟩:=G row c3;have f6:row.length<=100000:=by omega
   refine aZ5 (R:=λ t=> ∃(f:LI) (M:Option (List Ad)) (z:LI),t=(S,fin,rs,T,List.set out e.toNat true,f,M,(k:Int))/\QSt (Up rs fin) S f M/\f=q++z/\ ∀v∈row,∀(j:Nat) (r:Rule),v=(j:Int)->rs[j]? =some r-> ∀s∈r.2.1,s∈f)
    (aZ8 (aZ6 row.length (λ p t=> ∃(f:LI) (M:Option (List Ad)) (z:LI),t=(S,fin,rs,T,List.set out e.toNat true,f,M,(k:Int),row,(row.length:Int),(p:Int))/\QSt (Up rs fin) S f M/\f=q++z/\ ∀v∈row.take p,∀(j:Nat) (r:Rule),v=(j:Int)->rs[j]? =some r-> ∀s∈r.2.1,s∈f) ?_ ?_ ⟨q,m,[],rfl,A,by simp,by simp⟩)) ?_
   ·rintro p t hp ⟨f,M,z,rfl,Y,hz,N⟩;unfold dL.L4;dsimp only;obtain⟨j,B,ej⟩:=e7 row[p] (aaf hp);refine aY1 (by omega) (aY hp ?_);rw[ej,gQ B];refine aZ3 ?_;obtain⟨u,a3,c1⟩:=hr rs[j] (aaf B);obtain⟨k1,k2⟩:=Q _ _ W j _ (by rw[←ej];exact aaf hp) (aac B)
    have c6:Up rs fin rs[j].2.2:=by
     have:rs[j].2.2=e:=by have:=u.1;omega
     rw[this];exact e5
    refine aZ5 (R:=λ t=> ∃(q2:LI) (m2:Option (List Ad)) (z2:LI),t=(S,fin,rs,T,List.set out e.toNat true,q2,m2,(k:Int),row,(row.length:Int),(p:Int))/\QSt (Up rs fin) S q2 m2/\q2=f++z2/\ ∀s∈rs[j].2.1,s∈q2)
     (aZ8 (L:=λ n=>dL.L3 (P n)) (aZ6 rs[j].2.1.length (λ i t=> ∃(q2:LI) (m2:Option (List Ad)) (z2:LI),t=(S,fin,rs,T,List.set out e.toNat true,q2,m2,(k:Int),row,(row.length:Int),(p:Int),rs[j].2.1,((rs[j].2.1.length:Nat):Int),(i:Int))/\QSt (Up rs fin) S q2 m2/\q2=f++z2/\ ∀s∈rs[j].2.1.take i,s∈q2) ?_ ?_ ⟨f,M,[],rfl,Y,by simp,by simp⟩)) ?_
    ·rintro i t E ⟨q2,m2,z2,rfl,h1,h2,h3⟩;unfold dL.L3;dsimp only;refine aY1 (by omega) (aY E (aZ5 (h1.put hP hS (a3 _ (aaf E)) (.rule (aaf B) c6 (λ x hx=>b0 x (a3 x hx) (k2 x hx)) (aaf E))) ?_));rintro⟨q3,m3⟩ ⟨g1,g2,z3,g3⟩;dsimp only at g1 g2 g3;refine aZ2 ⟨q3,m3,z2++z3,by rw[ak (by omega)],g1,by rw[g3,h2];simp,λ s hs=> ?_⟩;rw[aau,aac E,aap]at hs;rcases hs with hs|hs
     ·rw[g3];exact aaG _ (h3 s hs)
     ·simp only[aaS,aah]at hs;rw[hs];exact g2
    ·rintro t ⟨q2,m2,z2,rfl,h1,h2,h3⟩;unfold dL.L3;dsimp only;rw[aat]at h3;exact aY3 (by omega) (aZ4 ⟨q2,m2,z2,rfl,h1,h2,h3⟩)
    ·rintro _ ⟨q2,m2,z2,rfl,h1,h2,h3⟩;refine aZ2 ⟨q2,m2,z++z2,by rw[ak (by omega)],h1,by rw[h2,hz];simp,λ v hv j' r ev O s hs=> ?_⟩;rw[aau,aac hp,aap]at hv;rcases hv with hv|hv
     ·rw[h2];exact aaG _ (N v hv j' r ev O s hs)
     ·simp only[aaS,aah]at hv;have:j'=j:=by rw[hv,ej]at ev;omega
      subst this;rw[aac B]at O;cases O;exact h3 s hs
   ·rintro t ⟨f,M,z,rfl,Y,hz,N⟩;unfold dL.L4;dsimp only;rw[aat]at N;exact aY3 (by omega) (aZ4 ⟨f,M,z,rfl,Y,hz,N⟩)
   ·rintro _ ⟨f,M,z,rfl,Y,hz,N⟩;have h5:f.take k=q.take k:=by rw[hz,abE (by omega)]
    have c7:f.take (k+1)=q.take k++[e]:=by rw[hz,abE (by omega),a4]
    refine aZ2 ⟨⟨_,f,M,k+1,by rw[ak (by have:=A.len hS;omega)],by rw[aa5];exact ho,Y,by rw[hz,aaq];omega,λ s hs=> ?_,λ s hs D=>by rw[hz];exact aaG _ (y s hs D),λ e' I c8 K j r d b2 s hs=> ?_⟩,GV a6⟩
    ·rw[c7,aaU,aap,aah];by_cases es:e.toNat=s.toNat
     ·rw[if_pos es,if_pos (by omega)];have:s=e:=by have:=hs.1;omega
      simp[this]
     ·rw[if_neg es,g s hs];have:s≠e:=λ x=>es (by rw[x]);simp[this]
    ·rw[c7,aap,aah]at I;rcases I with I|rfl
     ·rw[hz];exact aaG _ (b5 e' I c8 K j r d b2 s hs)
     ·rw[W]at K;cases K;exact N _ d j r rfl b2 s hs
  ·have e9:k=q.length:=by omega
   subst e9;rw[aat]at g b5;refine aY3 (by omega) (aZ4 ⟨ho,λ s hs D=>(A.2 s ((g s hs).1 (Dp.1 D))).2,λ s hs D=>Dp.2 ((g s (a9 s hs)).2 (y s hs D)),λ r O u b7 s hs=> ?_⟩);obtain⟨j,B,rfl⟩:=aaz O;have c9:=hr _ O;obtain⟨row,e1,e2⟩:=a2 j _ B (aac B) b7;exact Dp.2 ((g s (c9.2.1 s hs)).2 (b5 _ ((g _ c9.1).1 (Dp.1 u)) row e1 j _ e2 (aac B) s hs))
 ·refine⟨List.replicate S.toNat false,q,m,0,rfl,by simp,A,abH _,λ s hs=> ?_,y,by simp⟩;rw[abp];split<;>simp
end Go.Bk
end
