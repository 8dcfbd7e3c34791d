import Derived.Test.YtdchbjmbgecejaaGreatDoorMa
import Derived.Test.YtdchbjmbgecejaaGreatDoorMk
import Derived.KernelRfl
set_option linter.unusedVariables false
noncomputable section
namespace Go.Bk
open Go Go.AM
def Ev (p:Nat->Prop):Prop:= ∃N,∀n,N<=n->p n
theorem Ev.all {p:Nat->Prop} (h: ∀n,p n):Ev p:=⟨0,λ n _=>h n⟩
theorem Ev.mono {p q:Nat->Prop} (h:Ev p) (hq: ∀n,p n->q n):Ev q:=h.elim λ N hN=>⟨N,λ n hn=>hq n (hN n hn)⟩
theorem Ev.and {p q:Nat->Prop} (h:Ev p) (h':Ev q):Ev λ n=>p n/\q n:=by
 obtain⟨N,hN⟩:=h;obtain⟨M,hM⟩:=h';exact⟨max N M,λ n hn=>⟨hN n (by omega),hM n (by omega)⟩⟩
theorem Ev.pred {p:Nat->Prop} (h:Ev λ n=>p (n+1)):Ev p:=by
 obtain⟨N,hN⟩:=h;refine⟨N+1,λ n hn=> ?_⟩;obtain⟨k,rfl⟩: ∃k,n=k+1:=⟨n-1,by omega⟩;exact hN k (by omega)
theorem Ev.succ {p:Nat->Prop} (h:Ev p):Ev λ n=>p (n+1):=h.elim λ N hN=>⟨N,λ n hn=>hN (n+1) (by omega)⟩
def Sp {α β:Type} (F:Nat->α->Option β) (x:α) (Q:β->Prop):Prop:= ∃r,Q r/\Ev λ n=>F n x=some r
theorem Sp.mono {α β:Type} {F:Nat->α->Option β} {x:α} {Q R:β->Prop} (h:Sp F x Q) (hq: ∀r,Q r->R r):Sp F x R:=h.elim λ r hr=>⟨r,hq r hr.1,hr.2⟩
theorem Sp.step {α β:Type} {F G:Nat->α->Option β} {x:α} {Q:β->Prop} (hF: ∀n x,F (n+1) x=G n x) (h:Sp G x Q):Sp F x Q:=by
 obtain⟨r,hr,he⟩:=h;exact⟨r,hr,(he.mono (q:=λ n=>F (n+1) x=some r) λ n hn=>by rw[hF];exact hn).pred⟩
def Lp {σ τ:Type} (L:Nat->σ->(σ->Option τ)->Option τ) (s:σ) (Q:τ->Prop):Prop:= ∃t,Q t/\ ∃N,∀n,N<=n-> ∀m,N<=m->cu (L n) m s=some t
theorem Lp.ev {σ τ:Type} {L:Nat->σ->(σ->Option τ)->Option τ} {s:σ} {Q:τ->Prop} (h:Lp L s Q): ∃t,Q t/\Ev λ n=>cu (L n) n s=some t:=by
 obtain⟨t,ht,N,hN⟩:=h;exact⟨t,ht,N,λ n hn=>hN n hn n hn⟩
theorem Lp.mono {σ τ:Type} {L:Nat->σ->(σ->Option τ)->Option τ} {s:σ} {Q R:τ->Prop} (h:Lp L s Q) (hq: ∀r,Q r->R r):Lp L s R:=h.elim λ r hr=>⟨r,hq r hr.1,hr.2⟩
def St {σ τ:Type} (L:Nat->σ->(σ->Option τ)->Option τ) (s:σ) (I:σ->Prop) (Q:τ->Prop):Prop:=
 (∃s',I s'/\Ev λ n=> ∀k,L n s k=k s')\/(∃t,Q t/\Ev λ n=> ∀k,L n s k=some t)
theorem Lp.aeQ {σ τ:Type} {L:Nat->σ->(σ->Option τ)->Option τ} {s:σ} {I:σ->Prop} {Q:τ->Prop} (h:St L s I Q) (hI: ∀s',I s'->Lp L s' Q):Lp L s Q:=by
 rcases h with⟨s',hs,N,hN⟩|⟨t,ht,N,hN⟩
 ·obtain⟨t,ht,M,hM⟩:=hI s' hs;refine⟨t,ht,max N M+1,λ n hn m hm=> ?_⟩;obtain⟨k,rfl⟩: ∃k,m=k+1:=⟨m-1,by omega⟩;show L n s (cu (L n) k)=some t;rw[hN n (by omega)];exact hM n (by omega) k (by omega)
 ·refine⟨t,ht,N+1,λ n hn m hm=> ?_⟩;obtain⟨k,rfl⟩: ∃k,m=k+1:=⟨m-1,by omega⟩;show L n s (cu (L n) k)=some t;exact hN n (by omega) _
theorem Lp.range {σ τ:Type} {L:Nat->σ->(σ->Option τ)->Option τ} {Q:τ->Prop} (len:Nat) (I:Nat->σ->Prop)
 (hs: ∀i s,i<len->I i s->St L s (I (i+1)) Q) (hf: ∀s,I len s->St L s (λ _=>False) Q): ∀s,I 0 s->Lp L s Q:=by
 have key: ∀d i s,i+d=len->I i s->Lp L s Q:=by
  intro d
  induction d with
  |zero=>intro i s hi h;obtain rfl:i=len:=by omega
         exact Lp.aeQ (hf s h) λ _ hx=>hx.elim
  |succ d ih=>intro i s hi h;exact Lp.aeQ (hs i s (by omega) h) λ s' h'=>ih (i+1) s' (by omega) h'
 intro s h;exact key len 0 s (by omega) h
theorem Lp.search {σ τ:Type} {L:Nat->σ->(σ->Option τ)->Option τ} (len:Nat) (st:Nat->σ) (P:Nat->Prop) (no:Nat->τ) (yes:τ)
 (hs: ∀i,i<len->(P i/\Ev λ n=> ∀k,L n (st i) k=k (st (i+1)))\/(¬P i/\Ev λ n=> ∀k,L n (st i) k=some (no i)))
 (hf:Ev λ n=> ∀k,L n (st len) k=some yes):
 Lp L (st 0) (λ t=>(t=yes/\ ∀i,i<len->P i)\/ ∃i,i<len/\ ¬P i/\t=no i):=by
 refine Lp.range len (λ i s=>s=st i/\ ∀j,j<i->P j) ?_ ?_ _ ⟨rfl,λ j h=>absurd h (by omega)⟩
 ·rintro i s hi ⟨rfl,hI⟩;rcases hs i hi with⟨hp,he⟩|⟨hp,he⟩
  ·refine .inl ⟨_,⟨rfl,λ j hj=> ?_⟩,he⟩;rcases aaY (aa8 hj)with h3|rfl
   ·exact hI j h3
   ·exact hp
  ·exact .inr ⟨_,.inr ⟨i,hi,hp,rfl⟩,he⟩
 ·rintro s ⟨rfl,hI⟩;exact .inr ⟨_,.inl ⟨rfl,hI⟩,hf⟩
theorem nU (z:Int) (h: -9223372036854775808<=z) (h':z<9223372036854775808):IntKind.wrap .i64 z=z:=by
 simp only[IntKind.wrap,IntKind.signed,IntKind.bits];simp only[acL,decide_eq_true_eq,Nat.reduceSub,ge_iff_le];split<;>omega
theorem wrap_succ {i m:Nat} (h:i<m) (hm:m<=au):IntKind.wrap .i64 ((i:Int)+1)=((i+1:Nat):Int):=by
 have:au=1099511627776:=by decide
 rw[nU _ (by omega) (by omega)];omega
theorem fE {α:Type} {l:List α} {i:Nat} (h:i<l.length):nth? l (i:Int)=some l[i]:=by
 simp[nth?,h]
theorem AA {α:Type} {l:List α} {z:Int} (h:0<=z) (h':z<((l.length:Nat):Int)):nth? l z=some (l[z.toNat]'(by omega)):=by
 have:z.toNat<l.length:=by omega
 simp[nth?,h,this]
theorem SH {i m:Nat} (h:i<m) (hm:m<=au) (h0:0<i):IntKind.wrap .i64 ((i:Int)-1)=((i-1:Nat):Int):=by
 have:au=1099511627776:=by decide
 rw[nU _ (by omega) (by omega)];omega
theorem iG {i m:Nat} (h:i<m):((i:Int)<(m:Int))=True:=eq_true (by omega)
theorem Au {m:Nat}:((m:Int)<(m:Int))=False:=eq_false (by omega)
def Tt {β:Type} (F:Nat->Option β) (Q:β->Prop):Prop:= ∃r,Q r/\Ev λ n=>F n=some r
def Bd {σ τ:Type} (F:Nat->(σ->Option τ)->Option τ) (I:σ->Prop) (Q:τ->Prop):Prop:=
 (∃s',I s'/\Ev λ n=> ∀k,F n k=k s')\/(∃t,Q t/\Ev λ n=> ∀k,F n k=some t)
section
variable {α β γ σ τ:Type} {Q:β->Prop}
theorem Tt.mono {F:Nat->Option β} {R:β->Prop} (h:Tt F Q) (hq: ∀r,Q r->R r):Tt F R:=h.elim λ r hr=>⟨r,hq r hr.1,hr.2⟩
theorem Tt.pure {r:β} (h:Q r):Tt (λ _=>some r) Q:=⟨r,h,.all λ _=>rfl⟩
theorem Tt.bind {A:Nat->Option α} {G:Nat->α->Option β} {R:α->Prop} (hA:Tt A R) (hG: ∀r,R r->Tt (λ n=>G n r) Q):Tt (λ n=>(A n).bind (G n)) Q:=by
 obtain⟨r,hr,he⟩:=hA;obtain⟨t,ht,he2⟩:=hG r hr
 exact⟨t,ht,(he.and he2).mono λ n hn=>by
  show(A n).bind (G n)=_;rw[hn.1];exact hn.2⟩
theorem Tt.chk {c:Bool} {A:Nat->Option β} (hc:c=true) (h:Tt A Q):Tt (λ n=>bif c then A n else none) Q:=by
 subst hc;exact h
theorem Tt.ite {c:Bool} {A B:Nat->Option β} (h1:c=true->Tt A Q) (h2:c=false->Tt B Q):Tt (λ n=>bif c then A n else B n) Q:=by
 cases c with
 |true=>exact h1 rfl
 |false=>exact h2 rfl
theorem Tt.nth {l:List β} {i:Int} (h0:0<=i) (h1:i<((l.length:Nat):Int)) (hq: ∀h:i.toNat<l.length,Q l[i.toNat]):Tt (λ _=>nth? l i) Q:=
 ⟨_,hq (by omega),.all λ _=>AA h0 h1⟩
theorem Tt.at {l:List β} {i:Nat} (h:i<l.length) (hq:Q l[i]):Tt (λ _=>at? l i) Q:=⟨_,hq,.all λ _=>aac h⟩
theorem Tt.loop {L:Nat->σ->(σ->Option β)->Option β} {s:σ} (h:Lp L s Q):Tt (λ n=>cu (L n) n s) Q:=h.ev
theorem Tt.iU {c:Bool} {A:Nat->Option α} {G:Nat->α->Option β} (hc:c=true) (h:Tt (λ n=>(A n).bind (G n)) Q):Tt (λ n=>(bif c then A n else none).bind (G n)) Q:=by
 subst hc;exact h
theorem Tt.eU {c:Bool} {A B:Nat->Option α} {G:Nat->α->Option β} (h1:c=true->Tt (λ n=>(A n).bind (G n)) Q) (h2:c=false->Tt (λ n=>(B n).bind (G n)) Q):Tt (λ n=>(bif c then A n else B n).bind (G n)) Q:=by
 cases c with
 |true=>exact h1 rfl
 |false=>exact h2 rfl
theorem Tt.fB {A:Nat->Option α} {B:Nat->α->Option γ} {G:Nat->γ->Option β} (h:Tt (λ n=>(A n).bind λ a=>(B n a).bind (G n)) Q):Tt (λ n=>((A n).bind (B n)).bind (G n)) Q:=by
 obtain⟨r,hr,he⟩:=h;exact⟨r,hr,he.mono λ n hn=>(Option.bind_assoc ..).trans hn⟩
theorem Tt.aG {r:α} {G:Nat->α->Option β} (h:Tt (λ n=>G n r) Q):Tt (λ n=>(some r).bind (G n)) Q:=h
end
section
variable {α β γ σ τ:Type} {I:σ->Prop} {Q:τ->Prop}
theorem Bd.mono {F:Nat->(σ->Option τ)->Option τ} {J:σ->Prop} {R:τ->Prop} (h:Bd F I Q) (hi: ∀s,I s->J s) (hq: ∀t,Q t->R t):Bd F J R:=by
 rcases h with⟨s,h1,h2⟩|⟨t,h1,h2⟩
 ·exact .inl ⟨s,hi s h1,h2⟩
 ·exact .inr ⟨t,hq t h1,h2⟩
theorem Bd.again {s:σ} (h:I s):Bd (λ _ k=>k s) I Q:= .inl ⟨s,h,.all λ _ _=>rfl⟩
theorem Bd.done {t:τ} (h:Q t):Bd (λ _ (_:σ->Option τ)=>some t) I Q:= .inr ⟨t,h,.all λ _ _=>rfl⟩
theorem Bd.bind {A:Nat->Option α} {G:Nat->(σ->Option τ)->α->Option τ} {R:α->Prop} (hA:Tt A R) (hG: ∀r,R r->Bd (λ n k=>G n k r) I Q):Bd (λ n k=>(A n).bind (G n k)) I Q:=by
 obtain⟨r,hr,he⟩:=hA;rcases hG r hr with⟨s,h1,h2⟩|⟨t,h1,h2⟩
 ·exact .inl ⟨s,h1,(he.and h2).mono λ n hn k=>by
   show(A n).bind (G n k)=_;rw[hn.1];exact hn.2 k⟩
 ·exact .inr ⟨t,h1,(he.and h2).mono λ n hn k=>by
   show(A n).bind (G n k)=_;rw[hn.1];exact hn.2 k⟩
theorem Bd.chk {c:Bool} {A:Nat->(σ->Option τ)->Option τ} (hc:c=true) (h:Bd A I Q):Bd (λ n k=>bif c then A n k else none) I Q:=by
 subst hc;exact h
theorem Bd.ite {c:Bool} {A B:Nat->(σ->Option τ)->Option τ} (h1:c=true->Bd A I Q) (h2:c=false->Bd B I Q):Bd (λ n k=>bif c then A n k else B n k) I Q:=by
 cases c with
 |true=>exact h1 rfl
 |false=>exact h2 rfl
theorem Bd.iU {c:Bool} {A:Nat->Option α} {G:Nat->(σ->Option τ)->α->Option τ} (hc:c=true) (h:Bd (λ n k=>(A n).bind (G n k)) I Q):Bd (λ n k=>(bif c then A n else none).bind (G n k)) I Q:=by
 subst hc;exact h
theorem Bd.eU {c:Bool} {A B:Nat->Option α} {G:Nat->(σ->Option τ)->α->Option τ} (h1:c=true->Bd (λ n k=>(A n).bind (G n k)) I Q) (h2:c=false->Bd (λ n k=>(B n).bind (G n k)) I Q):Bd (λ n k=>(bif c then A n else B n).bind (G n k)) I Q:=by
 cases c with
 |true=>exact h1 rfl
 |false=>exact h2 rfl
theorem Bd.fB {A:Nat->Option α} {B:Nat->α->Option γ} {G:Nat->(σ->Option τ)->γ->Option τ} (h:Bd (λ n k=>(A n).bind λ a=>(B n a).bind (G n k)) I Q):Bd (λ n k=>((A n).bind (B n)).bind (G n k)) I Q:=by
 rcases h with⟨s,h1,h2⟩|⟨t,h1,h2⟩
 ·exact .inl ⟨s,h1,h2.mono λ n hn k=>(Option.bind_assoc ..).trans (hn k)⟩
 ·exact .inr ⟨t,h1,h2.mono λ n hn k=>(Option.bind_assoc ..).trans (hn k)⟩
theorem Bd.aG {r:α} {G:Nat->(σ->Option τ)->α->Option τ} (h:Bd (λ n k=>G n k r) I Q):Bd (λ n k=>(some r).bind (G n k)) I Q:=h
end
section
variable {α β σ τ:Type} {I:σ->Prop} {Q:τ->Prop} {P:β->Prop}
theorem Bd.yes {c:Bool} {A B:Nat->(σ->Option τ)->Option τ} (hc:c=true) (h:Bd A I Q):Bd (λ n k=>bif c then A n k else B n k) I Q:=by subst hc;exact h
theorem Bd.no {c:Bool} {A B:Nat->(σ->Option τ)->Option τ} (hc:c=false) (h:Bd B I Q):Bd (λ n k=>bif c then A n k else B n k) I Q:=by subst hc;exact h
theorem Tt.yes {c:Bool} {A B:Nat->Option β} (hc:c=true) (h:Tt A P):Tt (λ n=>bif c then A n else B n) P:=by subst hc;exact h
theorem Tt.no {c:Bool} {A B:Nat->Option β} (hc:c=false) (h:Tt B P):Tt (λ n=>bif c then A n else B n) P:=by subst hc;exact h
theorem Bd.nth {l:List α} {i:Nat} {G:Nat->(σ->Option τ)->α->Option τ} (h:i<l.length) (hG:Bd (λ n k=>G n k l[i]) I Q):Bd (λ n k=>(nth? l (i:Int)).bind (G n k)) I Q:=by
 rw[fE h];exact hG
theorem Bd.afF {l:List α} {z:Int} {G:Nat->(σ->Option τ)->α->Option τ} (h0:0<=z) (h1:z<((l.length:Nat):Int)) (hG: ∀e,e∈l->l[z.toNat]? =some e->Bd (λ n k=>G n k e) I Q):Bd (λ n k=>(nth? l z).bind (G n k)) I Q:=by
 rw[AA h0 h1];exact hG _ (aag _) (aac _)
theorem Bd.at {l:List α} {i:Nat} {G:Nat->(σ->Option τ)->α->Option τ} (h:i<l.length) (hG: ∀e,e∈l->l[i]? =some e->Bd (λ n k=>G n k e) I Q):Bd (λ n k=>(at? l i).bind (G n k)) I Q:=by
 unfold at?;rw[aac h];exact hG _ (aag _) (aac _)
theorem Tt.afF {l:List α} {z:Int} {G:Nat->α->Option β} (h0:0<=z) (h1:z<((l.length:Nat):Int)) (hG: ∀e,e∈l->l[z.toNat]? =some e->Tt (λ n=>G n e) P):Tt (λ n=>(nth? l z).bind (G n)) P:=by
 rw[AA h0 h1];exact hG _ (aag _) (aac _)
theorem Tt.atB {l:List α} {i:Nat} {G:Nat->α->Option β} (h:i<l.length) (hG: ∀e,e∈l->l[i]? =some e->Tt (λ n=>G n e) P):Tt (λ n=>(at? l i).bind (G n)) P:=by
 unfold at?;rw[aac h];exact hG _ (aag _) (aac _)
end
theorem Lp.count {σ τ:Type} {L:Nat->σ->(σ->Option τ)->Option τ} {Q:τ->Prop} (len:Nat) (I:Nat->σ->Prop)
 (hs: ∀i s,i<len->I i s->Bd (λ n k=>L n s k) (I (i+1)) Q) (hf: ∀s,I len s->Bd (λ n k=>L n s k) (λ _=>False) Q) {s:σ} (h:I 0 s):Lp L s Q:=Lp.range len I hs hf s h
theorem Lp.measure {σ τ:Type} {L:Nat->σ->(σ->Option τ)->Option τ} {Q:τ->Prop} (I:σ->Prop) (m:σ->Nat)
 (hs: ∀s,I s->Bd (λ n k=>L n s k) (λ s'=>I s'/\m s'<m s) Q) {s:σ} (h:I s):Lp L s Q:=by
 have key: ∀d s,m s<d->I s->Lp L s Q:=by
  intro d
  induction d with
  |zero=>intro s hm;omega
  |succ d ih=>intro s hm h;exact Lp.aeQ (hs s h) λ s' h'=>ih s' (by omega) h'.1
 exact key (m s+1) s (by omega) h
theorem aT {p:Prop} [Decidable p] (h:p):decide p=true:=decide_eq_true h
theorem sW {p:Prop} [Decidable p] (h:decide p=true):p:=of_decide_eq_true h
theorem dec_not {p:Prop} [Decidable p] (h:decide p=false): ¬p:=of_decide_eq_false h
theorem rng {i m:Int} (h0:0<=i) (h1:i<m):(decide (0<=i)&&decide (i<m))=true:=by simp[h0,h1]
theorem wP {i:Int} (h0:0<=i) (h1:i<=1099511627776):(decide (0<=i)&&decide (i<=i)&&decide (i<=((au:Nat):Int)))=true:=by
 have:au=1099511627776:=by decide
 simp[h0];omega
theorem aA {i:Nat} (h:i<1099511627776):IntKind.wrap .i64 ((i:Int)+1)=((i+1:Nat):Int):=by
 rw[nU _ (by omega) (by omega)];omega
theorem yZ:au=1099511627776:=by decide
theorem pY {n:Nat} (h:n<=1099511627776):decide (n<=au)=true:=by
 rw[yZ];exact decide_eq_true h
end Go.Bk
end
noncomputable section
namespace Go.Bk
open Go Go.AM
abbrev Rule:=Int×List Int×Int
abbrev Aut:=Int×List Int×List Rule
theorem afZ (a b:Int) (c:List Int) (d:List Aut) (e f:Int) (rs:List Rule) (hr:rs.length<=au):
 Lp (λ _=>gV.L1) (a,b,c,d,e,f,rs,((rs.length:Nat):Int),(0:Int)) (λ t=>(t= .inl (a,b,c,d,e,f)/\ ∀r∈rs,r.2.1.length<=10)\/t= .inr (.inr false)):=by
 refine Lp.range rs.length (λ i s=>s=(a,b,c,d,e,f,rs,((rs.length:Nat):Int),(i:Int))/\ ∀j (h:j<rs.length),j<i->rs[j].2.1.length<=10) ?_ ?_ _ ⟨rfl,by intro j h h0;omega⟩
 ·rintro i s hi ⟨rfl,hI⟩;by_cases h:(10:Int)<((rs[i].2.1.length:Nat):Int)
  ·exact .inr ⟨_,.inr rfl,.all λ n k=>by simp only[decide_true,cond_true,aai,gV.L1,iG hi,fE hi,h]⟩
  ·refine .inl ⟨_,⟨rfl,λ j hj h2=> ?_⟩,.all λ n k=>by simp only[decide_true,decide_false,cond_true,cond_false,aai,gV.L1,iG hi,fE hi,h,wrap_succ hi hr]⟩;rcases aaY (aa8 h2)with h3|rfl
   ·exact hI j hj h3
   ·omega
 ·rintro s ⟨rfl,hI⟩;refine .inr ⟨_,.inl ⟨rfl,λ r hr'=> ?_⟩,.all λ n k=>by simp only[decide_false,cond_false,aai,Au,gV.L1]⟩;obtain⟨j,hj,rfl⟩:=aay hr';exact hI j hj hj
theorem af0 (al:List Int) (bs:List Aut) (hb:bs.length<=au) (hr: ∀b∈bs,b.2.2.length<=au):
 Lp (gV.L2) ((8:Int),(40:Int),al,bs,((bs.length:Nat):Int),(0:Int)) (λ t=>(t= .inl al/\ ∀b∈bs,b.2.1.length<=40/\b.2.2.length<=40/\(b.1<=8\/300<b.1)/\ ∀r∈b.2.2,r.2.1.length<=10)\/t= .inr false):=by
 refine Lp.range bs.length (λ i s=>s=((8:Int),(40:Int),al,bs,((bs.length:Nat):Int),(i:Int))/\ ∀j (h:j<bs.length),j<i->(bs[j].2.1.length<=40/\bs[j].2.2.length<=40/\(bs[j].1<=8\/300<bs[j].1)/\ ∀r∈bs[j].2.2,r.2.1.length<=10)) ?_ ?_ _ ⟨rfl,by intro j h h0;omega⟩
 ·rintro i s hi ⟨rfl,hI⟩;by_cases h1:(40:Int)<((bs[i].2.1.length:Nat):Int)
  ·exact .inr ⟨_,.inr rfl,.all λ n k=>by simp only[decide_true,cond_true,aai,gV.L2,iG hi,fE hi,h1]⟩
  by_cases h2:(40:Int)<((bs[i].2.2.length:Nat):Int)
  ·exact .inr ⟨_,.inr rfl,.all λ n k=>by simp only[decide_true,decide_false,cond_true,cond_false,aai,gV.L2,iG hi,fE hi,h1,h2]⟩
  by_cases h3:(8:Int)<bs[i].1/\bs[i].1<=300
  ·exact .inr ⟨_,.inr rfl,.all λ n k=>by simp only[decide_true,decide_false,cond_true,cond_false,aai,gV.L2,iG hi,fE hi,h1,h2,h3.1,h3.2]⟩
  have hx: ∀n k,gV.L2 n ((8:Int),(40:Int),al,bs,((bs.length:Nat):Int),(i:Int)) k=((cu (gV.L1) n ((8:Int),(40:Int),al,bs,((bs.length:Nat):Int),(i:Int),bs[i].2.2,((List.length bs[i].2.2:Nat):Int),(0:Int))).bind λ q=>match q with
   |Sum.inl x8=>(k (x8.1,x8.2.1,x8.2.2.1,x8.2.2.2.1,x8.2.2.2.2.1,IntKind.wrap .i64 (x8.2.2.2.2.2+(1:Int))))
   |Sum.inr r=>some r):=by
   intro n k;by_cases h4:(8:Int)<bs[i].1
   ·have h5: ¬bs[i].1<=300:=λ h=>h3 ⟨h4,h⟩;simp only[decide_true,decide_false,cond_true,cond_false,aai,gV.L2,iG hi,fE hi,h1,h2,h4,h5]<;>rfl
   ·simp only[decide_true,decide_false,cond_true,cond_false,aai,gV.L2,iG hi,fE hi,h1,h2,h4]<;>rfl
  obtain⟨t,ht,he⟩:=(afZ 8 40 al bs ((bs.length:Nat):Int) (i:Int) bs[i].2.2 (hr _ (aag hi))).ev;rcases ht with⟨rfl,ht⟩|rfl
  ·refine .inl ⟨_,⟨rfl,λ j hj h2'=> ?_⟩,he.mono λ n hn k=>by rw[hx,hn];simp only[aai,wrap_succ hi hb]⟩;rcases aaY (aa8 h2')with h3'|rfl
   ·exact hI j hj h3'
   ·exact⟨by omega,by omega,by omega,ht⟩
  ·exact .inr ⟨_,.inr rfl,he.mono λ n hn k=>by rw[hx,hn];simp only[aai]⟩
 ·rintro s ⟨rfl,hI⟩;refine .inr ⟨_,.inl ⟨rfl,λ r hr'=> ?_⟩,.all λ n k=>by simp only[decide_false,cond_false,aai,Au,gV.L2]⟩;obtain⟨j,hj,rfl⟩:=aay hr';exact hI j hj hj
def V8 (al:List Int) (b:Aut):Prop:=al.length<=40/\b.2.1.length<=40/\b.2.2.length<=40/\(b.1<=8\/300<b.1)/\ ∀r∈b.2.2,r.2.1.length<=10
theorem SC (al:List Int) (bs:List Aut) (hb:bs.length<=au) (hr: ∀b∈bs,b.2.2.length<=au):
 Sp gV.P (al,(8:Int),(40:Int),bs) (λ r=>r=true-> ∀b∈bs,V8 al b):=by
 obtain⟨t,ht,he⟩:=(af0 al bs hb hr).ev;rcases ht with⟨rfl,ht⟩|rfl
 ·refine⟨_,λ h b hb=>⟨?_,ht b hb⟩,he.mono λ n hn=>by simp only[gV.P,hn,aai];rfl⟩;have:=of_decide_eq_true h;omega
 ·exact⟨false,λ h=>(by cases h),he.mono λ n hn=>by simp only[gV.P,hn,aai]⟩
theorem yA {P:RT Int->Prop} (h: ∀a ks,(∀k∈ks,P k)->P (.mk a ks)) (t:RT Int):P t:=by
 match t with
 | .mk a ks=>exact h a ks (λ k hk=>yA h k)
termination_by SizeOf.sizeOf t
decreasing_by
 have:=List.sizeOf_lt_of_mem hk;simp only[RT.mk.sizeOf_spec];omega
mutual
def nds:RT Int->Nat
 | .mk _ ks=>ZM ks+1
def ZM:List (RT Int)->Nat
 | []=>0
 |k::ks=>nds k+ZM ks
end
theorem aeN: ∀t,1<=nds t
 | .mk _ ks=>by simp only[nds];omega
theorem OL {k:RT Int}: ∀{ks:List (RT Int)},k∈ks->nds k<=ZM ks
 |a::ks,h=>by
  simp only[ZM];rcases aaR.mp h with rfl|h
  ·omega
  ·have:=OL h;omega
theorem OJ: ∀ks:List (RT Int),ks.length<=ZM ks
 | []=>by simp[ZM]
 |k::ks=>by
  have:=OJ ks;have:=aeN k;simp only[ZM,abe];omega
theorem ji:au=1099511627776:=by decide
theorem adA {F:Nat->Int×List (RT Int)×Int->Option Int} (hF: ∀n x,F (n+1) x=kL.P (F n) n x) (t:RT Int):
 nds t<=au-> ∀m:Int,0<=m->m<=1000->Sp F (t.a,t.kids,m) (λ r=>1<=r/\r<=m+1):=by
 induction t using yA with
 |h a ks ih=>
 intro hn m h0 h1;have hk:ks.length<=au:=by have:=OJ ks;simp only[nds]at hn;omega
 have hl:Lp (λ n=>kL.L1 (F n)) (m,(1:Int),ks,((ks.length:Nat):Int),(0:Int)) (λ r=>1<=r/\r<=m+1):=by
  refine Lp.range ks.length (λ i s=> ∃c:Int,1<=c/\c<=m+1/\s=(m,c,ks,((ks.length:Nat):Int),(i:Int))) ?_ ?_ _ ⟨1,by omega,by omega,rfl⟩
  ·rintro i s hi ⟨c,hc,hc',rfl⟩;by_cases h:c<=m
   ·obtain⟨r,⟨hr,hr'⟩,he⟩:=ih ks[i] (aag hi) (by have:=OL (aag hi);simp only[nds]at hn;omega) (m-c) (by omega) (by omega);refine .inl ⟨_,⟨c+r,by omega,by omega,rfl⟩,he.mono λ n hn k=> ?_⟩;simp only[decide_true,cond_true,aai,kL.L1,iG hi,fE hi,h,nU (m-c) (by omega) (by omega),hn,nU (c+r) (by omega) (by omega),wrap_succ hi hk]
   ·refine .inl ⟨_,⟨c,hc,hc',rfl⟩,.all λ n k=> ?_⟩;simp only[decide_true,decide_false,cond_true,cond_false,aai,kL.L1,iG hi,fE hi,h,wrap_succ hi hk]
  ·rintro s ⟨c,hc,hc',rfl⟩;exact .inr ⟨_,⟨hc,hc'⟩,.all λ n k=>by simp only[decide_false,cond_false,Au,kL.L1]⟩
 obtain⟨r,hr,he⟩:=hl.ev;exact Sp.step (F:=F) (G:=λ n=>kL.P (F n) n) hF ⟨r,hr,he.mono λ n hn=>by simp only[kL.P,RT.kids,hn,aai]⟩
theorem SB {F:Nat->Int×List (RT Int)×Int->Option Int} {s:Int} {ks:List (RT Int)} {m:Int} {Q:Int->Prop} (h:Sp F (s,ks,m) Q):
 Sp (λ n=>EI.P (F n) n) (s,ks,m) (λ _=>True):=by
 obtain⟨r,hr,he⟩:=h;exact⟨_,trivial,he.mono λ n hn=>by simp only[EI.P,hn,aai];rfl⟩
theorem Sz {G:Nat->List Int×Int×Int×List Aut->Option Bool} {al:List Int} {bs:List Aut} (h:Sp G (al,(8:Int),(40:Int),bs) (λ r=>r=true-> ∀b∈bs,V8 al b)):
 Sp (λ n=>Et.P (G n) n) (al,bs) (λ r=>r=true-> ∀b∈bs,V8 al b):=by
 obtain⟨r,hr,he⟩:=h;exact⟨_,hr,he.mono λ n hn=>by simp only[Et.P,hn,aai]⟩
def KI (x:Int):Prop:=0<=x/\x<=3
def adJ (al:List Int):Prop:=al.length<=12/\ ∀i (h:i<al.length),KI al[i]
theorem zn (x:Int):Sp (λ n=>gX.P n) x (λ r=>r=true ↔ ¬KI x):=by
 by_cases h:x<0
 ·exact⟨true,by simp only[KI];simp;omega,.all λ n=>by simp only[decide_true,cond_true,aai,gX.P,h]⟩
 ·by_cases h':3<x
  ·exact⟨true,by simp only[KI];simp;omega,.all λ n=>by simp only[decide_true,decide_false,cond_false,aai,gX.P,h,h']⟩
  ·exact⟨false,by simp only[KI];simp;omega,.all λ n=>by simp only[decide_false,cond_false,aai,gX.P,h,h']⟩
theorem Sv {F:Nat->Int->Option Bool} (hF: ∀x,Sp F x (λ r=>r=true ↔ ¬KI x)) (al:List Int) (hl:al.length<=au):
 Sp (λ n=>fO.P (F n) n) al (λ r=>0<=r ↔ ∃i,∃h:i<al.length,¬KI al[i]):=by
 have:=Lp.search (L:=λ n=>fO.L1 (F n)) al.length (λ i=>(al,((al.length:Nat):Int),(i:Int))) (λ i=> ∀h:i<al.length,KI al[i]) (λ i=> .inr (i:Int)) (.inl ()) ?_ ?_
 ·obtain⟨t,ht,he⟩:=this.ev;rcases ht with⟨rfl,ht⟩|⟨i,hi,hn,rfl⟩
  ·refine⟨-1,⟨λ h=>absurd h (by omega),?_⟩,he.mono λ n hn=> ?_⟩
   ·rintro⟨i,hi,h⟩;exact absurd (ht i hi hi) h
   ·show(cu _ n (al,((al.length:Nat):Int),(((0:Nat):Nat):Int))).bind _=_;rw[hn];rfl
  ·refine⟨(i:Int),⟨λ _=>⟨i,hi,λ h=>hn λ _=>h⟩,λ _=>by omega⟩,he.mono λ n hn=> ?_⟩;show(cu _ n (al,((al.length:Nat):Int),(((0:Nat):Nat):Int))).bind _=_;rw[hn];rfl
 ·intro i hi;obtain⟨r,hr,he⟩:=hF al[i];cases r
  ·exact .inl ⟨λ _=>abp λ h=>(by have:=hr.mpr h;cases this),he.mono λ n hn k=>by simp only[decide_true,cond_true,cond_false,aai,fO.L1,iG hi,fE hi,hn,wrap_succ hi hl]⟩
  ·exact .inr ⟨λ h=>hr.mp rfl (h hi),he.mono λ n hn k=>by simp only[decide_true,cond_true,aai,fO.L1,iG hi,fE hi,hn]⟩
 ·exact .all λ n k=>by simp only[decide_false,cond_false,aai,Au,fO.L1]
theorem Ku {F:Nat->List Int->Option Int} {al:List Int} {P:Prop} (h:Sp F al (λ r=>0<=r ↔ P)):
 Sp (λ n=>jW.P (F n) n) al (λ r=>r=true ↔ P):=by
 obtain⟨r,hr,he⟩:=h;exact⟨decide (0<=r),decide_eq_true_iff.trans hr,he.mono λ n hn=>by simp only[jW.P,hn,aai]⟩
theorem Bz {F:Nat->List Int->Option Bool} {al:List Int} (h:Sp F al (λ r=>r=true ↔ ∃i,∃h:i<al.length,¬KI al[i])):
 Sp (λ n=>jS.P (F n) n) al (λ r=>r=true ↔ adJ al):=by
 obtain⟨r,hr,he⟩:=h;by_cases hl:((al.length:Nat):Int)<=12
 ·refine⟨!r,?_,he.mono λ n hn=>by simp only[decide_true,cond_true,aai,jS.P,hl,hn]⟩;cases r
  ·simp only[ab9,true_iff];refine⟨by omega,λ i hi=>abp λ h=> ?_⟩;have:=hr.mpr ⟨i,hi,h⟩;cases this
  ·simp only[aa9];refine⟨λ h=>(by cases h),λ h=> ?_⟩;obtain⟨i,hi,h'⟩:=hr.mp rfl;exact absurd (h.2 i hi) h'
 ·exact⟨false,⟨λ h=>(by cases h),λ h=>absurd h.1 (by omega)⟩,.all λ n=>by simp only[decide_false,cond_false,aai,jS.P,hl]⟩
theorem rO (al:List Int):Sp dh.P al (λ r=>r=true ↔ adJ al):=by
 by_cases hl:(12:Int)<((al.length:Nat):Int)
 ·exact⟨false,⟨λ h=>(by cases h),λ h=>absurd h.1 (by omega)⟩,.all λ n=>by simp only[decide_true,cond_true,dh.P,hl]⟩
 have hb:al.length<=au:=by have:=ji;omega
 have:=Lp.search (L:=λ _=>dh.L1) al.length (λ i=>(al,((al.length:Nat):Int),(i:Int))) (λ i=> ∀h:i<al.length,KI al[i]) (λ i=> .inr false) (.inl ()) ?_ ?_
 ·obtain⟨t,ht,he⟩:=this.ev;rcases ht with⟨rfl,ht⟩|⟨i,hi,hn,rfl⟩
  ·refine⟨true,⟨λ _=>⟨by omega,λ i hi=>ht i hi hi⟩,λ _=>rfl⟩,he.mono λ n hn=> ?_⟩;simp only[decide_false,cond_false,dh.P,hl];exact congrArg (Option.bind · _) hn
  ·refine⟨false,⟨λ h=>(by cases h),λ h=>absurd (λ _=>h.2 i hi) hn⟩,he.mono λ n hn=> ?_⟩;simp only[decide_false,cond_false,dh.P,hl];exact congrArg (Option.bind · _) hn
 ·intro i hi;by_cases h1:al[i]<0
  ·exact .inr ⟨λ h=>absurd (h hi).1 (by omega),.all λ n k=>by simp only[decide_true,cond_true,aai,dh.L1,iG hi,fE hi,h1]⟩
  by_cases h2:3<al[i]
  ·exact .inr ⟨λ h=>absurd (h hi).2 (by omega),.all λ n k=>by simp only[decide_true,decide_false,cond_true,cond_false,aai,dh.L1,iG hi,fE hi,h1,h2]⟩
  ·exact .inl ⟨λ _=>⟨by omega,by omega⟩,.all λ n k=>by simp only[decide_true,decide_false,cond_true,cond_false,aai,dh.L1,iG hi,fE hi,h1,h2,wrap_succ hi hb]⟩
 ·exact .all λ n k=>by simp only[decide_false,cond_false,aai,Au,dh.L1]
def dH (S f:Int):Prop:=0<=f/\f<S
def ZO (S:Int) (l:List Int) (i:Nat):Prop:= ∀h:i<l.length,dH S l[i]/\(0<i->l[i-1]<l[i])
def Vg (S:Int) (l:List Int) (i:Nat):Prop:= ∀h:i<l.length,dH S l[i]
def L9 (al:List Int) (S:Int) (r:Rule):Prop:=0<=r.1/\r.1<((al.length:Nat):Int)/\(∀h:r.1.toNat<al.length,((r.2.1.length:Nat):Int)=al[r.1.toNat])/\dH S r.2.2/\ ∀i,i<r.2.1.length->Vg S r.2.1 i
def Vj (al:List Int) (S:Int) (l:List Rule) (i:Nat):Prop:= ∀h:i<l.length,L9 al S l[i]
def dV (al:List Int) (a:Aut):Prop:=adJ al/\0<=a.1/\a.1<=300/\a.2.2.length<=20000/\(∀i,i<a.2.1.length->ZO a.1 a.2.1 i)/\ ∀i,i<a.2.2.length->Vj al a.1 a.2.2 i
theorem Kv (x S:Int) (f:List Int) (rs:List Rule):Sp (λ n=>qj.P n) (x,S,f,rs) (λ r=>r=true ↔ dH S x):=by
 by_cases h:0<=x
 ·exact⟨decide (x<S),decide_eq_true_iff.trans ⟨λ h'=>⟨h,h'⟩,λ h'=>h'.2⟩,.all λ n=>by simp only[decide_true,cond_true,aai,qj.P,h]⟩
 ·exact⟨false,⟨λ h=>(by cases h),λ h'=>absurd h'.1 h⟩,.all λ n=>by simp only[decide_false,cond_false,aai,qj.P,h]⟩
section
variable {F:Nat->Int×Int×List Int×List Rule->Option Bool} (hF: ∀x S f rs,Sp F (x,S,f,rs) (λ r=>r=true ↔ dH S x))
include hF
theorem NI (al:List Int) (S:Int) (fin:List Int) (rs:List Rule) (hl:fin.length<=au):
 Lp (λ n=>bU.L1 (F n)) (al,S,fin,rs,fin,((fin.length:Nat):Int),(0:Int)) (λ t=>(t= .inl (al,S,fin,rs)/\ ∀i,i<fin.length->ZO S fin i)\/ ∃i,i<fin.length/\ ¬ZO S fin i/\t= .inr false):=by
 refine Lp.search fin.length (λ i=>(al,S,fin,rs,fin,((fin.length:Nat):Int),(i:Int))) (ZO S fin) (λ _=>Sum.inr false) (Sum.inl (al,S,fin,rs)) ?_ ?_
 ·intro i hi;obtain⟨r,hr,he⟩:=hF fin[i] S fin rs;cases r
  ·exact .inr ⟨λ h=>(by have:=hr.mpr (h hi).1;cases this),he.mono λ n hn k=>by simp only[decide_true,cond_true,aai,ab9,bU.L1,iG hi,fE hi,hn]⟩
  ·have hs:=hr.mp rfl;by_cases h0:0<i
   ·have h0':(0:Int)<(i:Int):=by omega
    have hp:i-1<fin.length:=by omega
    by_cases h1:fin[i]<=fin[i-1]
    ·exact .inr ⟨λ h=>by have:=(h hi).2 h0;omega,he.mono λ n hn k=>by simp only[decide_true,cond_true,cond_false,aai,aa9,bU.L1,iG hi,fE hi,hn,h0',SH hi hl h0,fE hp,h1]⟩
    ·exact .inl ⟨λ _=>⟨hs,λ _=>by omega⟩,he.mono λ n hn k=>by simp only[decide_true,decide_false,cond_true,cond_false,aai,aa9,bU.L1,iG hi,fE hi,hn,h0',SH hi hl h0,fE hp,h1,wrap_succ hi hl]⟩
   ·have h0': ¬(0:Int)<(i:Int):=by omega
    exact .inl ⟨λ _=>⟨hs,λ h=>absurd h h0⟩,he.mono λ n hn k=>by simp only[decide_true,decide_false,cond_true,cond_false,aai,aa9,bU.L1,iG hi,fE hi,hn,h0',wrap_succ hi hl]⟩
 ·exact .all λ n k=>by simp only[decide_false,cond_false,aai,Au,bU.L1]
theorem NJ (al:List Int) (S:Int) (fin:List Int) (rs rs':List Rule) (a b:Int) (l:List Int) (hl:l.length<=au):
 Lp (λ n=>bU.L2 (F n)) (al,S,fin,rs,rs',a,b,l,((l.length:Nat):Int),(0:Int)) (λ t=>(t= .inl (al,S,fin,rs,rs',a,b)/\ ∀i,i<l.length->Vg S l i)\/ ∃i,i<l.length/\ ¬Vg S l i/\t= .inr (.inr false)):=by
 refine Lp.search l.length (λ i=>(al,S,fin,rs,rs',a,b,l,((l.length:Nat):Int),(i:Int))) (Vg S l) (λ _=>Sum.inr (Sum.inr false)) (Sum.inl (al,S,fin,rs,rs',a,b)) ?_ ?_
 ·intro i hi;obtain⟨r,hr,he⟩:=hF l[i] S fin rs;cases r
  ·exact .inr ⟨λ h=>(by have:=hr.mpr (h hi);cases this),he.mono λ n hn k=>by simp only[decide_true,cond_true,aai,ab9,bU.L2,iG hi,fE hi,hn]⟩
  ·exact .inl ⟨λ _=>hr.mp rfl,he.mono λ n hn k=>by simp only[decide_true,cond_true,cond_false,aai,aa9,bU.L2,iG hi,fE hi,hn,wrap_succ hi hl]⟩
 ·exact .all λ n k=>by simp only[decide_false,cond_false,aai,Au,bU.L2]
theorem NK (al:List Int) (S:Int) (fin:List Int) (rs:List Rule) (hl:rs.length<=au) (hr: ∀r∈rs,r.2.1.length<=au):
 Lp (λ n=>bU.L3 (F n) n) (al,S,fin,rs,rs,((rs.length:Nat):Int),(0:Int)) (λ t=>(t= .inl ()/\ ∀i,i<rs.length->Vj al S rs i)\/ ∃i,i<rs.length/\ ¬Vj al S rs i/\t= .inr false):=by
 refine Lp.search rs.length (λ i=>(al,S,fin,rs,rs,((rs.length:Nat):Int),(i:Int))) (Vj al S rs) (λ _=>Sum.inr false) (Sum.inl ()) ?_ ?_
 ·intro i hi;by_cases h1:rs[i].1<0
  ·exact .inr ⟨λ h=>absurd (h hi).1 (by omega),.all λ n k=>by simp only[decide_true,cond_true,aai,bU.L3,iG hi,fE hi,h1]⟩
  by_cases h2:((al.length:Nat):Int)<=rs[i].1
  ·exact .inr ⟨λ h=>absurd (h hi).2.1 (by omega),.all λ n k=>by simp only[decide_true,decide_false,cond_true,cond_false,aai,bU.L3,iG hi,fE hi,h1,h2]⟩
  have hx:=AA (l:=al) (z:=rs[i].1) (by omega) (by omega);by_cases h3:((rs[i].2.1.length:Nat):Int)=al[rs[i].1.toNat]'(by omega)
  ·obtain⟨r,hr1,he⟩:=hF rs[i].2.2 S fin rs;cases r
   ·exact .inr ⟨λ h=>(by have:=hr1.mpr (h hi).2.2.2.1;cases this),he.mono λ n hn k=>by simp only[decide_true,decide_false,cond_true,cond_false,aai,aa9,ab9,bU.L3,iG hi,fE hi,h1,h2,hx,h3,hn]⟩
   ·obtain⟨t,ht,he2⟩:=(NJ hF al S fin rs rs ((rs.length:Nat):Int) (i:Int) rs[i].2.1 (hr _ (aag hi))).ev;rcases ht with⟨rfl,ht⟩|⟨j,hj,hn,rfl⟩
    ·exact .inl ⟨λ _=>⟨by omega,by omega,λ _=>h3,hr1.mp rfl,ht⟩,(he.and he2).mono λ n hn k=>by rw[h3]at hn;simp only[decide_true,decide_false,cond_true,cond_false,aai,aa9,bU.L3,iG hi,fE hi,h1,h2,hx,h3,hn.1,hn.2,wrap_succ hi hl]⟩
    ·exact .inr ⟨λ h=>hn ((h hi).2.2.2.2 j hj),(he.and he2).mono λ n hn k=>by rw[h3]at hn;simp only[decide_true,decide_false,cond_true,cond_false,aai,aa9,bU.L3,iG hi,fE hi,h1,h2,hx,h3,hn.1,hn.2]⟩
  ·exact .inr ⟨λ h=>h3 ((h hi).2.2.1 (by omega)),.all λ n k=>by simp only[decide_true,decide_false,cond_true,cond_false,aai,ab9,bU.L3,iG hi,fE hi,h1,h2,hx,h3]⟩
 ·exact .all λ n k=>by simp only[decide_false,cond_false,aai,Au,bU.L3]
theorem Pg {G:Nat->List Int->Option Bool} (hG: ∀al,al.length<=au->Sp G al (λ r=>r=true ↔ adJ al)) (al:List Int) (S:Int) (fin:List Int) (rs:List Rule) (h0:al.length<=au) (h1:fin.length<=au) (h2:rs.length<=au) (h3: ∀r∈rs,r.2.1.length<=au):
 Sp (λ n=>bU.P (F n) (G n) n) (al,S,fin,rs) (λ r=>r=true ↔ dV al (S,fin,rs)):=by
 obtain⟨r,hr,he⟩:=hG al h0;cases r
 ·exact⟨false,⟨λ h=>(by cases h),λ h=>hr.mpr h.1⟩,he.mono λ n hn=>by simp only[cond_true,aai,ab9,bU.P,hn]⟩
 have hal:=hr.mp rfl;by_cases h4:S<0
 ·exact⟨false,⟨λ h=>(by cases h),λ h=>absurd h.2.1 (by simp only;omega)⟩,he.mono λ n hn=>by simp only[decide_true,cond_true,cond_false,aai,aa9,bU.P,hn,h4]⟩
 by_cases h5:300<S
 ·exact⟨false,⟨λ h=>(by cases h),λ h=>absurd h.2.2.1 (by simp only;omega)⟩,he.mono λ n hn=>by simp only[decide_true,decide_false,cond_true,cond_false,aai,aa9,bU.P,hn,h4,h5]⟩
 by_cases h6:20000<((rs.length:Nat):Int)
 ·exact⟨false,⟨λ h=>(by cases h),λ h=>absurd h.2.2.2.1 (by simp only;omega)⟩,he.mono λ n hn=>by simp only[decide_true,decide_false,cond_true,cond_false,aai,aa9,bU.P,hn,h4,h5,h6]⟩
 obtain⟨t1,ht1,he1⟩:=(NI hF al S fin rs h1).ev;rcases ht1 with⟨rfl,ht1⟩|⟨i,hi,hno,rfl⟩
 ·obtain⟨t2,ht2,he2⟩:=(NK hF al S fin rs h2 h3).ev;rcases ht2 with⟨rfl,ht2⟩|⟨i,hi,hno,rfl⟩
  ·exact⟨true,⟨λ _=>⟨hal,by simp only;omega,by simp only;omega,by simp only;omega,ht1,ht2⟩,λ _=>rfl⟩,(he.and (he1.and he2)).mono λ n hn=>by simp only[decide_false,cond_false,aai,aa9,bU.P,hn.1,h4,h5,h6,hn.2.1,hn.2.2]⟩
  ·exact⟨false,⟨λ h=>(by cases h),λ h=>absurd (h.2.2.2.2.2 i hi) hno⟩,(he.and (he1.and he2)).mono λ n hn=>by simp only[decide_false,cond_false,aai,aa9,bU.P,hn.1,h4,h5,h6,hn.2.1,hn.2.2]⟩
 ·exact⟨false,⟨λ h=>(by cases h),λ h=>absurd (h.2.2.2.2.1 i hi) hno⟩,(he.and he1).mono λ n hn=>by simp only[decide_false,cond_false,aai,aa9,bU.P,hn.1,h4,h5,h6,hn.2]⟩
end
end Go.Bk
end
noncomputable section
namespace Go.Bk
open Go Go.AM
theorem len1 {α:Type} {a:α}:List.length [a]=1:=rfl
theorem SV {α:Type} {l:List α} {i:Nat} (h:i<l.length):List.append (l.take i) [l[i]]=l.take (i+1):=by
 show l.take i++[l[i]]=_;rw[aaD];simp[h]
theorem ag8 (l:List Int) (v:Int) (hl:l.length<=au):Sp uX.P (l,v) (λ r=>r=true ↔ v∈l):=by
 have:=Lp.search (L:=λ _=>uX.L1) l.length (λ i=>(v,l,((l.length:Nat):Int),(i:Int))) (λ i=> ∀h:i<l.length,l[i]≠v) (λ _=>Sum.inr true) (Sum.inl ()) ?_ ?_
 ·obtain⟨t,ht,he⟩:=this.ev;rcases ht with⟨rfl,ht⟩|⟨i,hi,hn,rfl⟩
  ·refine⟨false,⟨λ h=>(by cases h),λ h=> ?_⟩,he.mono λ n hn=>congrArg (Option.bind · _) hn⟩;obtain⟨j,hj,rfl⟩:=aay h;exact absurd rfl (ht j hj hj)
  ·refine⟨true,⟨λ _=> ?_,λ _=>rfl⟩,he.mono λ n hn=>congrArg (Option.bind · _) hn⟩;have:l[i]=v:=abp λ h=>hn λ _=>h;exact this▸aag hi
 ·intro i hi;by_cases h:l[i]=v
  ·exact .inr ⟨λ h'=>h' hi h,.all λ n k=>by simp only[decide_true,cond_true,aai,uX.L1,iG hi,fE hi,h]⟩
  ·exact .inl ⟨λ _=>h,.all λ n k=>by simp only[decide_true,decide_false,cond_true,cond_false,aai,uX.L1,iG hi,fE hi,h,wrap_succ hi hl]⟩
 ·exact .all λ n k=>by simp only[decide_false,cond_false,aai,Au,uX.L1]
theorem Zl (l:List Int) (v:Int) (hl:l.length+1<=au):Sp jm.P (l,v) (λ r=>(∀y,y∈r ↔ y=v\/y∈l)/\r.length<=l.length+1):=by
 have hL:Lp (λ _=>jm.L1) (l,v,(0:Int)) (λ t=> ∃i:Nat,i<=l.length/\t=(l,v,(i:Int))):=by
  refine Lp.range l.length (λ i s=>s=(l,v,(i:Int))) ?_ ?_ _ rfl
  ·rintro i s hi rfl;by_cases h:l[i]<v
   ·exact .inl ⟨_,rfl,.all λ n k=>by simp only[decide_true,cond_true,aai,jm.L1,iG hi,fE hi,h,wrap_succ hi (m:=l.length) (by omega)]⟩
   ·exact .inr ⟨_,⟨i,by omega,rfl⟩,.all λ n k=>by simp only[decide_true,decide_false,cond_true,cond_false,aai,jm.L1,iG hi,fE hi,h]⟩
  ·rintro s rfl;exact .inr ⟨_,⟨_,aaq _,rfl⟩,.all λ n k=>by simp only[decide_false,cond_false,aai,Au,jm.L1]⟩
 obtain⟨t,⟨i,hi,rfl⟩,he⟩:=hL.ev;have h1:((0:Int)<=(i:Int))=True:=eq_true (by omega);have h2:((i:Int)<=((l.length:Nat):Int))=True:=eq_true (by omega);have e1:min i l.length<=au:=by omega
 have e2:min i l.length+1<=au:=by omega
 have e3:min i l.length+1+(l.length-i)<=au:=by omega
 have hm: ∀y,y∈l.take i++v::l.drop i ↔ y=v\/y∈l:=by
  intro y;have:y∈l ↔ y∈l.take i\/y∈l.drop i:=by rw[←aau,abm]
  rw[this];simp only[aau,aaR];constructor
  ·rintro(h|h|h)<;>simp[h]
  ·rintro(h|h|h)<;>simp[h]
 have hll:(l.take i++v::l.drop i).length<=l.length+1:=by
  simp only[aap,aaB,aa7,abe];omega
 by_cases hlt:i<l.length
 ·by_cases hv:l[i]=v
  ·refine⟨l,⟨λ y=>⟨.inr,?_⟩,by omega⟩,he.mono λ n hn=>by simp only[decide_true,cond_true,aai,jm.P,hn,iG hlt,fE hlt,hv]⟩;rintro(rfl|h)
   ·exact hv▸aag hlt
   ·exact h
  ·refine⟨_,⟨hm,hll⟩,he.mono λ n hn=> ?_⟩;simp only[decide_true,decide_false,cond_true,cond_false,aai,ab4,acL,jm.P,hn,iG hlt,fE hlt,hv,h1,h2];simp[aat,aaF];simp only[decide_true,cond_true,e1,e2,e3]
 ·have hlt':((i:Int)<((l.length:Nat):Int))=False:=eq_false (by omega);refine⟨_,⟨hm,hll⟩,he.mono λ n hn=> ?_⟩;simp only[decide_true,decide_false,cond_false,aai,ab4,acL,jm.P,hn,hlt',h1,h2];simp[aat,aaF];simp only[decide_true,cond_true,e1,e2,e3]
theorem afj {F:Nat->List Int×Int->Option Bool} (hF: ∀l v,l.length<=au->Sp F (l,v) (λ r=>r=true ↔ v∈l)) (l1 l2:List Int) (h1:l1.length<=au) (h2:l2.length<=au):
 Sp (λ n=>oM.P (F n) n) (l1,l2) (λ r=>r=true ↔ ∃q,q∈l1/\q∈l2):=by
 have:=Lp.search (L:=λ n=>oM.L1 (F n)) l1.length (λ i=>(l2,l1,((l1.length:Nat):Int),(i:Int))) (λ i=> ∀h:i<l1.length,¬l1[i]∈l2) (λ _=>Sum.inr true) (Sum.inl ()) ?_ ?_
 ·obtain⟨t,ht,he⟩:=this.ev;rcases ht with⟨rfl,ht⟩|⟨i,hi,hn,rfl⟩
  ·refine⟨false,⟨λ h=>(by cases h),λ h=> ?_⟩,he.mono λ n hn=>congrArg (Option.bind · _) hn⟩;obtain⟨q,hq,hq2⟩:=h;obtain⟨j,hj,rfl⟩:=aay hq;exact absurd hq2 (ht j hj hj)
  ·refine⟨true,⟨λ _=> ?_,λ _=>rfl⟩,he.mono λ n hn=>congrArg (Option.bind · _) hn⟩;exact⟨l1[i],aag hi,abp λ h=>hn λ _=>h⟩
 ·intro i hi;obtain⟨r,hr,he⟩:=hF l2 l1[i] h2;cases r
  ·exact .inl ⟨λ _ h=>(by have:=hr.mpr h;cases this),he.mono λ n hn k=>by simp only[decide_true,cond_true,cond_false,aai,oM.L1,iG hi,fE hi,hn,wrap_succ hi h1]⟩
  ·exact .inr ⟨λ h'=>h' hi (hr.mp rfl),he.mono λ n hn k=>by simp only[decide_true,cond_true,aai,oM.L1,iG hi,fE hi,hn]⟩
 ·exact .all λ n k=>by simp only[decide_false,cond_false,aai,Au,oM.L1]
theorem aff {F:Nat->List Int->Option (List Int)} (hF: ∀l:List Int,l.length<=au->Sp F l (λ r=>r=l)) (S:Int) (fin:List Int) (rs:List Rule) (h1:fin.length<=au) (h2:rs.length<=au) (h3: ∀r∈rs,r.2.1.length<=au):
 Sp (λ n=>pG.P (F n) n) (S,fin,rs) (λ r=>r=(S,fin,rs)):=by
 have hL:Lp (λ n=>pG.L1 (F n)) ((0:Int),([]:List Int),([]:List Rule),S,fin,([]:List Rule),rs,((rs.length:Nat):Int),(0:Int)) (λ t=>t=((0:Int),([]:List Int),([]:List Rule),S,fin,rs)):=by
  refine Lp.range rs.length (λ i s=>s=((0:Int),([]:List Int),([]:List Rule),S,fin,rs.take i,rs,((rs.length:Nat):Int),(i:Int))) ?_ ?_ _ rfl
  ·rintro i s hi rfl;obtain⟨r,rfl,he⟩:=hF rs[i].2.1 (h3 _ (aag hi));refine .inl ⟨_,rfl,he.mono λ n hn k=> ?_⟩;have e:(rs.take i).length+1<=au:=by rw[aaB];omega
   simp only[decide_true,cond_true,aai,pG.L1,iG hi,fE hi,hn,len1,e,wrap_succ hi h2];rw[←SV hi]
  ·rintro s rfl;exact .inr ⟨_,rfl,.all λ n k=>by simp only[decide_false,cond_false,Au,pG.L1,aaC]⟩
 obtain⟨r,rfl,he⟩:=hF fin h1;obtain⟨t,rfl,he2⟩:=hL.ev;exact⟨_,rfl,(he.and he2).mono λ n hn=>by simp only[aai,pG.P,hn.1,hn.2]⟩
theorem ady (S:Int) (fin:List Int) (rs:List Rule) (h0:0<=S) (hS:S<=300) (h1:fin.length<=au) (hf: ∀q∈fin,dH S q):
 Sp lJ.P (S,fin,rs) (λ r=>r.length=S.toNat/\ ∀q:Int,dH S q->q<((r.length:Nat):Int)/\at? r q.toNat=some (decide (q∈fin))):=by
 have hL:Lp (λ _=>lJ.L1) (List.replicate S.toNat false,fin,((fin.length:Nat):Int),(0:Int)) (λ r=>r.length=S.toNat/\ ∀q:Nat,q<S.toNat->r[q]? =some (decide ((q:Int)∈fin))):=by
  refine Lp.range fin.length (λ i s=> ∃r:List Bool,s=(r,fin,((fin.length:Nat):Int),(i:Int))/\r.length=S.toNat/\ ∀q:Nat,q<S.toNat->r[q]? =some (decide ((q:Int)∈fin.take i))) ?_ ?_ _ ⟨_,rfl,abJ,λ q hq=>by simp[hq]⟩
  ·rintro i s hi ⟨r,rfl,hl,hr⟩;have hs:=hf _ (aag hi);have a1:((0:Int)<=fin[i])=True:=eq_true hs.1;have a2:(fin[i]<((r.length:Nat):Int))=True:=eq_true (by have:=hs.2;have:=hs.1;omega);have a3:at? r fin[i].toNat=some (r[fin[i].toNat]'(by have:=hs.2;have:=hs.1;omega)):=aac _;refine .inl ⟨_,⟨r.set fin[i].toNat true,rfl,by rw[aa0];exact hl,λ q hq=> ?_⟩,.all λ n k=> ?_⟩
   ·rw[aaS]
    have e:(q:Int)∈fin.take (i+1) ↔ (q:Int)∈fin.take i\/(q:Int)=fin[i]:=by
     rw[show fin.take (i+1)=fin.take i++[fin[i]]from(SV hi).symm];simp only[aau,aam]
    by_cases hq':fin[i].toNat=q
    ·have:(q:Int)=fin[i]:=by have:=hs.1;omega
     rw[if_pos hq',if_pos (by omega)];exact congrArg some (decide_eq_true (e.mpr (.inr this))).symm
    ·have: ¬(q:Int)=fin[i]:=by omega
     rw[if_neg hq',hr q hq];congr 1;exact decide_eq_decide.mpr ⟨λ h=>e.mpr (.inl h),λ h=>(e.mp h).resolve_right this⟩
   ·simp only[decide_true,cond_true,aai,ab4,lJ.L1,iG hi,fE hi,a1,a2,a3,wrap_succ hi h1]
  ·rintro s ⟨r,rfl,hl,hr⟩;exact .inr ⟨r,⟨hl,λ q hq=>by rw[hr q hq,aaC]⟩,.all λ n k=>by simp only[decide_false,cond_false,Au,lJ.L1]⟩
 obtain⟨r,⟨hr1,hr2⟩,he⟩:=hL.ev;have a1:((0:Int)<=S)=True:=eq_true h0;have a2:(S<=S)=True:=eq_true (acN _);have a3:(S<=((au:Nat):Int))=True:=eq_true (by have:=ji;omega);refine⟨r,⟨hr1,λ q hq=>⟨by have:=hq.1;have:=hq.2;omega,?_⟩⟩,he.mono λ n hn=>by simp only[decide_true,cond_true,aai,ab4,lJ.P,a1,a2,a3,hn]⟩;have:=hr2 q.toNat (by have:=hq.1;have:=hq.2;omega);rw[acp hq.1]at this;exact this
inductive Shp (al:List Int):RT Int->Prop
 |mk (a:Int) (ks:List (RT Int)) (h0:0<=a) (h:al[a.toNat]? =some ((ks.length:Nat):Int)) (hk: ∀k,k∈ks->Shp al k):Shp al (.mk a ks)
theorem Shp.nonneg {al:List Int} {a:Int} {ks:List (RT Int)} (h:Shp al (.mk a ks)):0<=a:=by cases h;assumption
theorem Shp.ar {al:List Int} {a:Int} {ks:List (RT Int)} (h:Shp al (.mk a ks)):al[a.toNat]? =some ((ks.length:Nat):Int):=by cases h;assumption
theorem Shp.kid {al:List Int} {a:Int} {ks:List (RT Int)} (h:Shp al (.mk a ks)): ∀k,k∈ks->Shp al k:=by cases h;assumption
theorem YM {a:Int} {ks:List (RT Int)} {k:RT Int} (h:k∈ks):nds k<=nds (.mk a ks):=by
 have:=OL h;simp only[nds];omega
theorem YN {a:Int} {ks:List (RT Int)}:ks.length<=nds (.mk a ks):=by
 have:=OJ ks;simp only[nds];omega
theorem Zr {F:Nat->List Int×Int×List (RT Int)->Option Bool} (hF: ∀n x,F (n+1) x=fQ.P (F n) n x) (al:List Int) (t:RT Int):
 nds t<=au->Sp F (al,t.a,t.kids) (λ r=>r=true ↔ Shp al t):=by
 induction t using yA with
 |h a ks ih=>
 intro hn;have hk:ks.length<=au:=aaJ YN hn;refine Sp.step (F:=F) (G:=λ n=>fQ.P (F n) n) hF ?_;simp only[RT.a,RT.kids];by_cases h1:a<0
 ·exact⟨false,⟨λ h=>(by cases h),λ h=>absurd h.nonneg (by omega)⟩,.all λ n=>by simp only[decide_true,cond_true,aai,fQ.P,h1]⟩
 by_cases h2:((al.length:Nat):Int)<=a
 ·exact⟨false,⟨λ h=>(by cases h),λ h=>absurd h.ar (by rw[aah (by omega)];simp)⟩,.all λ n=>by simp only[decide_true,decide_false,cond_true,cond_false,aai,fQ.P,h1,h2]⟩
 have ha:a.toNat<al.length:=by omega
 have hx:=AA (l:=al) (z:=a) (by omega) (by omega);by_cases h3:((ks.length:Nat):Int)=al[a.toNat]
 ·have hL:=Lp.search (L:=λ n=>fQ.L1 (F n)) ks.length (λ i=>(al,ks,((ks.length:Nat):Int),(i:Int))) (λ i=> ∀h:i<ks.length,Shp al ks[i]) (λ _=>Sum.inr false) (Sum.inl ()) ?_ ?_
  ·obtain⟨t,ht,he⟩:=hL.ev;have hx':nth? al a=some ((ks.length:Nat):Int):=by rw[hx,h3]
   have hh: ∀n,fQ.P (F n) n (al,a,ks)=(cu (fQ.L1 (F n)) n (al,ks,((ks.length:Nat):Int),(0:Int))).bind λ q=>match q with
    |Sum.inl _=>(some true)
    |Sum.inr r=>some r:=by
    intro n;simp only[decide_true,decide_false,cond_false,aai,aa9,fQ.P,h1,h2,hx']<;>rfl
   rcases ht with⟨rfl,ht⟩|⟨i,hi,hn',rfl⟩
   ·refine⟨true,⟨λ _=> .mk _ _ (by omega) (by rw[aac ha,h3]) λ k hk=> ?_,λ _=>rfl⟩,he.mono λ n hn=> ?_⟩
    ·obtain⟨j,hj,rfl⟩:=aay hk;exact ht j hj hj
    ·exact(hh n).trans (congrArg (Option.bind · _) hn)
   ·refine⟨false,⟨λ h=>(by cases h),λ h=>absurd (λ _=>h.kid _ (aag hi)) hn'⟩,he.mono λ n hn=> ?_⟩;exact(hh n).trans (congrArg (Option.bind · _) hn)
  ·intro i hi;obtain⟨r,hr,he⟩:=ih ks[i] (aag hi) (aaJ (YM (aag hi)) hn);cases r
   ·exact .inr ⟨λ h=>(by have:=hr.mpr (h hi);cases this),he.mono λ n hn k=>by simp only[decide_true,cond_true,aai,ab9,fQ.L1,iG hi,fE hi,hn]⟩
   ·exact .inl ⟨λ _=>hr.mp rfl,he.mono λ n hn k=>by simp only[decide_true,cond_true,cond_false,aai,aa9,fQ.L1,iG hi,fE hi,hn,wrap_succ hi hk]⟩
  ·exact .all λ n k=>by simp only[decide_false,cond_false,aai,Au,fQ.L1]
 ·refine⟨false,⟨λ h=>(by cases h),λ h=>absurd h.ar ?_⟩,.all λ n=>by simp only[decide_false,cond_true,cond_false,aai,ab9,fQ.P,h1,h2,hx,h3]⟩;rw[aac ha];intro h;exact h3 (aao h).symm
theorem LW {F:Nat->Int×List (RT Int)×Int->Option Bool} {G:Nat->List Int->Option Bool} {K:Nat->List Int×Int×List (RT Int)->Option Bool} {al:List Int} {t:RT Int} {R:Bool->Prop}
 (h1:Sp F (t.a,t.kids,(300:Int)) R) (h2:Sp G al (λ r=>r=true ↔ adJ al)) (h3:Sp K (al,t.a,t.kids) (λ r=>r=true ↔ Shp al t)):
 Sp (λ n=>sJ.P (F n) (G n) (K n) n) (al,t.a,t.kids) (λ r=>r=true->Shp al t):=by
 obtain⟨r1,hr1,he1⟩:=h1;obtain⟨r2,hr2,he2⟩:=h2;obtain⟨r3,hr3,he3⟩:=h3;cases r2
 ·exact⟨false,λ h=>(by cases h),he2.mono λ n hn=>by simp only[cond_false,aai,sJ.P,hn]⟩
 cases r1
 ·exact⟨false,λ h=>(by cases h),(he1.and he2).mono λ n hn=>by simp only[cond_true,cond_false,aai,sJ.P,hn.1,hn.2]⟩
 exact⟨r3,hr3.mp,(he1.and (he2.and he3)).mono λ n hn=>by simp only[cond_true,aai,sJ.P,hn.1,hn.2.1,hn.2.2]⟩
inductive Reach (rs:List Rule):RT Int->Int->Prop
 |mk (r:Rule) (a:Int) (ks:List (RT Int)) (hr:r∈rs) (ha:r.1=a) (hl:r.2.1.length=ks.length)
  (hk: ∀(i:Nat) (k:RT Int) (f:Int),ks[i]? =some k->r.2.1[i]? =some f->Reach rs k f):Reach rs (.mk a ks) r.2.2
theorem dD {rs:List Rule} {a:Int} {ks:List (RT Int)} {q:Int}:Reach rs (.mk a ks) q ↔ ∃r∈rs,r.1=a/\r.2.2=q/\r.2.1.length=ks.length/\ ∀(i:Nat) (k:RT Int) (f:Int),ks[i]? =some k->r.2.1[i]? =some f->Reach rs k f:=by
 constructor
 ·intro h
  cases h with
  |mk r _ _ hr ha hl hk=>exact⟨r,hr,ha,rfl,hl,hk⟩
 ·rintro⟨r,hr,ha,rfl,hl,hk⟩;exact .mk r a ks hr ha hl hk
inductive Sub:RT Int->RT Int->Prop
 |refl (t):Sub t t
 |kid (u k:RT Int) (a:Int) (ks:List (RT Int)) (hk:k∈ks) (h:Sub u k):Sub u (.mk a ks)
theorem Shp.sub {al:List Int} {u t:RT Int} (h:Sub u t) (hs:Shp al t):Shp al u:=by
 induction h with
 |refl=>exact hs
 |kid k a ks hk h ih=>exact ih (hs.kid k hk)
def Ar (al:List Int) (rs:List Rule):Prop:= ∀r∈rs,0<=r.1/\al[r.1.toNat]? =some ((r.2.1.length:Nat):Int)
def Fit (s:Int) (qs:List (List Int)) (r:Rule):Prop:=r.1=s/\r.2.1.length=qs.length/\ ∀(i:Nat) (l:List Int) (f:Int),qs[i]? =some l->r.2.1[i]? =some f->f∈l
theorem afl {F:Nat->List Int×Int->Option Bool} {G:Nat->List Int×Int->Option (List Int)}
 (hF: ∀l v,l.length<=au->Sp F (l,v) (λ r=>r=true ↔ v∈l))
 (hG: ∀(l:List Int) v,l.length+1<=au->Sp G (l,v) (λ r=>(∀y,y∈r ↔ y=v\/y∈l)/\r.length<=l.length+1))
 (S:Int) (fin:List Int) (rs:List Rule) (s:Int) (qs:List (List Int)) (h1:rs.length+1<=au) (h2:qs.length<=au) (h3: ∀l∈qs,l.length<=au)
 (har: ∀r∈rs,r.1=s->r.2.1.length=qs.length):
 Sp (λ n=>jk.P (F n) (G n) n) (S,fin,rs,s,qs) (λ l=>(∀q,q∈l ↔ ∃r∈rs,Fit s qs r/\r.2.2=q)/\l.length<=rs.length):=by
 have inner: ∀(acc:List Int) (i:Nat) (r:Rule),r∈rs->Lp (λ n=>jk.L1 (F n)) (s,qs,acc,r.1,r.2.1,r.2.2,decide (r.1=s),(0:Int),rs,((rs.length:Nat):Int),(i:Int))
  (λ t=> ∃b:Bool,t=(s,qs,acc,r.1,r.2.1,r.2.2,b,rs,((rs.length:Nat):Int),(i:Int))/\(b=true ↔ Fit s qs r)):=by
  intro acc i r hr;refine Lp.range qs.length (λ j x=> ∃b:Bool,x=(s,qs,acc,r.1,r.2.1,r.2.2,b,(j:Int),rs,((rs.length:Nat):Int),(i:Int))/\(b=true ↔ r.1=s/\ ∀(i:Nat) (l:List Int) (f:Int),i<j->qs[i]? =some l->r.2.1[i]? =some f->f∈l)) ?_ ?_ _ ⟨_,rfl,?_⟩
  ·rintro j x hj ⟨b,rfl,hb⟩;cases b
   ·refine .inr ⟨_,⟨false,rfl,⟨λ h=>(by cases h),λ h=> ?_⟩⟩,.all λ n k=>by simp only[cond_false,aai,jk.L1]⟩;exact hb.mpr ⟨h.1,λ i l f _ hl hf=>h.2.2 i l f hl hf⟩
   ·have hb':=hb.mp rfl;have hl:=har r hr hb'.1;have hj':j<r.2.1.length:=by omega
    obtain⟨v,hv,he⟩:=hF qs[j] r.2.1[j] (h3 _ (aag hj));refine .inl ⟨_,⟨v,rfl,hv.trans ⟨λ h=>⟨hb'.1,λ i l f hi hl hf=> ?_⟩,λ h=>h.2 j _ _ (by omega) (aac hj) (aac hj')⟩⟩,he.mono λ n hn k=>by simp only[decide_true,cond_true,aai,jk.L1,iG hj,fE hj,fE hj',hn,wrap_succ hj h2]⟩;rcases aaY (aa8 hi)with hi|rfl
    ·exact hb'.2 i l f hi hl hf
    ·rw[aac hj]at hl;rw[aac hj']at hf;cases hl;cases hf;exact h
  ·rintro x ⟨b,rfl,hb⟩;refine .inr ⟨_,⟨b,rfl,hb.trans ⟨λ h=>⟨h.1,har r hr h.1,λ i l f hl hf=>h.2 i l f ?_ hl hf⟩,λ h=>⟨h.1,λ i l f _ hl hf=>h.2.2 i l f hl hf⟩⟩⟩,.all λ n k=>by cases b<;>simp only[decide_false,cond_true,cond_false,aai,Au,jk.L1]⟩;exact(aaf.mp hl).1
  ·rw[decide_eq_true_iff];exact⟨λ h=>⟨h,λ i l f hi=>absurd hi (by omega)⟩,λ h=>h.1⟩
 have outer:Lp (λ n=>jk.L2 (F n) n (G n)) (s,qs,([]:List Int),rs,((rs.length:Nat):Int),(0:Int)) (λ l=>(∀q,q∈l ↔ ∃r∈rs,Fit s qs r/\r.2.2=q)/\l.length<=rs.length):=by
  refine Lp.range rs.length (λ i x=> ∃acc:List Int,x=(s,qs,acc,rs,((rs.length:Nat):Int),(i:Int))/\(∀q,q∈acc ↔ ∃r∈rs.take i,Fit s qs r/\r.2.2=q)/\acc.length<=i) ?_ ?_ _ ⟨[],rfl,λ q=>by simp,aaq _⟩
  ·rintro i x hi ⟨acc,rfl,hacc,hlen⟩;obtain⟨t,⟨b,rfl,hb⟩,he⟩:=(inner acc i rs[i] (aag hi)).ev;have e:rs.take (i+1)=rs.take i++[rs[i]]:=(SV hi).symm;cases b
   ·refine .inl ⟨_,⟨acc,rfl,λ q=>(hacc q).trans ?_,by omega⟩,he.mono λ n hn k=>by simp only[decide_true,cond_true,cond_false,aai,jk.L2,iG hi,fE hi,hn,wrap_succ hi (m:=rs.length) (by omega)]⟩;rw[e];constructor
    ·rintro⟨r,hr,h⟩;exact⟨r,aaH _ hr,h⟩
    ·rintro⟨r,hr,h⟩;rcases aau.mp hr with hr|hr
     ·exact⟨r,hr,h⟩
     ·obtain rfl:=aam.mp hr;exact absurd (hb.mpr h.1) (by simp)
   ·obtain⟨acc',⟨hm,hl'⟩,he'⟩:=hG acc rs[i].2.2 (by omega);refine .inl ⟨_,⟨acc',rfl,λ q=>(hm q).trans ?_,by omega⟩,(he.and he').mono λ n hn k=>by simp only[decide_true,cond_true,aai,jk.L2,iG hi,fE hi,hn.1,hn.2,wrap_succ hi (m:=rs.length) (by omega)]⟩;rw[e,hacc];constructor
    ·rintro(rfl|⟨r,hr,h⟩)
     ·exact⟨rs[i],abl _ (aam.mpr rfl),hb.mp rfl,rfl⟩
     ·exact⟨r,aaH _ hr,h⟩
    ·rintro⟨r,hr,h⟩;rcases aau.mp hr with hr|hr
     ·exact .inr ⟨r,hr,h⟩
     ·obtain rfl:=aam.mp hr;exact .inl h.2.symm
  ·rintro x ⟨acc,rfl,hacc,hlen⟩;exact .inr ⟨_,⟨λ q=>by rw[hacc,aaC],hlen⟩,.all λ n k=>by simp only[decide_false,cond_false,Au,jk.L2]⟩
 obtain⟨t,ht,he⟩:=outer.ev;exact⟨t,ht,he.mono λ n hn=>by simp only[jk.P,hn,aai]⟩
theorem aiq {F:Nat->Int×List Int×List Rule×Int×List (RT Int)->Option (List Int)} {G:Nat->Int×List Int×List Rule×Int×List (List Int)->Option (List Int)}
 (hF: ∀n x,F (n+1) x=sQ.P (F n) (G n) n x) (al:List Int) (S:Int) (fin:List Int) (rs:List Rule) (h1:rs.length+1<=au) (har:Ar al rs)
 (hG: ∀s (qs:List (List Int)),qs.length<=au->(∀l∈qs,l.length<=au)->(∀r∈rs,r.1=s->r.2.1.length=qs.length)->Sp G (S,fin,rs,s,qs) (λ l=>(∀q,q∈l ↔ ∃r∈rs,Fit s qs r/\r.2.2=q)/\l.length<=rs.length))
 (t:RT Int):nds t<=au->Shp al t->Sp F (S,fin,rs,t.a,t.kids) (λ l=>(∀q,q∈l ↔ Reach rs t q)/\l.length<=rs.length):=by
 induction t using yA with
 |h a ks ih=>
 intro hn hs;have hk:ks.length<=au:=aaJ YN hn;refine Sp.step (F:=F) (G:=λ n=>sQ.P (F n) (G n) n) hF ?_;simp only[RT.a,RT.kids]
 have hL:Lp (λ n=>sQ.L1 (F n)) (S,fin,rs,a,ks,([]:List (List Int)),ks,((ks.length:Nat):Int),(0:Int))
  (λ x=> ∃qs:List (List Int),x=(S,fin,rs,a,ks,qs)/\qs.length=ks.length/\ ∀(j:Nat) (k:RT Int) (l:List Int),ks[j]? =some k->qs[j]? =some l->(∀q,q∈l ↔ Reach rs k q)/\l.length<=rs.length):=by
  refine Lp.range ks.length (λ i x=> ∃qs:List (List Int),x=(S,fin,rs,a,ks,qs,ks,((ks.length:Nat):Int),(i:Int))/\qs.length=i/\ ∀(j:Nat) (k:RT Int) (l:List Int),ks[j]? =some k->qs[j]? =some l->(∀q,q∈l ↔ Reach rs k q)/\l.length<=rs.length) ?_ ?_ _ ⟨[],rfl,rfl,λ j k l _ h=>by simp at h⟩
  ·rintro i x hi ⟨qs,rfl,hq,hqs⟩;obtain⟨r,hr,he⟩:=ih ks[i] (aag hi) (aaJ (YM (aag hi)) hn) (hs.kid _ (aag hi));have e:qs.length+1<=au:=by omega
   refine .inl ⟨_,⟨qs++[r],rfl,by simp[hq],λ j k l hk hl=> ?_⟩,he.mono λ n hn k=>by simp only[decide_true,cond_true,aai,sQ.L1,iG hi,fE hi,hn,len1,e,wrap_succ hi hk];rfl⟩;rw[List.getElem?_append]at hl;split at hl
   ·exact hqs j k l hk hl
   ·have hj:j=i:=by
     have:=(aaf.mp hl).1;simp at this;omega
    subst hj;rw[aac hi]at hk;have:l=r:=by simpa [hq]using hl.symm
    cases hk;rw[this];exact hr
  ·rintro x ⟨qs,rfl,hq,hqs⟩;exact .inr ⟨_,⟨qs,rfl,hq,hqs⟩,.all λ n k=>by simp only[decide_false,cond_false,Au,sQ.L1]⟩
 obtain⟨x,⟨qs,rfl,hq,hqs⟩,he⟩:=hL.ev;have hkid: ∀j (hj:j<ks.length),∃l,qs[j]? =some l:=λ j hj=>⟨_,aac (by omega)⟩
 obtain⟨r,⟨hr,hr'⟩,he2⟩:=hG a qs (by omega) (λ l hl=>by
  obtain⟨j,hj,rfl⟩:=aay hl;have:=(hqs j _ _ (aac (by omega)) (aac hj)).2;omega) (λ r hr ha=>by
  have h:=(har r hr).2;rw[ha,hs.ar]at h;have:=aao h;omega)
 refine⟨r,⟨λ q=> ?_,hr'⟩,(he.and he2).mono λ n hn=>by simp only[sQ.P,hn.1,hn.2,aai]⟩;rw[hr,dD];constructor
 ·rintro⟨r,hrm,⟨ha,hl,hf⟩,rfl⟩;refine⟨r,hrm,ha,rfl,by omega,λ i k f hk' hf'=> ?_⟩;obtain⟨l,hl'⟩:=hkid i (aaf.mp hk').1;exact((hqs i k l hk' hl').1 f).mp (hf i l f hl' hf')
 ·rintro⟨r,hrm,ha,rfl,hl,hf⟩;refine⟨r,hrm,⟨ha,by omega,λ i l f hl' hf'=> ?_⟩,rfl⟩;have hi:i<ks.length:=by have:=(aaf.mp hl').1;omega
  exact((hqs i _ l (aac hi) hl').1 f).mpr (hf i _ f (aac hi) hf')
def Acc (rs:List Rule) (fin:List Int) (t:RT Int):Prop:= ∃q,Reach rs t q/\q∈fin
theorem ag7 {F:Nat->List Int×List Int->Option Bool} {G:Nat->Int×List Int×List Rule×Int×List (RT Int)->Option (List Int)} {S:Int} {fin:List Int} {rs:List Rule} {t:RT Int}
 (h1:rs.length<=au) (h2:fin.length<=au)
 (hF: ∀l1 l2:List Int,l1.length<=au->l2.length<=au->Sp F (l1,l2) (λ r=>r=true ↔ ∃q,q∈l1/\q∈l2))
 (hG:Sp G (S,fin,rs,t.a,t.kids) (λ l=>(∀q,q∈l ↔ Reach rs t q)/\l.length<=rs.length)):
 Sp (λ n=>EJ.P (F n) (G n) n) (S,fin,rs,t.a,t.kids) (λ r=>r=true ↔ Acc rs fin t):=by
 obtain⟨l,⟨hl,hl'⟩,he⟩:=hG;obtain⟨r,hr,he2⟩:=hF l fin (by omega) h2;refine⟨r,hr.trans ?_,(he.and he2).mono λ n hn=>by simp only[EJ.P,hn.1,hn.2,aai]⟩;simp only[hl,Acc]
theorem dV.rule {al:List Int} {a:Aut} (h:dV al a) {r:Rule} (hr:r∈a.2.2):L9 al a.1 r:=by
 obtain⟨i,hi,rfl⟩:=aay hr;exact h.2.2.2.2.2 i hi hi
theorem dV.final {al:List Int} {a:Aut} (h:dV al a) {q:Int} (hq:q∈a.2.1):dH a.1 q:=by
 obtain⟨i,hi,rfl⟩:=aay hq;exact(h.2.2.2.2.1 i hi hi).1
section
variable {al:List Int} {S:Int}
theorem L9.from {r:Rule} (h:L9 al S r) {i:Nat} {f:Int} (hf:r.2.1[i]? =some f):dH S f:=by
 obtain⟨hi,rfl⟩:=aaf.mp hf;exact h.2.2.2.2 i hi hi
theorem L9.ar {r:Rule} (h:L9 al S r):0<=r.1/\al[r.1.toNat]? =some ((r.2.1.length:Nat):Int):=by
 refine⟨h.1,?_⟩;have:r.1.toNat<al.length:=by have:=h.1;have:=h.2.1;omega
 rw[aac this,h.2.2.1 this]
theorem dV.ar {a:Aut} (h:dV al a):Ar al a.2.2:=λ r hr=>(h.rule hr).ar
end
end Go.Bk
end
noncomputable section
namespace Go.Bk
open Go Go.AM
def rows {α:Type} (L:List α):List (Option α):=L.map some
theorem sU {α:Type} (L:List α):(rows L).length=L.length:=aaN ..
theorem EL {α:Type} (L:List α) (i:Nat) (y:α):List.set (List.set (rows L) i none) i (some y)=rows (L.set i y):=by
 rw[List.set_set];exact(List.map_set ..).symm
theorem Ii {α:Type} (n:Nat) (y:α):List.replicate n (some y)=rows (List.replicate n y):=(List.map_replicate ..).symm
theorem EK {α:Type}: ∀L:List α,qX (rows L)=some L
 | []=>rfl
 |x::L=>by show(qX (rows L)).map (x:: ·)=_;rw[EK L];rfl
theorem ae4 {α:Type} {L:List α} {i:Nat} (h:i<L.length):rowAt? (rows L) i=some L[i]:=by
 unfold rowAt? rows;rw[aar,aac h];rfl
theorem Bd.row {α σ τ:Type} {I:σ->Prop} {Q:τ->Prop} {L:List α} {i:Nat} {G:Nat->(σ->Option τ)->α->Option τ} (h:i<L.length) (hG:Bd (λ n k=>G n k L[i]) I Q):Bd (λ n k=>(rowAt? (rows L) i).bind (G n k)) I Q:=by
 rw[ae4 h];exact hG
theorem YI {S:Int} {l:List Int} (hn:l.Nodup) (h: ∀q∈l,dH S q):l.length<=S.toNat:=by
 have:=hn.length_le_of_subset (l₂:=(List.range S.toNat).map λ i:Nat=>(i:Int)) λ q hq=>by
  obtain⟨h0,h1⟩:=h q hq;exact aaL.2 ⟨q.toNat,abW.2 (by omega),by omega⟩
 simpa using this
theorem qQ {α β:Type} [DecidableEq α] {q:α->α->Bool} (hq: ∀a b,q a b=true ↔ a=b) (x y:α) (v:β): ∀l:List (α×β),og q x (E5 q y v l)=if x=y then some v else og q x l
 | []=>by
   simp only[E5,og,cond_eq_ite];by_cases h:x=y
   ·rw[if_pos ((hq x y).2 h),if_pos h]
   ·rw[if_neg λ e=>h ((hq x y).1 e),if_neg h]
 |p::l=>by
  simp only[E5,cond_eq_ite];split
  ·rename_i hy;have hy:=(hq y p.1).1 hy;simp only[og,cond_eq_ite];by_cases h:x=y
   ·rw[if_pos ((hq x y).2 h),if_pos h]
   ·rw[if_neg λ e=>h ((hq x y).1 e),if_neg h,if_neg λ e=>h (((hq x p.1).1 e).trans hy.symm)]
  ·rename_i hy;simp only[og,cond_eq_ite,qQ hq x y v l];split
   ·rename_i hx;have hx:=(hq x p.1).1 hx;rw[if_neg λ e:x=y=>hy ((hq y p.1).2 (e.symm.trans hx))]
   ·rfl
theorem aev (a b:Int):ieq a b=true ↔ a=b:=decide_eq_true_iff
theorem Bo (a b:ByteArray):seq a b=true ↔ a=b:=decide_eq_true_iff
theorem ZY (a b:Bool):afR a b=true ↔ a=b:=by cases a<;>cases b<;>simp[afR]
def QOk (l:List Int) (m:Option (List (Int×Bool))):Prop:=l.Nodup/\ ∀x,Option.getD (og ieq x (l9 m)) false=true ↔ x∈l
theorem Y6:QOk [] none:=⟨List.nodup_nil,λ x=>by simp[l9,og]⟩
theorem ahb (l:List Int) (m:Option (List (Int×Bool))) (x:Int) (h:QOk l m) (hl:l.length<=1000000):
 Sp jM.P (l,m,x) (λ r=>QOk r.1 r.2/\((x∈l/\r.1=l)\/(x∉l/\r.1=l++[x]))):=by
 show Tt (λ n=>jM.P n (l,m,x)) _
 have key: ∀m:Option (List (Int×Bool)),QOk l m->m.isNone=false->Tt (λ _:Nat=>(bif !(Option.getD (og ieq x (l9 m)) false)then
  (m.bind λ m2=>bif decide (List.length l+List.length ([x]:List Int)<=au)then some (List.append l ([x]:List Int),some (E5 ieq x true m2))else none)
  else some (l,m)).bind λ x3=>some (x3.1,x3.2)) (λ r=>QOk r.1 r.2/\((x∈l/\r.1=l)\/(x∉l/\r.1=l++[x]))):=by
  intro m h hm;refine Tt.eU (λ hc=> ?_) (λ hc=> ?_)
  ·have hx:x∉l:=λ hx=>by rw[(h.2 x).2 hx]at hc;cases hc
   cases m with
   |none=>cases hm
   |some m=>
    refine Tt.iU (pY (by simp;omega)) (Tt.pure ⟨⟨acC.2 ⟨h.1,by simp,λ a ha b hb e=>hx (by rw[←aam.1 hb,←e];exact ha)⟩,λ y=> ?_⟩,.inr ⟨hx,rfl⟩⟩);show Option.getD (og ieq y (E5 ieq x true m)) false=true ↔ y∈l++[x];rw[qQ aev,aau,aam];by_cases e:y=x
    ·rw[if_pos e];simp[e]
    ·rw[if_neg e];simp only[e,or_false];exact h.2 y
  ·have hx:x∈l:=(h.2 x).1 (by simpa using hc);exact Tt.pure ⟨h,.inl ⟨hx,rfl⟩⟩
 unfold jM.P;dsimp only;refine Tt.eU (λ hc=> ?_) (λ hc=> ?_)
 ·exact key (some []) ⟨h.1,λ y=>by have:=h.2 y;cases m with|none=>exact this|some _=>cases hc⟩ rfl
 ·exact key m h hc
def Wf (S:Int) (fin:List Int) (rs:List Rule):Prop:=
 0<=S/\S<=1000/\fin.length<=1000/\rs.length<=100000/\(∀q∈fin,dH S q)/\ ∀r∈rs,dH S r.2.2/\(∀q∈r.2.1,dH S q)/\r.2.1.length<=3
theorem dV.wf {al:List Int} {a:Aut} (h:dV al a):Wf a.1 a.2.1 a.2.2:=by
 refine⟨h.2.1,by have:=h.2.2.1;omega,?_,by have:=h.2.2.2.1;omega,λ q hq=>h.final hq,λ r hr=> ?_⟩
 ·have h2: ∀(j i:Nat) (hi:i<a.2.1.length) (hj:j<a.2.1.length),i<j->a.2.1[i]<a.2.1[j]:=by
   intro j
   induction j with
   |zero=>intro i hi hj hij;omega
   |succ j ih=>
    intro i hi hj hij;have h3:=(h.2.2.2.2.1 (j+1) hj hj).2 (by omega);simp only[Nat.add_sub_cancel]at h3;rcases aaY (aa8 hij)with h4|rfl
    ·have:=ih i hi (by omega) h4;omega
    ·exact h3
  have hnd:a.2.1.Nodup:=by
   rw[List.nodup_iff_pairwise_ne,abx];intro i j hi hj hij e;have:=h2 j i hi hj hij;omega
  have:=YI hnd λ q hq=>h.final hq;have:=h.2.2.1;have:=h.2.1;omega
 ·have hk:=h.rule hr;refine⟨hk.2.2.2.1,λ q hq=> ?_,?_⟩
  ·obtain⟨i,hi,rfl⟩:=aay hq;exact hk.2.2.2.2 i hi hi
  ·have h1:r.1.toNat<al.length:=by have:=hk.1;have:=hk.2.1;omega
   have:=hk.2.2.1 h1;have:=(h.1.2 _ h1).2;omega
def ahf (al:List Int) (rs:List Rule) (by_:List (List Int)):Prop:=
 by_.length=al.length/\ ∀(s:Nat) (l:List Int),by_[s]? =some l->l.length<=rs.length/\ ∀v,v∈l ↔ ∃(i:Nat) (r:Rule),v=(i:Int)/\rs[i]? =some r/\r.1=(s:Int)
theorem aip (al:List Int) (S:Int) (fin:List Int) (rs:List Rule) (hal:al.length<=1000) (hrl:rs.length<=100000) (hs: ∀r∈rs,0<=r.1/\r.1<((al.length:Nat):Int)):
 Sp xA.P (al,S,fin,rs) (ahf al rs):=by
 show Tt (λ n=>xA.P n (al,S,fin,rs)) _;unfold xA.P;dsimp only;refine Tt.chk (wP (by omega) (by omega)) ?_
 refine Tt.bind (R:=λ x=> ∃L,x=rows L/\ahf al rs L) (Tt.loop (Lp.count rs.length (λ i s=> ∃L:List (List Int),L.length=al.length/\
  (∀(s:Nat) (l:List Int),L[s]? =some l->l.length<=i/\ ∀v,v∈l ↔ ∃(j:Nat) (r:Rule),j<i/\v=(j:Int)/\rs[j]? =some r/\r.1=(s:Int))/\s=(rows L,rs,((rs.length:Nat):Int),(i:Int))) ?_ ?_ ?_)) ?_
 ·rintro i s hi ⟨L,hL,hI,rfl⟩;unfold xA.L1;dsimp only;obtain⟨q0,q1⟩:=hs rs[i] (aag hi);have hq:rs[i].1.toNat<L.length:=by omega
  have hq2:=hI _ _ (aac hq);refine Bd.yes (aT (by omega)) (Bd.nth hi (Bd.chk (rng q0 (by rw[sU];omega)) (Bd.row hq (Bd.row hq (Bd.chk (pY (by simp;omega)) (Bd.chk (rng q0 (by rw[aa0,sU];omega)) (Bd.again ?_)))))));rw[EL];refine⟨L.set rs[i].1.toNat (List.append L[rs[i].1.toNat] [(i:Int)]),by simpa using hL,λ s l hl=> ?_,by rw[aA (by omega)]⟩;rw[aaS]at hl
  have step: ∀(v:Int) (Z:Prop),(Z ↔ ∃(j:Nat) (r:Rule),j<i/\v=(j:Int)/\rs[j]? =some r/\r.1=(s:Int))->((Z\/(v=(i:Int)/\rs[i].1=(s:Int))) ↔ ∃(j:Nat) (r:Rule),j<i+1/\v=(j:Int)/\rs[j]? =some r/\r.1=(s:Int)):=by
   intro v Z hZ;rw[hZ];constructor
   ·rintro(⟨j,r,h1,h2,h3,h4⟩|⟨h1,h2⟩)
    ·exact⟨j,r,by omega,h2,h3,h4⟩
    ·exact⟨i,rs[i],by omega,h1,aac hi,h2⟩
   ·rintro⟨j,r,h1,h2,h3,h4⟩;rcases aaY (aa8 h1)with h5|rfl
    ·exact .inl ⟨j,r,h5,h2,h3,h4⟩
    ·rw[aac hi]at h3;cases h3;exact .inr ⟨h2,h4⟩
  split at hl
  ·rename_i e;cases hl;refine⟨by simp;omega,λ v=> ?_⟩;rw[←step v _ ((hI s _ (by rw[←e];exact aac hq)).2 v)];simp only[abt,aau,aam];have:rs[i].1=(s:Int):=by omega
   simp[this]
  ·rename_i e;obtain⟨a1,a2⟩:=hI s l hl;refine⟨by omega,λ v=> ?_⟩;rw[←step v _ (a2 v)];have:rs[i].1≠(s:Int):=by omega
   simp[this]
 ·rintro s ⟨L,hL,hI,rfl⟩;unfold xA.L1;dsimp only;refine Bd.no (decide_eq_false (by omega)) (Bd.done ⟨L,rfl,hL,λ s l hl=> ?_⟩);obtain⟨a1,a2⟩:=hI s l hl;refine⟨a1,λ v=>(a2 v).trans ⟨λ⟨j,r,h1,h2⟩=>⟨j,r,h2⟩,λ⟨j,r,h2⟩=>⟨j,r,?_,h2⟩⟩⟩;rcases aaE j rs.length with h|h
  ·exact h
  ·rw[aah h]at h2;cases h2.2.1
 ·refine⟨List.replicate al.length [],by simp,λ s l hl=> ?_,by rw[Ii];rfl⟩;rw[abw]at hl;split at hl
  ·cases hl;exact⟨by simp,λ v=>⟨λ h=>by simp at h,λ⟨j,r,h,_⟩=>absurd h (by omega)⟩⟩
  ·cases hl
 ·rintro x ⟨L,rfl,hL⟩;rw[EK];exact Tt.pure hL
def nf (l:List Bool):Nat:=l.count false
theorem Ew {l:List Bool} {i:Nat} (h:l[i]? =some false):nf (l.set i true)<nf l:=by
 unfold nf
 have hi:i<l.length:=by
  rcases aaE i l.length with h'|h'
  ·exact h'
  ·simp[aah h']at h
 rw[aac hi]at h;have h:=aao h;rw[List.count_set hi,h];have:0<l.count false:=List.count_pos_iff.2 (h▸aag hi);simp;omega
def cnt (U:List (List Int)) (s:Nat) (v:Int):Nat:=(U[s]?.getD []).count v
theorem aej {U:List (List Int)} {s0:Nat} (h:s0<U.length) (i:Int) (s:Nat) (v:Int):cnt (U.set s0 (List.append U[s0] [i])) s v=cnt U s v+if s=s0/\v=i then 1 else 0:=by
 unfold cnt;rw[aaS];by_cases e:s0=s
 ·subst e;rw[if_pos rfl,if_pos h,aac h];simp only[abq,abt,List.count_append,List.count_singleton,true_and,beq_iff_eq];congr 1;by_cases e:v=i
  ·simp[e]
  ·rw[if_neg e,if_neg (λ x=>e x.symm)]
 ·rw[if_neg e,if_neg (λ x=>e x.1.symm)];rfl
theorem adu (S:Int) (fin fr:List Int) (rs:List Rule) (out:List Bool) (left q:List Int) (m:Option (List (Int×Bool))) (c:Int) (i:Int) (x9 x11:Int) (x10:List Int) (x12:List Rule) (x13:Int) (U:List (List Int)) (b:Nat)
 (hU:U.length=S.toNat) (hb: ∀l∈U,l.length<=b) (hb2:b<=1000000) (hfr:fr.length<=3) (hf: ∀s∈fr,dH S s):
 Lp (λ _=>bT.L1) (S,fin,rs,out,left,rows U,q,m,i,x9,x10,x11,x12,x13,c,fr,((fr.length:Nat):Int),(0:Int))
  (λ t=> ∃V:List (List Int),t=(S,fin,rs,out,left,rows V,q,m,i,x9,x10,x11,x12,x13,c)/\V.length=S.toNat/\(∀l∈V,l.length<=b+3)/\ ∀s v,cnt V s v=cnt U s v+if v=i then fr.count (s:Int)else 0):=by
 refine Lp.count fr.length (λ j t=> ∃V:List (List Int),t=(S,fin,rs,out,left,rows V,q,m,i,x9,x10,x11,x12,x13,c,fr,((fr.length:Nat):Int),(j:Int))/\V.length=S.toNat/\(∀l∈V,l.length<=b+j)/\
  ∀s v,cnt V s v=cnt U s v+if v=i then(fr.take j).count (s:Int)else 0) ?_ ?_ ⟨U,rfl,hU,by simpa using hb,by simp⟩
 ·rintro j t hj ⟨V,rfl,hV,hl,hc⟩;unfold bT.L1;dsimp only;obtain⟨q0,q1⟩:=hf fr[j] (aag hj);have hq:fr[j].toNat<V.length:=by omega
  have hb3:=hl _ (aag hq);refine Bd.yes (aT (by omega)) (Bd.nth hj (Bd.chk (rng q0 (by rw[sU];omega)) (Bd.row hq (Bd.row hq (Bd.chk (pY (by simp;omega)) (Bd.chk (rng q0 (by rw[aa0,sU];omega)) (Bd.again ?_)))))));rw[EL];refine⟨_,by rw[aA (by omega)],by simpa using hV,λ l h=> ?_,λ s v=> ?_⟩
  ·rcases abE h with h|rfl
   ·have:=hl l h;omega
   ·simp;omega
  ·rw[aej hq,hc,aaD,aac hj];simp only[abd,List.count_append,List.count_singleton,beq_iff_eq];by_cases e:v=i
   ·simp only[e,if_true,and_true];rw[abC];congr 2;by_cases e2:s=fr[j].toNat
    ·rw[if_pos e2,if_pos (by omega)]
    ·rw[if_neg e2,if_neg (by omega)]
   ·simp[e]
 ·rintro t ⟨V,rfl,hV,hl,hc⟩;unfold bT.L1;dsimp only;refine Bd.no (decide_eq_false (by omega)) (Bd.done ⟨V,rfl,hV,λ l h=>by have:=hl l h;omega,λ s v=> ?_⟩);rw[hc,aaC]
def XC (S:Int) (rs:List Rule) (i:Nat) (U:List (List Int)):Prop:=
 U.length=S.toNat/\(∀l∈U,l.length<=3*i)/\ ∀s,(∀(j:Nat) (r:Rule),j<i->rs[j]? =some r->cnt U s (j:Int)=r.2.1.count (s:Int))/\ ∀v,(¬ ∃j:Nat,j<i/\v=(j:Int))->cnt U s v=0
abbrev ZR (P:Nat->List Int×Option (List (Int×Bool))×Int->Option (List Int×Option (List (Int×Bool)))):Prop:=
 ∀l m x,QOk l m->l.length<=1000000->Sp P (l,m,x) (λ r=>QOk r.1 r.2/\((x∈l/\r.1=l)\/(x∉l/\r.1=l++[x])))
def Rch (rs:List Rule) (s:Int):Prop:= ∃t,Reach rs t s
theorem VK {rs:List Rule} {r:Rule} (hr:r∈rs) (h: ∀s∈r.2.1,Rch rs s):Rch rs r.2.2:=by
 have hch: ∀i:Nat,∃t:RT Int,∀f:Int,r.2.1[i]? =some f->Reach rs t f:=by
  intro i;rcases aaE i r.2.1.length with hi|hi
  ·obtain⟨t,ht⟩:=h _ (aag hi);exact⟨t,λ f hf=>by rw[aac hi]at hf;cases hf;exact ht⟩
  ·exact⟨.mk 0 [],λ f hf=>absurd (aaf.1 hf).1 (by omega)⟩
 refine⟨.mk r.1 ((List.range r.2.1.length).map λ i=>(hch i).choose),dD.2 ⟨r,hr,rfl,rfl,by simp,λ i k f hk hf=> ?_⟩⟩;have hi:=(aaf.1 hf).1;rw[aar,abZ hi]at hk;cases hk;exact(hch i).choose_spec f hf
def QSt (W:Int->Prop) (S:Int) (q:List Int) (m:Option (List (Int×Bool))):Prop:=QOk q m/\ ∀x∈q,dH S x/\W x
theorem QSt.len {W:Int->Prop} {S:Int} {q:List Int} {m:Option (List (Int×Bool))} (h:QSt W S q m) (hS:S<=1000):q.length<=1000:=by
 have:=YI h.1.1 λ x hx=>(h.2 x hx).1;omega
theorem QSt.put {W:Int->Prop} {S:Int} {q:List Int} {m:Option (List (Int×Bool))} {P:Nat->List Int×Option (List (Int×Bool))×Int->Option (List Int×Option (List (Int×Bool)))} (hP:ZR P) (h:QSt W S q m) (hS:S<=1000) {x:Int} (hx:dH S x) (hw:W x):
 Sp P (q,m,x) (λ r=>QSt W S r.1 r.2/\x∈r.1/\ ∃z,r.1=q++z):=by
 refine(hP q m x h.1 (by have:=h.len hS;omega)).mono λ r hr=> ?_;rcases hr.2 with⟨h1,h2⟩|⟨h1,h2⟩
 ·exact⟨⟨hr.1,by rw[h2];exact h.2⟩,by rw[h2];exact h1,[],by rw[h2];simp⟩
 ·refine⟨⟨hr.1,λ y hy=> ?_⟩,by rw[h2];simp,[x],h2⟩;rw[h2,aau]at hy;rcases hy with hy|hy
  ·exact h.2 y hy
  ·rw[aam.1 hy];exact⟨hx,hw⟩
theorem IQ {T:List Int} {e:Int} (he:e∉T) (l:List Int):l.countP (λ s=>decide (s∉T++[e]))+l.count e=l.countP (λ s=>decide (s∉T)):=by
 induction l with
 |nil=>rfl
 |cons a l ih=>
  rw[List.countP_cons,List.countP_cons,List.count_cons];by_cases h:a=e
  ·subst h;have h1:decide (a∉T++[a])=false:=by simp
   have h2:decide (a∉T)=true:=by simp[he]
   rw[h1,h2];simp only[beq_self_eq_true,if_true,aa3,if_false];omega
  ·have h1:decide (a∉T++[e])=decide (a∉T):=by simp[h]
   rw[h1];simp only[beq_iff_eq,h,if_false];omega
theorem SA {P:Nat->List Int×Option (List (Int×Bool))×Int->Option (List Int×Option (List (Int×Bool)))} (hP:ZR P) (S:Int) (fin:List Int) (rs:List Rule) (h:Wf S fin rs):
 Sp (λ n=>bT.P (P n) n) (S,fin,rs) (λ R=>R.length=S.toNat/\(∀r∈rs,(∀s∈r.2.1,R[s.toNat]? =some true)->R[r.2.2.toNat]? =some true)/\ ∀s,dH S s->R[s.toNat]? =some true->Rch rs s):=by
 obtain⟨h0,hS,hfl,hrl,hfin,hr⟩:=h;show Tt (λ n=>bT.P (P n) n (S,fin,rs)) _;unfold bT.P;dsimp only;refine Tt.chk (wP h0 (by omega)) (Tt.chk (wP (by omega) (by omega)) (Tt.chk (wP h0 (by omega)) ?_))
 refine Tt.bind (R:=λ t=> ∃(left:List Int) (U:List (List Int)) (q:List Int) (m:Option (List (Int×Bool))),t=(S,fin,rs,List.replicate S.toNat false,left,rows U,q,m)/\left.length=rs.length/\(∀(j:Nat) (r:Rule),rs[j]? =some r->left[j]? =some ((r.2.1.length:Nat):Int))/\
  XC S rs rs.length U/\QSt (Rch rs) S q m/\ ∀(j:Nat) (r:Rule),rs[j]? =some r->r.2.1= []->r.2.2∈q)
  (Tt.loop (Lp.count rs.length (λ i t=> ∃(left:List Int) (U:List (List Int)) (q:List Int) (m:Option (List (Int×Bool))),t=(S,fin,rs,List.replicate S.toNat false,left,rows U,q,m,rs,((rs.length:Nat):Int),(i:Int))/\left.length=rs.length/\
   (∀(j:Nat) (r:Rule),j<i->rs[j]? =some r->left[j]? =some ((r.2.1.length:Nat):Int))/\XC S rs i U/\QSt (Rch rs) S q m/\ ∀(j:Nat) (r:Rule),j<i->rs[j]? =some r->r.2.1= []->r.2.2∈q) ?_ ?_ ?_)) ?_
 ·rintro i t hi ⟨left,U,q,m,rfl,hl,hl2,⟨hu1,hu2,hu3⟩,hq,hq2⟩;unfold bT.L2;dsimp only;obtain⟨hto,hfr,hfl3⟩:=hr rs[i] (aag hi);refine Bd.yes (aT (by omega)) (Bd.nth hi (Bd.chk (rng (by omega) (by omega)) ?_));rw[aat];refine Bd.at (by omega) λ _ _ _=> ?_;refine Bd.bind (Tt.loop (adu S fin rs[i].2.1 rs _ _ _ _ _ _ _ _ _ _ _ U (3*i) hu1 hu2 (by omega) hfl3 hfr)) ?_;rintro _ ⟨V,rfl,hV,hV2,hV3⟩;dsimp only;refine Bd.chk (rng (by omega) (by rw[aa0];omega)) ?_;rw[aat];refine Bd.at (by rw[aa0];omega) λ e _ he=> ?_;rw[aaS,if_pos rfl,if_pos (by omega)]at he;cases he
  have hUV:XC S rs (i+1) V:=by
   refine⟨hV,λ l h=>by have:=hV2 l h;omega,λ s=>⟨λ j r hj hjr=> ?_,λ v hv=> ?_⟩⟩
   ·rw[hV3];rcases aaY (aa8 hj)with h|rfl
    ·rw[(hu3 s).1 j r h hjr,if_neg (by omega)];rfl
    ·rw[aac hi]at hjr;cases hjr;rw[(hu3 s).2 _ (by rintro⟨k,hk,e⟩;omega),if_pos rfl,aaW]
   ·rw[hV3,(hu3 s).2 v (by rintro⟨k,hk,e⟩;exact hv ⟨k,by omega,e⟩),if_neg (by rintro rfl;exact hv ⟨i,by omega,rfl⟩)]
  have hleft: ∀(j:Nat) (r:Rule),j<i+1->rs[j]? =some r->(left.set i ((rs[i].2.1.length:Nat):Int))[j]? =some ((r.2.1.length:Nat):Int):=by
   intro j r hj hjr;rw[aaS];split
   ·rename_i e;subst e;rw[aac hi]at hjr;cases hjr;rw[if_pos (by omega)]
   ·exact hl2 j r (by omega) hjr
  refine Bd.eU (λ hz=> ?_) (λ hz=> ?_)
  ·refine Bd.fB (Bd.bind (hq.put hP hS hto (VK (aag hi) λ s hs=>by have e:rs[i].2.1= []:=aav (by have:=sW hz;omega);rw[e]at hs;cases hs)) ?_);rintro⟨q',m'⟩ ⟨g1,g2,z,g3⟩;dsimp only at g1 g2 g3;refine Bd.aG (Bd.again ⟨_,V,q',m',by rw[aA (by omega)],by rw[aa0];exact hl,hleft,hUV,g1,λ j r hj hjr hn=> ?_⟩);rcases aaY (aa8 hj)with h|rfl
   ·rw[g3];exact aaH _ (hq2 j r h hjr hn)
   ·rw[aac hi]at hjr;cases hjr;exact g2
  ·refine Bd.aG (Bd.again ⟨_,V,q,m,by rw[aA (by omega)],by rw[aa0];exact hl,hleft,hUV,hq,λ j r hj hjr hn=> ?_⟩);rcases aaY (aa8 hj)with h|rfl
   ·exact hq2 j r h hjr hn
   ·rw[aac hi]at hjr;cases hjr;have:=dec_not hz;rw[hn]at this;exact absurd rfl this
 ·rintro t ⟨left,U,q,m,rfl,hl,hl2,hu,hq,hq2⟩;unfold bT.L2;dsimp only;have lt: ∀(j:Nat) (r:Rule),rs[j]? =some r->j<rs.length:=λ j r e=>(aaf.1 e).1;exact Bd.no (decide_eq_false (by omega)) (Bd.done ⟨left,U,q,m,rfl,hl,λ j r e=>hl2 j r (lt j r e) e,hu,hq,λ j r e=>hq2 j r (lt j r e) e⟩)
 ·refine⟨List.replicate rs.length 0,List.replicate S.toNat [],[],none,by rw[Ii];rfl,by simp,λ j r hj=>absurd hj (by omega),⟨by simp,λ l hl=> ?_,λ s=>⟨λ j r hj=>absurd hj (by omega),λ v _=> ?_⟩⟩,⟨Y6,by simp⟩,λ j r hj=>absurd hj (by omega)⟩
  ·rw[(List.mem_replicate.1 hl).2];simp
  ·unfold cnt;rw[abw];split<;>rfl
 rintro _ ⟨left,U,q,m,rfl,hl,hl2,⟨hu1,hu2,hu3⟩,hq,hq2⟩;dsimp only;rw[EK];refine Tt.aG ?_
 refine Tt.bind (R:=λ R:List Bool=>R.length=S.toNat/\(∀r∈rs,(∀s∈r.2.1,R[s.toNat]? =some true)->R[r.2.2.toNat]? =some true)/\ ∀s,dH S s->R[s.toNat]? =some true->Rch rs s)
  (Tt.loop (Lp.measure (λ t=> ∃(out:List Bool) (left q:List Int) (m:Option (List (Int×Bool))) (k:Nat),t=(S,fin,rs,out,left,U,q,m,(k:Int))/\out.length=S.toNat/\left.length=rs.length/\QSt (Rch rs) S q m/\k<=q.length/\
   (∀s:Int,dH S s->(out[s.toNat]? =some true ↔ s∈q.take k))/\ ∀(j:Nat) (r:Rule),rs[j]? =some r->left[j]? =some ((r.2.1.countP (λ s=>decide (s∉q.take k)):Nat):Int)/\(r.2.1.countP (λ s=>decide (s∉q.take k))=0->r.2.2∈q)) (λ t=>nf t.2.2.2.1) ?_ ?_)) λ R hR=>Tt.pure hR
 ·rintro _ ⟨out,left,q,m,k,rfl,ho,hl,hq,hk,hout,hleft⟩;unfold bT.L4;dsimp only;by_cases hkq:k<q.length
  ·refine Bd.yes (aT (by omega)) (Bd.chk (rng (by omega) (by omega)) ?_);rw[aat];refine Bd.at hkq λ e hem he=> ?_;obtain⟨⟨e0,e1⟩,_⟩:=hq.2 e hem;refine Bd.chk (rng e0 (by omega)) (Bd.at (by omega) λ _ _ _=>Bd.chk (rng (by omega) (by omega)) ?_);refine Bd.at hkq λ e' _ he'=> ?_;rw[he]at he';cases he';refine Bd.chk (rng e0 (by omega)) (Bd.at (by omega) λ row hrow hrow2=> ?_);have htk:q.take (k+1)=q.take k++[e]:=by rw[aaD,he];rfl
   have hek:e∉q.take k:=by
    intro hm;have hnd:=hq.1.1;rw[←abm k q,acC]at hnd;exact hnd.2.2 e hm e (by rw[aaI hkq,(aaf.1 he).2];exact abT ..) rfl
   have hfalse:out[e.toNat]? =some false:=by
    have hlt:e.toNat<out.length:=by omega
    rw[aac hlt];cases hb:out[e.toNat]with
    |false=>rfl
    |true=>exact absurd ((hout e ⟨e0,e1⟩).1 (by rw[aac hlt,hb])) hek
   have hcr: ∀v:Int,row.count v=cnt U e.toNat v:=λ v=>by unfold cnt;rw[hrow2];rfl
   have hrowl:row.length<=3*rs.length:=hu2 row hrow
   have hrj: ∀v∈row,∃(j:Nat) (r:Rule),v=(j:Int)/\rs[j]? =some r:=by
    intro v hv;by_cases hx: ∃j:Nat,j<rs.length/\v=(j:Int)
    ·obtain⟨j,hj,e⟩:=hx;exact⟨j,rs[j],e,aac hj⟩
    ·have:=(hu3 e.toNat).2 v hx;rw[←hcr]at this;have:=List.count_pos_iff.2 hv;omega
   have hrc: ∀(j:Nat) (r:Rule),rs[j]? =some r->row.count (j:Int)=r.2.1.count e:=by
    intro j r hj;rw[hcr,(hu3 e.toNat).1 j r (aaf.1 hj).1 hj];congr 1;omega
   refine Bd.bind (R:=λ t=> ∃(left' q':List Int) (m':Option (List (Int×Bool))) (z:List Int),t=(S,fin,rs,List.set out e.toNat true,left',U,q',m',(k:Int))/\left'.length=rs.length/\QSt (Rch rs) S q' m'/\q'=q++z/\
    ∀(j:Nat) (r:Rule),rs[j]? =some r->left'[j]? =some (((r.2.1.countP (λ s=>decide (s∉q.take k)):Nat):Int)-((row.count (j:Int):Nat):Int))/\(((r.2.1.countP (λ s=>decide (s∉q.take k)):Nat):Int)-((row.count (j:Int):Nat):Int)=0->r.2.2∈q'))
    (Tt.loop (Lp.count row.length (λ p t=> ∃(left' q':List Int) (m':Option (List (Int×Bool))) (z:List Int),t=(S,fin,rs,List.set out e.toNat true,left',U,q',m',(k:Int),row,((row.length:Nat):Int),(p:Int))/\left'.length=rs.length/\QSt (Rch rs) S q' m'/\q'=q++z/\
     ∀(j:Nat) (r:Rule),rs[j]? =some r->left'[j]? =some (((r.2.1.countP (λ s=>decide (s∉q.take k)):Nat):Int)-(((row.take p).count (j:Int):Nat):Int))/\(((r.2.1.countP (λ s=>decide (s∉q.take k)):Nat):Int)-(((row.take p).count (j:Int):Nat):Int)=0->r.2.2∈q')) ?_ ?_ ?_)) ?_
   ·rintro p t hp ⟨left',q',m',z,rfl,hl',hq',hz,hj'⟩;unfold bT.L3;dsimp only;obtain⟨i,r,hi,hri⟩:=hrj row[p] (aag hp);have hil:i<rs.length:=(aaf.1 hri).1;obtain⟨a1,a2⟩:=hj' i r hri;have hr3:=hr r (aak hri);have hcp:r.2.1.countP (λ s=>decide (s∉q.take k))<=3:=aaJ ab5 hr3.2.2
    have hct:(row.take p).count (i:Int)<=300000:=by
     have:=List.count_le_length (a:=(i:Int)) (l:=row.take p);have:=List.length_take_le p row;have:=List.length_take_le' p row;omega
    have htp: ∀v:Int,(row.take (p+1)).count v=(row.take p).count v+if v=(i:Int)then 1 else 0:=by
     intro v;rw[aaD,aac hp,hi];simp only[abd,List.count_append,List.count_singleton,beq_iff_eq];congr 1;by_cases e:v=(i:Int)
     ·simp[e]
     ·rw[if_neg e,if_neg (λ x=>e x.symm)]
    refine Bd.yes (aT (by omega)) (Bd.nth hp ?_);rw[hi];refine Bd.chk (rng (by omega) (by omega)) ?_;rw[aat];refine Bd.at (by omega) λ v1 _ hv1=> ?_;rw[a1]at hv1;cases hv1;refine Bd.chk (rng (by omega) (by omega)) (Bd.at (by omega) λ v2 _ hv2=> ?_);rw[a1]at hv2;cases hv2;rw[nU _ (by omega) (by omega)];refine Bd.chk (rng (by omega) (by rw[aa0];omega)) (Bd.at (by rw[aa0];omega) λ v3 _ hv3=> ?_);rw[aaS,if_pos rfl,if_pos (by omega)]at hv3;cases hv3
    have hnew: ∀(j:Nat) (r':Rule),rs[j]? =some r'->(List.set left' i (((r.2.1.countP (λ s=>decide (s∉q.take k)):Nat):Int)-(((row.take p).count (i:Int):Nat):Int)-1))[j]? =some (((r'.2.1.countP (λ s=>decide (s∉q.take k)):Nat):Int)-(((row.take (p+1)).count (j:Int):Nat):Int)):=by
     intro j r' hjr;rw[aaS];by_cases e:i=j
     ·subst e;rw[hri]at hjr;cases hjr;rw[if_pos rfl,if_pos (by omega),htp,if_pos rfl];congr 1;omega
     ·rw[if_neg e,(hj' j r' hjr).1,htp,if_neg (by omega)];rfl
    have hold: ∀(j:Nat) (r':Rule),rs[j]? =some r'->j≠i->((r'.2.1.countP (λ s=>decide (s∉q.take k)):Nat):Int)-(((row.take (p+1)).count (j:Int):Nat):Int)=0->r'.2.2∈q':=by
     intro j r' hjr hne h0;rw[htp,if_neg (by omega)]at h0;exact(hj' j r' hjr).2 h0
    refine Bd.eU (λ hz0=> ?_) (λ hz0=> ?_)
    ·refine Bd.fB ?_;rw[fE hil];have er:rs[i]=r:=by rw[aac hil]at hri;exact aao hri
     refine Bd.aG ?_;rw[er]
     have hfrom: ∀s∈r.2.1,s∈q:=by
      intro s hs;apply abp;intro hn;have h1:=IQ hek r.2.1
      have h2:0<r.2.1.countP (λ s=>decide (s∉q.take k++[e])):=List.countP_pos_iff.2 ⟨s,hs,decide_eq_true λ h=>hn (by
       rcases aau.1 h with h|h
       ·exact abv h
       ·rw[aam.1 h];exact hem)⟩
      have h3:=hrc i r hri;have h4:=htp (i:Int);rw[if_pos rfl]at h4;have h5:(row.take (p+1)).count (i:Int)<=row.count (i:Int):=(List.take_sublist _ _).count_le _;have h6:=sW hz0;omega
     refine Bd.fB (Bd.bind (hq'.put hP hS hr3.1 (VK (aak hri) λ s hs=>(hq.2 s (hfrom s hs)).2)) ?_);rintro⟨q2,m2⟩ ⟨g1,g2,z2,g3⟩;dsimp only at g1 g2 g3;refine Bd.aG (Bd.again ⟨_,q2,m2,z++z2,by rw[aA (by omega)],by rw[aa0];exact hl',g1,by rw[g3,hz];simp,λ j r' hjr=>⟨hnew j r' hjr,λ h0=> ?_⟩⟩);by_cases e:j=i
     ·subst e;rw[hri]at hjr;cases hjr;exact g2
     ·rw[g3];exact aaH _ (hold j r' hjr e h0)
    ·refine Bd.aG (Bd.again ⟨_,q',m',z,by rw[aA (by omega)],by rw[aa0];exact hl',hq',hz,λ j r' hjr=>⟨hnew j r' hjr,λ h0=> ?_⟩⟩);by_cases e:j=i
     ·subst e;rw[hri]at hjr;cases hjr;rw[htp,if_pos rfl]at h0;exact absurd (by omega) (dec_not hz0)
     ·exact hold j r' hjr e h0
   ·rintro t ⟨left',q',m',z,rfl,hl',hq',hz,hj'⟩;unfold bT.L3;dsimp only;rw[aaC]at hj';exact Bd.no (decide_eq_false (by omega)) (Bd.done ⟨left',q',m',z,rfl,hl',hq',hz,hj'⟩)
   ·refine⟨left,q,m,[],rfl,hl,hq,by simp,λ j r hj=> ?_⟩;obtain⟨a1,a2⟩:=hleft j r hj;simp only[ace,List.count_nil,Int.natCast_zero,Int.sub_zero];exact⟨a1,λ h=>a2 (by omega)⟩
   ·rintro _ ⟨left',q',m',z,rfl,hl',hq',hz,hj'⟩;have hk1:q'.take (k+1)=q.take k++[e]:=by rw[hz,abD (by omega),htk]
    refine Bd.again ⟨⟨_,left',q',m',k+1,by rw[aA (by have:=hq.len hS;omega)],by rw[aa0];exact ho,hl',hq',by rw[hz,aap];omega,λ s hs=> ?_,λ j r hj=> ?_⟩,Ew hfalse⟩
    ·rw[hk1,aaS,aau,aam];by_cases es:e.toNat=s.toNat
     ·rw[if_pos es,if_pos (by omega)];have:s=e:=by have:=hs.1;omega
      simp[this]
     ·rw[if_neg es,hout s hs];have:s≠e:=λ x=>es (by rw[x]);simp[this]
    ·have hcs:=IQ hek r.2.1;rw[hk1];obtain⟨a1,a2⟩:=hj' j r hj;rw[hrc j r hj]at a1 a2;exact⟨by rw[a1];congr 1;omega,λ h=>a2 (by omega)⟩
  ·refine Bd.no (decide_eq_false (by omega)) (Bd.done ?_);have hkl:k=q.length:=by omega
   subst hkl;rw[aaC]at hout hleft;refine⟨ho,λ r hr' hfrom=> ?_,λ s hs hb=>(hq.2 s ((hout s hs).1 hb)).2⟩;obtain⟨j,hj,rfl⟩:=aay hr';have hr3:=hr _ hr';refine(hout _ hr3.1).2 ((hleft j _ (aac hj)).2 ?_);rw[List.countP_eq_zero];intro s hs;simpa using(hout s (hr3.2.1 s hs)).1 (hfrom s hs)
 ·refine⟨List.replicate S.toNat false,left,q,m,0,rfl,by simp,hl,hq,abA _,λ s hs=> ?_,λ j r hj=> ?_⟩
  ·rw[abw];split<;>simp
  ·have e: ∀l:List Int,l.countP (λ s=>decide (s∉q.take 0))=l.length:=λ l=>by
    rw[List.countP_eq_length];simp
   rw[e];exact⟨hl2 j r hj,λ h=>hq2 j r hj (aav h)⟩
def ahk (f:Int×List Bool->Option Bool) (x1:List Int×List Bool×Int×Int) (rec2:List Int×List Bool×Int×Int->Option (Sum Unit Int)):Option (Sum Unit Int):=
 bif decide (x1.2.2.2<x1.2.2.1)then
  (nth? x1.1 x1.2.2.2).bind λ e3=>(f (e3,x1.2.1)).bind λ r4=>
   bif r4 then(some x1.2.2.2).bind λ r=>some (Sum.inr r)else rec2 (x1.1,x1.2.1,x1.2.2.1,IntKind.wrap .i64 (x1.2.2.2+(1:Int)))
 else some (Sum.inl ())
theorem Zp {F:Nat->Int×List Bool->Option Bool} {l:List Int} {R:List Bool} {test:Int->Bool} (hF: ∀s∈l,Sp F (s,R) (λ r=>r=test s)) (hl:l.length<=1000000):
 Tt (λ n=>(cu (ahk (F n)) n (l,R,((l.length:Nat):Int),(0:Int))).bind λ q=>match q with|Sum.inl x5=>some (-1:Int)|Sum.inr r=>some r) (λ r=>decide (0<=r)=l.any test):=by
 refine Tt.bind (R:=λ t=>(t= .inl ()/\l.any test=false)\/ ∃i:Int,t= .inr i/\0<=i/\l.any test=true)
  (Tt.loop (Lp.count (L:=λ n=>ahk (F n)) l.length (λ i s=>s=(l,R,((l.length:Nat):Int),(i:Int))/\(l.take i).any test=false) ?_ ?_ ⟨rfl,rfl⟩)) ?_
 ·rintro i s hi ⟨rfl,ha⟩;unfold ahk;dsimp only;refine Bd.yes (aT (by omega)) (Bd.nth hi (Bd.bind (hF l[i] (aag hi)) ?_));rintro _ rfl;refine Bd.ite (λ hc=>Bd.done (.inr ⟨_,rfl,by omega,abV.2 ⟨_,aag hi,hc⟩⟩)) (λ hc=>Bd.again ⟨by rw[aA (by omega)],?_⟩);rw[aaD,aac hi,List.any_append,ha];simpa using hc
 ·rintro s ⟨rfl,ha⟩;unfold ahk;dsimp only;rw[aaC]at ha;exact Bd.no (decide_eq_false (by omega)) (Bd.done (.inl ⟨rfl,ha⟩))
 ·rintro _ (⟨rfl,h⟩|⟨i,rfl,h0,h⟩)
  ·exact Tt.pure (by rw[h];rfl)
  ·exact Tt.pure (by rw[h];exact aT h0)
def bat (R:List Bool) (s:Int):Bool:=R[s.toNat]?.getD false
theorem zW {R:List Bool} {s:Int}:bat R s=true ↔ R[s.toNat]? =some true:=by
 unfold bat
 cases h:R[s.toNat]? with
 |none=>simp
 |some b=>simp
theorem JG {R:List Bool} {s S:Int} (hR:R.length=S.toNat) (h:dH S s):nth? R s=some (bat R s):=by
 have hlt:s.toNat<R.length:=by have:=h.1;have:=h.2;omega
 rw[AA h.1 (by have:=h.1;have:=h.2;omega)];unfold bat;rw[aac hlt];rfl
abbrev Xy (C:Nat->List Int×List Bool->Option Bool) (neg:Bool->Bool):Prop:=
 ∀(S:Int) (l:List Int) (R:List Bool),R.length=S.toNat->(∀s∈l,dH S s)->l.length<=1000000->Sp C (l,R) (λ r=>r=l.any λ s=>neg (bat R s))
theorem XW {F:Nat->Int×List Bool->Option Bool} {G:Nat->List Int×List Bool->Option Int} (hF: ∀n x,F (n+1) x=qE.P n x) (hG: ∀n x,G (n+1) x=bQ.P (F n) n x):
 Xy (λ n=>dI.P (G n) n) (!·):=λ S l R hR hs hl=>by
 refine Tt.bind (A:=λ n=>G n (l,R)) (Sp.step hG (Zp (F:=F) (test:=λ s=> !bat R s) (λ s h=>Sp.step hF ⟨_,rfl,.all λ n=> ?_⟩) hl)) λ r hr=>Tt.pure hr;unfold qE.P;dsimp only;rw[JG hR (hs s h)];rfl
theorem aeh {F:Nat->Int×List Bool->Option Bool} {G:Nat->List Int×List Bool->Option Int} (hF: ∀n x,F (n+1) x=vC.P n x) (hG: ∀n x,G (n+1) x=bV.P (F n) n x):
 Xy (λ n=>dN.P (G n) n) (!·):=λ S l R hR hs hl=>by
 refine Tt.bind (A:=λ n=>G n (l,R)) (Sp.step hG (Zp (F:=F) (test:=λ s=> !bat R s) (λ s h=>Sp.step hF ⟨_,rfl,.all λ n=> ?_⟩) hl)) λ r hr=>Tt.pure hr;unfold vC.P;dsimp only;rw[JG hR (hs s h)];rfl
theorem XV {F:Nat->Int×List Bool->Option Bool} {G:Nat->List Int×List Bool->Option Int} (hF: ∀n x,F (n+1) x=pI.P n x) (hG: ∀n x,G (n+1) x=bM.P (F n) n x):
 Xy (λ n=>dF.P (G n) n) id:=λ S l R hR hs hl=>by
 refine Tt.bind (A:=λ n=>G n (l,R)) (Sp.step hG (Zp (F:=F) (test:=λ s=>bat R s) (λ s h=>Sp.step hF ⟨_,rfl,.all λ n=> ?_⟩) hl)) λ r hr=>Tt.pure hr;unfold pI.P;dsimp only;rw[JG hR (hs s h)];rfl
theorem Xy.all {l:List Int} {R:List Bool} (h:l.any (λ s=> !bat R s)=false): ∀s∈l,bat R s=true:=by
 intro s hs;have:=List.any_eq_false.1 h s hs;simpa using this
def aiy (S:Int) (rs:List Rule) (R:List Bool) (i:Nat) (T:List (List Int)):Prop:=
 T.length=S.toNat/\(∀l∈T,l.length<=i/\ ∀v∈l,∃j:Nat,j<i/\v=(j:Int))/\(∀(k:Nat) (l:List Int),T[k]? =some l-> ∀(j:Nat) (r:Rule),(j:Int)∈l->rs[j]? =some r->r.2.2.toNat=k/\ ∀s∈r.2.1,bat R s=true)/\ ∀(j:Nat) (r:Rule),j<i->rs[j]? =some r->(∀s∈r.2.1,bat R s=true)-> ∃l,T[r.2.2.toNat]? =some l/\(j:Int)∈l
inductive Up (rs:List Rule) (fin:List Int):Int->Prop
 |fin {s:Int} (h:s∈fin) (hr:Rch rs s):Up rs fin s
 |rule {r:Rule} {s:Int} (hr:r∈rs) (h:Up rs fin r.2.2) (hk: ∀x∈r.2.1,Rch rs x) (hs:s∈r.2.1):Up rs fin s
theorem Up.rch {rs:List Rule} {fin:List Int} {s:Int} (h:Up rs fin s):Rch rs s:=by
 cases h with
 |fin h hr=>exact hr
 |rule hr h hk hs=>exact hk s hs
def Useful (fin:List Int) (rs:List Rule) (R U:List Bool):Prop:=(∀s∈fin,bat R s=true->bat U s=true)/\ ∀r∈rs,bat U r.2.2=true->(∀s∈r.2.1,bat R s=true)-> ∀s∈r.2.1,bat U s=true
def Closed (rs:List Rule) (R:List Bool):Prop:= ∀r∈rs,(∀s∈r.2.1,bat R s=true)->bat R r.2.2=true
theorem Zt {P:Nat->List Int×Option (List (Int×Bool))×Int->Option (List Int×Option (List (Int×Bool)))} {F:Nat->Int×List Int×List Rule->Option (List Bool)} {C:Nat->List Int×List Bool->Option Bool}
 (hP:ZR P) (hC:Xy C (!·)) (S:Int) (fin:List Int) (rs:List Rule) (h:Wf S fin rs) (hF:Sp F (S,fin,rs) (λ R=>R.length=S.toNat/\Closed rs R/\ ∀s,dH S s->bat R s=true->Rch rs s)):
 Sp (λ n=>dB.P (P n) (F n) (C n) n) (S,fin,rs) (λ U=>U.length=S.toNat/\(∀s,dH S s->bat U s=true->Up rs fin s)/\ ∃R,Closed rs R/\Useful fin rs R U):=by
 obtain⟨h0,hS,hfl,hrl,hfin,hr⟩:=h;show Tt (λ n=>dB.P (P n) (F n) (C n) n (S,fin,rs)) _;unfold dB.P;dsimp only;refine Tt.bind hF λ R hR=> ?_;obtain⟨hR,hcl,hrch⟩:=hR;refine Tt.chk (wP h0 (by omega)) ?_
 refine Tt.bind (R:=λ t=> ∃T:List (List Int),t=(S,fin,rs,R,rows T)/\aiy S rs R rs.length T)
  (Tt.loop (Lp.count rs.length (λ i t=> ∃T:List (List Int),t=(S,fin,rs,R,rows T,rs,((rs.length:Nat):Int),(i:Int))/\aiy S rs R i T) ?_ ?_ ?_)) ?_
 ·rintro i t hi ⟨T,rfl,hT,hT2,hT4,hT3⟩;unfold dB.L1;dsimp only;obtain⟨hto,hfr,hfl3⟩:=hr rs[i] (aag hi);refine Bd.yes (aT (by omega)) (Bd.nth hi (Bd.bind (hC S rs[i].2.1 R hR hfr (by omega)) ?_));intro b hb;refine Bd.eU (λ hc=> ?_) (λ hc=> ?_)
  ·have hq:rs[i].2.2.toNat<T.length:=by have:=hto.1;have:=hto.2;omega
   obtain⟨hb1,hb2⟩:=hT2 _ (aag hq);refine Bd.iU (rng hto.1 (by rw[sU];have:=hto.2;omega)) (Bd.fB (Bd.row hq (Bd.fB (Bd.row hq (Bd.iU (pY (by simp;omega)) (Bd.iU (rng hto.1 (by rw[aa0,sU];have:=hto.2;omega)) (Bd.aG (Bd.again ?_))))))));rw[EL];refine⟨_,by rw[aA (by omega)],by simpa using hT,λ l hl=> ?_,λ k l hk j r hv hjr=> ?_,λ j r hj hjr hf=> ?_⟩
   ·rcases abE hl with h|rfl
    ·exact⟨by have:=(hT2 l h).1;omega,λ v hv=>by obtain⟨j,hj,e⟩:=(hT2 l h).2 v hv;exact⟨j,by omega,e⟩⟩
    ·refine⟨by simp;omega,λ v hv=> ?_⟩;simp only[abt,aau,aam]at hv;rcases hv with hv|hv
     ·obtain⟨j,hj,e⟩:=hb2 v hv;exact⟨j,by omega,e⟩
     ·exact⟨i,by omega,hv⟩
   ·rw[aaS]at hk;split at hk
    ·rename_i e;cases hk;simp only[abt,aau,aam]at hv;rcases hv with hv|hv
     ·subst e;exact hT4 _ _ (aac hq) j r hv hjr
     ·have:j=i:=by omega
      subst this;rw[aac hi]at hjr;cases hjr;refine⟨e,Xy.all ?_⟩;rw[←hb];simpa using hc
    ·exact hT4 k l hk j r hv hjr
   ·rw[aaS];rcases aaY (aa8 hj)with h|rfl
    ·obtain⟨l,e1,e2⟩:=hT3 j r h hjr hf;split
     ·rename_i e;rw[e]at hq;rw[aac hq]at e1;cases e1;exact⟨_,rfl,by simp only[abt,aau];left;simpa [e]using e2⟩
     ·exact⟨l,e1,e2⟩
    ·rw[aac hi]at hjr;cases hjr;rw[if_pos rfl,if_pos hq];exact⟨_,rfl,by simp⟩
  ·refine Bd.aG (Bd.again ⟨T,by rw[aA (by omega)],hT,λ l hl=>⟨by have:=(hT2 l hl).1;omega,λ v hv=>by obtain⟨j,hj,e⟩:=(hT2 l hl).2 v hv;exact⟨j,by omega,e⟩⟩,hT4,λ j r hj hjr hf=> ?_⟩);rcases aaY (aa8 hj)with h|rfl
   ·exact hT3 j r h hjr hf
   ·rw[aac hi]at hjr;cases hjr;have hb:b=true:=by simpa using hc
    subst hb;obtain⟨s,hs,hn⟩:=abV.1 (Eq.symm ‹true=_›);rw[hf s hs]at hn;cases hn
 ·rintro t ⟨T,rfl,hT⟩;unfold dB.L1;dsimp only;exact Bd.no (decide_eq_false (by omega)) (Bd.done ⟨T,rfl,hT⟩)
 ·refine⟨List.replicate S.toNat [],by rw[Ii];rfl,by simp,λ l hl=> ?_,λ k l hk j r hv hjr=> ?_,λ j r hj=>absurd hj (by omega)⟩
  ·rw[(List.mem_replicate.1 hl).2];exact⟨by simp,λ v hv=>by simp at hv⟩
  ·rw[abw]at hk;split at hk
   ·cases hk;cases hv
   ·cases hk
 rintro _ ⟨T,rfl,hT,hT2,hT4,hT3⟩;dsimp only;refine Tt.chk (wP h0 (by omega)) ?_
 refine Tt.bind (R:=λ t=> ∃(q:List Int) (m:Option (List (Int×Bool))),t=(S,fin,rs,rows T,List.replicate S.toNat false,q,m)/\QSt (Up rs fin) S q m/\ ∀s∈fin,bat R s=true->s∈q)
  (Tt.loop (Lp.count fin.length (λ i t=> ∃(q:List Int) (m:Option (List (Int×Bool))),t=(S,fin,rs,R,rows T,List.replicate S.toNat false,q,m,fin,((fin.length:Nat):Int),(i:Int))/\QSt (Up rs fin) S q m/\ ∀s∈fin.take i,bat R s=true->s∈q) ?_ ?_ ⟨[],none,rfl,⟨Y6,by simp⟩,by simp⟩)) ?_
 ·rintro i t hi ⟨q,m,rfl,hq,hq2⟩;unfold dB.L2;dsimp only;have hs:=hfin fin[i] (aag hi)
  have htk: ∀q':List Int,(∀s∈fin.take i,bat R s=true->s∈q')->(bat R fin[i]=true->fin[i]∈q')-> ∀s∈fin.take (i+1),bat R s=true->s∈q':=by
   intro q' h1 h2 s hs hb;rw[aaD,aac hi,aau]at hs;rcases hs with hs|hs
   ·exact h1 s hs hb
   ·simp only[abd,aam]at hs;subst hs;exact h2 hb
  refine Bd.yes (aT (by omega)) (Bd.nth hi (Bd.chk (rng hs.1 (by have:=hs.1;have:=hs.2;omega)) ?_));refine Bd.at (by have:=hs.1;have:=hs.2;omega) λ b _ hb=> ?_;have hbat:bat R fin[i]=b:=by unfold bat;rw[hb];rfl
  refine Bd.eU (λ hc=> ?_) (λ hc=> ?_)
  ·refine Bd.fB (Bd.bind (hq.put hP hS hs (.fin (aag hi) (hrch _ hs (hbat.trans hc)))) ?_);rintro⟨q',m'⟩ ⟨g1,g2,z,g3⟩;dsimp only at g1 g2 g3;exact Bd.aG (Bd.again ⟨q',m',by rw[aA (by omega)],g1,htk q' (λ s h1 h2=>by rw[g3];exact aaH _ (hq2 s h1 h2)) λ _=>g2⟩)
  ·exact Bd.aG (Bd.again ⟨q,m,by rw[aA (by omega)],hq,htk q hq2 λ h=>by rw[hbat,hc]at h;cases h⟩)
 ·rintro t ⟨q,m,rfl,hq,hq2⟩;unfold dB.L2;dsimp only;rw[aaC]at hq2;exact Bd.no (decide_eq_false (by omega)) (Bd.done ⟨q,m,rfl,hq,hq2⟩)
 rintro _ ⟨q,m,rfl,hq,hq2⟩;dsimp only;rw[EK];refine Tt.aG ?_
 refine Tt.bind (R:=λ U:List Bool=>U.length=S.toNat/\(∀s,dH S s->bat U s=true->Up rs fin s)/\Useful fin rs R U)
  (Tt.loop (Lp.measure (λ t=> ∃(out:List Bool) (q:List Int) (m:Option (List (Int×Bool))) (k:Nat),t=(S,fin,rs,T,out,q,m,(k:Int))/\out.length=S.toNat/\QSt (Up rs fin) S q m/\k<=q.length/\
   (∀s:Int,dH S s->(out[s.toNat]? =some true ↔ s∈q.take k))/\(∀s∈fin,bat R s=true->s∈q)/\ ∀e∈q.take k,∀row,T[e.toNat]? =some row-> ∀(j:Nat) (r:Rule),(j:Int)∈row->rs[j]? =some r-> ∀s∈r.2.1,s∈q) (λ t=>nf t.2.2.2.2.1) ?_ ?_)) λ U hU=>Tt.pure ⟨hU.1,hU.2.1,R,hcl,hU.2.2⟩
 ·rintro _ ⟨out,q,m,k,rfl,ho,hq,hk,hout,hq2,hq3⟩;unfold dB.L5;dsimp only;by_cases hkq:k<q.length
  ·refine Bd.yes (aT (by omega)) (Bd.chk (rng (by omega) (by omega)) ?_);rw[aat];refine Bd.at hkq λ e hem he=> ?_;obtain⟨⟨e0,e1⟩,hup⟩:=hq.2 e hem;refine Bd.chk (rng e0 (by omega)) (Bd.at (by omega) λ _ _ _=>Bd.chk (rng (by omega) (by omega)) ?_);refine Bd.at hkq λ e' _ he'=> ?_;rw[he]at he';cases he';refine Bd.chk (rng e0 (by omega)) (Bd.at (by omega) λ row hrow hrow2=> ?_);have htk:q.take (k+1)=q.take k++[e]:=by rw[aaD,he];rfl
   have hek:e∉q.take k:=by
    intro hm;have hnd:=hq.1.1;rw[←abm k q,acC]at hnd;exact hnd.2.2 e hm e (by rw[aaI hkq,(aaf.1 he).2];exact abT ..) rfl
   have hfalse:out[e.toNat]? =some false:=by
    have hlt:e.toNat<out.length:=by omega
    rw[aac hlt];cases hb:out[e.toNat]with
    |false=>rfl
    |true=>exact absurd ((hout e ⟨e0,e1⟩).1 (by rw[aac hlt,hb])) hek
   obtain⟨hrl2,hrj⟩:=hT2 row hrow;have hrlt:row.length<=100000:=by omega
   refine Bd.bind (R:=λ t=> ∃(q':List Int) (m':Option (List (Int×Bool))) (z:List Int),t=(S,fin,rs,T,List.set out e.toNat true,q',m',(k:Int))/\QSt (Up rs fin) S q' m'/\q'=q++z/\ ∀v∈row,∀(j:Nat) (r:Rule),v=(j:Int)->rs[j]? =some r-> ∀s∈r.2.1,s∈q')
    (Tt.loop (Lp.count row.length (λ p t=> ∃(q':List Int) (m':Option (List (Int×Bool))) (z:List Int),t=(S,fin,rs,T,List.set out e.toNat true,q',m',(k:Int),row,((row.length:Nat):Int),(p:Int))/\QSt (Up rs fin) S q' m'/\q'=q++z/\ ∀v∈row.take p,∀(j:Nat) (r:Rule),v=(j:Int)->rs[j]? =some r-> ∀s∈r.2.1,s∈q') ?_ ?_ ⟨q,m,[],rfl,hq,by simp,by simp⟩)) ?_
   ·rintro p t hp ⟨q',m',z,rfl,hq',hz,hj'⟩;unfold dB.L4;dsimp only;obtain⟨j,hj,ej⟩:=hrj row[p] (aag hp);refine Bd.yes (aT (by omega)) (Bd.nth hp ?_);rw[ej,fE hj];refine Bd.aG ?_;obtain⟨hto,hfr,hfl3⟩:=hr rs[j] (aag hj);obtain⟨k1,k2⟩:=hT4 _ _ hrow2 j _ (by rw[←ej];exact aag hp) (aac hj)
    have hup2:Up rs fin rs[j].2.2:=by
     have:rs[j].2.2=e:=by have:=hto.1;omega
     rw[this];exact hup
    refine Bd.bind (R:=λ t=> ∃(q2:List Int) (m2:Option (List (Int×Bool))) (z2:List Int),t=(S,fin,rs,T,List.set out e.toNat true,q2,m2,(k:Int),row,((row.length:Nat):Int),(p:Int))/\QSt (Up rs fin) S q2 m2/\q2=q'++z2/\ ∀s∈rs[j].2.1,s∈q2)
     (Tt.loop (L:=λ n=>dB.L3 (P n)) (Lp.count rs[j].2.1.length (λ i t=> ∃(q2:List Int) (m2:Option (List (Int×Bool))) (z2:List Int),t=(S,fin,rs,T,List.set out e.toNat true,q2,m2,(k:Int),row,((row.length:Nat):Int),(p:Int),rs[j].2.1,((rs[j].2.1.length:Nat):Int),(i:Int))/\QSt (Up rs fin) S q2 m2/\q2=q'++z2/\ ∀s∈rs[j].2.1.take i,s∈q2) ?_ ?_ ⟨q',m',[],rfl,hq',by simp,by simp⟩)) ?_
    ·rintro i t hi ⟨q2,m2,z2,rfl,h1,h2,h3⟩;unfold dB.L3;dsimp only;refine Bd.yes (aT (by omega)) (Bd.nth hi (Bd.bind (h1.put hP hS (hfr _ (aag hi)) (.rule (aag hj) hup2 (λ x hx=>hrch x (hfr x hx) (k2 x hx)) (aag hi))) ?_));rintro⟨q3,m3⟩ ⟨g1,g2,z3,g3⟩;dsimp only at g1 g2 g3;refine Bd.again ⟨q3,m3,z2++z3,by rw[aA (by omega)],g1,by rw[g3,h2];simp,λ s hs=> ?_⟩;rw[aaD,aac hi,aau]at hs;rcases hs with hs|hs
     ·rw[g3];exact aaH _ (h3 s hs)
     ·simp only[abd,aam]at hs;rw[hs];exact g2
    ·rintro t ⟨q2,m2,z2,rfl,h1,h2,h3⟩;unfold dB.L3;dsimp only;rw[aaC]at h3;exact Bd.no (decide_eq_false (by omega)) (Bd.done ⟨q2,m2,z2,rfl,h1,h2,h3⟩)
    ·rintro _ ⟨q2,m2,z2,rfl,h1,h2,h3⟩;refine Bd.again ⟨q2,m2,z++z2,by rw[aA (by omega)],h1,by rw[h2,hz];simp,λ v hv j' r ev hr' s hs=> ?_⟩;rw[aaD,aac hp,aau]at hv;rcases hv with hv|hv
     ·rw[h2];exact aaH _ (hj' v hv j' r ev hr' s hs)
     ·simp only[abd,aam]at hv;have:j'=j:=by rw[hv,ej]at ev;omega
      subst this;rw[aac hj]at hr';cases hr';exact h3 s hs
   ·rintro t ⟨q',m',z,rfl,hq',hz,hj'⟩;unfold dB.L4;dsimp only;rw[aaC]at hj';exact Bd.no (decide_eq_false (by omega)) (Bd.done ⟨q',m',z,rfl,hq',hz,hj'⟩)
   ·rintro _ ⟨q',m',z,rfl,hq',hz,hj'⟩;have hk0:q'.take k=q.take k:=by rw[hz,abD (by omega)]
    have hk1:q'.take (k+1)=q.take k++[e]:=by rw[hz,abD (by omega),htk]
    refine Bd.again ⟨⟨_,q',m',k+1,by rw[aA (by have:=hq.len hS;omega)],by rw[aa0];exact ho,hq',by rw[hz,aap];omega,λ s hs=> ?_,λ s hs hb=>by rw[hz];exact aaH _ (hq2 s hs hb),λ e' he' row' hrow' j r hjr hrj' s hs=> ?_⟩,Ew hfalse⟩
    ·rw[hk1,aaS,aau,aam];by_cases es:e.toNat=s.toNat
     ·rw[if_pos es,if_pos (by omega)];have:s=e:=by have:=hs.1;omega
      simp[this]
     ·rw[if_neg es,hout s hs];have:s≠e:=λ x=>es (by rw[x]);simp[this]
    ·rw[hk1,aau,aam]at he';rcases he' with he'|rfl
     ·rw[hz];exact aaH _ (hq3 e' he' row' hrow' j r hjr hrj' s hs)
     ·rw[hrow2]at hrow';cases hrow';exact hj' _ hjr j r rfl hrj' s hs
  ·have hkl:k=q.length:=by omega
   subst hkl;rw[aaC]at hout hq3;refine Bd.no (decide_eq_false (by omega)) (Bd.done ⟨ho,λ s hs hb=>(hq.2 s ((hout s hs).1 (zW.1 hb))).2,λ s hs hb=>zW.2 ((hout s (hfin s hs)).2 (hq2 s hs hb)),λ r hr' hto hfrom s hs=> ?_⟩);obtain⟨j,hj,rfl⟩:=aay hr';have hr3:=hr _ hr';obtain⟨row,e1,e2⟩:=hT3 j _ hj (aac hj) hfrom;exact zW.2 ((hout s (hr3.2.1 s hs)).2 (hq3 _ ((hout _ hr3.1).1 (zW.1 hto)) row e1 j _ e2 (aac hj) s hs))
 ·refine⟨List.replicate S.toNat false,q,m,0,rfl,by simp,hq,abA _,λ s hs=> ?_,hq2,by simp⟩;rw[abw];split<;>simp
end Go.Bk
end
