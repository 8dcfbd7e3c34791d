import Derived.Test.YtdchbjmbgecejaaGreatDoorMa
import Derived.Test.YtdchbjmbgecejaaGreatDoorMk
import Derived.KernelRfl
noncomputable section
namespace Go.Bk
open Go Go.AM
set_option linter.unusedVariables false
def Ev (p:Nat→Prop):Prop:= ∃N,∀n,N≤n→p n
theorem Ev.all {p:Nat→Prop} (h: ∀n,p n):Ev p:=⟨0,fun n _=>h n⟩
theorem Ev.mono {p q:Nat→Prop} (h:Ev p) (hq: ∀n,p n→q n):Ev q:=h.elim fun N hN=>⟨N,fun n hn=>hq n (hN n hn)⟩
theorem Ev.and {p q:Nat→Prop} (h:Ev p) (h':Ev q):Ev fun n=>p n∧q n:=by
 obtain⟨N,hN⟩:=h
 obtain⟨M,hM⟩:=h'
 exact⟨max N M,fun n hn=>⟨hN n (by omega),hM n (by omega)⟩⟩
theorem Ev.pred {p:Nat→Prop} (h:Ev fun n=>p (n+1)):Ev p:=by
 obtain⟨N,hN⟩:=h
 refine⟨N+1,fun n hn=> ?_⟩
 obtain⟨k,rfl⟩: ∃k,n=k+1:=⟨n-1,by omega⟩
 exact hN k (by omega)
theorem Ev.succ {p:Nat→Prop} (h:Ev p):Ev fun n=>p (n+1):=h.elim fun N hN=>⟨N,fun n hn=>hN (n+1) (by omega)⟩
def Sp {α β:Type} (F:Nat→α→Option β) (x:α) (Q:β→Prop):Prop:= ∃r,Q r∧Ev fun n=>F n x=some r
theorem Sp.mono {α β:Type} {F:Nat→α→Option β} {x:α} {Q R:β→Prop} (h:Sp F x Q) (hq: ∀r,Q r→R r):Sp F x R:=h.elim fun r hr=>⟨r,hq r hr.1,hr.2⟩
theorem Sp.step {α β:Type} {F G:Nat→α→Option β} {x:α} {Q:β→Prop} (hF: ∀n x,F (n+1) x=G n x) (h:Sp G x Q):Sp F x Q:=by
 obtain⟨r,hr,he⟩:=h
 exact⟨r,hr,(he.mono (q:=fun n=>F (n+1) x=some r) fun n hn=>by rw[hF];exact hn).pred⟩
def Lp {σ τ:Type} (L:Nat→σ→(σ→Option τ)→Option τ) (s:σ) (Q:τ→Prop):Prop:= ∃t,Q t∧ ∃N,∀n,N≤n→ ∀m,N≤m→dD (L n) m s=some t
theorem Lp.ev {σ τ:Type} {L:Nat→σ→(σ→Option τ)→Option τ} {s:σ} {Q:τ→Prop} (h:Lp L s Q): ∃t,Q t∧Ev fun n=>dD (L n) n s=some t:=by
 obtain⟨t,ht,N,hN⟩:=h
 exact⟨t,ht,N,fun n hn=>hN n hn n hn⟩
theorem Lp.mono {σ τ:Type} {L:Nat→σ→(σ→Option τ)→Option τ} {s:σ} {Q R:τ→Prop} (h:Lp L s Q) (hq: ∀r,Q r→R r):Lp L s R:=h.elim fun r hr=>⟨r,hq r hr.1,hr.2⟩
def St {σ τ:Type} (L:Nat→σ→(σ→Option τ)→Option τ) (s:σ) (I:σ→Prop) (Q:τ→Prop):Prop:=
 (∃s',I s'∧Ev fun n=> ∀k,L n s k=k s')∨(∃t,Q t∧Ev fun n=> ∀k,L n s k=some t)
theorem Lp.aaN {σ τ:Type} {L:Nat→σ→(σ→Option τ)→Option τ} {s:σ} {I:σ→Prop} {Q:τ→Prop} (h:St L s I Q) (hI: ∀s',I s'→Lp L s' Q):Lp L s Q:=by
 rcases h with⟨s',hs,N,hN⟩|⟨t,ht,N,hN⟩
 ·obtain⟨t,ht,M,hM⟩:=hI s' hs
  refine⟨t,ht,max N M+1,fun n hn m hm=> ?_⟩
  obtain⟨k,rfl⟩: ∃k,m=k+1:=⟨m-1,by omega⟩
  show L n s (dD (L n) k)=some t
  rw[hN n (by omega)]
  exact hM n (by omega) k (by omega)
 ·refine⟨t,ht,N+1,fun n hn m hm=> ?_⟩
  obtain⟨k,rfl⟩: ∃k,m=k+1:=⟨m-1,by omega⟩
  show L n s (dD (L n) k)=some t
  exact hN n (by omega) _
theorem Lp.range {σ τ:Type} {L:Nat→σ→(σ→Option τ)→Option τ} {Q:τ→Prop} (len:Nat) (I:Nat→σ→Prop)
 (hs: ∀i s,i<len→I i s→St L s (I (i+1)) Q) (hf: ∀s,I len s→St L s (fun _=>False) Q): ∀s,I 0 s→Lp L s Q:=by
 have key: ∀d i s,i+d=len→I i s→Lp L s Q:=by
  intro d
  induction d with
  |zero=>intro i s hi h;obtain rfl:i=len:=by omega
         exact Lp.aaN (hf s h) fun _ hx=>hx.elim
  |succ d ih=>intro i s hi h;exact Lp.aaN (hs i s (by omega) h) fun s' h'=>ih (i+1) s' (by omega) h'
 intro s h
 exact key len 0 s (by omega) h
theorem Lp.search {σ τ:Type} {L:Nat→σ→(σ→Option τ)→Option τ} (len:Nat) (st:Nat→σ) (P:Nat→Prop) (no:Nat→τ) (yes:τ)
 (hs: ∀i,i<len→(P i∧Ev fun n=> ∀k,L n (st i) k=k (st (i+1)))∨(¬P i∧Ev fun n=> ∀k,L n (st i) k=some (no i)))
 (hf:Ev fun n=> ∀k,L n (st len) k=some yes):
 Lp L (st 0) (fun t=>(t=yes∧ ∀i,i<len→P i)∨ ∃i,i<len∧ ¬P i∧t=no i):=by
 refine Lp.range len (fun i s=>s=st i∧ ∀j,j<i→P j) ?_ ?_ _ ⟨rfl,fun j h=>absurd h (by omega)⟩
 ·rintro i s hi ⟨rfl,hI⟩
  rcases hs i hi with⟨hp,he⟩|⟨hp,he⟩
  ·refine .inl ⟨_,⟨rfl,fun j hj=> ?_⟩,he⟩
   rcases Nat.lt_or_eq_of_le (Nat.le_of_lt_succ hj)with h3|rfl
   ·exact hI j h3
   ·exact hp
  ·exact .inr ⟨_,.inr ⟨i,hi,hp,rfl⟩,he⟩
 ·rintro s ⟨rfl,hI⟩
  exact .inr ⟨_,.inl ⟨rfl,hI⟩,hf⟩
theorem o7 (z:Int) (h: -9223372036854775808≤z) (h':z<9223372036854775808):IntKind.wrap .i64 z=z:=by
 simp only[IntKind.wrap,IntKind.signed,IntKind.bits]
 simp only[Bool.true_and,decide_eq_true_eq,Nat.reduceSub,ge_iff_le]
 split<;>omega
theorem wrap_succ {i m:Nat} (h:i<m) (hm:m≤au):IntKind.wrap .i64 ((i:Int)+1)=((i+1:Nat):Int):=by
 have:au=1099511627776:=by decide
 rw[o7 _ (by omega) (by omega)];omega
theorem dZ {α:Type} {l:List α} {i:Nat} (h:i<l.length):nth? l (i:Int)=some l[i]:=by
 simp[nth?,h]
theorem wP {α:Type} {l:List α} {z:Int} (h:0≤z) (h':z<((l.length:Nat):Int)):nth? l z=some (l[z.toNat]'(by omega)):=by
 have:z.toNat<l.length:=by omega
 simp[nth?,h,this]
theorem QT {i m:Nat} (h:i<m) (hm:m≤au) (h0:0<i):IntKind.wrap .i64 ((i:Int)-1)=((i-1:Nat):Int):=by
 have:au=1099511627776:=by decide
 rw[o7 _ (by omega) (by omega)];omega
theorem gX {i m:Nat} (h:i<m):((i:Int)<(m:Int))=True:=eq_true (by omega)
theorem Aj {m:Nat}:((m:Int)<(m:Int))=False:=eq_false (by omega)
end Go.Bk
end
noncomputable section
namespace Go.Bk
open Go Go.AM
set_option linter.unusedVariables false
def Tt {β:Type} (F:Nat→Option β) (Q:β→Prop):Prop:= ∃r,Q r∧Ev fun n=>F n=some r
def Bd {σ τ:Type} (F:Nat→(σ→Option τ)→Option τ) (I:σ→Prop) (Q:τ→Prop):Prop:=
 (∃s',I s'∧Ev fun n=> ∀k,F n k=k s')∨(∃t,Q t∧Ev fun n=> ∀k,F n k=some t)
section
variable {α β γ σ τ:Type} {Q:β→Prop}
theorem Tt.mono {F:Nat→Option β} {R:β→Prop} (h:Tt F Q) (hq: ∀r,Q r→R r):Tt F R:=h.elim fun r hr=>⟨r,hq r hr.1,hr.2⟩
theorem Tt.pure {r:β} (h:Q r):Tt (fun _=>some r) Q:=⟨r,h,.all fun _=>rfl⟩
theorem Tt.bind {A:Nat→Option α} {G:Nat→α→Option β} {R:α→Prop} (hA:Tt A R) (hG: ∀r,R r→Tt (fun n=>G n r) Q):Tt (fun n=>(A n).bind (G n)) Q:=by
 obtain⟨r,hr,he⟩:=hA
 obtain⟨t,ht,he2⟩:=hG r hr
 exact⟨t,ht,(he.and he2).mono fun n hn=>by
  show(A n).bind (G n)=_
  rw[hn.1];exact hn.2⟩
theorem Tt.chk {c:Bool} {A:Nat→Option β} (hc:c=true) (h:Tt A Q):Tt (fun n=>bif c then A n else none) Q:=by
 subst hc;exact h
theorem Tt.ite {c:Bool} {A B:Nat→Option β} (h1:c=true→Tt A Q) (h2:c=false→Tt B Q):Tt (fun n=>bif c then A n else B n) Q:=by
 cases c with
 |true=>exact h1 rfl
 |false=>exact h2 rfl
theorem Tt.nth {l:List β} {i:Int} (h0:0≤i) (h1:i<((l.length:Nat):Int)) (hq: ∀h:i.toNat<l.length,Q l[i.toNat]):Tt (fun _=>nth? l i) Q:=
 ⟨_,hq (by omega),.all fun _=>wP h0 h1⟩
theorem Tt.at {l:List β} {i:Nat} (h:i<l.length) (hq:Q l[i]):Tt (fun _=>at? l i) Q:=⟨_,hq,.all fun _=>List.getElem?_eq_getElem h⟩
theorem Tt.loop {L:Nat→σ→(σ→Option β)→Option β} {s:σ} (h:Lp L s Q):Tt (fun n=>dD (L n) n s) Q:=h.ev
theorem Tt.nM {c:Bool} {A:Nat→Option α} {G:Nat→α→Option β} (hc:c=true) (h:Tt (fun n=>(A n).bind (G n)) Q):Tt (fun n=>(bif c then A n else none).bind (G n)) Q:=by
 subst hc;exact h
theorem Tt.eG {c:Bool} {A B:Nat→Option α} {G:Nat→α→Option β} (h1:c=true→Tt (fun n=>(A n).bind (G n)) Q) (h2:c=false→Tt (fun n=>(B n).bind (G n)) Q):Tt (fun n=>(bif c then A n else B n).bind (G n)) Q:=by
 cases c with
 |true=>exact h1 rfl
 |false=>exact h2 rfl
theorem Tt.fG {A:Nat→Option α} {B:Nat→α→Option γ} {G:Nat→γ→Option β} (h:Tt (fun n=>(A n).bind fun a=>(B n a).bind (G n)) Q):Tt (fun n=>((A n).bind (B n)).bind (G n)) Q:=by
 obtain⟨r,hr,he⟩:=h
 exact⟨r,hr,he.mono fun n hn=>(Option.bind_assoc ..).trans hn⟩
theorem Tt.ay {r:α} {G:Nat→α→Option β} (h:Tt (fun n=>G n r) Q):Tt (fun n=>(some r).bind (G n)) Q:=h
end
section
variable {α β γ σ τ:Type} {I:σ→Prop} {Q:τ→Prop}
theorem Bd.mono {F:Nat→(σ→Option τ)→Option τ} {J:σ→Prop} {R:τ→Prop} (h:Bd F I Q) (hi: ∀s,I s→J s) (hq: ∀t,Q t→R t):Bd F J R:=by
 rcases h with⟨s,h1,h2⟩|⟨t,h1,h2⟩
 ·exact .inl ⟨s,hi s h1,h2⟩
 ·exact .inr ⟨t,hq t h1,h2⟩
theorem Bd.again {s:σ} (h:I s):Bd (fun _ k=>k s) I Q:= .inl ⟨s,h,.all fun _ _=>rfl⟩
theorem Bd.done {t:τ} (h:Q t):Bd (fun _ (_:σ→Option τ)=>some t) I Q:= .inr ⟨t,h,.all fun _ _=>rfl⟩
theorem Bd.bind {A:Nat→Option α} {G:Nat→(σ→Option τ)→α→Option τ} {R:α→Prop} (hA:Tt A R) (hG: ∀r,R r→Bd (fun n k=>G n k r) I Q):Bd (fun n k=>(A n).bind (G n k)) I Q:=by
 obtain⟨r,hr,he⟩:=hA
 rcases hG r hr with⟨s,h1,h2⟩|⟨t,h1,h2⟩
 ·exact .inl ⟨s,h1,(he.and h2).mono fun n hn k=>by
   show(A n).bind (G n k)=_
   rw[hn.1];exact hn.2 k⟩
 ·exact .inr ⟨t,h1,(he.and h2).mono fun n hn k=>by
   show(A n).bind (G n k)=_
   rw[hn.1];exact hn.2 k⟩
theorem Bd.chk {c:Bool} {A:Nat→(σ→Option τ)→Option τ} (hc:c=true) (h:Bd A I Q):Bd (fun n k=>bif c then A n k else none) I Q:=by
 subst hc;exact h
theorem Bd.ite {c:Bool} {A B:Nat→(σ→Option τ)→Option τ} (h1:c=true→Bd A I Q) (h2:c=false→Bd B I Q):Bd (fun n k=>bif c then A n k else B n k) I Q:=by
 cases c with
 |true=>exact h1 rfl
 |false=>exact h2 rfl
theorem Bd.nM {c:Bool} {A:Nat→Option α} {G:Nat→(σ→Option τ)→α→Option τ} (hc:c=true) (h:Bd (fun n k=>(A n).bind (G n k)) I Q):Bd (fun n k=>(bif c then A n else none).bind (G n k)) I Q:=by
 subst hc;exact h
theorem Bd.eG {c:Bool} {A B:Nat→Option α} {G:Nat→(σ→Option τ)→α→Option τ} (h1:c=true→Bd (fun n k=>(A n).bind (G n k)) I Q) (h2:c=false→Bd (fun n k=>(B n).bind (G n k)) I Q):Bd (fun n k=>(bif c then A n else B n).bind (G n k)) I Q:=by
 cases c with
 |true=>exact h1 rfl
 |false=>exact h2 rfl
theorem Bd.fG {A:Nat→Option α} {B:Nat→α→Option γ} {G:Nat→(σ→Option τ)→γ→Option τ} (h:Bd (fun n k=>(A n).bind fun a=>(B n a).bind (G n k)) I Q):Bd (fun n k=>((A n).bind (B n)).bind (G n k)) I Q:=by
 rcases h with⟨s,h1,h2⟩|⟨t,h1,h2⟩
 ·exact .inl ⟨s,h1,h2.mono fun n hn k=>(Option.bind_assoc ..).trans (hn k)⟩
 ·exact .inr ⟨t,h1,h2.mono fun n hn k=>(Option.bind_assoc ..).trans (hn k)⟩
theorem Bd.ay {r:α} {G:Nat→(σ→Option τ)→α→Option τ} (h:Bd (fun n k=>G n k r) I Q):Bd (fun n k=>(some r).bind (G n k)) I Q:=h
end
section
variable {α β σ τ:Type} {I:σ→Prop} {Q:τ→Prop} {P:β→Prop}
theorem Bd.yes {c:Bool} {A B:Nat→(σ→Option τ)→Option τ} (hc:c=true) (h:Bd A I Q):Bd (fun n k=>bif c then A n k else B n k) I Q:=by subst hc;exact h
theorem Bd.no {c:Bool} {A B:Nat→(σ→Option τ)→Option τ} (hc:c=false) (h:Bd B I Q):Bd (fun n k=>bif c then A n k else B n k) I Q:=by subst hc;exact h
theorem Tt.yes {c:Bool} {A B:Nat→Option β} (hc:c=true) (h:Tt A P):Tt (fun n=>bif c then A n else B n) P:=by subst hc;exact h
theorem Tt.no {c:Bool} {A B:Nat→Option β} (hc:c=false) (h:Tt B P):Tt (fun n=>bif c then A n else B n) P:=by subst hc;exact h
theorem Bd.nth {l:List α} {i:Nat} {G:Nat→(σ→Option τ)→α→Option τ} (h:i<l.length) (hG:Bd (fun n k=>G n k l[i]) I Q):Bd (fun n k=>(nth? l (i:Int)).bind (G n k)) I Q:=by
 rw[dZ h];exact hG
theorem Bd.aeB {l:List α} {z:Int} {G:Nat→(σ→Option τ)→α→Option τ} (h0:0≤z) (h1:z<((l.length:Nat):Int)) (hG: ∀e,e∈l→l[z.toNat]? =some e→Bd (fun n k=>G n k e) I Q):Bd (fun n k=>(nth? l z).bind (G n k)) I Q:=by
 rw[wP h0 h1]
 exact hG _ (List.getElem_mem _) (List.getElem?_eq_getElem _)
theorem Bd.at {l:List α} {i:Nat} {G:Nat→(σ→Option τ)→α→Option τ} (h:i<l.length) (hG: ∀e,e∈l→l[i]? =some e→Bd (fun n k=>G n k e) I Q):Bd (fun n k=>(at? l i).bind (G n k)) I Q:=by
 unfold at?
 rw[List.getElem?_eq_getElem h]
 exact hG _ (List.getElem_mem _) (List.getElem?_eq_getElem _)
theorem Tt.aeB {l:List α} {z:Int} {G:Nat→α→Option β} (h0:0≤z) (h1:z<((l.length:Nat):Int)) (hG: ∀e,e∈l→l[z.toNat]? =some e→Tt (fun n=>G n e) P):Tt (fun n=>(nth? l z).bind (G n)) P:=by
 rw[wP h0 h1]
 exact hG _ (List.getElem_mem _) (List.getElem?_eq_getElem _)
theorem Tt.atB {l:List α} {i:Nat} {G:Nat→α→Option β} (h:i<l.length) (hG: ∀e,e∈l→l[i]? =some e→Tt (fun n=>G n e) P):Tt (fun n=>(at? l i).bind (G n)) P:=by
 unfold at?
 rw[List.getElem?_eq_getElem h]
 exact hG _ (List.getElem_mem _) (List.getElem?_eq_getElem _)
end
theorem Lp.count {σ τ:Type} {L:Nat→σ→(σ→Option τ)→Option τ} {Q:τ→Prop} (len:Nat) (I:Nat→σ→Prop)
 (hs: ∀i s,i<len→I i s→Bd (fun n k=>L n s k) (I (i+1)) Q) (hf: ∀s,I len s→Bd (fun n k=>L n s k) (fun _=>False) Q) {s:σ} (h:I 0 s):Lp L s Q:=Lp.range len I hs hf s h
theorem Lp.measure {σ τ:Type} {L:Nat→σ→(σ→Option τ)→Option τ} {Q:τ→Prop} (I:σ→Prop) (m:σ→Nat)
 (hs: ∀s,I s→Bd (fun n k=>L n s k) (fun s'=>I s'∧m s'<m s) Q) {s:σ} (h:I s):Lp L s Q:=by
 have key: ∀d s,m s<d→I s→Lp L s Q:=by
  intro d
  induction d with
  |zero=>intro s hm;omega
  |succ d ih=>intro s hm h;exact Lp.aaN (hs s h) fun s' h'=>ih s' (by omega) h'.1
 exact key (m s+1) s (by omega) h
theorem bf {p:Prop} [Decidable p] (h:p):decide p=true:=decide_eq_true h
theorem zU {p:Prop} [Decidable p] (h:decide p=true):p:=of_decide_eq_true h
theorem dec_not {p:Prop} [Decidable p] (h:decide p=false): ¬p:=of_decide_eq_false h
theorem rng {i m:Int} (h0:0≤i) (h1:i<m):(decide (0≤i)&&decide (i<m))=true:=by simp[h0,h1]
theorem yX {i:Int} (h0:0≤i) (h1:i≤1099511627776):(decide (0≤i)&&decide (i≤i)&&decide (i≤((au:Nat):Int)))=true:=by
 have:au=1099511627776:=by decide
 simp[h0];omega
theorem aI {i:Nat} (h:i<1099511627776):IntKind.wrap .i64 ((i:Int)+1)=((i+1:Nat):Int):=by
 rw[o7 _ (by omega) (by omega)];omega
theorem I5:au=1099511627776:=by decide
theorem qG {n:Nat} (h:n≤1099511627776):decide (n≤au)=true:=by
 rw[I5];exact decide_eq_true h
end Go.Bk
end
noncomputable section
namespace Go.Bk
open Go Go.AM
set_option linter.unusedVariables false
abbrev Rule:=Int×List Int×Int
abbrev Aut:=Int×List Int×List Rule
theorem acY (a b:Int) (c:List Int) (d:List Aut) (e f:Int) (rs:List Rule) (hr:rs.length≤au):
 Lp (fun _=>fU.L1) (a,b,c,d,e,f,rs,((rs.length:Nat):Int),(0:Int)) (fun t=>(t= .inl (a,b,c,d,e,f)∧ ∀r∈rs,r.2.1.length≤10)∨t= .inr (.inr false)):=by
 refine Lp.range rs.length (fun i s=>s=(a,b,c,d,e,f,rs,((rs.length:Nat):Int),(i:Int))∧ ∀j (h:j<rs.length),j<i→rs[j].2.1.length≤10) ?_ ?_ _ ⟨rfl,by intro j h h0;omega⟩
 ·rintro i s hi ⟨rfl,hI⟩
  by_cases h:(10:Int)<((rs[i].2.1.length:Nat):Int)
  ·exact .inr ⟨_,.inr rfl,.all fun n k=>by simp only[decide_true,cond_true,Option.bind_some,fU.L1,gX hi,dZ hi,h]⟩
  ·refine .inl ⟨_,⟨rfl,fun j hj h2=> ?_⟩,.all fun n k=>by simp only[decide_true,decide_false,cond_true,cond_false,Option.bind_some,fU.L1,gX hi,dZ hi,h,wrap_succ hi hr]⟩
   rcases Nat.lt_or_eq_of_le (Nat.le_of_lt_succ h2)with h3|rfl
   ·exact hI j hj h3
   ·omega
 ·rintro s ⟨rfl,hI⟩
  refine .inr ⟨_,.inl ⟨rfl,fun r hr'=> ?_⟩,.all fun n k=>by simp only[decide_false,cond_false,Option.bind_some,Aj,fU.L1]⟩
  obtain⟨j,hj,rfl⟩:=List.getElem_of_mem hr'
  exact hI j hj hj
theorem ac6 (al:List Int) (bs:List Aut) (hb:bs.length≤au) (hr: ∀b∈bs,b.2.2.length≤au):
 Lp (fU.L2) ((8:Int),(40:Int),al,bs,((bs.length:Nat):Int),(0:Int)) (fun t=>(t= .inl al∧ ∀b∈bs,b.2.1.length≤40∧b.2.2.length≤40∧(b.1≤8∨300<b.1)∧ ∀r∈b.2.2,r.2.1.length≤10)∨t= .inr false):=by
 refine Lp.range bs.length (fun i s=>s=((8:Int),(40:Int),al,bs,((bs.length:Nat):Int),(i:Int))∧ ∀j (h:j<bs.length),j<i→(bs[j].2.1.length≤40∧bs[j].2.2.length≤40∧(bs[j].1≤8∨300<bs[j].1)∧ ∀r∈bs[j].2.2,r.2.1.length≤10)) ?_ ?_ _ ⟨rfl,by intro j h h0;omega⟩
 ·rintro i s hi ⟨rfl,hI⟩
  by_cases h1:(40:Int)<((bs[i].2.1.length:Nat):Int)
  ·exact .inr ⟨_,.inr rfl,.all fun n k=>by simp only[decide_true,cond_true,Option.bind_some,fU.L2,gX hi,dZ hi,h1]⟩
  by_cases h2:(40:Int)<((bs[i].2.2.length:Nat):Int)
  ·exact .inr ⟨_,.inr rfl,.all fun n k=>by simp only[decide_true,decide_false,cond_true,cond_false,Option.bind_some,fU.L2,gX hi,dZ hi,h1,h2]⟩
  by_cases h3:(8:Int)<bs[i].1∧bs[i].1≤300
  ·exact .inr ⟨_,.inr rfl,.all fun n k=>by simp only[decide_true,decide_false,cond_true,cond_false,Option.bind_some,fU.L2,gX hi,dZ hi,h1,h2,h3.1,h3.2]⟩
  have hx: ∀n k,fU.L2 n ((8:Int),(40:Int),al,bs,((bs.length:Nat):Int),(i:Int)) k=((dD (fU.L1) n ((8:Int),(40:Int),al,bs,((bs.length:Nat):Int),(i:Int),bs[i].2.2,((List.length bs[i].2.2:Nat):Int),(0:Int))).bind fun q=>match q with
   |Sum.inl x8=>(k (x8.1,x8.2.1,x8.2.2.1,x8.2.2.2.1,x8.2.2.2.2.1,IntKind.wrap .i64 (x8.2.2.2.2.2+(1:Int))))
   |Sum.inr r=>some r):=by
   intro n k
   by_cases h4:(8:Int)<bs[i].1
   ·have h5: ¬bs[i].1≤300:=fun h=>h3 ⟨h4,h⟩
    simp only[decide_true,decide_false,cond_true,cond_false,Option.bind_some,fU.L2,gX hi,dZ hi,h1,h2,h4,h5]<;>rfl
   ·simp only[decide_true,decide_false,cond_true,cond_false,Option.bind_some,fU.L2,gX hi,dZ hi,h1,h2,h4]<;>rfl
  obtain⟨t,ht,he⟩:=(acY 8 40 al bs ((bs.length:Nat):Int) (i:Int) bs[i].2.2 (hr _ (List.getElem_mem hi))).ev
  rcases ht with⟨rfl,ht⟩|rfl
  ·refine .inl ⟨_,⟨rfl,fun j hj h2'=> ?_⟩,he.mono fun n hn k=>by rw[hx,hn];simp only[Option.bind_some,wrap_succ hi hb]⟩
   rcases Nat.lt_or_eq_of_le (Nat.le_of_lt_succ h2')with h3'|rfl
   ·exact hI j hj h3'
   ·exact⟨by omega,by omega,by omega,ht⟩
  ·exact .inr ⟨_,.inr rfl,he.mono fun n hn k=>by rw[hx,hn];simp only[Option.bind_some]⟩
 ·rintro s ⟨rfl,hI⟩
  refine .inr ⟨_,.inl ⟨rfl,fun r hr'=> ?_⟩,.all fun n k=>by simp only[decide_false,cond_false,Option.bind_some,Aj,fU.L2]⟩
  obtain⟨j,hj,rfl⟩:=List.getElem_of_mem hr'
  exact hI j hj hj
def TJ (al:List Int) (b:Aut):Prop:=al.length≤40∧b.2.1.length≤40∧b.2.2.length≤40∧(b.1≤8∨300<b.1)∧ ∀r∈b.2.2,r.2.1.length≤10
theorem Po (al:List Int) (bs:List Aut) (hb:bs.length≤au) (hr: ∀b∈bs,b.2.2.length≤au):
 Sp fU.P (al,(8:Int),(40:Int),bs) (fun r=>r=true→ ∀b∈bs,TJ al b):=by
 obtain⟨t,ht,he⟩:=(ac6 al bs hb hr).ev
 rcases ht with⟨rfl,ht⟩|rfl
 ·refine⟨_,fun h b hb=>⟨?_,ht b hb⟩,he.mono fun n hn=>by simp only[fU.P,hn,Option.bind_some];rfl⟩
  have:=of_decide_eq_true h
  omega
 ·exact⟨false,fun h=>(by cases h),he.mono fun n hn=>by simp only[fU.P,hn,Option.bind_some]⟩
theorem uQ {P:RT Int→Prop} (h: ∀a ks,(∀k∈ks,P k)→P (.mk a ks)) (t:RT Int):P t:=by
 match t with
 | .mk a ks=>exact h a ks (fun k hk=>uQ h k)
termination_by SizeOf.sizeOf t
decreasing_by
 have:=List.sizeOf_lt_of_mem hk
 simp only[RT.mk.sizeOf_spec]
 omega
mutual
def nds:RT Int→Nat
 | .mk _ ks=>Dc ks+1
def Dc:List (RT Int)→Nat
 | []=>0
 |k::ks=>nds k+Dc ks
end
theorem abt: ∀t,1≤nds t
 | .mk _ ks=>by simp only[nds];omega
theorem Ol {k:RT Int}: ∀{ks:List (RT Int)},k∈ks→nds k≤Dc ks
 |a::ks,h=>by
  simp only[Dc]
  rcases List.mem_cons.mp h with rfl|h
  ·omega
  ·have:=Ol h;omega
theorem NU: ∀ks:List (RT Int),ks.length≤Dc ks
 | []=>by simp[Dc]
 |k::ks=>by
  have:=NU ks
  have:=abt k
  simp only[Dc,List.length_cons];omega
theorem gq:au=1099511627776:=by decide
theorem Zj {F:Nat→Int×List (RT Int)×Int→Option Int} (hF: ∀n x,F (n+1) x=jX.P (F n) n x) (t:RT Int):
 nds t≤au→ ∀m:Int,0≤m→m≤1000→Sp F (t.a,t.kids,m) (fun r=>1≤r∧r≤m+1):=by
 induction t using uQ with
 |h a ks ih=>
 intro hn m h0 h1
 have hk:ks.length≤au:=by have:=NU ks;simp only[nds]at hn;omega
 have hl:Lp (fun n=>jX.L1 (F n)) (m,(1:Int),ks,((ks.length:Nat):Int),(0:Int)) (fun r=>1≤r∧r≤m+1):=by
  refine Lp.range ks.length (fun i s=> ∃c:Int,1≤c∧c≤m+1∧s=(m,c,ks,((ks.length:Nat):Int),(i:Int))) ?_ ?_ _ ⟨1,by omega,by omega,rfl⟩
  ·rintro i s hi ⟨c,hc,hc',rfl⟩
   by_cases h:c≤m
   ·obtain⟨r,⟨hr,hr'⟩,he⟩:=ih ks[i] (List.getElem_mem hi) (by have:=Ol (List.getElem_mem hi);simp only[nds]at hn;omega) (m-c) (by omega) (by omega)
    refine .inl ⟨_,⟨c+r,by omega,by omega,rfl⟩,he.mono fun n hn k=> ?_⟩
    simp only[decide_true,cond_true,Option.bind_some,jX.L1,gX hi,dZ hi,h,o7 (m-c) (by omega) (by omega),hn,o7 (c+r) (by omega) (by omega),wrap_succ hi hk]
   ·refine .inl ⟨_,⟨c,hc,hc',rfl⟩,.all fun n k=> ?_⟩
    simp only[decide_true,decide_false,cond_true,cond_false,Option.bind_some,jX.L1,gX hi,dZ hi,h,wrap_succ hi hk]
  ·rintro s ⟨c,hc,hc',rfl⟩
   exact .inr ⟨_,⟨hc,hc'⟩,.all fun n k=>by simp only[decide_false,cond_false,Aj,jX.L1]⟩
 obtain⟨r,hr,he⟩:=hl.ev
 exact Sp.step (F:=F) (G:=fun n=>jX.P (F n) n) hF ⟨r,hr,he.mono fun n hn=>by simp only[jX.P,RT.kids,hn,Option.bind_some]⟩
theorem QW {F:Nat→Int×List (RT Int)×Int→Option Int} {s:Int} {ks:List (RT Int)} {m:Int} {Q:Int→Prop} (h:Sp F (s,ks,m) Q):
 Sp (fun n=>Eo.P (F n) n) (s,ks,m) (fun _=>True):=by
 obtain⟨r,hr,he⟩:=h
 exact⟨_,trivial,he.mono fun n hn=>by simp only[Eo.P,hn,Option.bind_some];rfl⟩
theorem Qg {G:Nat→List Int×Int×Int×List Aut→Option Bool} {al:List Int} {bs:List Aut} (h:Sp G (al,(8:Int),(40:Int),bs) (fun r=>r=true→ ∀b∈bs,TJ al b)):
 Sp (fun n=>Ed.P (G n) n) (al,bs) (fun r=>r=true→ ∀b∈bs,TJ al b):=by
 obtain⟨r,hr,he⟩:=h
 exact⟨_,hr,he.mono fun n hn=>by simp only[Ed.P,hn,Option.bind_some]⟩
def J4 (x:Int):Prop:=0≤x∧x≤3
def abQ (al:List Int):Prop:=al.length≤12∧ ∀i (h:i<al.length),J4 al[i]
theorem yB (x:Int):Sp (fun n=>fZ.P n) x (fun r=>r=true ↔ ¬J4 x):=by
 by_cases h:x<0
 ·exact⟨true,by simp only[J4];simp;omega,.all fun n=>by simp only[decide_true,cond_true,Option.bind_some,fZ.P,h]⟩
 ·by_cases h':3<x
  ·exact⟨true,by simp only[J4];simp;omega,.all fun n=>by simp only[decide_true,decide_false,cond_false,Option.bind_some,fZ.P,h,h']⟩
  ·exact⟨false,by simp only[J4];simp;omega,.all fun n=>by simp only[decide_false,cond_false,Option.bind_some,fZ.P,h,h']⟩
theorem QF {F:Nat→Int→Option Bool} (hF: ∀x,Sp F x (fun r=>r=true ↔ ¬J4 x)) (al:List Int) (hl:al.length≤au):
 Sp (fun n=>fB.P (F n) n) al (fun r=>0≤r ↔ ∃i,∃h:i<al.length,¬J4 al[i]):=by
 have:=Lp.search (L:=fun n=>fB.L1 (F n)) al.length (fun i=>(al,((al.length:Nat):Int),(i:Int))) (fun i=> ∀h:i<al.length,J4 al[i]) (fun i=> .inr (i:Int)) (.inl ()) ?_ ?_
 ·obtain⟨t,ht,he⟩:=this.ev
  rcases ht with⟨rfl,ht⟩|⟨i,hi,hn,rfl⟩
  ·refine⟨-1,⟨fun h=>absurd h (by omega),?_⟩,he.mono fun n hn=> ?_⟩
   ·rintro⟨i,hi,h⟩;exact absurd (ht i hi hi) h
   ·show(dD _ n (al,((al.length:Nat):Int),(((0:Nat):Nat):Int))).bind _=_
    rw[hn];rfl
  ·refine⟨(i:Int),⟨fun _=>⟨i,hi,fun h=>hn fun _=>h⟩,fun _=>by omega⟩,he.mono fun n hn=> ?_⟩
   show(dD _ n (al,((al.length:Nat):Int),(((0:Nat):Nat):Int))).bind _=_
   rw[hn];rfl
 ·intro i hi
  obtain⟨r,hr,he⟩:=hF al[i]
  cases r
  ·exact .inl ⟨fun _=>Classical.byContradiction fun h=>(by have:=hr.mpr h;cases this),he.mono fun n hn k=>by simp only[decide_true,cond_true,cond_false,Option.bind_some,fB.L1,gX hi,dZ hi,hn,wrap_succ hi hl]⟩
  ·exact .inr ⟨fun h=>hr.mp rfl (h hi),he.mono fun n hn k=>by simp only[decide_true,cond_true,Option.bind_some,fB.L1,gX hi,dZ hi,hn]⟩
 ·exact .all fun n k=>by simp only[decide_false,cond_false,Option.bind_some,Aj,fB.L1]
theorem JL {F:Nat→List Int→Option Int} {al:List Int} {P:Prop} (h:Sp F al (fun r=>0≤r ↔ P)):
 Sp (fun n=>jH.P (F n) n) al (fun r=>r=true ↔ P):=by
 obtain⟨r,hr,he⟩:=h
 exact⟨decide (0≤r),decide_eq_true_iff.trans hr,he.mono fun n hn=>by simp only[jH.P,hn,Option.bind_some]⟩
theorem zQ {F:Nat→List Int→Option Bool} {al:List Int} (h:Sp F al (fun r=>r=true ↔ ∃i,∃h:i<al.length,¬J4 al[i])):
 Sp (fun n=>jC.P (F n) n) al (fun r=>r=true ↔ abQ al):=by
 obtain⟨r,hr,he⟩:=h
 by_cases hl:((al.length:Nat):Int)≤12
 ·refine⟨!r,?_,he.mono fun n hn=>by simp only[decide_true,cond_true,Option.bind_some,jC.P,hl,hn]⟩
  cases r
  ·simp only[Bool.not_false,true_iff]
   refine⟨by omega,fun i hi=>Classical.byContradiction fun h=> ?_⟩
   have:=hr.mpr ⟨i,hi,h⟩;cases this
  ·simp only[Bool.not_true]
   refine⟨fun h=>(by cases h),fun h=> ?_⟩
   obtain⟨i,hi,h'⟩:=hr.mp rfl
   exact absurd (h.2 i hi) h'
 ·exact⟨false,⟨fun h=>(by cases h),fun h=>absurd h.1 (by omega)⟩,.all fun n=>by simp only[decide_false,cond_false,Option.bind_some,jC.P,hl]⟩
theorem y5 (al:List Int):Sp cu.P al (fun r=>r=true ↔ abQ al):=by
 by_cases hl:(12:Int)<((al.length:Nat):Int)
 ·exact⟨false,⟨fun h=>(by cases h),fun h=>absurd h.1 (by omega)⟩,.all fun n=>by simp only[decide_true,cond_true,cu.P,hl]⟩
 have hb:al.length≤au:=by have:=gq;omega
 have:=Lp.search (L:=fun _=>cu.L1) al.length (fun i=>(al,((al.length:Nat):Int),(i:Int))) (fun i=> ∀h:i<al.length,J4 al[i]) (fun i=> .inr false) (.inl ()) ?_ ?_
 ·obtain⟨t,ht,he⟩:=this.ev
  rcases ht with⟨rfl,ht⟩|⟨i,hi,hn,rfl⟩
  ·refine⟨true,⟨fun _=>⟨by omega,fun i hi=>ht i hi hi⟩,fun _=>rfl⟩,he.mono fun n hn=> ?_⟩
   simp only[decide_false,cond_false,cu.P,hl]
   exact congrArg (Option.bind · _) hn
  ·refine⟨false,⟨fun h=>(by cases h),fun h=>absurd (fun _=>h.2 i hi) hn⟩,he.mono fun n hn=> ?_⟩
   simp only[decide_false,cond_false,cu.P,hl]
   exact congrArg (Option.bind · _) hn
 ·intro i hi
  by_cases h1:al[i]<0
  ·exact .inr ⟨fun h=>absurd (h hi).1 (by omega),.all fun n k=>by simp only[decide_true,cond_true,Option.bind_some,cu.L1,gX hi,dZ hi,h1]⟩
  by_cases h2:3<al[i]
  ·exact .inr ⟨fun h=>absurd (h hi).2 (by omega),.all fun n k=>by simp only[decide_true,decide_false,cond_true,cond_false,Option.bind_some,cu.L1,gX hi,dZ hi,h1,h2]⟩
  ·exact .inl ⟨fun _=>⟨by omega,by omega⟩,.all fun n k=>by simp only[decide_true,decide_false,cond_true,cond_false,Option.bind_some,cu.L1,gX hi,dZ hi,h1,h2,wrap_succ hi hb]⟩
 ·exact .all fun n k=>by simp only[decide_false,cond_false,Option.bind_some,Aj,cu.L1]
def iy (S f:Int):Prop:=0≤f∧f<S
def Zo (S:Int) (l:List Int) (i:Nat):Prop:= ∀h:i<l.length,iy S l[i]∧(0<i→l[i-1]<l[i])
def Vb (S:Int) (l:List Int) (i:Nat):Prop:= ∀h:i<l.length,iy S l[i]
def KX (al:List Int) (S:Int) (r:Rule):Prop:=0≤r.1∧r.1<((al.length:Nat):Int)∧(∀h:r.1.toNat<al.length,((r.2.1.length:Nat):Int)=al[r.1.toNat])∧iy S r.2.2∧ ∀i,i<r.2.1.length→Vb S r.2.1 i
def Ux (al:List Int) (S:Int) (l:List Rule) (i:Nat):Prop:= ∀h:i<l.length,KX al S l[i]
def gY (al:List Int) (a:Aut):Prop:=abQ al∧0≤a.1∧a.1≤300∧a.2.2.length≤20000∧(∀i,i<a.2.1.length→Zo a.1 a.2.1 i)∧ ∀i,i<a.2.2.length→Ux al a.1 a.2.2 i
theorem JO (x S:Int) (f:List Int) (rs:List Rule):Sp (fun n=>pG.P n) (x,S,f,rs) (fun r=>r=true ↔ iy S x):=by
 by_cases h:0≤x
 ·exact⟨decide (x<S),decide_eq_true_iff.trans ⟨fun h'=>⟨h,h'⟩,fun h'=>h'.2⟩,.all fun n=>by simp only[decide_true,cond_true,Option.bind_some,pG.P,h]⟩
 ·exact⟨false,⟨fun h=>(by cases h),fun h'=>absurd h'.1 h⟩,.all fun n=>by simp only[decide_false,cond_false,Option.bind_some,pG.P,h]⟩
section
variable {F:Nat→Int×Int×List Int×List Rule→Option Bool} (hF: ∀x S f rs,Sp F (x,S,f,rs) (fun r=>r=true ↔ iy S x))
include hF
theorem Nj (al:List Int) (S:Int) (fin:List Int) (rs:List Rule) (hl:fin.length≤au):
 Lp (fun n=>bQ.L1 (F n)) (al,S,fin,rs,fin,((fin.length:Nat):Int),(0:Int)) (fun t=>(t= .inl (al,S,fin,rs)∧ ∀i,i<fin.length→Zo S fin i)∨ ∃i,i<fin.length∧ ¬Zo S fin i∧t= .inr false):=by
 refine Lp.search fin.length (fun i=>(al,S,fin,rs,fin,((fin.length:Nat):Int),(i:Int))) (Zo S fin) (fun _=>Sum.inr false) (Sum.inl (al,S,fin,rs)) ?_ ?_
 ·intro i hi
  obtain⟨r,hr,he⟩:=hF fin[i] S fin rs
  cases r
  ·exact .inr ⟨fun h=>(by have:=hr.mpr (h hi).1;cases this),he.mono fun n hn k=>by simp only[decide_true,cond_true,Option.bind_some,Bool.not_false,bQ.L1,gX hi,dZ hi,hn]⟩
  ·have hs:=hr.mp rfl
   by_cases h0:0<i
   ·have h0':(0:Int)<(i:Int):=by omega
    have hp:i-1<fin.length:=by omega
    by_cases h1:fin[i]≤fin[i-1]
    ·exact .inr ⟨fun h=>by have:=(h hi).2 h0;omega,he.mono fun n hn k=>by simp only[decide_true,cond_true,cond_false,Option.bind_some,Bool.not_true,bQ.L1,gX hi,dZ hi,hn,h0',QT hi hl h0,dZ hp,h1]⟩
    ·exact .inl ⟨fun _=>⟨hs,fun _=>by omega⟩,he.mono fun n hn k=>by simp only[decide_true,decide_false,cond_true,cond_false,Option.bind_some,Bool.not_true,bQ.L1,gX hi,dZ hi,hn,h0',QT hi hl h0,dZ hp,h1,wrap_succ hi hl]⟩
   ·have h0': ¬(0:Int)<(i:Int):=by omega
    exact .inl ⟨fun _=>⟨hs,fun h=>absurd h h0⟩,he.mono fun n hn k=>by simp only[decide_true,decide_false,cond_true,cond_false,Option.bind_some,Bool.not_true,bQ.L1,gX hi,dZ hi,hn,h0',wrap_succ hi hl]⟩
 ·exact .all fun n k=>by simp only[decide_false,cond_false,Option.bind_some,Aj,bQ.L1]
theorem Og (al:List Int) (S:Int) (fin:List Int) (rs rs':List Rule) (a b:Int) (l:List Int) (hl:l.length≤au):
 Lp (fun n=>bQ.L2 (F n)) (al,S,fin,rs,rs',a,b,l,((l.length:Nat):Int),(0:Int)) (fun t=>(t= .inl (al,S,fin,rs,rs',a,b)∧ ∀i,i<l.length→Vb S l i)∨ ∃i,i<l.length∧ ¬Vb S l i∧t= .inr (.inr false)):=by
 refine Lp.search l.length (fun i=>(al,S,fin,rs,rs',a,b,l,((l.length:Nat):Int),(i:Int))) (Vb S l) (fun _=>Sum.inr (Sum.inr false)) (Sum.inl (al,S,fin,rs,rs',a,b)) ?_ ?_
 ·intro i hi
  obtain⟨r,hr,he⟩:=hF l[i] S fin rs
  cases r
  ·exact .inr ⟨fun h=>(by have:=hr.mpr (h hi);cases this),he.mono fun n hn k=>by simp only[decide_true,cond_true,Option.bind_some,Bool.not_false,bQ.L2,gX hi,dZ hi,hn]⟩
  ·exact .inl ⟨fun _=>hr.mp rfl,he.mono fun n hn k=>by simp only[decide_true,cond_true,cond_false,Option.bind_some,Bool.not_true,bQ.L2,gX hi,dZ hi,hn,wrap_succ hi hl]⟩
 ·exact .all fun n k=>by simp only[decide_false,cond_false,Option.bind_some,Aj,bQ.L2]
theorem Ov (al:List Int) (S:Int) (fin:List Int) (rs:List Rule) (hl:rs.length≤au) (hr: ∀r∈rs,r.2.1.length≤au):
 Lp (fun n=>bQ.L3 (F n) n) (al,S,fin,rs,rs,((rs.length:Nat):Int),(0:Int)) (fun t=>(t= .inl ()∧ ∀i,i<rs.length→Ux al S rs i)∨ ∃i,i<rs.length∧ ¬Ux al S rs i∧t= .inr false):=by
 refine Lp.search rs.length (fun i=>(al,S,fin,rs,rs,((rs.length:Nat):Int),(i:Int))) (Ux al S rs) (fun _=>Sum.inr false) (Sum.inl ()) ?_ ?_
 ·intro i hi
  by_cases h1:rs[i].1<0
  ·exact .inr ⟨fun h=>absurd (h hi).1 (by omega),.all fun n k=>by simp only[decide_true,cond_true,Option.bind_some,bQ.L3,gX hi,dZ hi,h1]⟩
  by_cases h2:((al.length:Nat):Int)≤rs[i].1
  ·exact .inr ⟨fun h=>absurd (h hi).2.1 (by omega),.all fun n k=>by simp only[decide_true,decide_false,cond_true,cond_false,Option.bind_some,bQ.L3,gX hi,dZ hi,h1,h2]⟩
  have hx:=wP (l:=al) (z:=rs[i].1) (by omega) (by omega)
  by_cases h3:((rs[i].2.1.length:Nat):Int)=al[rs[i].1.toNat]'(by omega)
  ·obtain⟨r,hr1,he⟩:=hF rs[i].2.2 S fin rs
   cases r
   ·exact .inr ⟨fun h=>(by have:=hr1.mpr (h hi).2.2.2.1;cases this),he.mono fun n hn k=>by simp only[decide_true,decide_false,cond_true,cond_false,Option.bind_some,Bool.not_true,Bool.not_false,bQ.L3,gX hi,dZ hi,h1,h2,hx,h3,hn]⟩
   ·obtain⟨t,ht,he2⟩:=(Og hF al S fin rs rs ((rs.length:Nat):Int) (i:Int) rs[i].2.1 (hr _ (List.getElem_mem hi))).ev
    rcases ht with⟨rfl,ht⟩|⟨j,hj,hn,rfl⟩
    ·exact .inl ⟨fun _=>⟨by omega,by omega,fun _=>h3,hr1.mp rfl,ht⟩,(he.and he2).mono fun n hn k=>by rw[h3]at hn;simp only[decide_true,decide_false,cond_true,cond_false,Option.bind_some,Bool.not_true,bQ.L3,gX hi,dZ hi,h1,h2,hx,h3,hn.1,hn.2,wrap_succ hi hl]⟩
    ·exact .inr ⟨fun h=>hn ((h hi).2.2.2.2 j hj),(he.and he2).mono fun n hn k=>by rw[h3]at hn;simp only[decide_true,decide_false,cond_true,cond_false,Option.bind_some,Bool.not_true,bQ.L3,gX hi,dZ hi,h1,h2,hx,h3,hn.1,hn.2]⟩
  ·exact .inr ⟨fun h=>h3 ((h hi).2.2.1 (by omega)),.all fun n k=>by simp only[decide_true,decide_false,cond_true,cond_false,Option.bind_some,Bool.not_false,bQ.L3,gX hi,dZ hi,h1,h2,hx,h3]⟩
 ·exact .all fun n k=>by simp only[decide_false,cond_false,Option.bind_some,Aj,bQ.L3]
theorem NR {G:Nat→List Int→Option Bool} (hG: ∀al,al.length≤au→Sp G al (fun r=>r=true ↔ abQ al)) (al:List Int) (S:Int) (fin:List Int) (rs:List Rule) (h0:al.length≤au) (h1:fin.length≤au) (h2:rs.length≤au) (h3: ∀r∈rs,r.2.1.length≤au):
 Sp (fun n=>bQ.P (F n) (G n) n) (al,S,fin,rs) (fun r=>r=true ↔ gY al (S,fin,rs)):=by
 obtain⟨r,hr,he⟩:=hG al h0
 cases r
 ·exact⟨false,⟨fun h=>(by cases h),fun h=>hr.mpr h.1⟩,he.mono fun n hn=>by simp only[cond_true,Option.bind_some,Bool.not_false,bQ.P,hn]⟩
 have hal:=hr.mp rfl
 by_cases h4:S<0
 ·exact⟨false,⟨fun h=>(by cases h),fun h=>absurd h.2.1 (by simp only;omega)⟩,he.mono fun n hn=>by simp only[decide_true,cond_true,cond_false,Option.bind_some,Bool.not_true,bQ.P,hn,h4]⟩
 by_cases h5:300<S
 ·exact⟨false,⟨fun h=>(by cases h),fun h=>absurd h.2.2.1 (by simp only;omega)⟩,he.mono fun n hn=>by simp only[decide_true,decide_false,cond_true,cond_false,Option.bind_some,Bool.not_true,bQ.P,hn,h4,h5]⟩
 by_cases h6:20000<((rs.length:Nat):Int)
 ·exact⟨false,⟨fun h=>(by cases h),fun h=>absurd h.2.2.2.1 (by simp only;omega)⟩,he.mono fun n hn=>by simp only[decide_true,decide_false,cond_true,cond_false,Option.bind_some,Bool.not_true,bQ.P,hn,h4,h5,h6]⟩
 obtain⟨t1,ht1,he1⟩:=(Nj hF al S fin rs h1).ev
 rcases ht1 with⟨rfl,ht1⟩|⟨i,hi,hno,rfl⟩
 ·obtain⟨t2,ht2,he2⟩:=(Ov hF al S fin rs h2 h3).ev
  rcases ht2 with⟨rfl,ht2⟩|⟨i,hi,hno,rfl⟩
  ·exact⟨true,⟨fun _=>⟨hal,by simp only;omega,by simp only;omega,by simp only;omega,ht1,ht2⟩,fun _=>rfl⟩,(he.and (he1.and he2)).mono fun n hn=>by simp only[decide_false,cond_false,Option.bind_some,Bool.not_true,bQ.P,hn.1,h4,h5,h6,hn.2.1,hn.2.2]⟩
  ·exact⟨false,⟨fun h=>(by cases h),fun h=>absurd (h.2.2.2.2.2 i hi) hno⟩,(he.and (he1.and he2)).mono fun n hn=>by simp only[decide_false,cond_false,Option.bind_some,Bool.not_true,bQ.P,hn.1,h4,h5,h6,hn.2.1,hn.2.2]⟩
 ·exact⟨false,⟨fun h=>(by cases h),fun h=>absurd (h.2.2.2.2.1 i hi) hno⟩,(he.and he1).mono fun n hn=>by simp only[decide_false,cond_false,Option.bind_some,Bool.not_true,bQ.P,hn.1,h4,h5,h6,hn.2]⟩
end
end Go.Bk
end
noncomputable section
namespace Go.Bk
open Go Go.AM
set_option linter.unusedVariables false
theorem len1 {α:Type} {a:α}:List.length [a]=1:=rfl
theorem RX {α:Type} {l:List α} {i:Nat} (h:i<l.length):List.append (l.take i) [l[i]]=l.take (i+1):=by
 show l.take i++[l[i]]=_
 rw[List.take_add_one];simp[h]
theorem acR (l:List Int) (v:Int) (hl:l.length≤au):Sp uf.P (l,v) (fun r=>r=true ↔ v∈l):=by
 have:=Lp.search (L:=fun _=>uf.L1) l.length (fun i=>(v,l,((l.length:Nat):Int),(i:Int))) (fun i=> ∀h:i<l.length,l[i]≠v) (fun _=>Sum.inr true) (Sum.inl ()) ?_ ?_
 ·obtain⟨t,ht,he⟩:=this.ev
  rcases ht with⟨rfl,ht⟩|⟨i,hi,hn,rfl⟩
  ·refine⟨false,⟨fun h=>(by cases h),fun h=> ?_⟩,he.mono fun n hn=>congrArg (Option.bind · _) hn⟩
   obtain⟨j,hj,rfl⟩:=List.getElem_of_mem h
   exact absurd rfl (ht j hj hj)
  ·refine⟨true,⟨fun _=> ?_,fun _=>rfl⟩,he.mono fun n hn=>congrArg (Option.bind · _) hn⟩
   have:l[i]=v:=Classical.byContradiction fun h=>hn fun _=>h
   exact this▸List.getElem_mem hi
 ·intro i hi
  by_cases h:l[i]=v
  ·exact .inr ⟨fun h'=>h' hi h,.all fun n k=>by simp only[decide_true,cond_true,Option.bind_some,uf.L1,gX hi,dZ hi,h]⟩
  ·exact .inl ⟨fun _=>h,.all fun n k=>by simp only[decide_true,decide_false,cond_true,cond_false,Option.bind_some,uf.L1,gX hi,dZ hi,h,wrap_succ hi hl]⟩
 ·exact .all fun n k=>by simp only[decide_false,cond_false,Option.bind_some,Aj,uf.L1]
theorem WH (l:List Int) (v:Int) (hl:l.length+1≤au):Sp iQ.P (l,v) (fun r=>(∀y,y∈r ↔ y=v∨y∈l)∧r.length≤l.length+1):=by
 have hL:Lp (fun _=>iQ.L1) (l,v,(0:Int)) (fun t=> ∃i:Nat,i≤l.length∧t=(l,v,(i:Int))):=by
  refine Lp.range l.length (fun i s=>s=(l,v,(i:Int))) ?_ ?_ _ rfl
  ·rintro i s hi rfl
   by_cases h:l[i]<v
   ·exact .inl ⟨_,rfl,.all fun n k=>by simp only[decide_true,cond_true,Option.bind_some,iQ.L1,gX hi,dZ hi,h,wrap_succ hi (m:=l.length) (by omega)]⟩
   ·exact .inr ⟨_,⟨i,by omega,rfl⟩,.all fun n k=>by simp only[decide_true,decide_false,cond_true,cond_false,Option.bind_some,iQ.L1,gX hi,dZ hi,h]⟩
  ·rintro s rfl
   exact .inr ⟨_,⟨_,Nat.le_refl _,rfl⟩,.all fun n k=>by simp only[decide_false,cond_false,Option.bind_some,Aj,iQ.L1]⟩
 obtain⟨t,⟨i,hi,rfl⟩,he⟩:=hL.ev
 have h1:((0:Int)≤(i:Int))=True:=eq_true (by omega)
 have h2:((i:Int)≤((l.length:Nat):Int))=True:=eq_true (by omega)
 have e1:min i l.length≤au:=by omega
 have e2:min i l.length+1≤au:=by omega
 have e3:min i l.length+1+(l.length-i)≤au:=by omega
 have hm: ∀y,y∈l.take i++v::l.drop i ↔ y=v∨y∈l:=by
  intro y
  have:y∈l ↔ y∈l.take i∨y∈l.drop i:=by rw[←List.mem_append,List.take_append_drop]
  rw[this];simp only[List.mem_append,List.mem_cons]
  constructor
  ·rintro(h|h|h)<;>simp[h]
  ·rintro(h|h|h)<;>simp[h]
 have hll:(l.take i++v::l.drop i).length≤l.length+1:=by
  simp only[List.length_append,List.length_take,List.length_drop,List.length_cons];omega
 by_cases hlt:i<l.length
 ·by_cases hv:l[i]=v
  ·refine⟨l,⟨fun y=>⟨.inr,?_⟩,by omega⟩,he.mono fun n hn=>by simp only[decide_true,cond_true,Option.bind_some,iQ.P,hn,gX hlt,dZ hlt,hv]⟩
   rintro(rfl|h)
   ·exact hv▸List.getElem_mem hlt
   ·exact h
  ·refine⟨_,⟨hm,hll⟩,he.mono fun n hn=> ?_⟩
   simp only[decide_true,decide_false,cond_true,cond_false,Option.bind_some,Bool.and_true,Bool.true_and,iQ.P,hn,gX hlt,dZ hlt,hv,h1,h2]
   simp[Int.toNat_natCast,List.take_of_length_le]
   simp only[decide_true,cond_true,e1,e2,e3]
 ·have hlt':((i:Int)<((l.length:Nat):Int))=False:=eq_false (by omega)
  refine⟨_,⟨hm,hll⟩,he.mono fun n hn=> ?_⟩
  simp only[decide_true,decide_false,cond_false,Option.bind_some,Bool.and_true,Bool.true_and,iQ.P,hn,hlt',h1,h2]
  simp[Int.toNat_natCast,List.take_of_length_le]
  simp only[decide_true,cond_true,e1,e2,e3]
theorem abK {F:Nat→List Int×Int→Option Bool} (hF: ∀l v,l.length≤au→Sp F (l,v) (fun r=>r=true ↔ v∈l)) (l1 l2:List Int) (h1:l1.length≤au) (h2:l2.length≤au):
 Sp (fun n=>oC.P (F n) n) (l1,l2) (fun r=>r=true ↔ ∃q,q∈l1∧q∈l2):=by
 have:=Lp.search (L:=fun n=>oC.L1 (F n)) l1.length (fun i=>(l2,l1,((l1.length:Nat):Int),(i:Int))) (fun i=> ∀h:i<l1.length,¬l1[i]∈l2) (fun _=>Sum.inr true) (Sum.inl ()) ?_ ?_
 ·obtain⟨t,ht,he⟩:=this.ev
  rcases ht with⟨rfl,ht⟩|⟨i,hi,hn,rfl⟩
  ·refine⟨false,⟨fun h=>(by cases h),fun h=> ?_⟩,he.mono fun n hn=>congrArg (Option.bind · _) hn⟩
   obtain⟨q,hq,hq2⟩:=h
   obtain⟨j,hj,rfl⟩:=List.getElem_of_mem hq
   exact absurd hq2 (ht j hj hj)
  ·refine⟨true,⟨fun _=> ?_,fun _=>rfl⟩,he.mono fun n hn=>congrArg (Option.bind · _) hn⟩
   exact⟨l1[i],List.getElem_mem hi,Classical.byContradiction fun h=>hn fun _=>h⟩
 ·intro i hi
  obtain⟨r,hr,he⟩:=hF l2 l1[i] h2
  cases r
  ·exact .inl ⟨fun _ h=>(by have:=hr.mpr h;cases this),he.mono fun n hn k=>by simp only[decide_true,cond_true,cond_false,Option.bind_some,oC.L1,gX hi,dZ hi,hn,wrap_succ hi h1]⟩
  ·exact .inr ⟨fun h'=>h' hi (hr.mp rfl),he.mono fun n hn k=>by simp only[decide_true,cond_true,Option.bind_some,oC.L1,gX hi,dZ hi,hn]⟩
 ·exact .all fun n k=>by simp only[decide_false,cond_false,Option.bind_some,Aj,oC.L1]
theorem abf {F:Nat→List Int→Option (List Int)} (hF: ∀l:List Int,l.length≤au→Sp F l (fun r=>r=l)) (S:Int) (fin:List Int) (rs:List Rule) (h1:fin.length≤au) (h2:rs.length≤au) (h3: ∀r∈rs,r.2.1.length≤au):
 Sp (fun n=>oU.P (F n) n) (S,fin,rs) (fun r=>r=(S,fin,rs)):=by
 have hL:Lp (fun n=>oU.L1 (F n)) ((0:Int),([]:List Int),([]:List Rule),S,fin,([]:List Rule),rs,((rs.length:Nat):Int),(0:Int)) (fun t=>t=((0:Int),([]:List Int),([]:List Rule),S,fin,rs)):=by
  refine Lp.range rs.length (fun i s=>s=((0:Int),([]:List Int),([]:List Rule),S,fin,rs.take i,rs,((rs.length:Nat):Int),(i:Int))) ?_ ?_ _ rfl
  ·rintro i s hi rfl
   obtain⟨r,rfl,he⟩:=hF rs[i].2.1 (h3 _ (List.getElem_mem hi))
   refine .inl ⟨_,rfl,he.mono fun n hn k=> ?_⟩
   have e:(rs.take i).length+1≤au:=by rw[List.length_take];omega
   simp only[decide_true,cond_true,Option.bind_some,oU.L1,gX hi,dZ hi,hn,len1,e,wrap_succ hi h2]
   rw[←RX hi]
  ·rintro s rfl
   exact .inr ⟨_,rfl,.all fun n k=>by simp only[decide_false,cond_false,Aj,oU.L1,List.take_length]⟩
 obtain⟨r,rfl,he⟩:=hF fin h1
 obtain⟨t,rfl,he2⟩:=hL.ev
 exact⟨_,rfl,(he.and he2).mono fun n hn=>by simp only[Option.bind_some,oU.P,hn.1,hn.2]⟩
theorem YS (S:Int) (fin:List Int) (rs:List Rule) (h0:0≤S) (hS:S≤300) (h1:fin.length≤au) (hf: ∀q∈fin,iy S q):
 Sp lq.P (S,fin,rs) (fun r=>r.length=S.toNat∧ ∀q:Int,iy S q→q<((r.length:Nat):Int)∧at? r q.toNat=some (decide (q∈fin))):=by
 have hL:Lp (fun _=>lq.L1) (List.replicate S.toNat false,fin,((fin.length:Nat):Int),(0:Int)) (fun r=>r.length=S.toNat∧ ∀q:Nat,q<S.toNat→r[q]? =some (decide ((q:Int)∈fin))):=by
  refine Lp.range fin.length (fun i s=> ∃r:List Bool,s=(r,fin,((fin.length:Nat):Int),(i:Int))∧r.length=S.toNat∧ ∀q:Nat,q<S.toNat→r[q]? =some (decide ((q:Int)∈fin.take i))) ?_ ?_ _ ⟨_,rfl,List.length_replicate,fun q hq=>by simp[hq]⟩
  ·rintro i s hi ⟨r,rfl,hl,hr⟩
   have hs:=hf _ (List.getElem_mem hi)
   have a1:((0:Int)≤fin[i])=True:=eq_true hs.1
   have a2:(fin[i]<((r.length:Nat):Int))=True:=eq_true (by have:=hs.2;have:=hs.1;omega)
   have a3:at? r fin[i].toNat=some (r[fin[i].toNat]'(by have:=hs.2;have:=hs.1;omega)):=List.getElem?_eq_getElem _
   refine .inl ⟨_,⟨r.set fin[i].toNat true,rfl,by rw[List.length_set];exact hl,fun q hq=> ?_⟩,.all fun n k=> ?_⟩
   ·rw[List.getElem?_set]
    have e:(q:Int)∈fin.take (i+1) ↔ (q:Int)∈fin.take i∨(q:Int)=fin[i]:=by
     rw[show fin.take (i+1)=fin.take i++[fin[i]]from(RX hi).symm];simp only[List.mem_append,List.mem_singleton]
    by_cases hq':fin[i].toNat=q
    ·have:(q:Int)=fin[i]:=by have:=hs.1;omega
     rw[if_pos hq',if_pos (by omega)]
     exact congrArg some (decide_eq_true (e.mpr (.inr this))).symm
    ·have: ¬(q:Int)=fin[i]:=by omega
     rw[if_neg hq',hr q hq]
     congr 1
     exact decide_eq_decide.mpr ⟨fun h=>e.mpr (.inl h),fun h=>(e.mp h).resolve_right this⟩
   ·simp only[decide_true,cond_true,Option.bind_some,Bool.and_true,lq.L1,gX hi,dZ hi,a1,a2,a3,wrap_succ hi h1]
  ·rintro s ⟨r,rfl,hl,hr⟩
   exact .inr ⟨r,⟨hl,fun q hq=>by rw[hr q hq,List.take_length]⟩,.all fun n k=>by simp only[decide_false,cond_false,Aj,lq.L1]⟩
 obtain⟨r,⟨hr1,hr2⟩,he⟩:=hL.ev
 have a1:((0:Int)≤S)=True:=eq_true h0
 have a2:(S≤S)=True:=eq_true (Int.le_refl _)
 have a3:(S≤((au:Nat):Int))=True:=eq_true (by have:=gq;omega)
 refine⟨r,⟨hr1,fun q hq=>⟨by have:=hq.1;have:=hq.2;omega,?_⟩⟩,he.mono fun n hn=>by simp only[decide_true,cond_true,Option.bind_some,Bool.and_true,lq.P,a1,a2,a3,hn]⟩
 have:=hr2 q.toNat (by have:=hq.1;have:=hq.2;omega)
 rw[Int.toNat_of_nonneg hq.1]at this
 exact this
theorem F6 (t:RT Int):RT.mk t.a t.kids=t:=by cases t;rfl
inductive Shp (al:List Int):RT Int→Prop
 |mk (a:Int) (ks:List (RT Int)) (h0:0≤a) (h:al[a.toNat]? =some ((ks.length:Nat):Int)) (hk: ∀k,k∈ks→Shp al k):Shp al (.mk a ks)
theorem Shp.nonneg {al:List Int} {a:Int} {ks:List (RT Int)} (h:Shp al (.mk a ks)):0≤a:=by cases h;assumption
theorem Shp.ar {al:List Int} {a:Int} {ks:List (RT Int)} (h:Shp al (.mk a ks)):al[a.toNat]? =some ((ks.length:Nat):Int):=by cases h;assumption
theorem Shp.kid {al:List Int} {a:Int} {ks:List (RT Int)} (h:Shp al (.mk a ks)): ∀k,k∈ks→Shp al k:=by cases h;assumption
theorem Fj {a:Int} {ks:List (RT Int)} {k:RT Int} (h:k∈ks):nds k≤nds (.mk a ks):=by
 have:=Ol h;simp only[nds];omega
theorem E5 {a:Int} {ks:List (RT Int)}:ks.length≤nds (.mk a ks):=by
 have:=NU ks;simp only[nds];omega
theorem Yk {F:Nat→List Int×Int×List (RT Int)→Option Bool} (hF: ∀n x,F (n+1) x=fD.P (F n) n x) (al:List Int) (t:RT Int):
 nds t≤au→Sp F (al,t.a,t.kids) (fun r=>r=true ↔ Shp al t):=by
 induction t using uQ with
 |h a ks ih=>
 intro hn
 have hk:ks.length≤au:=Nat.le_trans E5 hn
 refine Sp.step (F:=F) (G:=fun n=>fD.P (F n) n) hF ?_
 simp only[RT.a,RT.kids]
 by_cases h1:a<0
 ·exact⟨false,⟨fun h=>(by cases h),fun h=>absurd h.nonneg (by omega)⟩,.all fun n=>by simp only[decide_true,cond_true,Option.bind_some,fD.P,h1]⟩
 by_cases h2:((al.length:Nat):Int)≤a
 ·exact⟨false,⟨fun h=>(by cases h),fun h=>absurd h.ar (by rw[List.getElem?_eq_none (by omega)];simp)⟩,.all fun n=>by simp only[decide_true,decide_false,cond_true,cond_false,Option.bind_some,fD.P,h1,h2]⟩
 have ha:a.toNat<al.length:=by omega
 have hx:=wP (l:=al) (z:=a) (by omega) (by omega)
 by_cases h3:((ks.length:Nat):Int)=al[a.toNat]
 ·have hL:=Lp.search (L:=fun n=>fD.L1 (F n)) ks.length (fun i=>(al,ks,((ks.length:Nat):Int),(i:Int))) (fun i=> ∀h:i<ks.length,Shp al ks[i]) (fun _=>Sum.inr false) (Sum.inl ()) ?_ ?_
  ·obtain⟨t,ht,he⟩:=hL.ev
   have hx':nth? al a=some ((ks.length:Nat):Int):=by rw[hx,h3]
   have hh: ∀n,fD.P (F n) n (al,a,ks)=(dD (fD.L1 (F n)) n (al,ks,((ks.length:Nat):Int),(0:Int))).bind fun q=>match q with
    |Sum.inl _=>(some true)
    |Sum.inr r=>some r:=by
    intro n
    simp only[decide_true,decide_false,cond_false,Option.bind_some,Bool.not_true,fD.P,h1,h2,hx']<;>rfl
   rcases ht with⟨rfl,ht⟩|⟨i,hi,hn',rfl⟩
   ·refine⟨true,⟨fun _=> .mk _ _ (by omega) (by rw[List.getElem?_eq_getElem ha,h3]) fun k hk=> ?_,fun _=>rfl⟩,he.mono fun n hn=> ?_⟩
    ·obtain⟨j,hj,rfl⟩:=List.getElem_of_mem hk
     exact ht j hj hj
    ·exact(hh n).trans (congrArg (Option.bind · _) hn)
   ·refine⟨false,⟨fun h=>(by cases h),fun h=>absurd (fun _=>h.kid _ (List.getElem_mem hi)) hn'⟩,he.mono fun n hn=> ?_⟩
    exact(hh n).trans (congrArg (Option.bind · _) hn)
  ·intro i hi
   obtain⟨r,hr,he⟩:=ih ks[i] (List.getElem_mem hi) (Nat.le_trans (Fj (List.getElem_mem hi)) hn)
   cases r
   ·exact .inr ⟨fun h=>(by have:=hr.mpr (h hi);cases this),he.mono fun n hn k=>by simp only[decide_true,cond_true,Option.bind_some,Bool.not_false,fD.L1,gX hi,dZ hi,hn]⟩
   ·exact .inl ⟨fun _=>hr.mp rfl,he.mono fun n hn k=>by simp only[decide_true,cond_true,cond_false,Option.bind_some,Bool.not_true,fD.L1,gX hi,dZ hi,hn,wrap_succ hi hk]⟩
  ·exact .all fun n k=>by simp only[decide_false,cond_false,Option.bind_some,Aj,fD.L1]
 ·refine⟨false,⟨fun h=>(by cases h),fun h=>absurd h.ar ?_⟩,.all fun n=>by simp only[decide_false,cond_true,cond_false,Option.bind_some,Bool.not_false,fD.P,h1,h2,hx,h3]⟩
  rw[List.getElem?_eq_getElem ha]
  intro h;exact h3 (Option.some.inj h).symm
theorem KO {F:Nat→Int×List (RT Int)×Int→Option Bool} {G:Nat→List Int→Option Bool} {K:Nat→List Int×Int×List (RT Int)→Option Bool} {al:List Int} {t:RT Int} {R:Bool→Prop}
 (h1:Sp F (t.a,t.kids,(300:Int)) R) (h2:Sp G al (fun r=>r=true ↔ abQ al)) (h3:Sp K (al,t.a,t.kids) (fun r=>r=true ↔ Shp al t)):
 Sp (fun n=>qZ.P (F n) (G n) (K n) n) (al,t.a,t.kids) (fun r=>r=true→Shp al t):=by
 obtain⟨r1,hr1,he1⟩:=h1
 obtain⟨r2,hr2,he2⟩:=h2
 obtain⟨r3,hr3,he3⟩:=h3
 cases r2
 ·exact⟨false,fun h=>(by cases h),he2.mono fun n hn=>by simp only[cond_false,Option.bind_some,qZ.P,hn]⟩
 cases r1
 ·exact⟨false,fun h=>(by cases h),(he1.and he2).mono fun n hn=>by simp only[cond_true,cond_false,Option.bind_some,qZ.P,hn.1,hn.2]⟩
 exact⟨r3,hr3.mp,(he1.and (he2.and he3)).mono fun n hn=>by simp only[cond_true,Option.bind_some,qZ.P,hn.1,hn.2.1,hn.2.2]⟩
inductive Reach (rs:List Rule):RT Int→Int→Prop
 |mk (r:Rule) (a:Int) (ks:List (RT Int)) (hr:r∈rs) (ha:r.1=a) (hl:r.2.1.length=ks.length)
  (hk: ∀(i:Nat) (k:RT Int) (f:Int),ks[i]? =some k→r.2.1[i]? =some f→Reach rs k f):Reach rs (.mk a ks) r.2.2
theorem dU {rs:List Rule} {a:Int} {ks:List (RT Int)} {q:Int}:Reach rs (.mk a ks) q ↔ ∃r∈rs,r.1=a∧r.2.2=q∧r.2.1.length=ks.length∧ ∀(i:Nat) (k:RT Int) (f:Int),ks[i]? =some k→r.2.1[i]? =some f→Reach rs k f:=by
 constructor
 ·intro h
  cases h with
  |mk r _ _ hr ha hl hk=>exact⟨r,hr,ha,rfl,hl,hk⟩
 ·rintro⟨r,hr,ha,rfl,hl,hk⟩
  exact .mk r a ks hr ha hl hk
inductive Sub:RT Int→RT Int→Prop
 |refl (t):Sub t t
 |kid (u k:RT Int) (a:Int) (ks:List (RT Int)) (hk:k∈ks) (h:Sub u k):Sub u (.mk a ks)
theorem Shp.sub {al:List Int} {u t:RT Int} (h:Sub u t) (hs:Shp al t):Shp al u:=by
 induction h with
 |refl=>exact hs
 |kid k a ks hk h ih=>exact ih (hs.kid k hk)
def Ar (al:List Int) (rs:List Rule):Prop:= ∀r∈rs,0≤r.1∧al[r.1.toNat]? =some ((r.2.1.length:Nat):Int)
def Fit (s:Int) (qs:List (List Int)) (r:Rule):Prop:=r.1=s∧r.2.1.length=qs.length∧ ∀(i:Nat) (l:List Int) (f:Int),qs[i]? =some l→r.2.1[i]? =some f→f∈l
theorem aa0 {F:Nat→List Int×Int→Option Bool} {G:Nat→List Int×Int→Option (List Int)}
 (hF: ∀l v,l.length≤au→Sp F (l,v) (fun r=>r=true ↔ v∈l))
 (hG: ∀(l:List Int) v,l.length+1≤au→Sp G (l,v) (fun r=>(∀y,y∈r ↔ y=v∨y∈l)∧r.length≤l.length+1))
 (S:Int) (fin:List Int) (rs:List Rule) (s:Int) (qs:List (List Int)) (h1:rs.length+1≤au) (h2:qs.length≤au) (h3: ∀l∈qs,l.length≤au)
 (har: ∀r∈rs,r.1=s→r.2.1.length=qs.length):
 Sp (fun n=>iM.P (F n) (G n) n) (S,fin,rs,s,qs) (fun l=>(∀q,q∈l ↔ ∃r∈rs,Fit s qs r∧r.2.2=q)∧l.length≤rs.length):=by
 have inner: ∀(acc:List Int) (i:Nat) (r:Rule),r∈rs→Lp (fun n=>iM.L1 (F n)) (s,qs,acc,r.1,r.2.1,r.2.2,decide (r.1=s),(0:Int),rs,((rs.length:Nat):Int),(i:Int))
  (fun t=> ∃b:Bool,t=(s,qs,acc,r.1,r.2.1,r.2.2,b,rs,((rs.length:Nat):Int),(i:Int))∧(b=true ↔ Fit s qs r)):=by
  intro acc i r hr
  refine Lp.range qs.length (fun j x=> ∃b:Bool,x=(s,qs,acc,r.1,r.2.1,r.2.2,b,(j:Int),rs,((rs.length:Nat):Int),(i:Int))∧(b=true ↔ r.1=s∧ ∀(i:Nat) (l:List Int) (f:Int),i<j→qs[i]? =some l→r.2.1[i]? =some f→f∈l)) ?_ ?_ _ ⟨_,rfl,?_⟩
  ·rintro j x hj ⟨b,rfl,hb⟩
   cases b
   ·refine .inr ⟨_,⟨false,rfl,⟨fun h=>(by cases h),fun h=> ?_⟩⟩,.all fun n k=>by simp only[cond_false,Option.bind_some,iM.L1]⟩
    exact hb.mpr ⟨h.1,fun i l f _ hl hf=>h.2.2 i l f hl hf⟩
   ·have hb':=hb.mp rfl
    have hl:=har r hr hb'.1
    have hj':j<r.2.1.length:=by omega
    obtain⟨v,hv,he⟩:=hF qs[j] r.2.1[j] (h3 _ (List.getElem_mem hj))
    refine .inl ⟨_,⟨v,rfl,hv.trans ⟨fun h=>⟨hb'.1,fun i l f hi hl hf=> ?_⟩,fun h=>h.2 j _ _ (by omega) (List.getElem?_eq_getElem hj) (List.getElem?_eq_getElem hj')⟩⟩,he.mono fun n hn k=>by simp only[decide_true,cond_true,Option.bind_some,iM.L1,gX hj,dZ hj,dZ hj',hn,wrap_succ hj h2]⟩
    rcases Nat.lt_or_eq_of_le (Nat.le_of_lt_succ hi)with hi|rfl
    ·exact hb'.2 i l f hi hl hf
    ·rw[List.getElem?_eq_getElem hj]at hl
     rw[List.getElem?_eq_getElem hj']at hf
     cases hl;cases hf;exact h
  ·rintro x ⟨b,rfl,hb⟩
   refine .inr ⟨_,⟨b,rfl,hb.trans ⟨fun h=>⟨h.1,har r hr h.1,fun i l f hl hf=>h.2 i l f ?_ hl hf⟩,fun h=>⟨h.1,fun i l f _ hl hf=>h.2.2 i l f hl hf⟩⟩⟩,.all fun n k=>by cases b<;>simp only[decide_false,cond_true,cond_false,Option.bind_some,Aj,iM.L1]⟩
   exact(List.getElem?_eq_some_iff.mp hl).1
  ·rw[decide_eq_true_iff]
   exact⟨fun h=>⟨h,fun i l f hi=>absurd hi (by omega)⟩,fun h=>h.1⟩
 have outer:Lp (fun n=>iM.L2 (F n) n (G n)) (s,qs,([]:List Int),rs,((rs.length:Nat):Int),(0:Int)) (fun l=>(∀q,q∈l ↔ ∃r∈rs,Fit s qs r∧r.2.2=q)∧l.length≤rs.length):=by
  refine Lp.range rs.length (fun i x=> ∃acc:List Int,x=(s,qs,acc,rs,((rs.length:Nat):Int),(i:Int))∧(∀q,q∈acc ↔ ∃r∈rs.take i,Fit s qs r∧r.2.2=q)∧acc.length≤i) ?_ ?_ _ ⟨[],rfl,fun q=>by simp,Nat.le_refl _⟩
  ·rintro i x hi ⟨acc,rfl,hacc,hlen⟩
   obtain⟨t,⟨b,rfl,hb⟩,he⟩:=(inner acc i rs[i] (List.getElem_mem hi)).ev
   have e:rs.take (i+1)=rs.take i++[rs[i]]:=(RX hi).symm
   cases b
   ·refine .inl ⟨_,⟨acc,rfl,fun q=>(hacc q).trans ?_,by omega⟩,he.mono fun n hn k=>by simp only[decide_true,cond_true,cond_false,Option.bind_some,iM.L2,gX hi,dZ hi,hn,wrap_succ hi (m:=rs.length) (by omega)]⟩
    rw[e]
    constructor
    ·rintro⟨r,hr,h⟩;exact⟨r,List.mem_append_left _ hr,h⟩
    ·rintro⟨r,hr,h⟩
     rcases List.mem_append.mp hr with hr|hr
     ·exact⟨r,hr,h⟩
     ·obtain rfl:=List.mem_singleton.mp hr
      exact absurd (hb.mpr h.1) (by simp)
   ·obtain⟨acc',⟨hm,hl'⟩,he'⟩:=hG acc rs[i].2.2 (by omega)
    refine .inl ⟨_,⟨acc',rfl,fun q=>(hm q).trans ?_,by omega⟩,(he.and he').mono fun n hn k=>by simp only[decide_true,cond_true,Option.bind_some,iM.L2,gX hi,dZ hi,hn.1,hn.2,wrap_succ hi (m:=rs.length) (by omega)]⟩
    rw[e,hacc]
    constructor
    ·rintro(rfl|⟨r,hr,h⟩)
     ·exact⟨rs[i],List.mem_append_right _ (List.mem_singleton.mpr rfl),hb.mp rfl,rfl⟩
     ·exact⟨r,List.mem_append_left _ hr,h⟩
    ·rintro⟨r,hr,h⟩
     rcases List.mem_append.mp hr with hr|hr
     ·exact .inr ⟨r,hr,h⟩
     ·obtain rfl:=List.mem_singleton.mp hr
      exact .inl h.2.symm
  ·rintro x ⟨acc,rfl,hacc,hlen⟩
   exact .inr ⟨_,⟨fun q=>by rw[hacc,List.take_length],hlen⟩,.all fun n k=>by simp only[decide_false,cond_false,Aj,iM.L2]⟩
 obtain⟨t,ht,he⟩:=outer.ev
 exact⟨t,ht,he.mono fun n hn=>by simp only[iM.P,hn,Option.bind_some]⟩
theorem aek {F:Nat→Int×List Int×List Rule×Int×List (RT Int)→Option (List Int)} {G:Nat→Int×List Int×List Rule×Int×List (List Int)→Option (List Int)}
 (hF: ∀n x,F (n+1) x=rU.P (F n) (G n) n x) (al:List Int) (S:Int) (fin:List Int) (rs:List Rule) (h1:rs.length+1≤au) (har:Ar al rs)
 (hG: ∀s (qs:List (List Int)),qs.length≤au→(∀l∈qs,l.length≤au)→(∀r∈rs,r.1=s→r.2.1.length=qs.length)→Sp G (S,fin,rs,s,qs) (fun l=>(∀q,q∈l ↔ ∃r∈rs,Fit s qs r∧r.2.2=q)∧l.length≤rs.length))
 (t:RT Int):nds t≤au→Shp al t→Sp F (S,fin,rs,t.a,t.kids) (fun l=>(∀q,q∈l ↔ Reach rs t q)∧l.length≤rs.length):=by
 induction t using uQ with
 |h a ks ih=>
 intro hn hs
 have hk:ks.length≤au:=Nat.le_trans E5 hn
 refine Sp.step (F:=F) (G:=fun n=>rU.P (F n) (G n) n) hF ?_
 simp only[RT.a,RT.kids]
 have hL:Lp (fun n=>rU.L1 (F n)) (S,fin,rs,a,ks,([]:List (List Int)),ks,((ks.length:Nat):Int),(0:Int))
  (fun x=> ∃qs:List (List Int),x=(S,fin,rs,a,ks,qs)∧qs.length=ks.length∧ ∀(j:Nat) (k:RT Int) (l:List Int),ks[j]? =some k→qs[j]? =some l→(∀q,q∈l ↔ Reach rs k q)∧l.length≤rs.length):=by
  refine Lp.range ks.length (fun i x=> ∃qs:List (List Int),x=(S,fin,rs,a,ks,qs,ks,((ks.length:Nat):Int),(i:Int))∧qs.length=i∧ ∀(j:Nat) (k:RT Int) (l:List Int),ks[j]? =some k→qs[j]? =some l→(∀q,q∈l ↔ Reach rs k q)∧l.length≤rs.length) ?_ ?_ _ ⟨[],rfl,rfl,fun j k l _ h=>by simp at h⟩
  ·rintro i x hi ⟨qs,rfl,hq,hqs⟩
   obtain⟨r,hr,he⟩:=ih ks[i] (List.getElem_mem hi) (Nat.le_trans (Fj (List.getElem_mem hi)) hn) (hs.kid _ (List.getElem_mem hi))
   have e:qs.length+1≤au:=by omega
   refine .inl ⟨_,⟨qs++[r],rfl,by simp[hq],fun j k l hk hl=> ?_⟩,he.mono fun n hn k=>by simp only[decide_true,cond_true,Option.bind_some,rU.L1,gX hi,dZ hi,hn,len1,e,wrap_succ hi hk];rfl⟩
   rw[List.getElem?_append]at hl
   split at hl
   ·exact hqs j k l hk hl
   ·have hj:j=i:=by
     have:=(List.getElem?_eq_some_iff.mp hl).1
     simp at this;omega
    subst hj
    rw[List.getElem?_eq_getElem hi]at hk
    have:l=r:=by simpa [hq]using hl.symm
    cases hk;rw[this];exact hr
  ·rintro x ⟨qs,rfl,hq,hqs⟩
   exact .inr ⟨_,⟨qs,rfl,hq,hqs⟩,.all fun n k=>by simp only[decide_false,cond_false,Aj,rU.L1]⟩
 obtain⟨x,⟨qs,rfl,hq,hqs⟩,he⟩:=hL.ev
 have hkid: ∀j (hj:j<ks.length),∃l,qs[j]? =some l:=fun j hj=>⟨_,List.getElem?_eq_getElem (by omega)⟩
 obtain⟨r,⟨hr,hr'⟩,he2⟩:=hG a qs (by omega) (fun l hl=>by
  obtain⟨j,hj,rfl⟩:=List.getElem_of_mem hl
  have:=(hqs j _ _ (List.getElem?_eq_getElem (by omega)) (List.getElem?_eq_getElem hj)).2
  omega) (fun r hr ha=>by
  have h:=(har r hr).2
  rw[ha,hs.ar]at h
  have:=Option.some.inj h
  omega)
 refine⟨r,⟨fun q=> ?_,hr'⟩,(he.and he2).mono fun n hn=>by simp only[rU.P,hn.1,hn.2,Option.bind_some]⟩
 rw[hr,dU]
 constructor
 ·rintro⟨r,hrm,⟨ha,hl,hf⟩,rfl⟩
  refine⟨r,hrm,ha,rfl,by omega,fun i k f hk' hf'=> ?_⟩
  obtain⟨l,hl'⟩:=hkid i (List.getElem?_eq_some_iff.mp hk').1
  exact((hqs i k l hk' hl').1 f).mp (hf i l f hl' hf')
 ·rintro⟨r,hrm,ha,rfl,hl,hf⟩
  refine⟨r,hrm,⟨ha,by omega,fun i l f hl' hf'=> ?_⟩,rfl⟩
  have hi:i<ks.length:=by have:=(List.getElem?_eq_some_iff.mp hl').1;omega
  exact((hqs i _ l (List.getElem?_eq_getElem hi) hl').1 f).mpr (hf i _ f (List.getElem?_eq_getElem hi) hf')
def Acc (rs:List Rule) (fin:List Int) (t:RT Int):Prop:= ∃q,Reach rs t q∧q∈fin
theorem abU {F:Nat→List Int×List Int→Option Bool} {G:Nat→Int×List Int×List Rule×Int×List (RT Int)→Option (List Int)} {S:Int} {fin:List Int} {rs:List Rule} {t:RT Int}
 (h1:rs.length≤au) (h2:fin.length≤au)
 (hF: ∀l1 l2:List Int,l1.length≤au→l2.length≤au→Sp F (l1,l2) (fun r=>r=true ↔ ∃q,q∈l1∧q∈l2))
 (hG:Sp G (S,fin,rs,t.a,t.kids) (fun l=>(∀q,q∈l ↔ Reach rs t q)∧l.length≤rs.length)):
 Sp (fun n=>Ec.P (F n) (G n) n) (S,fin,rs,t.a,t.kids) (fun r=>r=true ↔ Acc rs fin t):=by
 obtain⟨l,⟨hl,hl'⟩,he⟩:=hG
 obtain⟨r,hr,he2⟩:=hF l fin (by omega) h2
 refine⟨r,hr.trans ?_,(he.and he2).mono fun n hn=>by simp only[Ec.P,hn.1,hn.2,Option.bind_some]⟩
 simp only[hl,Acc]
def look:RT Int→List Int→Option (RT Int)
 |t,[]=>some t
 |t,i::p=>(nth? t.kids i).bind fun k=>look k p
theorem gY.rule {al:List Int} {a:Aut} (h:gY al a) {r:Rule} (hr:r∈a.2.2):KX al a.1 r:=by
 obtain⟨i,hi,rfl⟩:=List.getElem_of_mem hr
 exact h.2.2.2.2.2 i hi hi
theorem gY.final {al:List Int} {a:Aut} (h:gY al a) {q:Int} (hq:q∈a.2.1):iy a.1 q:=by
 obtain⟨i,hi,rfl⟩:=List.getElem_of_mem hq
 exact(h.2.2.2.2.1 i hi hi).1
section
variable {al:List Int} {S:Int}
theorem KX.from {r:Rule} (h:KX al S r) {i:Nat} {f:Int} (hf:r.2.1[i]? =some f):iy S f:=by
 obtain⟨hi,rfl⟩:=List.getElem?_eq_some_iff.mp hf
 exact h.2.2.2.2 i hi hi
theorem KX.ar {r:Rule} (h:KX al S r):0≤r.1∧al[r.1.toNat]? =some ((r.2.1.length:Nat):Int):=by
 refine⟨h.1,?_⟩
 have:r.1.toNat<al.length:=by have:=h.1;have:=h.2.1;omega
 rw[List.getElem?_eq_getElem this,h.2.2.1 this]
theorem gY.ar {a:Aut} (h:gY al a):Ar al a.2.2:=fun r hr=>(h.rule hr).ar
end
end Go.Bk
end
noncomputable section
namespace Go.Bk
open Go Go.AM
set_option linter.unusedVariables false
def rows {α:Type} (L:List α):List (Option α):=L.map some
theorem rW {α:Type} (L:List α):(rows L).length=L.length:=List.length_map ..
theorem DX {α:Type} (L:List α) (i:Nat) (y:α):List.set (List.set (rows L) i none) i (some y)=rows (L.set i y):=by
 rw[List.set_set];exact(List.map_set ..).symm
theorem Ht {α:Type} (n:Nat) (y:α):List.replicate n (some y)=rows (List.replicate n y):=(List.map_replicate ..).symm
theorem Ei {α:Type}: ∀L:List α,qh (rows L)=some L
 | []=>rfl
 |x::L=>by show(qh (rows L)).map (x:: ·)=_;rw[Ei L];rfl
theorem abw {α:Type} {L:List α} {i:Nat} (h:i<L.length):rowAt? (rows L) i=some L[i]:=by
 unfold rowAt? rows
 rw[List.getElem?_map,List.getElem?_eq_getElem h];rfl
theorem Bd.row {α σ τ:Type} {I:σ→Prop} {Q:τ→Prop} {L:List α} {i:Nat} {G:Nat→(σ→Option τ)→α→Option τ} (h:i<L.length) (hG:Bd (fun n k=>G n k L[i]) I Q):Bd (fun n k=>(rowAt? (rows L) i).bind (G n k)) I Q:=by
 rw[abw h];exact hG
theorem Xl {S:Int} {l:List Int} (hn:l.Nodup) (h: ∀q∈l,iy S q):l.length≤S.toNat:=by
 have:=hn.length_le_of_subset (l₂:=(List.range S.toNat).map fun i:Nat=>(i:Int)) fun q hq=>by
  obtain⟨h0,h1⟩:=h q hq
  exact List.mem_map.2 ⟨q.toNat,List.mem_range.2 (by omega),by omega⟩
 simpa using this
theorem rX {α β:Type} [DecidableEq α] {q:α→α→Bool} (hq: ∀a b,q a b=true ↔ a=b) (x y:α) (v:β): ∀l:List (α×β),nV q x (ED q y v l)=if x=y then some v else nV q x l
 | []=>by
   simp only[ED,nV,cond_eq_ite]
   by_cases h:x=y
   ·rw[if_pos ((hq x y).2 h),if_pos h]
   ·rw[if_neg fun e=>h ((hq x y).1 e),if_neg h]
 |p::l=>by
  simp only[ED,cond_eq_ite]
  split
  ·rename_i hy
   have hy:=(hq y p.1).1 hy
   simp only[nV,cond_eq_ite]
   by_cases h:x=y
   ·rw[if_pos ((hq x y).2 h),if_pos h]
   ·rw[if_neg fun e=>h ((hq x y).1 e),if_neg h,if_neg fun e=>h (((hq x p.1).1 e).trans hy.symm)]
  ·rename_i hy
   simp only[nV,cond_eq_ite,rX hq x y v l]
   split
   ·rename_i hx
    have hx:=(hq x p.1).1 hx
    rw[if_neg fun e:x=y=>hy ((hq y p.1).2 (e.symm.trans hx))]
   ·rfl
theorem abe (a b:Int):ieq a b=true ↔ a=b:=decide_eq_true_iff
theorem Dn (a b:ByteArray):seq a b=true ↔ a=b:=decide_eq_true_iff
theorem Zt (a b:Bool):acN a b=true ↔ a=b:=by cases a<;>cases b<;>simp[acN]
def QOk (l:List Int) (m:Option (List (Int×Bool))):Prop:=l.Nodup∧ ∀x,Option.getD (nV ieq x (mD m)) false=true ↔ x∈l
theorem YC:QOk [] none:=⟨List.nodup_nil,fun x=>by simp[mD,nV]⟩
theorem acd (l:List Int) (m:Option (List (Int×Bool))) (x:Int) (h:QOk l m) (hl:l.length≤1000000):
 Sp jy.P (l,m,x) (fun r=>QOk r.1 r.2∧((x∈l∧r.1=l)∨(x∉l∧r.1=l++[x]))):=by
 show Tt (fun n=>jy.P n (l,m,x)) _
 have key: ∀m:Option (List (Int×Bool)),QOk l m→m.isNone=false→Tt (fun _:Nat=>(bif !(Option.getD (nV ieq x (mD m)) false)then
  (m.bind fun m2=>bif decide (List.length l+List.length ([x]:List Int)≤au)then some (List.append l ([x]:List Int),some (ED ieq x true m2))else none)
  else some (l,m)).bind fun x3=>some (x3.1,x3.2)) (fun r=>QOk r.1 r.2∧((x∈l∧r.1=l)∨(x∉l∧r.1=l++[x]))):=by
  intro m h hm
  refine Tt.eG (fun hc=> ?_) (fun hc=> ?_)
  ·have hx:x∉l:=fun hx=>by rw[(h.2 x).2 hx]at hc;cases hc
   cases m with
   |none=>cases hm
   |some m=>
    refine Tt.nM (qG (by simp;omega)) (Tt.pure ⟨⟨List.nodup_append.2 ⟨h.1,by simp,fun a ha b hb e=>hx (by rw[←List.mem_singleton.1 hb,←e];exact ha)⟩,fun y=> ?_⟩,.inr ⟨hx,rfl⟩⟩)
    show Option.getD (nV ieq y (ED ieq x true m)) false=true ↔ y∈l++[x]
    rw[rX abe,List.mem_append,List.mem_singleton]
    by_cases e:y=x
    ·rw[if_pos e];simp[e]
    ·rw[if_neg e];simp only[e,or_false];exact h.2 y
  ·have hx:x∈l:=(h.2 x).1 (by simpa using hc)
   exact Tt.pure ⟨h,.inl ⟨hx,rfl⟩⟩
 unfold jy.P;dsimp only
 refine Tt.eG (fun hc=> ?_) (fun hc=> ?_)
 ·exact key (some []) ⟨h.1,fun y=>by have:=h.2 y;cases m with|none=>exact this|some _=>cases hc⟩ rfl
 ·exact key m h hc
def Wf (S:Int) (fin:List Int) (rs:List Rule):Prop:=
 0≤S∧S≤1000∧fin.length≤1000∧rs.length≤100000∧(∀q∈fin,iy S q)∧ ∀r∈rs,iy S r.2.2∧(∀q∈r.2.1,iy S q)∧r.2.1.length≤3
theorem gY.wf {al:List Int} {a:Aut} (h:gY al a):Wf a.1 a.2.1 a.2.2:=by
 refine⟨h.2.1,by have:=h.2.2.1;omega,?_,by have:=h.2.2.2.1;omega,fun q hq=>h.final hq,fun r hr=> ?_⟩
 ·have h2: ∀(j i:Nat) (hi:i<a.2.1.length) (hj:j<a.2.1.length),i<j→a.2.1[i]<a.2.1[j]:=by
   intro j
   induction j with
   |zero=>intro i hi hj hij;omega
   |succ j ih=>
    intro i hi hj hij
    have h3:=(h.2.2.2.2.1 (j+1) hj hj).2 (by omega)
    simp only[Nat.add_sub_cancel]at h3
    rcases Nat.lt_or_eq_of_le (Nat.le_of_lt_succ hij)with h4|rfl
    ·have:=ih i hi (by omega) h4;omega
    ·exact h3
  have hnd:a.2.1.Nodup:=by
   rw[List.nodup_iff_pairwise_ne,List.pairwise_iff_getElem]
   intro i j hi hj hij e
   have:=h2 j i hi hj hij
   omega
  have:=Xl hnd fun q hq=>h.final hq
  have:=h.2.2.1;have:=h.2.1;omega
 ·have hk:=h.rule hr
  refine⟨hk.2.2.2.1,fun q hq=> ?_,?_⟩
  ·obtain⟨i,hi,rfl⟩:=List.getElem_of_mem hq
   exact hk.2.2.2.2 i hi hi
  ·have h1:r.1.toNat<al.length:=by have:=hk.1;have:=hk.2.1;omega
   have:=hk.2.2.1 h1
   have:=(h.1.2 _ h1).2
   omega
def aaC (al:List Int) (rs:List Rule) (by_:List (List Int)):Prop:=
 by_.length=al.length∧ ∀(s:Nat) (l:List Int),by_[s]? =some l→l.length≤rs.length∧ ∀v,v∈l ↔ ∃(i:Nat) (r:Rule),v=(i:Int)∧rs[i]? =some r∧r.1=(s:Int)
theorem adD (al:List Int) (S:Int) (fin:List Int) (rs:List Rule) (hal:al.length≤1000) (hrl:rs.length≤100000) (hs: ∀r∈rs,0≤r.1∧r.1<((al.length:Nat):Int)):
 Sp wJ.P (al,S,fin,rs) (aaC al rs):=by
 show Tt (fun n=>wJ.P n (al,S,fin,rs)) _
 unfold wJ.P;dsimp only
 refine Tt.chk (yX (by omega) (by omega)) ?_
 refine Tt.bind (R:=fun x=> ∃L,x=rows L∧aaC al rs L) (Tt.loop (Lp.count rs.length (fun i s=> ∃L:List (List Int),L.length=al.length∧
  (∀(s:Nat) (l:List Int),L[s]? =some l→l.length≤i∧ ∀v,v∈l ↔ ∃(j:Nat) (r:Rule),j<i∧v=(j:Int)∧rs[j]? =some r∧r.1=(s:Int))∧s=(rows L,rs,((rs.length:Nat):Int),(i:Int))) ?_ ?_ ?_)) ?_
 ·rintro i s hi ⟨L,hL,hI,rfl⟩
  unfold wJ.L1;dsimp only
  obtain⟨q0,q1⟩:=hs rs[i] (List.getElem_mem hi)
  have hq:rs[i].1.toNat<L.length:=by omega
  have hq2:=hI _ _ (List.getElem?_eq_getElem hq)
  refine Bd.yes (bf (by omega)) (Bd.nth hi (Bd.chk (rng q0 (by rw[rW];omega)) (Bd.row hq (Bd.row hq (Bd.chk (qG (by simp;omega)) (Bd.chk (rng q0 (by rw[List.length_set,rW];omega)) (Bd.again ?_)))))))
  rw[DX]
  refine⟨L.set rs[i].1.toNat (List.append L[rs[i].1.toNat] [(i:Int)]),by simpa using hL,fun s l hl=> ?_,by rw[aI (by omega)]⟩
  rw[List.getElem?_set]at hl
  have step: ∀(v:Int) (Z:Prop),(Z ↔ ∃(j:Nat) (r:Rule),j<i∧v=(j:Int)∧rs[j]? =some r∧r.1=(s:Int))→((Z∨(v=(i:Int)∧rs[i].1=(s:Int))) ↔ ∃(j:Nat) (r:Rule),j<i+1∧v=(j:Int)∧rs[j]? =some r∧r.1=(s:Int)):=by
   intro v Z hZ
   rw[hZ]
   constructor
   ·rintro(⟨j,r,h1,h2,h3,h4⟩|⟨h1,h2⟩)
    ·exact⟨j,r,by omega,h2,h3,h4⟩
    ·exact⟨i,rs[i],by omega,h1,List.getElem?_eq_getElem hi,h2⟩
   ·rintro⟨j,r,h1,h2,h3,h4⟩
    rcases Nat.lt_or_eq_of_le (Nat.le_of_lt_succ h1)with h5|rfl
    ·exact .inl ⟨j,r,h5,h2,h3,h4⟩
    ·rw[List.getElem?_eq_getElem hi]at h3
     cases h3
     exact .inr ⟨h2,h4⟩
  split at hl
  ·rename_i e
   cases hl
   refine⟨by simp;omega,fun v=> ?_⟩
   rw[←step v _ ((hI s _ (by rw[←e];exact List.getElem?_eq_getElem hq)).2 v)]
   simp only[List.append_eq,List.mem_append,List.mem_singleton]
   have:rs[i].1=(s:Int):=by omega
   simp[this]
  ·rename_i e
   obtain⟨a1,a2⟩:=hI s l hl
   refine⟨by omega,fun v=> ?_⟩
   rw[←step v _ (a2 v)]
   have:rs[i].1≠(s:Int):=by omega
   simp[this]
 ·rintro s ⟨L,hL,hI,rfl⟩
  unfold wJ.L1;dsimp only
  refine Bd.no (decide_eq_false (by omega)) (Bd.done ⟨L,rfl,hL,fun s l hl=> ?_⟩)
  obtain⟨a1,a2⟩:=hI s l hl
  refine⟨a1,fun v=>(a2 v).trans ⟨fun⟨j,r,h1,h2⟩=>⟨j,r,h2⟩,fun⟨j,r,h2⟩=>⟨j,r,?_,h2⟩⟩⟩
  rcases Nat.lt_or_ge j rs.length with h|h
  ·exact h
  ·rw[List.getElem?_eq_none h]at h2;cases h2.2.1
 ·refine⟨List.replicate al.length [],by simp,fun s l hl=> ?_,by rw[Ht];rfl⟩
  rw[List.getElem?_replicate]at hl
  split at hl
  ·cases hl
   exact⟨by simp,fun v=>⟨fun h=>by simp at h,fun⟨j,r,h,_⟩=>absurd h (by omega)⟩⟩
  ·cases hl
 ·rintro x ⟨L,rfl,hL⟩
  rw[Ei]
  exact Tt.pure hL
end Go.Bk
end
noncomputable section
namespace Go.Bk
open Go Go.AM
set_option linter.unusedVariables false
def nf (l:List Bool):Nat:=l.count false
theorem Qq {l:List Bool} {i:Nat} (h:l[i]? =some false):nf (l.set i true)<nf l:=by
 unfold nf
 have hi:i<l.length:=by
  rcases Nat.lt_or_ge i l.length with h'|h'
  ·exact h'
  ·simp[List.getElem?_eq_none h']at h
 rw[List.getElem?_eq_getElem hi]at h
 have h:=Option.some.inj h
 rw[List.count_set hi,h]
 have:0<l.count false:=List.count_pos_iff.2 (h▸List.getElem_mem hi)
 simp;omega
def cnt (U:List (List Int)) (s:Nat) (v:Int):Nat:=(U[s]?.getD []).count v
theorem abG {U:List (List Int)} {s0:Nat} (h:s0<U.length) (i:Int) (s:Nat) (v:Int):cnt (U.set s0 (List.append U[s0] [i])) s v=cnt U s v+if s=s0∧v=i then 1 else 0:=by
 unfold cnt
 rw[List.getElem?_set]
 by_cases e:s0=s
 ·subst e
  rw[if_pos rfl,if_pos h,List.getElem?_eq_getElem h]
  simp only[Option.getD_some,List.append_eq,List.count_append,List.count_singleton,true_and,beq_iff_eq]
  congr 1
  by_cases e:v=i
  ·simp[e]
  ·rw[if_neg e,if_neg (fun x=>e x.symm)]
 ·rw[if_neg e,if_neg (fun x=>e x.1.symm)];rfl
theorem Zf (S:Int) (fin fr:List Int) (rs:List Rule) (out:List Bool) (left q:List Int) (m:Option (List (Int×Bool))) (c:Int) (i:Int) (x9 x11:Int) (x10:List Int) (x12:List Rule) (x13:Int) (U:List (List Int)) (b:Nat)
 (hU:U.length=S.toNat) (hb: ∀l∈U,l.length≤b) (hb2:b≤1000000) (hfr:fr.length≤3) (hf: ∀s∈fr,iy S s):
 Lp (fun _=>bP.L1) (S,fin,rs,out,left,rows U,q,m,i,x9,x10,x11,x12,x13,c,fr,((fr.length:Nat):Int),(0:Int))
  (fun t=> ∃V:List (List Int),t=(S,fin,rs,out,left,rows V,q,m,i,x9,x10,x11,x12,x13,c)∧V.length=S.toNat∧(∀l∈V,l.length≤b+3)∧ ∀s v,cnt V s v=cnt U s v+if v=i then fr.count (s:Int)else 0):=by
 refine Lp.count fr.length (fun j t=> ∃V:List (List Int),t=(S,fin,rs,out,left,rows V,q,m,i,x9,x10,x11,x12,x13,c,fr,((fr.length:Nat):Int),(j:Int))∧V.length=S.toNat∧(∀l∈V,l.length≤b+j)∧
  ∀s v,cnt V s v=cnt U s v+if v=i then(fr.take j).count (s:Int)else 0) ?_ ?_ ⟨U,rfl,hU,by simpa using hb,by simp⟩
 ·rintro j t hj ⟨V,rfl,hV,hl,hc⟩
  unfold bP.L1;dsimp only
  obtain⟨q0,q1⟩:=hf fr[j] (List.getElem_mem hj)
  have hq:fr[j].toNat<V.length:=by omega
  have hb3:=hl _ (List.getElem_mem hq)
  refine Bd.yes (bf (by omega)) (Bd.nth hj (Bd.chk (rng q0 (by rw[rW];omega)) (Bd.row hq (Bd.row hq (Bd.chk (qG (by simp;omega)) (Bd.chk (rng q0 (by rw[List.length_set,rW];omega)) (Bd.again ?_)))))))
  rw[DX]
  refine⟨_,by rw[aI (by omega)],by simpa using hV,fun l h=> ?_,fun s v=> ?_⟩
  ·rcases List.mem_or_eq_of_mem_set h with h|rfl
   ·have:=hl l h;omega
   ·simp;omega
  ·rw[abG hq,hc,List.take_add_one,List.getElem?_eq_getElem hj]
   simp only[Option.toList_some,List.count_append,List.count_singleton,beq_iff_eq]
   by_cases e:v=i
   ·simp only[e,if_true,and_true]
    rw[Nat.add_assoc]
    congr 2
    by_cases e2:s=fr[j].toNat
    ·rw[if_pos e2,if_pos (by omega)]
    ·rw[if_neg e2,if_neg (by omega)]
   ·simp[e]
 ·rintro t ⟨V,rfl,hV,hl,hc⟩
  unfold bP.L1;dsimp only
  refine Bd.no (decide_eq_false (by omega)) (Bd.done ⟨V,rfl,hV,fun l h=>by have:=hl l h;omega,fun s v=> ?_⟩)
  rw[hc,List.take_length]
def WM (S:Int) (rs:List Rule) (i:Nat) (U:List (List Int)):Prop:=
 U.length=S.toNat∧(∀l∈U,l.length≤3*i)∧ ∀s,(∀(j:Nat) (r:Rule),j<i→rs[j]? =some r→cnt U s (j:Int)=r.2.1.count (s:Int))∧ ∀v,(¬ ∃j:Nat,j<i∧v=(j:Int))→cnt U s v=0
abbrev ZT (P:Nat→List Int×Option (List (Int×Bool))×Int→Option (List Int×Option (List (Int×Bool)))):Prop:=
 ∀l m x,QOk l m→l.length≤1000000→Sp P (l,m,x) (fun r=>QOk r.1 r.2∧((x∈l∧r.1=l)∨(x∉l∧r.1=l++[x])))
def QSt (S:Int) (q:List Int) (m:Option (List (Int×Bool))):Prop:=QOk q m∧ ∀x∈q,iy S x
theorem QSt.len {S:Int} {q:List Int} {m:Option (List (Int×Bool))} (h:QSt S q m) (hS:S≤1000):q.length≤1000:=by
 have:=Xl h.1.1 h.2;omega
theorem QSt.put {S:Int} {q:List Int} {m:Option (List (Int×Bool))} {P:Nat→List Int×Option (List (Int×Bool))×Int→Option (List Int×Option (List (Int×Bool)))} (hP:ZT P) (h:QSt S q m) (hS:S≤1000) {x:Int} (hx:iy S x):
 Sp P (q,m,x) (fun r=>QSt S r.1 r.2∧x∈r.1∧ ∃z,r.1=q++z):=by
 refine(hP q m x h.1 (by have:=h.len hS;omega)).mono fun r hr=> ?_
 rcases hr.2 with⟨h1,h2⟩|⟨h1,h2⟩
 ·exact⟨⟨hr.1,by rw[h2];exact h.2⟩,by rw[h2];exact h1,[],by rw[h2];simp⟩
 ·refine⟨⟨hr.1,fun y hy=> ?_⟩,by rw[h2];simp,[x],h2⟩
  rw[h2,List.mem_append]at hy
  rcases hy with hy|hy
  ·exact h.2 y hy
  ·rw[List.mem_singleton.1 hy];exact hx
theorem TW {T:List Int} {e:Int} (he:e∉T) (l:List Int):l.countP (fun s=>decide (s∉T++[e]))+l.count e=l.countP (fun s=>decide (s∉T)):=by
 induction l with
 |nil=>rfl
 |cons a l ih=>
  rw[List.countP_cons,List.countP_cons,List.count_cons]
  by_cases h:a=e
  ·subst h
   have h1:decide (a∉T++[a])=false:=by simp
   have h2:decide (a∉T)=true:=by simp[he]
   rw[h1,h2]
   simp only[beq_self_eq_true,if_true,Bool.false_eq_true,if_false]
   omega
  ·have h1:decide (a∉T++[e])=decide (a∉T):=by simp[h]
   rw[h1]
   simp only[beq_iff_eq,h,if_false]
   omega
theorem Q5 {P:Nat→List Int×Option (List (Int×Bool))×Int→Option (List Int×Option (List (Int×Bool)))} (hP:ZT P) (S:Int) (fin:List Int) (rs:List Rule) (h:Wf S fin rs):
 Sp (fun n=>bP.P (P n) n) (S,fin,rs) (fun R=>R.length=S.toNat∧ ∀r∈rs,(∀s∈r.2.1,R[s.toNat]? =some true)→R[r.2.2.toNat]? =some true):=by
 obtain⟨h0,hS,hfl,hrl,hfin,hr⟩:=h
 show Tt (fun n=>bP.P (P n) n (S,fin,rs)) _
 unfold bP.P;dsimp only
 refine Tt.chk (yX h0 (by omega)) (Tt.chk (yX (by omega) (by omega)) (Tt.chk (yX h0 (by omega)) ?_))
 refine Tt.bind (R:=fun t=> ∃(left:List Int) (U:List (List Int)) (q:List Int) (m:Option (List (Int×Bool))),t=(S,fin,rs,List.replicate S.toNat false,left,rows U,q,m)∧left.length=rs.length∧(∀(j:Nat) (r:Rule),rs[j]? =some r→left[j]? =some ((r.2.1.length:Nat):Int))∧
  WM S rs rs.length U∧QSt S q m∧ ∀(j:Nat) (r:Rule),rs[j]? =some r→r.2.1= []→r.2.2∈q)
  (Tt.loop (Lp.count rs.length (fun i t=> ∃(left:List Int) (U:List (List Int)) (q:List Int) (m:Option (List (Int×Bool))),t=(S,fin,rs,List.replicate S.toNat false,left,rows U,q,m,rs,((rs.length:Nat):Int),(i:Int))∧left.length=rs.length∧
   (∀(j:Nat) (r:Rule),j<i→rs[j]? =some r→left[j]? =some ((r.2.1.length:Nat):Int))∧WM S rs i U∧QSt S q m∧ ∀(j:Nat) (r:Rule),j<i→rs[j]? =some r→r.2.1= []→r.2.2∈q) ?_ ?_ ?_)) ?_
 ·rintro i t hi ⟨left,U,q,m,rfl,hl,hl2,⟨hu1,hu2,hu3⟩,hq,hq2⟩
  unfold bP.L2;dsimp only
  obtain⟨hto,hfr,hfl3⟩:=hr rs[i] (List.getElem_mem hi)
  refine Bd.yes (bf (by omega)) (Bd.nth hi (Bd.chk (rng (by omega) (by omega)) ?_))
  rw[Int.toNat_natCast]
  refine Bd.at (by omega) fun _ _ _=> ?_
  refine Bd.bind (Tt.loop (Zf S fin rs[i].2.1 rs _ _ _ _ _ _ _ _ _ _ _ U (3*i) hu1 hu2 (by omega) hfl3 hfr)) ?_
  rintro _ ⟨V,rfl,hV,hV2,hV3⟩
  dsimp only
  refine Bd.chk (rng (by omega) (by rw[List.length_set];omega)) ?_
  rw[Int.toNat_natCast]
  refine Bd.at (by rw[List.length_set];omega) fun e _ he=> ?_
  rw[List.getElem?_set,if_pos rfl,if_pos (by omega)]at he
  cases he
  have hUV:WM S rs (i+1) V:=by
   refine⟨hV,fun l h=>by have:=hV2 l h;omega,fun s=>⟨fun j r hj hjr=> ?_,fun v hv=> ?_⟩⟩
   ·rw[hV3]
    rcases Nat.lt_or_eq_of_le (Nat.le_of_lt_succ hj)with h|rfl
    ·rw[(hu3 s).1 j r h hjr,if_neg (by omega)];rfl
    ·rw[List.getElem?_eq_getElem hi]at hjr
     cases hjr
     rw[(hu3 s).2 _ (by rintro⟨k,hk,e⟩;omega),if_pos rfl,Nat.zero_add]
   ·rw[hV3,(hu3 s).2 v (by rintro⟨k,hk,e⟩;exact hv ⟨k,by omega,e⟩),if_neg (by rintro rfl;exact hv ⟨i,by omega,rfl⟩)]
  have hleft: ∀(j:Nat) (r:Rule),j<i+1→rs[j]? =some r→(left.set i ((rs[i].2.1.length:Nat):Int))[j]? =some ((r.2.1.length:Nat):Int):=by
   intro j r hj hjr
   rw[List.getElem?_set]
   split
   ·rename_i e
    subst e
    rw[List.getElem?_eq_getElem hi]at hjr
    cases hjr
    rw[if_pos (by omega)]
   ·exact hl2 j r (by omega) hjr
  refine Bd.eG (fun hz=> ?_) (fun hz=> ?_)
  ·refine Bd.fG (Bd.bind (hq.put hP hS hto) ?_)
   rintro⟨q',m'⟩ ⟨g1,g2,z,g3⟩
   dsimp only at g1 g2 g3
   refine Bd.ay (Bd.again ⟨_,V,q',m',by rw[aI (by omega)],by rw[List.length_set];exact hl,hleft,hUV,g1,fun j r hj hjr hn=> ?_⟩)
   rcases Nat.lt_or_eq_of_le (Nat.le_of_lt_succ hj)with h|rfl
   ·rw[g3];exact List.mem_append_left _ (hq2 j r h hjr hn)
   ·rw[List.getElem?_eq_getElem hi]at hjr
    cases hjr
    exact g2
  ·refine Bd.ay (Bd.again ⟨_,V,q,m,by rw[aI (by omega)],by rw[List.length_set];exact hl,hleft,hUV,hq,fun j r hj hjr hn=> ?_⟩)
   rcases Nat.lt_or_eq_of_le (Nat.le_of_lt_succ hj)with h|rfl
   ·exact hq2 j r h hjr hn
   ·rw[List.getElem?_eq_getElem hi]at hjr
    cases hjr
    have:=dec_not hz
    rw[hn]at this
    exact absurd rfl this
 ·rintro t ⟨left,U,q,m,rfl,hl,hl2,hu,hq,hq2⟩
  unfold bP.L2;dsimp only
  have lt: ∀(j:Nat) (r:Rule),rs[j]? =some r→j<rs.length:=fun j r e=>(List.getElem?_eq_some_iff.1 e).1
  exact Bd.no (decide_eq_false (by omega)) (Bd.done ⟨left,U,q,m,rfl,hl,fun j r e=>hl2 j r (lt j r e) e,hu,hq,fun j r e=>hq2 j r (lt j r e) e⟩)
 ·refine⟨List.replicate rs.length 0,List.replicate S.toNat [],[],none,by rw[Ht];rfl,by simp,fun j r hj=>absurd hj (by omega),⟨by simp,fun l hl=> ?_,fun s=>⟨fun j r hj=>absurd hj (by omega),fun v _=> ?_⟩⟩,⟨YC,by simp⟩,fun j r hj=>absurd hj (by omega)⟩
  ·rw[(List.mem_replicate.1 hl).2];simp
  ·unfold cnt
   rw[List.getElem?_replicate]
   split<;>rfl
 rintro _ ⟨left,U,q,m,rfl,hl,hl2,⟨hu1,hu2,hu3⟩,hq,hq2⟩
 dsimp only
 rw[Ei]
 refine Tt.ay ?_
 refine Tt.bind (R:=fun R:List Bool=>R.length=S.toNat∧ ∀r∈rs,(∀s∈r.2.1,R[s.toNat]? =some true)→R[r.2.2.toNat]? =some true)
  (Tt.loop (Lp.measure (fun t=> ∃(out:List Bool) (left q:List Int) (m:Option (List (Int×Bool))) (k:Nat),t=(S,fin,rs,out,left,U,q,m,(k:Int))∧out.length=S.toNat∧left.length=rs.length∧QSt S q m∧k≤q.length∧
   (∀s:Int,iy S s→(out[s.toNat]? =some true ↔ s∈q.take k))∧ ∀(j:Nat) (r:Rule),rs[j]? =some r→left[j]? =some ((r.2.1.countP (fun s=>decide (s∉q.take k)):Nat):Int)∧(r.2.1.countP (fun s=>decide (s∉q.take k))=0→r.2.2∈q)) (fun t=>nf t.2.2.2.1) ?_ ?_)) fun R hR=>Tt.pure hR
 ·rintro _ ⟨out,left,q,m,k,rfl,ho,hl,hq,hk,hout,hleft⟩
  unfold bP.L4;dsimp only
  by_cases hkq:k<q.length
  ·refine Bd.yes (bf (by omega)) (Bd.chk (rng (by omega) (by omega)) ?_)
   rw[Int.toNat_natCast]
   refine Bd.at hkq fun e hem he=> ?_
   obtain⟨e0,e1⟩:=hq.2 e hem
   refine Bd.chk (rng e0 (by omega)) (Bd.at (by omega) fun _ _ _=>Bd.chk (rng (by omega) (by omega)) ?_)
   refine Bd.at hkq fun e' _ he'=> ?_
   rw[he]at he';cases he'
   refine Bd.chk (rng e0 (by omega)) (Bd.at (by omega) fun row hrow hrow2=> ?_)
   have htk:q.take (k+1)=q.take k++[e]:=by rw[List.take_add_one,he];rfl
   have hek:e∉q.take k:=by
    intro hm
    have hnd:=hq.1.1
    rw[←List.take_append_drop k q,List.nodup_append]at hnd
    exact hnd.2.2 e hm e (by rw[List.drop_eq_getElem_cons hkq,(List.getElem?_eq_some_iff.1 he).2];exact List.mem_cons_self ..) rfl
   have hfalse:out[e.toNat]? =some false:=by
    have hlt:e.toNat<out.length:=by omega
    rw[List.getElem?_eq_getElem hlt]
    cases hb:out[e.toNat]with
    |false=>rfl
    |true=>exact absurd ((hout e ⟨e0,e1⟩).1 (by rw[List.getElem?_eq_getElem hlt,hb])) hek
   have hcr: ∀v:Int,row.count v=cnt U e.toNat v:=fun v=>by unfold cnt;rw[hrow2];rfl
   have hrowl:row.length≤3*rs.length:=hu2 row hrow
   have hrj: ∀v∈row,∃(j:Nat) (r:Rule),v=(j:Int)∧rs[j]? =some r:=by
    intro v hv
    by_cases hx: ∃j:Nat,j<rs.length∧v=(j:Int)
    ·obtain⟨j,hj,e⟩:=hx
     exact⟨j,rs[j],e,List.getElem?_eq_getElem hj⟩
    ·have:=(hu3 e.toNat).2 v hx
     rw[←hcr]at this
     have:=List.count_pos_iff.2 hv
     omega
   have hrc: ∀(j:Nat) (r:Rule),rs[j]? =some r→row.count (j:Int)=r.2.1.count e:=by
    intro j r hj
    rw[hcr,(hu3 e.toNat).1 j r (List.getElem?_eq_some_iff.1 hj).1 hj]
    congr 1;omega
   refine Bd.bind (R:=fun t=> ∃(left' q':List Int) (m':Option (List (Int×Bool))) (z:List Int),t=(S,fin,rs,List.set out e.toNat true,left',U,q',m',(k:Int))∧left'.length=rs.length∧QSt S q' m'∧q'=q++z∧
    ∀(j:Nat) (r:Rule),rs[j]? =some r→left'[j]? =some (((r.2.1.countP (fun s=>decide (s∉q.take k)):Nat):Int)-((row.count (j:Int):Nat):Int))∧(((r.2.1.countP (fun s=>decide (s∉q.take k)):Nat):Int)-((row.count (j:Int):Nat):Int)=0→r.2.2∈q'))
    (Tt.loop (Lp.count row.length (fun p t=> ∃(left' q':List Int) (m':Option (List (Int×Bool))) (z:List Int),t=(S,fin,rs,List.set out e.toNat true,left',U,q',m',(k:Int),row,((row.length:Nat):Int),(p:Int))∧left'.length=rs.length∧QSt S q' m'∧q'=q++z∧
     ∀(j:Nat) (r:Rule),rs[j]? =some r→left'[j]? =some (((r.2.1.countP (fun s=>decide (s∉q.take k)):Nat):Int)-(((row.take p).count (j:Int):Nat):Int))∧(((r.2.1.countP (fun s=>decide (s∉q.take k)):Nat):Int)-(((row.take p).count (j:Int):Nat):Int)=0→r.2.2∈q')) ?_ ?_ ?_)) ?_
   ·rintro p t hp ⟨left',q',m',z,rfl,hl',hq',hz,hj'⟩
    unfold bP.L3;dsimp only
    obtain⟨i,r,hi,hri⟩:=hrj row[p] (List.getElem_mem hp)
    have hil:i<rs.length:=(List.getElem?_eq_some_iff.1 hri).1
    obtain⟨a1,a2⟩:=hj' i r hri
    have hr3:=hr r (List.mem_of_getElem? hri)
    have hcp:r.2.1.countP (fun s=>decide (s∉q.take k))≤3:=Nat.le_trans List.countP_le_length hr3.2.2
    have hct:(row.take p).count (i:Int)≤300000:=by
     have:=List.count_le_length (a:=(i:Int)) (l:=row.take p)
     have:=List.length_take_le p row
     have:=List.length_take_le' p row
     omega
    have htp: ∀v:Int,(row.take (p+1)).count v=(row.take p).count v+if v=(i:Int)then 1 else 0:=by
     intro v
     rw[List.take_add_one,List.getElem?_eq_getElem hp,hi]
     simp only[Option.toList_some,List.count_append,List.count_singleton,beq_iff_eq]
     congr 1
     by_cases e:v=(i:Int)
     ·simp[e]
     ·rw[if_neg e,if_neg (fun x=>e x.symm)]
    refine Bd.yes (bf (by omega)) (Bd.nth hp ?_)
    rw[hi]
    refine Bd.chk (rng (by omega) (by omega)) ?_
    rw[Int.toNat_natCast]
    refine Bd.at (by omega) fun v1 _ hv1=> ?_
    rw[a1]at hv1;cases hv1
    refine Bd.chk (rng (by omega) (by omega)) (Bd.at (by omega) fun v2 _ hv2=> ?_)
    rw[a1]at hv2;cases hv2
    rw[o7 _ (by omega) (by omega)]
    refine Bd.chk (rng (by omega) (by rw[List.length_set];omega)) (Bd.at (by rw[List.length_set];omega) fun v3 _ hv3=> ?_)
    rw[List.getElem?_set,if_pos rfl,if_pos (by omega)]at hv3
    cases hv3
    have hnew: ∀(j:Nat) (r':Rule),rs[j]? =some r'→(List.set left' i (((r.2.1.countP (fun s=>decide (s∉q.take k)):Nat):Int)-(((row.take p).count (i:Int):Nat):Int)-1))[j]? =some (((r'.2.1.countP (fun s=>decide (s∉q.take k)):Nat):Int)-(((row.take (p+1)).count (j:Int):Nat):Int)):=by
     intro j r' hjr
     rw[List.getElem?_set]
     by_cases e:i=j
     ·subst e
      rw[hri]at hjr;cases hjr
      rw[if_pos rfl,if_pos (by omega),htp,if_pos rfl]
      congr 1;omega
     ·rw[if_neg e,(hj' j r' hjr).1,htp,if_neg (by omega)];rfl
    have hold: ∀(j:Nat) (r':Rule),rs[j]? =some r'→j≠i→((r'.2.1.countP (fun s=>decide (s∉q.take k)):Nat):Int)-(((row.take (p+1)).count (j:Int):Nat):Int)=0→r'.2.2∈q':=by
     intro j r' hjr hne h0
     rw[htp,if_neg (by omega)]at h0
     exact(hj' j r' hjr).2 h0
    refine Bd.eG (fun hz0=> ?_) (fun hz0=> ?_)
    ·refine Bd.fG ?_
     rw[dZ hil]
     have er:rs[i]=r:=by rw[List.getElem?_eq_getElem hil]at hri;exact Option.some.inj hri
     refine Bd.ay ?_
     rw[er]
     refine Bd.fG (Bd.bind (hq'.put hP hS hr3.1) ?_)
     rintro⟨q2,m2⟩ ⟨g1,g2,z2,g3⟩
     dsimp only at g1 g2 g3
     refine Bd.ay (Bd.again ⟨_,q2,m2,z++z2,by rw[aI (by omega)],by rw[List.length_set];exact hl',g1,by rw[g3,hz];simp,fun j r' hjr=>⟨hnew j r' hjr,fun h0=> ?_⟩⟩)
     by_cases e:j=i
     ·subst e;rw[hri]at hjr;cases hjr;exact g2
     ·rw[g3];exact List.mem_append_left _ (hold j r' hjr e h0)
    ·refine Bd.ay (Bd.again ⟨_,q',m',z,by rw[aI (by omega)],by rw[List.length_set];exact hl',hq',hz,fun j r' hjr=>⟨hnew j r' hjr,fun h0=> ?_⟩⟩)
     by_cases e:j=i
     ·subst e;rw[hri]at hjr;cases hjr
      rw[htp,if_pos rfl]at h0
      exact absurd (by omega) (dec_not hz0)
     ·exact hold j r' hjr e h0
   ·rintro t ⟨left',q',m',z,rfl,hl',hq',hz,hj'⟩
    unfold bP.L3;dsimp only
    rw[List.take_length]at hj'
    exact Bd.no (decide_eq_false (by omega)) (Bd.done ⟨left',q',m',z,rfl,hl',hq',hz,hj'⟩)
   ·refine⟨left,q,m,[],rfl,hl,hq,by simp,fun j r hj=> ?_⟩
    obtain⟨a1,a2⟩:=hleft j r hj
    simp only[List.take_zero,List.count_nil,Int.natCast_zero,Int.sub_zero]
    exact⟨a1,fun h=>a2 (by omega)⟩
   ·rintro _ ⟨left',q',m',z,rfl,hl',hq',hz,hj'⟩
    have hk1:q'.take (k+1)=q.take k++[e]:=by rw[hz,List.take_append_of_le_length (by omega),htk]
    refine Bd.again ⟨⟨_,left',q',m',k+1,by rw[aI (by have:=hq.len hS;omega)],by rw[List.length_set];exact ho,hl',hq',by rw[hz,List.length_append];omega,fun s hs=> ?_,fun j r hj=> ?_⟩,Qq hfalse⟩
    ·rw[hk1,List.getElem?_set,List.mem_append,List.mem_singleton]
     by_cases es:e.toNat=s.toNat
     ·rw[if_pos es,if_pos (by omega)]
      have:s=e:=by have:=hs.1;omega
      simp[this]
     ·rw[if_neg es,hout s hs]
      have:s≠e:=fun x=>es (by rw[x])
      simp[this]
    ·have hcs:=TW hek r.2.1
     rw[hk1]
     obtain⟨a1,a2⟩:=hj' j r hj
     rw[hrc j r hj]at a1 a2
     exact⟨by rw[a1];congr 1;omega,fun h=>a2 (by omega)⟩
  ·refine Bd.no (decide_eq_false (by omega)) (Bd.done ⟨ho,fun r hr' hfrom=> ?_⟩)
   have hkl:k=q.length:=by omega
   subst hkl
   rw[List.take_length]at hout hleft
   obtain⟨j,hj,rfl⟩:=List.getElem_of_mem hr'
   have hr3:=hr _ hr'
   refine(hout _ hr3.1).2 ((hleft j _ (List.getElem?_eq_getElem hj)).2 ?_)
   rw[List.countP_eq_zero]
   intro s hs
   simpa using(hout s (hr3.2.1 s hs)).1 (hfrom s hs)
 ·refine⟨List.replicate S.toNat false,left,q,m,0,rfl,by simp,hl,hq,Nat.zero_le _,fun s hs=> ?_,fun j r hj=> ?_⟩
  ·rw[List.getElem?_replicate]
   split<;>simp
  ·have e: ∀l:List Int,l.countP (fun s=>decide (s∉q.take 0))=l.length:=fun l=>by
    rw[List.countP_eq_length];simp
   rw[e]
   exact⟨hl2 j r hj,fun h=>hq2 j r hj (List.eq_nil_of_length_eq_zero h)⟩
end Go.Bk
end
noncomputable section
namespace Go.Bk
open Go Go.AM
set_option linter.unusedVariables false
def ado (f:Int×List Bool→Option Bool) (x1:List Int×List Bool×Int×Int) (rec2:List Int×List Bool×Int×Int→Option (Sum Unit Int)):Option (Sum Unit Int):=
 bif decide (x1.2.2.2<x1.2.2.1)then
  (nth? x1.1 x1.2.2.2).bind fun e3=>(f (e3,x1.2.1)).bind fun r4=>
   bif r4 then(some x1.2.2.2).bind fun r=>some (Sum.inr r)else rec2 (x1.1,x1.2.1,x1.2.2.1,IntKind.wrap .i64 (x1.2.2.2+(1:Int)))
 else some (Sum.inl ())
theorem Yh {F:Nat→Int×List Bool→Option Bool} {l:List Int} {R:List Bool} {test:Int→Bool} (hF: ∀s∈l,Sp F (s,R) (fun r=>r=test s)) (hl:l.length≤1000000):
 Tt (fun n=>(dD (ado (F n)) n (l,R,((l.length:Nat):Int),(0:Int))).bind fun q=>match q with|Sum.inl x5=>some (-1:Int)|Sum.inr r=>some r) (fun r=>decide (0≤r)=l.any test):=by
 refine Tt.bind (R:=fun t=>(t= .inl ()∧l.any test=false)∨ ∃i:Int,t= .inr i∧0≤i∧l.any test=true)
  (Tt.loop (Lp.count (L:=fun n=>ado (F n)) l.length (fun i s=>s=(l,R,((l.length:Nat):Int),(i:Int))∧(l.take i).any test=false) ?_ ?_ ⟨rfl,rfl⟩)) ?_
 ·rintro i s hi ⟨rfl,ha⟩
  unfold ado;dsimp only
  refine Bd.yes (bf (by omega)) (Bd.nth hi (Bd.bind (hF l[i] (List.getElem_mem hi)) ?_))
  rintro _ rfl
  refine Bd.ite (fun hc=>Bd.done (.inr ⟨_,rfl,by omega,List.any_eq_true.2 ⟨_,List.getElem_mem hi,hc⟩⟩)) (fun hc=>Bd.again ⟨by rw[aI (by omega)],?_⟩)
  rw[List.take_add_one,List.getElem?_eq_getElem hi,List.any_append,ha]
  simpa using hc
 ·rintro s ⟨rfl,ha⟩
  unfold ado;dsimp only
  rw[List.take_length]at ha
  exact Bd.no (decide_eq_false (by omega)) (Bd.done (.inl ⟨rfl,ha⟩))
 ·rintro _ (⟨rfl,h⟩|⟨i,rfl,h0,h⟩)
  ·exact Tt.pure (by rw[h];rfl)
  ·exact Tt.pure (by rw[h];exact bf h0)
def bat (R:List Bool) (s:Int):Bool:=R[s.toNat]?.getD false
theorem EG {R:List Bool} {s:Int}:bat R s=true ↔ R[s.toNat]? =some true:=by
 unfold bat
 cases h:R[s.toNat]? with
 |none=>simp
 |some b=>simp
theorem Fa {R:List Bool} {s S:Int} (hR:R.length=S.toNat) (h:iy S s):nth? R s=some (bat R s):=by
 have hlt:s.toNat<R.length:=by have:=h.1;have:=h.2;omega
 rw[wP h.1 (by have:=h.1;have:=h.2;omega)]
 unfold bat
 rw[List.getElem?_eq_getElem hlt];rfl
abbrev YD (C:Nat→List Int×List Bool→Option Bool) (neg:Bool→Bool):Prop:=
 ∀(S:Int) (l:List Int) (R:List Bool),R.length=S.toNat→(∀s∈l,iy S s)→l.length≤1000000→Sp C (l,R) (fun r=>r=l.any fun s=>neg (bat R s))
theorem WI {F:Nat→Int×List Bool→Option Bool} {G:Nat→List Int×List Bool→Option Int} (hF: ∀n x,F (n+1) x=ql.P n x) (hG: ∀n x,G (n+1) x=bK.P (F n) n x):
 YD (fun n=>dB.P (G n) n) (!·):=fun S l R hR hs hl=>by
 refine Tt.bind (A:=fun n=>G n (l,R)) (Sp.step hG (Yh (F:=F) (test:=fun s=> !bat R s) (fun s h=>Sp.step hF ⟨_,rfl,.all fun n=> ?_⟩) hl)) fun r hr=>Tt.pure hr
 unfold ql.P;dsimp only
 rw[Fa hR (hs s h)];rfl
theorem abE {F:Nat→Int×List Bool→Option Bool} {G:Nat→List Int×List Bool→Option Int} (hF: ∀n x,F (n+1) x=uJ.P n x) (hG: ∀n x,G (n+1) x=bT.P (F n) n x):
 YD (fun n=>dJ.P (G n) n) (!·):=fun S l R hR hs hl=>by
 refine Tt.bind (A:=fun n=>G n (l,R)) (Sp.step hG (Yh (F:=F) (test:=fun s=> !bat R s) (fun s h=>Sp.step hF ⟨_,rfl,.all fun n=> ?_⟩) hl)) fun r hr=>Tt.pure hr
 unfold uJ.P;dsimp only
 rw[Fa hR (hs s h)];rfl
theorem XJ {F:Nat→Int×List Bool→Option Bool} {G:Nat→List Int×List Bool→Option Int} (hF: ∀n x,F (n+1) x=oQ.P n x) (hG: ∀n x,G (n+1) x=bJ.P (F n) n x):
 YD (fun n=>dh.P (G n) n) id:=fun S l R hR hs hl=>by
 refine Tt.bind (A:=fun n=>G n (l,R)) (Sp.step hG (Yh (F:=F) (test:=fun s=>bat R s) (fun s h=>Sp.step hF ⟨_,rfl,.all fun n=> ?_⟩) hl)) fun r hr=>Tt.pure hr
 unfold oQ.P;dsimp only
 rw[Fa hR (hs s h)];rfl
theorem YD.all {l:List Int} {R:List Bool} (h:l.any (fun s=> !bat R s)=false): ∀s∈l,bat R s=true:=by
 intro s hs
 have:=List.any_eq_false.1 h s hs
 simpa using this
def aeZ (S:Int) (rs:List Rule) (R:List Bool) (i:Nat) (T:List (List Int)):Prop:=
 T.length=S.toNat∧(∀l∈T,l.length≤i∧ ∀v∈l,∃j:Nat,j<i∧v=(j:Int))∧ ∀(j:Nat) (r:Rule),j<i→rs[j]? =some r→(∀s∈r.2.1,bat R s=true)→ ∃l,T[r.2.2.toNat]? =some l∧(j:Int)∈l
def Useful (fin:List Int) (rs:List Rule) (R U:List Bool):Prop:=(∀s∈fin,bat R s=true→bat U s=true)∧ ∀r∈rs,bat U r.2.2=true→(∀s∈r.2.1,bat R s=true)→ ∀s∈r.2.1,bat U s=true
def Closed (rs:List Rule) (R:List Bool):Prop:= ∀r∈rs,(∀s∈r.2.1,bat R s=true)→bat R r.2.2=true
theorem YI {P:Nat→List Int×Option (List (Int×Bool))×Int→Option (List Int×Option (List (Int×Bool)))} {F:Nat→Int×List Int×List Rule→Option (List Bool)} {C:Nat→List Int×List Bool→Option Bool}
 (hP:ZT P) (hC:YD C (!·)) (S:Int) (fin:List Int) (rs:List Rule) (h:Wf S fin rs) (hF:Sp F (S,fin,rs) (fun R=>R.length=S.toNat∧Closed rs R)):
 Sp (fun n=>cZ.P (P n) (F n) (C n) n) (S,fin,rs) (fun U=>U.length=S.toNat∧ ∃R,Closed rs R∧Useful fin rs R U):=by
 obtain⟨h0,hS,hfl,hrl,hfin,hr⟩:=h
 show Tt (fun n=>cZ.P (P n) (F n) (C n) n (S,fin,rs)) _
 unfold cZ.P;dsimp only
 refine Tt.bind hF fun R hR=> ?_
 obtain⟨hR,hcl⟩:=hR
 refine Tt.chk (yX h0 (by omega)) ?_
 refine Tt.bind (R:=fun t=> ∃T:List (List Int),t=(S,fin,rs,R,rows T)∧aeZ S rs R rs.length T)
  (Tt.loop (Lp.count rs.length (fun i t=> ∃T:List (List Int),t=(S,fin,rs,R,rows T,rs,((rs.length:Nat):Int),(i:Int))∧aeZ S rs R i T) ?_ ?_ ?_)) ?_
 ·rintro i t hi ⟨T,rfl,hT,hT2,hT3⟩
  unfold cZ.L1;dsimp only
  obtain⟨hto,hfr,hfl3⟩:=hr rs[i] (List.getElem_mem hi)
  refine Bd.yes (bf (by omega)) (Bd.nth hi (Bd.bind (hC S rs[i].2.1 R hR hfr (by omega)) ?_))
  intro b hb
  refine Bd.eG (fun hc=> ?_) (fun hc=> ?_)
  ·have hq:rs[i].2.2.toNat<T.length:=by have:=hto.1;have:=hto.2;omega
   obtain⟨hb1,hb2⟩:=hT2 _ (List.getElem_mem hq)
   refine Bd.nM (rng hto.1 (by rw[rW];have:=hto.2;omega)) (Bd.fG (Bd.row hq (Bd.fG (Bd.row hq (Bd.nM (qG (by simp;omega)) (Bd.nM (rng hto.1 (by rw[List.length_set,rW];have:=hto.2;omega)) (Bd.ay (Bd.again ?_))))))))
   rw[DX]
   refine⟨_,by rw[aI (by omega)],by simpa using hT,fun l hl=> ?_,fun j r hj hjr hf=> ?_⟩
   ·rcases List.mem_or_eq_of_mem_set hl with h|rfl
    ·exact⟨by have:=(hT2 l h).1;omega,fun v hv=>by obtain⟨j,hj,e⟩:=(hT2 l h).2 v hv;exact⟨j,by omega,e⟩⟩
    ·refine⟨by simp;omega,fun v hv=> ?_⟩
     simp only[List.append_eq,List.mem_append,List.mem_singleton]at hv
     rcases hv with hv|hv
     ·obtain⟨j,hj,e⟩:=hb2 v hv;exact⟨j,by omega,e⟩
     ·exact⟨i,by omega,hv⟩
   ·rw[List.getElem?_set]
    rcases Nat.lt_or_eq_of_le (Nat.le_of_lt_succ hj)with h|rfl
    ·obtain⟨l,e1,e2⟩:=hT3 j r h hjr hf
     split
     ·rename_i e
      rw[e]at hq
      rw[List.getElem?_eq_getElem hq]at e1
      cases e1
      exact⟨_,rfl,by simp only[List.append_eq,List.mem_append];left;simpa [e]using e2⟩
     ·exact⟨l,e1,e2⟩
    ·rw[List.getElem?_eq_getElem hi]at hjr
     cases hjr
     rw[if_pos rfl,if_pos hq]
     exact⟨_,rfl,by simp⟩
  ·refine Bd.ay (Bd.again ⟨T,by rw[aI (by omega)],hT,fun l hl=>⟨by have:=(hT2 l hl).1;omega,fun v hv=>by obtain⟨j,hj,e⟩:=(hT2 l hl).2 v hv;exact⟨j,by omega,e⟩⟩,fun j r hj hjr hf=> ?_⟩)
   rcases Nat.lt_or_eq_of_le (Nat.le_of_lt_succ hj)with h|rfl
   ·exact hT3 j r h hjr hf
   ·rw[List.getElem?_eq_getElem hi]at hjr
    cases hjr
    have hb:b=true:=by simpa using hc
    subst hb
    obtain⟨s,hs,hn⟩:=List.any_eq_true.1 (Eq.symm ‹true=_›)
    rw[hf s hs]at hn;cases hn
 ·rintro t ⟨T,rfl,hT⟩
  unfold cZ.L1;dsimp only
  exact Bd.no (decide_eq_false (by omega)) (Bd.done ⟨T,rfl,hT⟩)
 ·refine⟨List.replicate S.toNat [],by rw[Ht];rfl,by simp,fun l hl=> ?_,fun j r hj=>absurd hj (by omega)⟩
  rw[(List.mem_replicate.1 hl).2];exact⟨by simp,fun v hv=>by simp at hv⟩
 rintro _ ⟨T,rfl,hT,hT2,hT3⟩
 dsimp only
 refine Tt.chk (yX h0 (by omega)) ?_
 refine Tt.bind (R:=fun t=> ∃(q:List Int) (m:Option (List (Int×Bool))),t=(S,fin,rs,rows T,List.replicate S.toNat false,q,m)∧QSt S q m∧ ∀s∈fin,bat R s=true→s∈q)
  (Tt.loop (Lp.count fin.length (fun i t=> ∃(q:List Int) (m:Option (List (Int×Bool))),t=(S,fin,rs,R,rows T,List.replicate S.toNat false,q,m,fin,((fin.length:Nat):Int),(i:Int))∧QSt S q m∧ ∀s∈fin.take i,bat R s=true→s∈q) ?_ ?_ ⟨[],none,rfl,⟨YC,by simp⟩,by simp⟩)) ?_
 ·rintro i t hi ⟨q,m,rfl,hq,hq2⟩
  unfold cZ.L2;dsimp only
  have hs:=hfin fin[i] (List.getElem_mem hi)
  have htk: ∀q':List Int,(∀s∈fin.take i,bat R s=true→s∈q')→(bat R fin[i]=true→fin[i]∈q')→ ∀s∈fin.take (i+1),bat R s=true→s∈q':=by
   intro q' h1 h2 s hs hb
   rw[List.take_add_one,List.getElem?_eq_getElem hi,List.mem_append]at hs
   rcases hs with hs|hs
   ·exact h1 s hs hb
   ·simp only[Option.toList_some,List.mem_singleton]at hs
    subst hs
    exact h2 hb
  refine Bd.yes (bf (by omega)) (Bd.nth hi (Bd.chk (rng hs.1 (by have:=hs.1;have:=hs.2;omega)) ?_))
  refine Bd.at (by have:=hs.1;have:=hs.2;omega) fun b _ hb=> ?_
  have hbat:bat R fin[i]=b:=by unfold bat;rw[hb];rfl
  refine Bd.eG (fun hc=> ?_) (fun hc=> ?_)
  ·refine Bd.fG (Bd.bind (hq.put hP hS hs) ?_)
   rintro⟨q',m'⟩ ⟨g1,g2,z,g3⟩
   dsimp only at g1 g2 g3
   exact Bd.ay (Bd.again ⟨q',m',by rw[aI (by omega)],g1,htk q' (fun s h1 h2=>by rw[g3];exact List.mem_append_left _ (hq2 s h1 h2)) fun _=>g2⟩)
  ·exact Bd.ay (Bd.again ⟨q,m,by rw[aI (by omega)],hq,htk q hq2 fun h=>by rw[hbat,hc]at h;cases h⟩)
 ·rintro t ⟨q,m,rfl,hq,hq2⟩
  unfold cZ.L2;dsimp only
  rw[List.take_length]at hq2
  exact Bd.no (decide_eq_false (by omega)) (Bd.done ⟨q,m,rfl,hq,hq2⟩)
 rintro _ ⟨q,m,rfl,hq,hq2⟩
 dsimp only
 rw[Ei]
 refine Tt.ay ?_
 refine Tt.bind (R:=fun U:List Bool=>U.length=S.toNat∧Useful fin rs R U)
  (Tt.loop (Lp.measure (fun t=> ∃(out:List Bool) (q:List Int) (m:Option (List (Int×Bool))) (k:Nat),t=(S,fin,rs,T,out,q,m,(k:Int))∧out.length=S.toNat∧QSt S q m∧k≤q.length∧
   (∀s:Int,iy S s→(out[s.toNat]? =some true ↔ s∈q.take k))∧(∀s∈fin,bat R s=true→s∈q)∧ ∀e∈q.take k,∀row,T[e.toNat]? =some row→ ∀(j:Nat) (r:Rule),(j:Int)∈row→rs[j]? =some r→ ∀s∈r.2.1,s∈q) (fun t=>nf t.2.2.2.2.1) ?_ ?_)) fun U hU=>Tt.pure ⟨hU.1,R,hcl,hU.2⟩
 ·rintro _ ⟨out,q,m,k,rfl,ho,hq,hk,hout,hq2,hq3⟩
  unfold cZ.L5;dsimp only
  by_cases hkq:k<q.length
  ·refine Bd.yes (bf (by omega)) (Bd.chk (rng (by omega) (by omega)) ?_)
   rw[Int.toNat_natCast]
   refine Bd.at hkq fun e hem he=> ?_
   obtain⟨e0,e1⟩:=hq.2 e hem
   refine Bd.chk (rng e0 (by omega)) (Bd.at (by omega) fun _ _ _=>Bd.chk (rng (by omega) (by omega)) ?_)
   refine Bd.at hkq fun e' _ he'=> ?_
   rw[he]at he';cases he'
   refine Bd.chk (rng e0 (by omega)) (Bd.at (by omega) fun row hrow hrow2=> ?_)
   have htk:q.take (k+1)=q.take k++[e]:=by rw[List.take_add_one,he];rfl
   have hek:e∉q.take k:=by
    intro hm
    have hnd:=hq.1.1
    rw[←List.take_append_drop k q,List.nodup_append]at hnd
    exact hnd.2.2 e hm e (by rw[List.drop_eq_getElem_cons hkq,(List.getElem?_eq_some_iff.1 he).2];exact List.mem_cons_self ..) rfl
   have hfalse:out[e.toNat]? =some false:=by
    have hlt:e.toNat<out.length:=by omega
    rw[List.getElem?_eq_getElem hlt]
    cases hb:out[e.toNat]with
    |false=>rfl
    |true=>exact absurd ((hout e ⟨e0,e1⟩).1 (by rw[List.getElem?_eq_getElem hlt,hb])) hek
   obtain⟨hrl2,hrj⟩:=hT2 row hrow
   have hrlt:row.length≤100000:=by omega
   refine Bd.bind (R:=fun t=> ∃(q':List Int) (m':Option (List (Int×Bool))) (z:List Int),t=(S,fin,rs,T,List.set out e.toNat true,q',m',(k:Int))∧QSt S q' m'∧q'=q++z∧ ∀v∈row,∀(j:Nat) (r:Rule),v=(j:Int)→rs[j]? =some r→ ∀s∈r.2.1,s∈q')
    (Tt.loop (Lp.count row.length (fun p t=> ∃(q':List Int) (m':Option (List (Int×Bool))) (z:List Int),t=(S,fin,rs,T,List.set out e.toNat true,q',m',(k:Int),row,((row.length:Nat):Int),(p:Int))∧QSt S q' m'∧q'=q++z∧ ∀v∈row.take p,∀(j:Nat) (r:Rule),v=(j:Int)→rs[j]? =some r→ ∀s∈r.2.1,s∈q') ?_ ?_ ⟨q,m,[],rfl,hq,by simp,by simp⟩)) ?_
   ·rintro p t hp ⟨q',m',z,rfl,hq',hz,hj'⟩
    unfold cZ.L4;dsimp only
    obtain⟨j,hj,ej⟩:=hrj row[p] (List.getElem_mem hp)
    refine Bd.yes (bf (by omega)) (Bd.nth hp ?_)
    rw[ej,dZ hj]
    refine Bd.ay ?_
    obtain⟨hto,hfr,hfl3⟩:=hr rs[j] (List.getElem_mem hj)
    refine Bd.bind (R:=fun t=> ∃(q2:List Int) (m2:Option (List (Int×Bool))) (z2:List Int),t=(S,fin,rs,T,List.set out e.toNat true,q2,m2,(k:Int),row,((row.length:Nat):Int),(p:Int))∧QSt S q2 m2∧q2=q'++z2∧ ∀s∈rs[j].2.1,s∈q2)
     (Tt.loop (L:=fun n=>cZ.L3 (P n)) (Lp.count rs[j].2.1.length (fun i t=> ∃(q2:List Int) (m2:Option (List (Int×Bool))) (z2:List Int),t=(S,fin,rs,T,List.set out e.toNat true,q2,m2,(k:Int),row,((row.length:Nat):Int),(p:Int),rs[j].2.1,((rs[j].2.1.length:Nat):Int),(i:Int))∧QSt S q2 m2∧q2=q'++z2∧ ∀s∈rs[j].2.1.take i,s∈q2) ?_ ?_ ⟨q',m',[],rfl,hq',by simp,by simp⟩)) ?_
    ·rintro i t hi ⟨q2,m2,z2,rfl,h1,h2,h3⟩
     unfold cZ.L3;dsimp only
     refine Bd.yes (bf (by omega)) (Bd.nth hi (Bd.bind (h1.put hP hS (hfr _ (List.getElem_mem hi))) ?_))
     rintro⟨q3,m3⟩ ⟨g1,g2,z3,g3⟩
     dsimp only at g1 g2 g3
     refine Bd.again ⟨q3,m3,z2++z3,by rw[aI (by omega)],g1,by rw[g3,h2];simp,fun s hs=> ?_⟩
     rw[List.take_add_one,List.getElem?_eq_getElem hi,List.mem_append]at hs
     rcases hs with hs|hs
     ·rw[g3];exact List.mem_append_left _ (h3 s hs)
     ·simp only[Option.toList_some,List.mem_singleton]at hs
      rw[hs];exact g2
    ·rintro t ⟨q2,m2,z2,rfl,h1,h2,h3⟩
     unfold cZ.L3;dsimp only
     rw[List.take_length]at h3
     exact Bd.no (decide_eq_false (by omega)) (Bd.done ⟨q2,m2,z2,rfl,h1,h2,h3⟩)
    ·rintro _ ⟨q2,m2,z2,rfl,h1,h2,h3⟩
     refine Bd.again ⟨q2,m2,z++z2,by rw[aI (by omega)],h1,by rw[h2,hz];simp,fun v hv j' r ev hr' s hs=> ?_⟩
     rw[List.take_add_one,List.getElem?_eq_getElem hp,List.mem_append]at hv
     rcases hv with hv|hv
     ·rw[h2];exact List.mem_append_left _ (hj' v hv j' r ev hr' s hs)
     ·simp only[Option.toList_some,List.mem_singleton]at hv
      have:j'=j:=by rw[hv,ej]at ev;omega
      subst this
      rw[List.getElem?_eq_getElem hj]at hr'
      cases hr'
      exact h3 s hs
   ·rintro t ⟨q',m',z,rfl,hq',hz,hj'⟩
    unfold cZ.L4;dsimp only
    rw[List.take_length]at hj'
    exact Bd.no (decide_eq_false (by omega)) (Bd.done ⟨q',m',z,rfl,hq',hz,hj'⟩)
   ·rintro _ ⟨q',m',z,rfl,hq',hz,hj'⟩
    have hk0:q'.take k=q.take k:=by rw[hz,List.take_append_of_le_length (by omega)]
    have hk1:q'.take (k+1)=q.take k++[e]:=by rw[hz,List.take_append_of_le_length (by omega),htk]
    refine Bd.again ⟨⟨_,q',m',k+1,by rw[aI (by have:=hq.len hS;omega)],by rw[List.length_set];exact ho,hq',by rw[hz,List.length_append];omega,fun s hs=> ?_,fun s hs hb=>by rw[hz];exact List.mem_append_left _ (hq2 s hs hb),fun e' he' row' hrow' j r hjr hrj' s hs=> ?_⟩,Qq hfalse⟩
    ·rw[hk1,List.getElem?_set,List.mem_append,List.mem_singleton]
     by_cases es:e.toNat=s.toNat
     ·rw[if_pos es,if_pos (by omega)]
      have:s=e:=by have:=hs.1;omega
      simp[this]
     ·rw[if_neg es,hout s hs]
      have:s≠e:=fun x=>es (by rw[x])
      simp[this]
    ·rw[hk1,List.mem_append,List.mem_singleton]at he'
     rcases he' with he'|rfl
     ·rw[hz];exact List.mem_append_left _ (hq3 e' he' row' hrow' j r hjr hrj' s hs)
     ·rw[hrow2]at hrow';cases hrow'
      exact hj' _ hjr j r rfl hrj' s hs
  ·have hkl:k=q.length:=by omega
   subst hkl
   rw[List.take_length]at hout hq3
   refine Bd.no (decide_eq_false (by omega)) (Bd.done ⟨ho,fun s hs hb=>EG.2 ((hout s (hfin s hs)).2 (hq2 s hs hb)),fun r hr' hto hfrom s hs=> ?_⟩)
   obtain⟨j,hj,rfl⟩:=List.getElem_of_mem hr'
   have hr3:=hr _ hr'
   obtain⟨row,e1,e2⟩:=hT3 j _ hj (List.getElem?_eq_getElem hj) hfrom
   exact EG.2 ((hout s (hr3.2.1 s hs)).2 (hq3 _ ((hout _ hr3.1).1 (EG.1 hto)) row e1 j _ e2 (List.getElem?_eq_getElem hj) s hs))
 ·refine⟨List.replicate S.toNat false,q,m,0,rfl,by simp,hq,Nat.zero_le _,fun s hs=> ?_,hq2,by simp⟩
  rw[List.getElem?_replicate]
  split<;>simp
end Go.Bk
end
