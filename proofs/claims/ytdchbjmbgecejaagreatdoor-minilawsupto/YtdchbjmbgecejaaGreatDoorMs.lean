import Derived.Test.YtdchbjmbgecejaaGreatDoorMt
import Derived.Test.YtdchbjmbgecejaaGreatDoorMk
import Derived.Test.YtdchbjmbgecejaaGreatDoorMj
import Derived.Test.YtdchbjmbgecejaaGreatDoorMd
set_option linter.unusedVariables false
noncomputable section
namespace Go.Bk
open Go Go.AM
theorem afB {S:Int} {fin fin':List Int} {rs rs':List Rule} {R U:List Bool} {ν:Int->Int} (hcl:Closed rs R) (hu:Useful fin rs R U) (hf:ahg (λ s=>bat U s=true) ν fin fin') (hR:Ren (λ s=>bat U s=true) ν rs rs') {s:Int} (h:Up rs fin s):bat U s=true/\Up rs' fin' (ν s):=by
 have rch: ∀x,Rch rs x->bat R x=true:=λ x ⟨t,ht⟩=>hcl.reach t x ht;have rch': ∀x,Rch rs x->bat U x=true->Rch rs' (ν x):=λ x ⟨t,ht⟩ hb=>⟨t,QO hcl hu hR t x ht hb⟩
 induction h with
 |fin h hr=>exact⟨hu.1 _ h (rch _ hr),.fin ((hf _).2 ⟨_,h,hu.1 _ h (rch _ hr),rfl⟩) (rch' _ hr (hu.1 _ h (rch _ hr)))⟩
 | @rule r s hr h hk hs ih=>
   have hall:=hu.2 r hr ih.1 λ x hx=>rch x (hk x hx);refine⟨hall s hs,.rule ((hR _).2 ⟨r,hr,ih.1,hall,rfl⟩) ih.2 (λ y hy=> ?_) (aaL.2 ⟨s,hs,rfl⟩)⟩;obtain⟨x,hx,rfl⟩:=aaL.1 hy;exact rch' x (hk x hx) (hall x hx)
def Vh (S:Int) (fin:List Int) (rs:List Rule) (a:Aut):Prop:=Wf a.1 a.2.1 a.2.2/\a.1<=S/\(Det rs->Det a.2.2)/\(Sy rs->Sy a.2.2)/\(∀t,Acc a.2.2 a.2.1 t ↔ Acc rs fin t)/\
 (∀q,dH a.1 q->Up a.2.2 a.2.1 q)/\(∀al,Ar al rs->Ar al a.2.2)/\a.2.2.length<=rs.length/\a.2.2.Pairwise λ a b=>xK a b<0
theorem YB {S:Int} {fin:List Int} {rs:List Rule} {U R:List Bool} {a:Aut} (hw:Wf S fin rs) (hup: ∀s,dH S s->bat U s=true->Up rs fin s) (hcl:Closed rs R) (hu:Useful fin rs R U) (h:wG S fin rs U a):Vh S fin rs a:=by
 refine⟨h.1.1,h.1.2,λ hd=>ac2 hw h hd,λ hs r' hr'=> ?_,ac1 hw hcl hu h,λ q hq=> ?_,λ al ha r' hr'=> ?_,?_⟩
 all_goals obtain⟨_,ν,_,hf,hR,hm,hsur,hlen,hpw⟩:=h
 ·obtain⟨r,h1,_,_,rfl⟩:=(hR r').1 hr';exact hs r h1
 ·obtain⟨s,h1,h2,rfl⟩:=hsur q hq;exact(afB hcl hu hf hR (S:=S) (hup s h1 h2)).2
 ·obtain⟨r,h1,_,_,rfl⟩:=(hR r').1 hr';have:=ha r h1;exact⟨this.1,by simpa using this.2⟩
 ·exact⟨hlen,hpw⟩
abbrev ND (Us:Nat->Int×List Int×List Rule->Option (List Bool)):Prop:= ∀(S:Int) (fin:List Int) (rs:List Rule),Wf S fin rs->Sp Us (S,fin,rs) (λ U=>U.length=S.toNat/\(∀s,dH S s->bat U s=true->Up rs fin s)/\ ∃R,Closed rs R/\Useful fin rs R U)
abbrev ad6 (Ke:Nat->Int×List Int×List Rule×List Bool->Option (Int×List Int×List Rule)):Prop:= ∀(S:Int) (fin:List Int) (rs:List Rule) (keep:List Bool),Wf S fin rs->keep.length=S.toNat->Sp Ke (S,fin,rs,keep) (wG S fin rs keep)
theorem afh {Ke:Nat->Int×List Int×List Rule×List Bool->Option (Int×List Int×List Rule)} {Us:Nat->Int×List Int×List Rule->Option (List Bool)} (hK:ad6 Ke) (hU:ND Us) (S:Int) (fin:List Int) (rs:List Rule) (hw:Wf S fin rs):
 Sp (λ n=>xM.P (Ke n) (Us n) n) (S,fin,rs) (Vh S fin rs):=by
 show Tt (λ n=>xM.P (Ke n) (Us n) n (S,fin,rs)) _;unfold xM.P;dsimp only;refine Tt.bind (hU S fin rs hw) ?_;rintro U ⟨hl,hup,R,hR,hu⟩;exact Tt.bind (hK S fin rs U hw hl) λ a ha=>Tt.pure (YB hw hup hR hu ha)
theorem afm {Ke:Nat->Int×List Int×List Rule×List Bool->Option (Int×List Int×List Rule)} {Us:Nat->Int×List Int×List Rule->Option (List Bool)} {V:Nat->List Int×Int×List Int×List Rule->Option Bool} (hK:ad6 Ke) (hU:ND Us) (al:List Int) (S:Int) (fin:List Int) (rs:List Rule) (hv:dV al (S,fin,rs))
 (hV:Sp V (al,S,fin,rs) (λ r=>r=true ↔ dV al (S,fin,rs))):
 Sp (λ n=>xO.P (Ke n) (V n) (Us n) n) (al,S,fin,rs) (λ r=>r.2.2.2=0/\Wf r.1 r.2.1 r.2.2.1/\r.1<=S/\ ∀t,Acc r.2.2.1 r.2.1 t ↔ Acc rs fin t):=by
 have hw:=hv.wf;show Tt (λ n=>xO.P (Ke n) (V n) (Us n) n (al,S,fin,rs)) _;unfold xO.P;dsimp only;refine Tt.bind hV λ b hb=> ?_;rw[hb.2 hv];refine Tt.no rfl (Tt.bind (hU S fin rs hw) ?_);rintro U ⟨hl,hup,R,hR,hu⟩;refine Tt.bind (hK S fin rs U hw hl) λ a ha=> ?_;have h:=YB hw hup hR hu ha;exact Tt.pure ⟨rfl,h.1,h.2.1,h.2.2.2.2.1⟩
theorem UO {S:Int} {fin:List Int} {rs rs':List Rule} {ν:List Int} (hw:Wf S fin rs) (hi: ∀s t,dH S s->dH S t->0<=iat ν s->iat ν s=iat ν t->s=t) (hc: ∀r∈rs,(∀s∈r.2.1,0<=iat ν s)->0<=iat ν r.2.2) (hI:Img (iat ν) rs rs'):
 (∀t s,Reach rs t s->0<=iat ν s)/\ ∀t c,Reach rs' t c ↔ ∃s,Reach rs t s/\iat ν s=c:=by
 have pos: ∀t s,Reach rs t s->0<=iat ν s:=by
  intro t
  induction t using yA with
  |h a ks ih=>
   intro s hs;obtain⟨r,hr,h1,h2,h3,h4⟩:=dD.1 hs;rw[←h2];refine hc r hr λ f hf=> ?_;obtain⟨i,hi,e⟩:=aay hf;have hk:i<ks.length:=by omega
   exact ih _ (aag hk) f (h4 i _ f (aac hk) (by rw[aac hi,e]))
 refine⟨pos,λ t=> ?_⟩
 induction t using yA with
 |h a ks ih=>
  intro c;constructor
  ·intro hq;obtain⟨r',hr',h1,h2,h3,h4⟩:=dD.1 hq;obtain⟨r,a1,rfl⟩:=(hI r').1 hr';simp only[aaN]at h3;refine⟨r.2.2,dD.2 ⟨r,a1,h1,rfl,h3,λ i k f hk hf=> ?_⟩,h2⟩;obtain⟨s,b1,b2⟩:=(ih k (aak hk) (iat ν f)).1 (h4 i k _ hk (by rw[aar,hf];rfl));have:=hi s f (OX hw b1) ((hw.2.2.2.2.2 r a1).2.1 f (aak hf)) (pos k s b1) b2
   rwa [←this]
  ·rintro⟨s,hs,rfl⟩;obtain⟨r,hr,h1,h2,h3,h4⟩:=dD.1 hs;refine dD.2 ⟨_,(hI _).2 ⟨r,hr,rfl⟩,h1,by rw[h2],by simpa using h3,λ i k f hk hf=> ?_⟩;simp only[aar,aaG]at hf;obtain⟨f0,e,rfl⟩:=hf;exact(ih k (aak hk) _).2 ⟨f0,h4 i k f0 hk e,rfl⟩
abbrev aix (Ma:Nat->Int×List Int×List Rule×Int×List Int->Option (Int×List Int×List Rule)):Prop:= ∀(S:Int) (fin:List Int) (rs:List Rule) (m:Int) (to:List Int),Wf S fin rs->to.length=S.toNat->
 Sp Ma (S,fin,rs,m,to) (λ a=>a.1=m/\afJ (iat to) fin a.2.1/\Img (iat to) rs a.2.2/\a.2.1.length<=fin.length/\a.2.2.length<=rs.length/\(a.2.1.Pairwise λ a b=>a<b)/\a.2.2.Pairwise λ a b=>xK a b<0)
abbrev Ctx:Type:=List (Int×List (RT Int)×List (RT Int))
def plug:Ctx->RT Int->RT Int
 | [],t=>t
 |(a,l,r)::c,t=>plug c (.mk a (l++t::r))
theorem QX {α:Type} {l r:List α} {x y:α} {i:Nat}:(l++x::r)[i]? =if i=l.length then some x else(l++y::r)[i]? :=by
 by_cases h:i=l.length
 ·rw[if_pos h,h,aaz (aaq _),acz];rfl
 ·rw[if_neg h];rcases aaE i l.length with h1|h1
  ·rw[aax h1,aax h1]
  ·obtain⟨k,rfl⟩: ∃k,i=l.length+1+k:=⟨i-l.length-1,by omega⟩;rw[aaz h1,aaz h1,show l.length+1+k-l.length=k+1 by omega];rfl
theorem TJ {rs:List Rule} {t t':RT Int} (h: ∀q,Reach rs t q->Reach rs t' q) {a:Int} {l r:List (RT Int)} {q:Int} (hq:Reach rs (.mk a (l++t::r)) q):Reach rs (.mk a (l++t'::r)) q:=by
 obtain⟨x,h0,h1,h2,h3,h4⟩:=dD.1 hq;refine dD.2 ⟨x,h0,h1,h2,by simpa using h3,λ i k f hk hf=> ?_⟩;rw[QX (y:=t)]at hk;split at hk
 ·rename_i e;cases hk;exact h f (h4 i t f (by rw[QX (y:=t),if_pos e]) hf)
 ·exact h4 i k f hk hf
theorem FN {rs:List Rule}: ∀(c:Ctx) {t t':RT Int},(∀q,Reach rs t q->Reach rs t' q)-> ∀q,Reach rs (plug c t) q->Reach rs (plug c t') q
 | [],_,_,h,q,hq=>h q hq
 |(a,l,r)::c,_,_,h,q,hq=>FN c (λ _ h'=>TJ h h') q hq
theorem JM {rs:List Rule}: ∀(c:Ctx) {t:RT Int} {q:Int},Reach rs (plug c t) q-> ∃p,Reach rs t p
 | [],_,q,h=>⟨q,h⟩
 |(a,l,r)::c,t,q,h=>by
  obtain⟨p,hp⟩:=JM c h;obtain⟨x,h0,h1,h2,h3,h4⟩:=dD.1 hp;have hl:l.length<x.2.1.length:=by rw[h3];simp
  exact⟨x.2.1[l.length],h4 l.length t _ (by rw[QX (y:=t),if_pos rfl]) (aac hl)⟩
def Ner (rs:List Rule) (fin:List Int) (t t':RT Int):Prop:= ∀c,Acc rs fin (plug c t) ↔ Acc rs fin (plug c t')
theorem Ner.symm {rs:List Rule} {fin:List Int} {t t':RT Int} (h:Ner rs fin t t'):Ner rs fin t' t:=λ c=>(h c).symm
theorem Ner.trans {rs:List Rule} {fin:List Int} {t t' u:RT Int} (h:Ner rs fin t t') (h':Ner rs fin t' u):Ner rs fin t u:=λ c=>(h c).trans (h' c)
theorem JD {rs:List Rule} {fin:List Int} (hu:Uni rs) {t t':RT Int} {q:Int} (h:Reach rs t q) (h':Reach rs t' q):Ner rs fin t t':=by
 have e: ∀p,Reach rs t p ↔ Reach rs t' p:=λ p=>⟨λ hp=>hu t q p h hp▸h',λ hp=>hu t' q p h' hp▸h⟩;exact λ c=>⟨λ⟨p,h1,h2⟩=>⟨p,FN c (λ p=>(e p).1) p h1,h2⟩,λ⟨p,h1,h2⟩=>⟨p,FN c (λ p=>(e p).2) p h1,h2⟩⟩
structure Can (M:Aut):Prop where
 det:Det M.2.2
 st: ∀r∈M.2.2,dH M.1 r.2.2/\ ∀q∈r.2.1,dH M.1 q
 fin: ∀q∈M.2.1,dH M.1 q
 reach: ∀q,dH M.1 q-> ∃t,Reach M.2.2 t q
 co: ∀q,dH M.1 q-> ∃t c,Reach M.2.2 t q/\Acc M.2.2 M.2.1 (plug c t)
 red: ∀h:Int->Int,KH M.1 M.2.1 M.2.2 h-> ∀s t,dH M.1 s->dH M.1 t->h s=h t->s=t
theorem Can.co' {M:Aut} (h:Can M) {q:Int} (hq:dH M.1 q) {t:RT Int} (ht:Reach M.2.2 t q): ∃c,Acc M.2.2 M.2.1 (plug c t):=by
 obtain⟨u,c,h1,h2⟩:=h.co q hq;exact⟨c,(JD h.det.uni h1 ht c).1 h2⟩
theorem Can.st' {M:Aut} (h:Can M) {t:RT Int} {q:Int} (hq:Reach M.2.2 t q):dH M.1 q:=by
 cases t with
 |mk a ks=>
  obtain⟨r,c1,_,c3,_⟩:=dD.1 hq;rw[←c3];exact(h.st r c1).1
theorem VX {α:Type} {l:List α} {i:Nat} {x:α} (h:l[i]? =some x):l=l.take i++x::l.drop (i+1)/\(l.take i).length=i:=by
 have hl:=(aaf.1 h).1;have he:=(aaf.1 h).2;refine⟨?_,by simp;omega⟩;have:=abm i l;rw[aaI hl,he]at this;exact this.symm
theorem Zd {rs:List Rule} (hu:Uni rs) {a:Int} {ks:List (RT Int)} {q:Int} (h:Reach rs (.mk a ks) q) {l:List Int} (hl:l.length=ks.length) (hk: ∀(i:Nat) (k:RT Int) (f:Int),ks[i]? =some k->l[i]? =some f->Reach rs k f):(a,l,q)∈rs:=by
 obtain⟨r,h0,h1,h2,h3,h4⟩:=dD.1 h
 have:r.2.1=l:=List.ext_getElem (by omega) λ i hi hi'=>by
  have hk':i<ks.length:=by omega
  exact hu _ _ _ (h4 i _ _ (aac hk') (aac hi)) (hk i _ _ (aac hk') (aac hi'))
 rw[←this,←h1,←h2];exact h0
theorem Can.sep {M:Aut} (h:Can M) {t t':RT Int} {q q':Int} (ht:Reach M.2.2 t q) (ht':Reach M.2.2 t' q') (hn:Ner M.2.2 M.2.1 t t'):q=q':=by
 classical
 have hu:=h.det.uni
 obtain⟨T,hT⟩: ∃T:Int->RT Int,∀q,dH M.1 q->Reach M.2.2 (T q) q:=⟨λ q=>if hq:dH M.1 q then(h.reach q hq).choose else .mk 0 [],λ q hq=>by
  simp only[hq,dite_true];exact(h.reach q hq).choose_spec⟩
 let g:Int->Int:=λ s=>Classical.epsilon λ u=>dH M.1 u/\Ner M.2.2 M.2.1 (T u) (T s)
 have gs: ∀s,dH M.1 s->dH M.1 (g s)/\Ner M.2.2 M.2.1 (T (g s)) (T s):=λ s hs=>Classical.epsilon_spec (p:=λ u=>dH M.1 u/\Ner M.2.2 M.2.1 (T u) (T s)) ⟨s,hs,λ _=>ach⟩
 have ge: ∀s t,Ner M.2.2 M.2.1 (T s) (T t)->g s=g t:=λ s t hst=>by
  have:(λ u=>dH M.1 u/\Ner M.2.2 M.2.1 (T u) (T s))=λ u=>dH M.1 u/\Ner M.2.2 M.2.1 (T u) (T t):=funext λ u=>propext ⟨λ⟨a,b⟩=>⟨a,b.trans hst⟩,λ⟨a,b⟩=>⟨a,b.trans hst.symm⟩⟩;exact congrArg Classical.epsilon this
 have gn: ∀s t,dH M.1 s->dH M.1 t->g s=g t->Ner M.2.2 M.2.1 (T s) (T t):=λ s t hs ht e=>(gs s hs).2.symm.trans (e▸(gs t ht).2);refine h.red g ⟨λ s t hs ht e=> ?_,λ s t hs ht e r i hr=> ?_⟩ q q' (h.st' ht) (h.st' ht') (ge q q' ((JD hu (hT q (h.st' ht)) ht).trans (hn.trans (JD hu ht' (hT q' (h.st' ht'))))))
 ·have f: ∀s,dH M.1 s->(Acc M.2.2 M.2.1 (T s) ↔ s∈M.2.1):=λ s hs=>⟨λ⟨p,h1,h2⟩=>hu _ _ _ h1 (hT s hs)▸h2,λ h1=>⟨s,hT s hs,h1⟩⟩;exact(f s hs).symm.trans ((gn s t hs ht e []).trans (f t ht))
 ·obtain⟨h1,h2⟩:=hr;have hst:=h.st r h1;have hks:(r.2.1.map T)[i]? =some (T s):=by rw[aar,h2];rfl
  obtain⟨e1,e2⟩:=VX hks
  have hru:Reach M.2.2 (.mk r.1 (r.2.1.map T)) r.2.2:=dD.2 ⟨r,h1,rfl,rfl,by simp,λ j k f hk hf=>by
   rw[aar,hf]at hk;cases hk;exact hT f (hst.2 f (aak hf))⟩
  obtain⟨c,hc⟩:=h.co' hst.1 hru
  have hner:Ner M.2.2 M.2.1 (.mk r.1 (r.2.1.map T)) (.mk r.1 ((r.2.1.map T).take i++T t::(r.2.1.map T).drop (i+1))):=λ c=>by
   have:=gn s t hs ht e ((r.1,(r.2.1.map T).take i,(r.2.1.map T).drop (i+1))::c);unfold plug at this
   rwa [←e1]at this
  obtain⟨p,hp,_⟩:=(hner c).1 hc;obtain⟨q,hq⟩:=JM c hp;have hil:=(aaf.1 h2).1
  have hru':=Zd hu hq (l:=r.2.1.set i t) (by simp;omega) (λ j k f hk hf=>by
   rw[QX (y:=T s),e2,←e1]at hk;rw[aaS]at hf;by_cases e:j=i
   ·rw[if_pos e]at hk;rw[if_pos e.symm,if_pos hil]at hf;cases hk;cases hf;exact hT t ht
   ·rw[if_neg e]at hk;rw[if_neg (Ne.symm e)]at hf;rw[aar,hf]at hk;cases hk;exact hT f (hst.2 f (aak hf)))
  have hq':=(h.st _ hru').1;exact⟨_,hru',rfl,rfl,ge _ _ ((JD hu (hT _ hq') hq).trans (hner.symm.trans (JD hu hru (hT _ hst.1))))⟩
def E8 (M M':Aut):Prop:= ∀t,Acc M.2.2 M.2.1 t ↔ Acc M'.2.2 M'.2.1 t
def Rl (M M':Aut) (q p:Int):Prop:= ∃t,Reach M.2.2 t q/\Reach M'.2.2 t p
theorem Rl.symm {M M':Aut} {q p:Int} (h:Rl M M' q p):Rl M' M p q:=let⟨t,a,b⟩:=h; ⟨t,b,a⟩
theorem agM {M M':Aut} (h:Can M) (hs:E8 M M') {t:RT Int} {q:Int} (hq:Reach M.2.2 t q): ∃p,Reach M'.2.2 t p:=by
 obtain⟨c,hc⟩:=h.co' (h.st' hq) hq;obtain⟨p,hp,_⟩:=(hs _).1 hc;exact JM c hp
theorem Y8 {M M':Aut} (h:Can M) (h':Can M') (hs:E8 M M') {q p p':Int} (a:Rl M M' q p) (b:Rl M M' q p'):p=p':=by
 obtain⟨t,a1,a2⟩:=a;obtain⟨u,b1,b2⟩:=b;exact h'.sep a2 b2 λ c=>(hs _).symm.trans ((JD h.det.uni a1 b1 c).trans (hs _))
theorem Y9 {M M':Aut} (h:Can M) (h':Can M') (hs:E8 M M') {r:Rule} (hr:r∈M.2.2) {l:List Int} (hl:l.length=r.2.1.length) (hk: ∀(i:Nat) (q p:Int),r.2.1[i]? =some q->l[i]? =some p->Rl M M' q p): ∃p,Rl M M' r.2.2 p/\(r.1,l,p)∈M'.2.2:=by
 have hch: ∀i:Nat,∃t:RT Int,∀q p:Int,r.2.1[i]? =some q->l[i]? =some p->Reach M.2.2 t q/\Reach M'.2.2 t p:=by
  intro i;by_cases hi:i<l.length
  ·obtain⟨t,h1,h2⟩:=hk i _ _ (aac (hl▸hi)) (aac hi)
   exact⟨t,λ q p hq hp=>by
    rw[aac (hl▸hi)]at hq;rw[aac hi]at hp;cases hq;cases hp;exact⟨h1,h2⟩⟩
  ·exact⟨.mk 0 [],λ q p hq hp=>absurd (aaf.1 hp).1 hi⟩
 obtain⟨T,hT⟩: ∃T:Nat->RT Int,∀i q p,r.2.1[i]? =some q->l[i]? =some p->Reach M.2.2 (T i) q/\Reach M'.2.2 (T i) p:=⟨λ i=>(hch i).choose,λ i=>(hch i).choose_spec⟩
 have hks: ∀(i:Nat) (k:RT Int),((List.range l.length).map T)[i]? =some k->i<l.length/\k=T i:=λ i k hk=>by
  rw[aar]at hk;by_cases hi:i<l.length
  ·rw[abZ hi]at hk;cases hk;exact⟨hi,rfl⟩
  ·rw[aah (by simp;omega)]at hk;cases hk
 have hru:Reach M.2.2 (.mk r.1 ((List.range l.length).map T)) r.2.2:=dD.2 ⟨r,hr,rfl,rfl,by simp[hl],λ i k f hk hf=>by
  obtain⟨hi,rfl⟩:=hks i k hk;exact(hT i f _ hf (aac hi)).1⟩
 obtain⟨p,hp⟩:=agM h hs hru
 exact⟨p,⟨_,hru,hp⟩,Zd h'.det.uni hp (by simp) λ i k f hk hf=>by
  obtain⟨hi,rfl⟩:=hks i k hk;exact(hT i _ f (aac (hl▸hi)) hf).2⟩
def Num (M:Aut):Prop:= ∃mm:Nat->Nat,mm 0=0/\ ∀q:Nat,(q:Int)<M.1->
 (∃s f,(s,f,(q:Int))∈M.2.2/\(∀x∈f,x<(mm q:Int))/\ ∀r∈M.2.2,(∀x∈r.2.1,x<(mm q:Int))->(q:Int)<=r.2.2->xK (s,f,0) (r.1,r.2.1,0)<=0)/\
 ((q:Int)+1<M.1->mm (q+1)=mm q\/mm (q+1)=q+1/\ ∀r∈M.2.2,(∀x∈r.2.1,x<(mm q:Int))->r.2.2<=(q:Int))
theorem ae3 {M M':Aut} (h:Can M) (h':Can M') (hs:E8 M M') {f:List Int} {q:Nat} (hid: ∀j:Nat,j<q->Rl M M' j j) (hf: ∀x∈f,0<=x/\x<(q:Int)) {s to:Int} (hr:(s,f,to)∈M.2.2) (hto:(q:Int)<=to): ∃p,Rl M M' to p/\(s,f,p)∈M'.2.2/\(q:Int)<=p:=by
 obtain⟨p,h1,h2⟩:=Y9 h h' hs hr (l:=f) rfl λ i a b ha hb=>by
  have ha:f[i]? =some a:=ha;rw[ha]at hb;cases hb;have hx:=hf a (aak ha);have:=hid a.toNat (by omega)
  rwa [acp hx.1]at this
 refine⟨p,h1,h2,?_⟩;apply abp;intro hlt;have hp:=(h'.st _ h2).1.1;dsimp only at hp;have:=hid p.toNat (by omega);rw[acp hp]at this;have hs':E8 M' M:=λ t=>(hs t).symm;have e:to=p:=Y8 h' h hs' h1.symm this.symm;omega
theorem agF {M M':Aut} (h:Can M) (h':Can M') (hs:E8 M M') {mm mm':Nat->Nat} (h0:mm 0=0) (h0':mm' 0=0)
 (hm: ∀q:Nat,(q:Int)<M.1->(∃s f,(s,f,(q:Int))∈M.2.2/\(∀x∈f,x<(mm q:Int))/\ ∀r∈M.2.2,(∀x∈r.2.1,x<(mm q:Int))->(q:Int)<=r.2.2->xK (s,f,0) (r.1,r.2.1,0)<=0)/\
  ((q:Int)+1<M.1->mm (q+1)=mm q\/mm (q+1)=q+1/\ ∀r∈M.2.2,(∀x∈r.2.1,x<(mm q:Int))->r.2.2<=(q:Int)))
 (hm': ∀q:Nat,(q:Int)<M'.1->(∃s f,(s,f,(q:Int))∈M'.2.2/\(∀x∈f,x<(mm' q:Int))/\ ∀r∈M'.2.2,(∀x∈r.2.1,x<(mm' q:Int))->(q:Int)<=r.2.2->xK (s,f,0) (r.1,r.2.1,0)<=0)/\
  ((q:Int)+1<M'.1->mm' (q+1)=mm' q\/mm' (q+1)=q+1/\ ∀r∈M'.2.2,(∀x∈r.2.1,x<(mm' q:Int))->r.2.2<=(q:Int))):
 ∀q:Nat,(∀j:Nat,j<q->(j:Int)<M.1->(j:Int)<M'.1->Rl M M' j j)/\((q:Int)<M.1->(q:Int)<M'.1->mm q=mm' q/\mm q<=q):=by
 have hs':E8 M' M:=λ t=>(hs t).symm;intro q
 induction q with
 |zero=>exact⟨λ j hj=>absurd hj (Nat.not_lt_zero _),λ _ _=>⟨by rw[h0,h0'],by omega⟩⟩
 |succ q ih=>
  obtain⟨ih1,ih2⟩:=ih;by_cases hq:(q:Int)<M.1/\(q:Int)<M'.1
  ·obtain⟨hq1,hq2⟩:=hq;obtain⟨e,le⟩:=ih2 hq1 hq2;have hid: ∀j:Nat,j<q->Rl M M' j j:=λ j hj=>ih1 j hj (by omega) (by omega);obtain⟨⟨s,f,a1,a2,a3⟩,a4⟩:=hm q hq1;obtain⟨⟨s',f',b1,b2,b3⟩,b4⟩:=hm' q hq2;have fs: ∀x∈f,0<=x/\x<(q:Int):=λ x hx=>⟨((h.st _ a1).2 x hx).1,by have:=a2 x hx;omega⟩;have fs': ∀x∈f',0<=x/\x<(q:Int):=λ x hx=>⟨((h'.st _ b1).2 x hx).1,by have:=b2 x hx;omega⟩;obtain⟨p,p1,p2,p3⟩:=ae3 h h' hs hid fs a1 (acN _);obtain⟨p',q1,q2,q3⟩:=ae3 h' h hs' (λ j hj=>(hid j hj).symm) fs' b1 (acN _);have c1:=a3 _ q2 (λ x hx=>by rw[e];exact b2 x hx) q3;have c2:=b3 _ p2 (λ x hx=>by rw[←e];exact a2 x hx) p3;dsimp only at c1 c2;have hz:=oq.anti (s,f,0) (s',f',0);have heq:=oq.eq _ _ (show xK (s,f,0) (s',f',0)=0 by omega);simp only[aas,and_true]at heq;obtain⟨rfl,rfl⟩:=heq;have hpq:p=(q:Int):=h'.det _ p2 _ b1 rfl rfl;have hqq:Rl M M' q q:=by rw[hpq]at p1;exact p1
   have hall: ∀j:Nat,j<q+1->Rl M M' j j:=λ j hj=>by
    rcases aaY (Nat.lt_succ_iff.1 hj)with h1|rfl
    ·exact hid j h1
    ·exact hqq
   refine⟨λ j hj _ _=>hall j hj,λ g1 g2=> ?_⟩
   have stp: ∀{M M':Aut} {mm mm':Nat->Nat},Can M->Can M'->E8 M M'->(∀j:Nat,j<q+1->Rl M M' j j)->(∃s f,(s,f,((q+1:Nat):Int))∈M.2.2/\ ∀x∈f,x<(mm (q+1):Int))->mm (q+1)=mm q->mm q=mm' q->mm q<=q->(∀r∈M'.2.2,(∀x∈r.2.1,x<(mm' q:Int))->r.2.2<=(q:Int))->False:=by
    intro M M' mm mm' h h' hs hall ⟨s,f,d1,d2⟩ d3 d4 d5 d6;obtain⟨p,e1,e2,e3⟩:=ae3 h h' hs hall (λ x hx=>⟨((h.st _ d1).2 x hx).1,by have:=d2 x hx;omega⟩) d1 (acN _);have:=d6 _ e2 λ x hx=>by have:=d2 x hx;omega
    dsimp only at this;omega
   obtain⟨⟨s1,f1,k1,k2,_⟩,_⟩:=hm (q+1) g1;obtain⟨⟨s2,f2,l1,l2,_⟩,_⟩:=hm' (q+1) g2;rcases a4 (by omega)with a4|⟨a4,a5⟩<;>rcases b4 (by omega)with b4|⟨b4,b5⟩
   ·exact⟨by omega,by omega⟩
   ·exact absurd (stp h h' hs hall ⟨s1,f1,k1,k2⟩ a4 e le b5) id
   ·exact absurd (stp h' h hs' (λ j hj=>(hall j hj).symm) ⟨s2,f2,l1,l2⟩ b4 e.symm (by omega) a5) id
   ·exact⟨by omega,by omega⟩
  ·refine⟨λ j hj g1 g2=> ?_,λ g1 g2=>absurd ⟨by omega,by omega⟩ hq⟩;rcases aaY (Nat.lt_succ_iff.1 hj)with h1|rfl
   ·exact ih1 j h1 g1 g2
   ·exact absurd ⟨g1,g2⟩ hq
theorem afV {M M':Aut} (h:Can M) (h':Can M') (hs:E8 M M') (hn:Num M) (hn':Num M') (h0:0<=M.1) (h0':0<=M'.1):M.1=M'.1/\(∀r,r∈M.2.2 ↔ r∈M'.2.2)/\ ∀q,q∈M.2.1 ↔ q∈M'.2.1:=by
 have hs':E8 M' M:=λ t=>(hs t).symm;obtain⟨mm,a0,am⟩:=hn;obtain⟨mm',b0,bm⟩:=hn';have hid: ∀j:Nat,(j:Int)<M.1->(j:Int)<M'.1->Rl M M' j j:=λ j g1 g2=>(agF h h' hs a0 b0 am bm (j+1)).1 j (Nat.lt_succ_self _) g1 g2
 have hle: ∀{M M':Aut},Can M->Can M'->E8 M M'->(∀j:Nat,(j:Int)<M.1->(j:Int)<M'.1->Rl M M' j j)->0<=M.1-> ¬M.1<M'.1:=by
  intro M M' h h' hs hid h0 hlt;have hs':E8 M' M:=λ t=>(hs t).symm;obtain⟨t,ht⟩:=h'.reach M.1 ⟨h0,hlt⟩;obtain⟨q,hq⟩:=agM h' hs' ht;have hq':=h.st' hq;have:=hid q.toNat (by have:=hq'.1;have:=hq'.2;omega) (by have:=hq'.1;have:=hq'.2;omega);rw[acp hq'.1]at this;have e:=Y8 h h' hs ⟨t,hq,ht⟩ this;have:=hq'.2;omega
 have hS:M.1=M'.1:=by
  have:=hle h h' hs hid h0;have:=hle h' h hs' (λ j g1 g2=>(hid j g2 g1).symm) h0';omega
 have hid2: ∀q,dH M.1 q->Rl M M' q q:=λ q hq=>by
  have:=hid q.toNat (by have:=hq.1;have:=hq.2;omega) (by have:=hq.1;have:=hq.2;omega)
  rwa [acp hq.1]at this
 have sub: ∀{M M':Aut},Can M->Can M'->E8 M M'->(∀q,dH M.1 q->Rl M M' q q)->(∀r∈M.2.2,r∈M'.2.2)/\ ∀q∈M.2.1,q∈M'.2.1:=by
  intro M M' h h' hs hid;refine⟨λ r hr=> ?_,λ q hq=> ?_⟩
  ·obtain⟨p,h1,h2⟩:=Y9 h h' hs hr (l:=r.2.1) rfl λ i a b ha hb=>by
    rw[ha]at hb;cases hb;exact hid a ((h.st r hr).2 a (aak ha))
   have:=Y8 h h' hs h1 (hid _ (h.st r hr).1);subst this;exact h2
  ·obtain⟨t,h1,h2⟩:=hid q (h.fin q hq);obtain⟨p,h3,h4⟩:=(hs t).1 ⟨q,h1,hq⟩;rw[h'.det.uni t q p h2 h3];exact h4
 have s1:=sub h h' hs hid2;have s2:=sub h' h hs' (λ q hq=>(hid2 q (by rw[hS];exact hq)).symm);exact⟨hS,λ r=>⟨s1.1 r,s2.1 r⟩,λ q=>⟨s1.2 q,s2.2 q⟩⟩
theorem afC {rs:List Rule} {fin:List Int} {s:Int} (h:Up rs fin s): ∀t,Reach rs t s-> ∃c,Acc rs fin (plug c t):=by
 induction h with
 |fin h hr=>exact λ t ht=>⟨[],_,ht,h⟩
 | @rule r s hr h hk hs ih=>
   intro t ht;obtain⟨i,hi,e⟩:=aay hs
   have hch: ∀j:Nat,∃t:RT Int,∀f:Int,r.2.1[j]? =some f->Reach rs t f:=by
    intro j;rcases aaE j r.2.1.length with hj|hj
    ·obtain⟨t,ht⟩:=hk _ (aag hj);exact⟨t,λ f hf=>by rw[aac hj]at hf;cases hf;exact ht⟩
    ·exact⟨.mk 0 [],λ f hf=>absurd (aaf.1 hf).1 (by omega)⟩
   let ks:List (RT Int):=(List.range r.2.1.length).map λ j=>if j=i then t else(hch j).choose
   have hat: ∀j,j<r.2.1.length->ks[j]? =some (if j=i then t else(hch j).choose):=λ j hj=>by
    show((List.range r.2.1.length).map _)[j]? =_;rw[aar,abZ hj];rfl
   have hru:Reach rs (.mk r.1 ks) r.2.2:=dD.2 ⟨r,hr,rfl,rfl,by simp[ks],λ j k f hk' hf=>by
    have hj:=(aaf.1 hf).1;rw[hat j hj]at hk';cases hk';split
    ·rename_i ej;subst ej;rw[aac hj,e]at hf;cases hf;exact ht
    ·exact(hch j).choose_spec f hf⟩
   obtain⟨c,hc⟩:=ih _ hru;have hi':=hat i hi;rw[if_pos rfl]at hi';obtain⟨e1,_⟩:=VX hi';exact⟨(r.1,ks.take i,ks.drop (i+1))::c,by unfold plug;rw[←e1];exact hc⟩
theorem KH.pull {S S':Int} {fin fin':List Int} {rs rs':List Rule} {ν h':Int->Int} (hw:Wf S fin rs) (hν:KH S fin rs ν) (hI:Img ν rs rs') (hF:afJ ν fin fin') (st: ∀s,dH S s->dH S' (ν s)) (hh:KH S' fin' rs' h'):KH S fin rs (λ s=>h' (ν s)):=by
 refine⟨λ s t hs ht e=> ?_,λ s t hs ht e r i ho=> ?_⟩
 ·have f: ∀s,dH S s->(ν s∈fin' ↔ s∈fin):=λ s hs=>⟨λ h=>by obtain⟨x,h1,h2⟩:=(hF _).1 h;exact(hν.1 s x hs (hw.2.2.2.2.1 x h1) h2).2 h1,λ h=>(hF _).2 ⟨s,h,rfl⟩⟩;exact(f s hs).symm.trans ((hh.1 _ _ (st s hs) (st t ht) e).trans (f t ht))
 ·obtain⟨h1,h2⟩:=ho;have ho':Occ rs' (r.1,r.2.1.map ν,ν r.2.2) i (ν s):=⟨(hI _).2 ⟨r,h1,rfl⟩,by rw[aar,h2];rfl⟩;obtain⟨x,a1,a2,a3,a4⟩:=hh.2 _ _ (st s hs) (st t ht) e _ i ho';obtain⟨r0,b1,rfl⟩:=(hI x).1 a1;dsimp only at a2 a3 a4;have a3':r0.2.1.map ν=(r.2.1.set i t).map ν:=by rw[a3,List.map_set]
  have hl:(r.2.1.set i t).length=r0.2.1.length:=by have:=congrArg List.length a3';simpa using this.symm
  obtain⟨r2,c1,c2,c3,c4⟩:=hν.list hw b1 (l:=r.2.1.set i t) hl (λ x hx=>by
   rcases abE hx with h|rfl
   ·exact(hw.2.2.2.2.2 r h1).2.1 x h
   ·exact ht) (λ j x y hx hy=>by
   have:=congrArg (λ l:List Int=>l[j]?) a3';simp only[aar,hx,hy,aaK,aae]at this;exact this.symm) _ (aaq _)
  rw[aaC,abn (by omega),aaQ]at c3;refine⟨r2,c1,c2.trans a2,c3,?_⟩;show h' (ν r2.2.2)=h' (ν r.2.2);rw[c4];exact a4
theorem Z5 {S:Int} {fin:List Int} {rs:List Rule} {ν:Int->Int} (hi: ∀s t,dH S s->dH S t->ν s=ν t->s=t):KH S fin rs ν:=
 ⟨λ s t hs ht e=>by rw[hi s t hs ht e],λ s t hs ht e r i ho=>⟨r,ho.1,rfl,by
  have:=hi s t hs ht e;subst this;apply aaP;intro j;rw[aaS];split
  ·rename_i e;subst e;rw[ho.2,if_pos (aaf.1 ho.2).1]
  ·rfl,rfl⟩⟩
theorem XT {a M:Aut} (hw:Wf a.1 a.2.1 a.2.2) (hd:Det a.2.2) (hup: ∀q,dH a.1 q->Up a.2.2 a.2.1 q) {ν:Int->Int} (hν:KH a.1 a.2.1 a.2.2 ν) (hI:Img ν a.2.2 M.2.2) (hF:afJ ν a.2.1 M.2.1) (st: ∀s,dH a.1 s->dH M.1 (ν s)) (sur: ∀q,dH M.1 q-> ∃s,dH a.1 s/\ν s=q)
 (hmax: ∀h,KH a.1 a.2.1 a.2.2 h-> ∀s t,dH a.1 s->dH a.1 t->h s=h t->ν s=ν t):Can M/\ ∀q,dH M.1 q->Up M.2.2 M.2.1 q:=by
 have hreach: ∀t s,Reach a.2.2 t s->Reach M.2.2 t (ν s):=λ t s h=>(FQ hw hν hI t _).2 ⟨s,h,rfl⟩;have rch: ∀s,Rch a.2.2 s->Rch M.2.2 (ν s):=λ s ⟨t,ht⟩=>⟨t,hreach t s ht⟩
 have hUp: ∀s,Up a.2.2 a.2.1 s->Up M.2.2 M.2.1 (ν s):=by
  intro s h
  induction h with
  |fin h hr=>exact .fin ((hF _).2 ⟨_,h,rfl⟩) (rch _ hr)
  | @rule r s hr h hk hs ih=>exact .rule ((hI _).2 ⟨r,hr,rfl⟩) ih (λ y hy=>by obtain⟨x,hx,rfl⟩:=aaL.1 hy;exact rch x (hk x hx)) (aaL.2 ⟨s,hs,rfl⟩)
 have hall: ∀q,dH M.1 q->Up M.2.2 M.2.1 q:=λ q hq=>by
  obtain⟨s,h1,rfl⟩:=sur q hq;exact hUp s (hup s h1)
 refine⟨⟨λ x hx y hy e1 e2=> ?_,λ x hx=> ?_,λ q hq=> ?_,λ q hq=>(hall q hq).rch,λ q hq=> ?_,λ h hh c d hc hd' e=> ?_⟩,hall⟩
 ·obtain⟨r,a1,rfl⟩:=(hI x).1 hx;obtain⟨r0,b1,rfl⟩:=(hI y).1 hy;dsimp only at e1 e2 ⊢;have hl:r0.2.1.length=r.2.1.length:=by have:=congrArg List.length e2;simpa using this.symm
  obtain⟨r2,c1,c2,c3,c4⟩:=hν.list hw a1 (l:=r0.2.1) hl (hw.2.2.2.2.2 r0 b1).2.1 (λ j x y hx hy=>by
   have:=congrArg (λ l:List Int=>l[j]?) e2;simp only[aar,hx,hy,aaK,aae]at this;exact this.symm) _ (aaq _)
  rw[aaC,abn (by omega),aaQ]at c3;rw[←c4,hd r2 c1 r0 b1 (c2.trans e1) c3]
 ·obtain⟨r,a1,rfl⟩:=(hI x).1 hx;have:=hw.2.2.2.2.2 r a1;refine⟨st _ this.1,λ y hy=> ?_⟩;obtain⟨z,hz,rfl⟩:=aaL.1 hy;exact st z (this.2.1 z hz)
 ·obtain⟨s,h1,rfl⟩:=(hF q).1 hq;exact st s (hw.2.2.2.2.1 s h1)
 ·obtain⟨t,ht⟩:=(hall q hq).rch;obtain⟨c,hc⟩:=afC (hall q hq) t ht;exact⟨t,c,ht,hc⟩
 ·obtain⟨s,h1,rfl⟩:=sur c hc;obtain⟨t,h2,rfl⟩:=sur d hd';exact hmax _ (hν.pull hw hI hF st hh) s t h1 h2 e
theorem aeO {q M:Aut} {num:List Int} (hw:Wf q.1 q.2.1 q.2.2) (hI:Img (iat num) q.2.2 M.2.2) (pos: ∀s,dH q.1 s->0<=iat num s) (hn:RnI q.2.2 num M.1):Num M:=by
 obtain⟨mm,z0,hP,_⟩:=hn;have hx: ∀(r0:Rule) (b:Int),r0∈q.2.2->(∀x∈r0.2.1.map (iat num),x<b)-> ∀x∈r0.2.1,0<=iat num x/\iat num x<b:=λ r0 b h h' x hx=>⟨pos x ((hw.2.2.2.2.2 r0 h).2.1 x hx),h' _ (aaL.2 ⟨x,hx,rfl⟩)⟩;refine⟨mm,z0,λ n hn=> ?_⟩;obtain⟨⟨c1,r,d1,d2,d3,d4⟩,c2⟩:=hP n hn;refine⟨⟨r.1,r.2.1.map (iat num),(hI _).2 ⟨r,d1,by rw[d2]⟩,λ x hx=> ?_,λ r' hr' hf hle=> ?_⟩,λ h1=> ?_⟩
 ·obtain⟨y,hy,rfl⟩:=aaL.1 hx;exact(d3 y hy).2
 ·obtain⟨r0,e1,rfl⟩:=(hI r').1 hr';exact d4 r0 e1 (hx r0 _ e1 hf) (.inr hle)
 ·rcases c2 h1 with h|⟨h,h'⟩
  ·exact .inl h
  ·refine .inr ⟨h,λ r' hr' hf=> ?_⟩;obtain⟨r0,e1,rfl⟩:=(hI r').1 hr';exact(h' r0 e1 (hx r0 _ e1 hf)).2
theorem X5 {rs:List Rule} (hd:Det rs) (hp:rs.Pairwise λ a b=>xK a b<0):FY rs:=λ j k r r' hjk hj hk ⟨e1,e2⟩=>by
 obtain⟨h1,g1⟩:=aaf.1 hj;obtain⟨h2,g2⟩:=aaf.1 hk;have:=abx.1 hp j k h1 h2 hjk;rw[g1,g2]at this;have e3:=hd r (aak hj) r' (aak hk) e1 e2;have:r=r':=acM e1 (acM e2 e3);subst this;have:=oq.refl r;omega
def V9 (al fin:List Int) (rs:List Rule) (M:Aut):Prop:=Can M/\Num M/\(M.2.1.Pairwise λ a b=>a<b)/\(M.2.2.Pairwise λ a b=>xK a b<0)/\(∀t,Acc M.2.2 M.2.1 t ↔ Acc rs fin t)/\(0<=M.1/\M.1<=300)/\M.2.2.length<=20000/\Ar al M.2.2/\Wf M.1 M.2.1 M.2.2
theorem V9.eq {al fin fin':List Int} {rs rs':List Rule} {M M':Aut} (h:V9 al fin rs M) (h':V9 al fin' rs' M') (hs: ∀t,Acc rs fin t ↔ Acc rs' fin' t):M=M':=by
 obtain⟨e1,e2,e3⟩:=afV h.1 h'.1 (λ t=>(h.2.2.2.2.1 t).trans ((hs t).trans (h'.2.2.2.2.1 t).symm)) h.2.1 h'.2.1 h.2.2.2.2.2.1.1 h'.2.2.2.2.2.1.1;exact acM e1 (acM (BO (λ a b h1 h2=>by omega) h.2.2.1 h'.2.2.1 e3) (BO KA.asym h.2.2.2.1 h'.2.2.2.1 e2))
theorem Xi {Le:Nat->Int×List Int×List Rule->Option (Int×List Int×List Rule)} {De:Nat->List Int×Int×List Int×List Rule->Option (Int×List Int×List Rule×Int)} {Ro Cl:Nat->Int×List Int×List Rule->Option (List Int)} {Ma:Nat->Int×List Int×List Rule×Int×List Int->Option (Int×List Int×List Rule)}
 (hLe: ∀S fin rs,Wf S fin rs->Sp Le (S,fin,rs) (Vh S fin rs)) (hRo: ∀S fin rs,Wf S fin rs->Sp Ro (S,fin,rs) (ad8 S rs))
 (hCl: ∀S fin rs,Wf S fin rs->S<=300->Sy rs->FY rs->Sp Cl (S,fin,rs) (λ cl=>cl.length=S.toNat/\(∀v∈cl,dH S v)/\KH S fin rs (iat cl)/\ZN S fin rs cl)) (hMa:aix Ma)
 (al:List Int) (S:Int) (fin:List Int) (rs:List Rule) (hDe:Sp De (al,S,fin,rs) (λ r=>(r.2.2.2=0->dV al (S,fin,rs)/\V6 al fin rs (r.1,r.2.1,r.2.2.1))/\(dV al (S,fin,rs)->FY rs->r.2.2.2=0))):
 Sp (λ n=>jL.P (Le n) (De n) (Ro n) (Cl n) (Ma n) n) (al,S,fin,rs) (λ r=>(r.2.2.2=0->dV al (S,fin,rs)/\V9 al fin rs (r.1,r.2.1,r.2.2.1))/\(dV al (S,fin,rs)->FY rs->r.2.2.2=0)):=by
 show Tt (λ n=>jL.P (Le n) (De n) (Ro n) (Cl n) (Ma n) n (al,S,fin,rs)) _;unfold jL.P;dsimp only;refine Tt.bind hDe λ d hd=>Tt.ite (λ hc=>Tt.pure ⟨λ h=> ?_,λ hv h=> ?_⟩) (λ hc=> ?_)
 ·dsimp only at h;rw[h]at hc;cases hc
 ·rw[hd.2 hv h]at hc;cases hc
 obtain⟨hval,dw,d300,du,da,ds,dl,dar⟩:=hd.1 (by simpa using hc);dsimp only at dw d300 du da ds dl dar;refine Tt.bind (hLe _ _ _ dw) λ a ha=> ?_;obtain⟨w,wle,wu,ws,wa,wup,war,wlen,wpw⟩:=ha;refine Tt.bind (hCl _ _ _ w (by omega) (ws ds) (X5 (wu du) wpw)) λ cl hcl=> ?_;obtain⟨c1,c2,c3,c4,c5⟩:=hcl;have hS0:=w.1;have hS1:=w.2.1
 refine Tt.bind (R:=λ t=> ∃m:Int,t=((0:Int),([]:List Int),([]:List Rule),a.1,a.2.1,a.2.2,cl,m)/\0<=m/\m<=a.1/\(∀v∈cl,v<m)/\(m=0\/ ∃w∈cl,m=w+1))
  (Tt.loop (L:=λ n=>jL.L1) (Lp.count cl.length (λ i t=> ∃m:Int,t=((0:Int),([]:List Int),([]:List Rule),a.1,a.2.1,a.2.2,cl,m,cl,((cl.length:Nat):Int),(i:Int))/\0<=m/\m<=a.1/\(∀v∈cl.take i,v<m)/\(m=0\/ ∃w∈cl,m=w+1)) ?_ ?_ ⟨0,rfl,by omega,by omega,by simp,.inl rfl⟩)) ?_
 ·rintro i t hi ⟨m,rfl,m0,m1,m2,m3⟩;unfold jL.L1;dsimp only;have hv:=c2 _ (aag hi);have hv1:=hv.1;have hv2:=hv.2;refine Bd.yes (aT (by omega)) (Bd.nth hi (Bd.again ⟨max m (cl[i]+1),by rw[aA (by omega),nU _ (by omega) (by omega)],by omega,by omega,λ v hv=> ?_,?_⟩))
  ·rw[aaD,aac hi,aau]at hv;rcases hv with hv|hv
   ·have:=m2 v hv;omega
   ·simp only[abd,aam]at hv;omega
  ·rcases Int.le_total m (cl[i]+1)with h|h
   ·exact .inr ⟨_,aag hi,Int.max_eq_right h⟩
   ·rw[Int.max_eq_left h];exact m3
 ·rintro t ⟨m,rfl,m0,m1,m2,m3⟩;unfold jL.L1;dsimp only;rw[aaC]at m2;exact Bd.no (decide_eq_false (by omega)) (Bd.done ⟨m,rfl,m0,m1,m2,m3⟩)
 rintro _ ⟨m,rfl,m0,m1,m2,m3⟩;dsimp only;refine Tt.bind (hMa a.1 a.2.1 a.2.2 m cl w c1) λ q hq=> ?_;obtain⟨q1,q2,q3,q4,q5,_,_⟩:=hq
 have hcm: ∀s,dH a.1 s->dH q.1 (iat cl s):=λ s hs=>by
  have hlt:s.toNat<cl.length:=by clear m3;have:=hs.1;have:=hs.2;omega
  have hm:=aag hlt;rw[uo hlt]at hm;rw[q1];exact⟨(c2 _ hm).1,m2 _ hm⟩
 have hsur: ∀c,dH q.1 c-> ∃s,dH a.1 s/\iat cl s=c:=λ c hc=>by
  rw[q1]at hc
  have hcl:c∈cl:=by
   rcases m3 with h|⟨w,h1,h2⟩
   ·have:=hc.1;have:=hc.2;omega
   ·exact c5 w h1 c hc.1 (by have:=hc.2;omega)
  obtain⟨i,hi,e⟩:=aay hcl;exact⟨(i:Int),⟨by omega,by omega⟩,Js (by rw[aat,aac hi,e])⟩
 have hqw:Wf q.1 q.2.1 q.2.2:=by
  refine⟨by omega,by omega,by have:=w.2.2.1;omega,by have:=w.2.2.2.1;omega,λ x hx=> ?_,λ r' hr'=> ?_⟩
  ·obtain⟨s,h1,rfl⟩:=(q2 x).1 hx;exact hcm s (w.2.2.2.2.1 s h1)
  ·obtain⟨r,h1,rfl⟩:=(q3 r').1 hr';obtain⟨g1,g2,g3⟩:=w.2.2.2.2.2 r h1;refine⟨hcm _ g1,λ x hx=> ?_,by simpa using g3⟩;obtain⟨s,hs,rfl⟩:=aaL.1 hx;exact hcm s (g2 s hs)
 obtain⟨qcan,qup⟩:=XT (M:=q) w (wu du) wup c3 q3 q2 hcm hsur c4;refine Tt.bind (hRo _ _ _ hqw) λ num hnum=> ?_;obtain⟨n1,n2,n3,n4,k,nk,nI⟩:=hnum;refine Tt.bind (hMa q.1 q.2.1 q.2.2 m num hqw n1) λ M hM=>Tt.pure ⟨λ _=>⟨hval,?_⟩,λ _ _=>rfl⟩;obtain⟨M1,M2,M3,M4,M5,M6,M7⟩:=hM;obtain⟨pos0,_⟩:=UO hqw n2 n4 M3
 have pos: ∀s,dH q.1 s->0<=iat num s:=λ s hs=>by
  obtain⟨t,ht⟩:=(qup s hs).rch;exact pos0 t s ht
 have hlt: ∀s,dH q.1 s->iat num s<m:=λ s hs=>by
  have h:s.toNat<num.length:=by have:=hs.1;have:=hs.2;omega
  have:=n3 _ (by rw[←uo h];exact aag h:iat num s∈num);omega
 have hk:k=m:=by
  have h5:=nk.2.2.2.2
  have hall:num.countP (λ v=>decide (0<=v))=num.length:=List.countP_eq_length.2 λ v hv=>by
   obtain⟨i,hi,e⟩:=aay hv;have:=pos (i:Int) ⟨by omega,by omega⟩;have e2:iat num (i:Int)=num[i]:=Js (by rw[aat,aac hi]);rw[←e,decide_eq_true_eq,←e2];exact this
  omega
 have hst: ∀s,dH q.1 s->dH M.1 (iat num s):=λ s hs=>by rw[M1];exact⟨pos s hs,hlt s hs⟩
 have hinj:KH q.1 q.2.1 q.2.2 (iat num):=Z5 λ s t hs ht e=>n2 s t hs ht (pos s hs) e
 have hsur2: ∀c,dH M.1 c-> ∃s,dH q.1 s/\iat num s=c:=λ c hc=>by
  obtain⟨mm,_,hP,_⟩:=nI;have hc1:=hc.1;have hc2:=hc.2;obtain⟨⟨_,r,r1,r2,_⟩,_⟩:=hP c.toNat (by omega);exact⟨r.2.2,(hqw.2.2.2.2.2 r r1).1,by rw[r2];omega⟩
 obtain⟨mcan,_⟩:=XT (M:=M) hqw qcan.det qup hinj M3 M2 hst hsur2 λ h hh s t hs ht e=>by rw[qcan.red h hh s t hs ht e]
 have har:Ar al M.2.2:=λ r' hr'=>by
  obtain⟨r,h1,rfl⟩:=(M3 r').1 hr';obtain⟨r0,h2,rfl⟩:=(q3 r).1 h1;have:=war al dar r0 h2;exact⟨this.1,by simpa using this.2⟩
 have hMl:M.2.2.length<=20000:=by omega
 refine⟨mcan,aeO hqw M3 pos (by rw[M1,←hk];exact nI),M6,M7,λ t=> ?_,⟨by dsimp only;omega,by dsimp only;omega⟩,hMl,har,by dsimp only;omega,by dsimp only;omega,by have:=hqw.2.2.1;dsimp only;omega,by dsimp only;omega,mcan.fin,λ r hr=>⟨(mcan.st r hr).1,(mcan.st r hr).2,?_⟩⟩
 ·exact(VJ hqw hinj M3 M2 t).trans ((VJ w c3 q3 q2 t).trans ((wa t).trans (da t)))
 ·obtain⟨r0,h1,rfl⟩:=(M3 r).1 hr;simpa using(hqw.2.2.2.2.2 r0 h1).2.2
theorem ahd (r:Rule) (h:r.2.1.length<=1000):Sp AZ.P r (λ k=>k.length<=1002):=by
 show Tt (λ n=>AZ.P n r) _;unfold AZ.P;refine Tt.chk (pY (by simp;omega)) (Tt.chk (pY ?_) (Tt.pure ?_))
 ·show List.length ([r.1]++r.2.1)+_<=_;simp;omega
 ·show List.length (([r.1]++r.2.1)++[r.2.2])<=_;simp;omega
theorem afx (a b:List Int) (ha:a.length<=1002):Sp oL.P (a,b) (λ _=>True):=by
 show Tt (λ n=>oL.P n (a,b)) _;unfold oL.P;dsimp only;have e:min ((a.length:Nat):Int) ((b.length:Nat):Int)=((min a.length b.length:Nat):Int):=by omega
 rw[e];refine Tt.bind (R:=λ q=>(∃v,q=Sum.inr v)\/q=Sum.inl (a,b)) (Tt.loop (Lp.count (min a.length b.length) (λ i s=>s=(a,b,((min a.length b.length:Nat):Int),(i:Int))) ?_ ?_ rfl)) ?_
 ·rintro i s hi rfl;unfold oL.L1;dsimp only;refine Bd.yes (aT (by omega)) (Bd.nth (by omega) (Bd.nth (by omega) (Bd.ite (λ _=>Bd.done (.inl ⟨_,rfl⟩)) (λ _=>Bd.nth (by omega) (Bd.nth (by omega) (Bd.ite (λ _=>Bd.done (.inl ⟨_,rfl⟩)) (λ _=>Bd.again ?_)))))));rw[aA (by omega)]
 ·rintro s rfl;unfold oL.L1;dsimp only;exact Bd.no (decide_eq_false (by omega)) (Bd.done (.inr rfl))
 ·rintro q (⟨v,rfl⟩|rfl)
  ·exact Tt.pure trivial
  ·exact Tt.ite (λ _=>Tt.pure trivial) (λ _=>Tt.ite (λ _=>Tt.pure trivial) (λ _=>Tt.pure trivial))
theorem aeI {lo hi:Nat} (h:hi<=1099511627776) (h2:lo<=hi):IntKind.wrap .i64 (Int.tdiv (IntKind.wrap .i64 ((lo:Int)+(hi:Int))) 2)=(((lo+hi)/2:Nat):Int):=by
 rw[nU ((lo:Int)+(hi:Int)) (by omega) (by omega)]
 have e:Int.tdiv ((lo:Int)+(hi:Int)) 2=(((lo+hi)/2:Nat):Int):=by
  have h1:(lo:Int)+(hi:Int)=((lo+hi:Nat):Int):=by omega
  rw[h1,ab2 (by omega)];omega
 rw[e,nU _ (by omega) (by omega)]
theorem Ym {α:Type} (l:List α) (z r:α) (lo:Nat) (h:lo<=l.length):
 List.set (List.append (List.append (List.take (lo+1) (List.append l [z])) (List.take (Nat.min (List.length (List.drop lo (List.take (List.length (List.append l [z])) (List.append l [z])))) (List.length (List.append l [z])-(lo+1))) (List.drop lo (List.take (List.length (List.append l [z])) (List.append l [z])))))
  (List.drop ((lo+1)+Nat.min (List.length (List.drop lo (List.take (List.length (List.append l [z])) (List.append l [z])))) (List.length (List.append l [z])-(lo+1))) (List.append l [z]))) lo r=l.take lo++r::l.drop lo:=by
 have ea:List.append l [z]=l++[z]:=rfl;rw[ea];have e1:List.take (l++[z]).length (l++[z])=l++[z]:=aaC;rw[e1]
 have e2:Nat.min (List.drop lo (l++[z])).length ((l++[z]).length-(lo+1))=l.length-lo:=by
  simp only[aa7,aap,aaT];show min _ _=_;omega
 rw[e2];have e3:List.drop (lo+1+(l.length-lo)) (l++[z])= []:=List.drop_eq_nil_of_le (by simp;omega);rw[e3];show List.set ((List.take (lo+1) (l++[z])++List.take (l.length-lo) (List.drop lo (l++[z])))++[]) lo r=_;rw[aaQ];apply aaP;intro i;have hl1:(List.take (lo+1) (l++[z])).length=lo+1:=by simp;omega
 have hl2:(List.take lo l).length=lo:=by simp;omega
 rw[aaS];rcases acE i lo with hi|hi|hi
 ·rw[if_neg (by omega),aax (by omega),aax (by omega),aaj,aaj,if_pos (by omega),if_pos hi,aax (by omega)]
 ·subst hi;rw[if_pos rfl,aaz (by omega),hl2,acz];rw[if_pos (by simp;omega)];rfl
 ·rw[if_neg (by omega),aaz (by omega),hl1,aaz (by omega),hl2,aaj];obtain⟨j,rfl⟩: ∃j,i=lo+1+j:=⟨i-(lo+1),by omega⟩;have e4:lo+1+j-lo=j+1:=by omega
  rw[e4,List.getElem?_cons_succ,aan];have e5:lo+1+j-(lo+1)=j:=by omega
  rw[e5];split
  ·rename_i hj;rw[aan,aax (by omega)]
  ·rename_i hj;rw[aah (by simp;omega)]
section
variable {K:Nat->Rule->Option (List Int)} {L:Nat->List Int×List Int->Option Int}
theorem afy (hK: ∀r:Rule,r.2.1.length<=1000->Sp K r (λ k=>k.length<=1002)) (hL: ∀a b:List Int,a.length<=1002->Sp L (a,b) (λ _=>True)) (x:List Rule) (hx:x.length<=1000000000) (hr: ∀r∈x,r.2.1.length<=1000):
 Sp (λ n=>kT.P (L n) (K n) n) x (λ r:List Rule=>r.length<=x.length/\ ∀y∈r,y∈x):=by
 show Tt (λ n=>kT.P (L n) (K n) n x) _;unfold kT.P;refine Tt.bind (R:=λ r:List Rule=>r.length<=x.length/\ ∀y∈r,y∈x) (Tt.loop (Lp.count x.length (λ i s=> ∃out:List Rule,out.length<=i/\(∀y∈out,y∈x)/\s=(out,x,((x.length:Nat):Int),(i:Int))) ?_ ?_ ⟨[],by simp,by simp,rfl⟩)) λ r hr=>Tt.pure hr
 ·rintro i s hi ⟨out,ho,hox,rfl⟩;have hxi:x[i]∈x:=aag hi;have hor: ∀y∈out,y.2.1.length<=1000:=λ y hy=>hr y (hox y hy);unfold kT.L2;dsimp only;refine Bd.yes (aT (by omega)) (Bd.nth hi ?_);refine Bd.bind (R:=λ t=> ∃lo:Nat,lo<=out.length/\t=(out,x[i].1,x[i].2.1,x[i].2.2,(lo:Int),x,((x.length:Nat):Int),(i:Int))) (Tt.loop (Lp.measure (λ s=> ∃lo hi:Nat,lo<=hi/\hi<=out.length/\s=(out,x[i].1,x[i].2.1,x[i].2.2,(lo:Int),(hi:Int),x,((x.length:Nat):Int),(i:Int))) (λ s=>(s.2.2.2.2.2.1-s.2.2.2.2.1).toNat) ?_ ⟨0,out.length,by omega,by omega,rfl⟩)) ?_
  ·rintro s ⟨lo,hi',h1,h2,rfl⟩;unfold kT.L1;dsimp only;refine Bd.ite (λ hlt=> ?_) (λ _=>Bd.done ⟨lo,by omega,rfl⟩);have hlt:=sW hlt;have hm:(lo+hi')/2<hi':=by omega
   have hm2:lo<=(lo+hi')/2:=by omega
   rw[aeI (by omega) h1];refine Bd.chk (by decide) (Bd.chk (rng (by omega) (by omega)) ?_);rw[aat];refine Bd.at (by omega) λ e he _=> ?_;refine Bd.bind (hK e (hor e he)) λ r7 h7=>Bd.bind (hK (x[i].1,x[i].2.1,x[i].2.2) (hr _ hxi)) λ r8 h8=>Bd.bind (hL r7 r8 h7) λ r9 _=> ?_;refine Bd.eU (λ _=> ?_) (λ _=> ?_)
   ·refine Bd.aG (Bd.again ⟨⟨(lo+hi')/2+1,hi',by omega,h2,?_⟩,?_⟩)
    ·rw[aA (by omega)]
    ·dsimp only;rw[aA (by omega)];omega
   ·refine Bd.aG (Bd.again ⟨⟨lo,(lo+hi')/2,by omega,by omega,rfl⟩,?_⟩);dsimp only;omega
  ·rintro t ⟨lo,hlo,rfl⟩;dsimp only;refine Bd.bind (R:=λ t=> ∃b:Bool,t=(out,x[i].1,x[i].2.1,x[i].2.2,(lo:Int),x,((x.length:Nat):Int),(i:Int),b)) ?_ ?_
   ·refine Tt.ite (λ _=>Tt.pure ⟨_,rfl⟩) (λ h=>Tt.chk (rng (by omega) (by have:=dec_not h;omega)) ?_);have:=dec_not h;rw[aat];exact Tt.atB (by omega) λ e he _=>Tt.bind (hK e (hor e he)) λ r7 h7=>Tt.bind (hK (x[i].1,x[i].2.1,x[i].2.2) (hr _ hxi)) λ r8 h8=>Tt.bind (hL r7 r8 h7) λ r9 _=>Tt.pure ⟨_,rfl⟩
   ·rintro _ ⟨b,rfl⟩;dsimp only;refine Bd.eU (λ _=> ?_) (λ _=> ?_)
    ·have hal:(List.append out [((0:Int),([]:List Int),(0:Int))]).length=out.length+1:=by
      show(out++_).length=_;simp
     have hlo1:IntKind.wrap .i64 ((lo:Int)+1)=((lo+1:Nat):Int):=aA (by omega);rw[hlo1];refine Bd.iU (pY (by simp;omega)) (Bd.iU (by rw[hal];simp;omega) (Bd.iU (by rw[hal];simp;omega) ?_));simp only[aat];have hset:=Ym out ((0:Int),([]:List Int),(0:Int)) (x[i].1,x[i].2.1,x[i].2.2) lo hlo;have hlen:=congrArg List.length hset;rw[aa0]at hlen;have hlen2:(out.take lo++(x[i].1,x[i].2.1,x[i].2.2)::out.drop lo).length=out.length+1:=by simp;omega
     refine Bd.iU (rng (by omega) (by rw[hlen,hlen2];omega)) (Bd.fB (Bd.at (by rw[hlen,hlen2];omega) λ e _ _=>Bd.aG ?_));refine Bd.again ⟨out.take lo++(x[i].1,x[i].2.1,x[i].2.2)::out.drop lo,by omega,λ y hy=> ?_,?_⟩
     ·rcases aau.1 hy with h|h
      ·exact hox y (abv h)
      ·rcases aaR.1 h with rfl|h
       ·exact hxi
       ·exact hox y (abH h)
     ·dsimp only;rw[hset,aA (by omega)]
    ·refine Bd.aG (Bd.again ⟨out,by omega,hox,?_⟩);rw[aA (by omega)]
 ·rintro s ⟨out,ho,hox,rfl⟩;unfold kT.L2;dsimp only;exact Bd.no (decide_eq_false (by omega)) (Bd.done ⟨ho,hox⟩)
end
theorem QZ (l:List Bool) (i:Nat):nf (l.set i true)<=nf l:=by
 unfold nf;by_cases h:i<l.length
 ·rw[List.count_set h];simp
 ·rw[List.set_eq_of_length_le (by omega)];exact aaq _
theorem NM {R:List Bool} {s:Int} {e:Bool} (h:R[s.toNat]? =some e):bat R s=e:=by unfold bat;rw[h];rfl
theorem XK {R:List Bool} {s:Int} {e:Bool} (h:R[s.toNat]? =some e):bat R s=e:=NM h
theorem aef {R:List Bool} {s:Int} {i:Nat} (h:bat R s=true):bat (R.set i true) s=true:=by
 unfold bat at h ⊢;rw[aaS];split
 ·split
  ·rfl
  ·rename_i e1 e2;rw[aah (by omega)]at h;cases h
 ·exact h
theorem Vl {R:List Bool} {l:List Int} {j:Nat} {e:Bool} (hj:j<l.length) (h:(l.take j).all (bat R)=true) (he:bat R l[j]=e):e=(l.take (j+1)).all (bat R):=by
 rw[aaD,aac hj,acv,h];simp[he]
theorem adM {R:List Bool} {l:List Int} {j:Nat} (h:(l.take j).all (bat R)=false):false=(l.take (j+1)).all (bat R):=by
 rw[aaD,acv,h];rfl
theorem Xj (S:Int) (fin:List Int) (rs:List Rule) (h:Wf S fin rs):Sp eX.P (S,fin,rs) (λ r=>r.length=S.toNat/\Closed rs r):=by
 obtain⟨h0,h1,_,hrl,_,hr⟩:=h;show Tt (λ n=>eX.P n (S,fin,rs)) _;unfold eX.P;dsimp only;refine Tt.chk (wP h0 (by omega)) (Tt.bind (R:=λ r:List Bool=>r.length=S.toNat/\Closed rs r) (Tt.loop (Lp.measure (λ s=> ∃(out:List Bool) (more:Bool),out.length=S.toNat/\(more=false->Closed rs out)/\s=(S,fin,rs,out,more)) (λ s=>if s.2.2.2.2 then nf s.2.2.2.1+1 else 0) ?_ ⟨_,true,by simp,λ h=>(by cases h),rfl⟩)) λ r hr=>Tt.pure hr);rintro s ⟨out,more,ho,hcl,rfl⟩;unfold eX.L3;dsimp only;refine Bd.ite (λ hm=> ?_) (λ hm=>Bd.done ⟨ho,hcl hm⟩);subst hm;refine Bd.bind (R:=λ t=> ∃(out':List Bool) (more':Bool),out'.length=S.toNat/\nf out'<=nf out/\(more'=true->nf out'<nf out)/\(more'=false->out'=out/\ ∀r∈rs,(∀s∈r.2.1,bat out s=true)->bat out r.2.2=true)/\t=(S,fin,rs,out',more')) (Tt.loop (Lp.count rs.length (λ i s=> ∃(out':List Bool) (more':Bool),out'.length=S.toNat/\nf out'<=nf out/\(more'=true->nf out'<nf out)/\(more'=false->out'=out/\ ∀r∈rs.take i,(∀s∈r.2.1,bat out s=true)->bat out r.2.2=true)/\s=(S,fin,rs,out',more',rs,((rs.length:Nat):Int),(i:Int))) ?_ ?_ ⟨out,false,ho,aaq _,λ h=>(by cases h),λ _=>⟨rfl,by simp⟩,rfl⟩)) ?_
 ·rintro i s hi ⟨out',more',ho',hn,hlt,hmf,rfl⟩;unfold eX.L2;dsimp only;obtain⟨hto,hfrom,hfl⟩:=hr rs[i] (aag hi);refine Bd.yes (aT (by omega)) (Bd.nth hi ?_);refine Bd.bind (R:=λ t=> ∃b:Bool,b=rs[i].2.1.all (bat out')/\t=(S,fin,rs,out',more',rs[i].1,rs[i].2.1,rs[i].2.2,b,rs,((rs.length:Nat):Int),(i:Int))) (Tt.loop (Lp.count rs[i].2.1.length (λ j s=> ∃b:Bool,b=(rs[i].2.1.take j).all (bat out')/\s=(S,fin,rs,out',more',rs[i].1,rs[i].2.1,rs[i].2.2,b,rs,((rs.length:Nat):Int),(i:Int),rs[i].2.1,((rs[i].2.1.length:Nat):Int),(j:Int))) ?_ ?_ ⟨true,rfl,rfl⟩)) ?_
  ·rintro j s hj ⟨b,hb,rfl⟩;unfold eX.L1;dsimp only;obtain⟨q0,q1⟩:=hfrom rs[i].2.1[j] (aag hj);refine Bd.yes (aT (by omega)) (Bd.nth hj (Bd.eU (λ hbt=> ?_) (λ hbt=> ?_)))
   ·exact Bd.iU (rng q0 (by omega)) (Bd.fB (Bd.at (by omega) λ e _ he=>Bd.aG (Bd.again ⟨e,Vl hj (hb.symm.trans hbt) (XK he),by rw[aA (by omega)]⟩)))
   ·exact Bd.aG (Bd.again ⟨false,adM (hb.symm.trans hbt),by rw[aA (by omega)]⟩)
  ·rintro s ⟨b,hb,rfl⟩;unfold eX.L1;dsimp only;rw[aaC]at hb;exact Bd.no (decide_eq_false (by omega)) (Bd.done ⟨b,hb,rfl⟩)
  ·rintro _ ⟨b,hb,rfl⟩;dsimp only;refine Bd.bind (R:=λ t=> ∃c:Bool,(c=true->out'[rs[i].2.2.toNat]? =some false)/\(c=false->b=true->bat out' rs[i].2.2=true)/\t=(S,fin,rs,out',more',rs[i].1,rs[i].2.1,rs[i].2.2,rs,((rs.length:Nat):Int),(i:Int),c)) ?_ ?_
   ·refine Tt.ite (λ hbt=>Tt.chk (rng hto.1 (by have:=hto.2;omega)) (Tt.atB (by have:=hto.2;have:=hto.1;omega) λ e _ he=>Tt.pure ⟨!e,λ h=> ?_,λ h _=> ?_,rfl⟩)) (λ hbf=>Tt.pure ⟨false,λ h=>(by cases h),λ _ h=>(by rw[hbf]at h;cases h),rfl⟩)
    ·cases e with
     |true=>cases h
     |false=>exact he
    ·cases e with
     |true=>exact XK he
     |false=>cases h
   ·rintro _ ⟨c,hc,hcf,rfl⟩;dsimp only;refine Bd.eU (λ hct=> ?_) (λ hct=> ?_)
    ·refine Bd.iU (rng hto.1 (by have:=hto.2;omega)) (Bd.fB (Bd.at (by have:=hto.2;have:=hto.1;omega) λ e _ he=>Bd.aG (Bd.again ⟨out'.set rs[i].2.2.toNat true,true,by simpa using ho',?_,λ _=> ?_,λ h=>(by cases h),by rw[aA (by omega)]⟩)))
     ·exact aaJ (QZ _ _) hn
     ·exact abb (Ew (hc hct)) hn
    ·refine Bd.aG (Bd.again ⟨_,more',ho',hn,hlt,λ h=>⟨(hmf h).1,λ r hr' hf=> ?_⟩,by rw[aA (by omega)]⟩);rw[aaD,aac hi,aau]at hr';rcases hr' with hr'|hr'
     ·exact(hmf h).2 r hr' hf
     ·simp only[abd,aam]at hr';subst hr';rw[←(hmf h).1]at hf ⊢;exact hcf hct (by rw[hb,aaV];exact hf)
 ·rintro s ⟨out',more',ho',hn,hlt,hmf,rfl⟩;unfold eX.L2;dsimp only;rw[aaC]at hmf;exact Bd.no (decide_eq_false (by omega)) (Bd.done ⟨out',more',ho',hn,hlt,hmf,rfl⟩)
 ·rintro _ ⟨out',more',ho',hn,hlt,hmf,rfl⟩;dsimp only;refine Bd.again ⟨⟨out',more',ho',λ h=>by rw[(hmf h).1];exact(hmf h).2,rfl⟩,?_⟩;dsimp only
  cases more' with
  |true=>have:=hlt rfl;simp;omega
  |false=>simp
theorem afn {F:Nat->Int×List Int×List Rule->Option (List Bool)} (S:Int) (fin:List Int) (rs:List Rule) (h:Wf S fin rs) (hF:Sp F (S,fin,rs) (λ r=>r.length=S.toNat/\Closed rs r)):Sp (λ n=>eP.P (F n) n) (S,fin,rs) (λ r=>r.length=S.toNat/\ ∃R,Closed rs R/\Useful fin rs R r):=by
 obtain⟨h0,h1,hfl0,hrl,hfin,hr⟩:=h;show Tt (λ n=>eP.P (F n) n (S,fin,rs)) _;unfold eP.P;dsimp only;refine Tt.bind hF λ rch hrch0=>Tt.chk (wP h0 (by omega)) ?_;obtain⟨hrch,hclo⟩:=hrch0;refine Tt.bind (R:=λ t=> ∃out:List Bool,out.length=S.toNat/\(∀s∈fin,bat rch s=true->bat out s=true)/\t=(S,fin,rs,rch,out)) (Tt.loop (Lp.count fin.length (λ i s=> ∃out:List Bool,out.length=S.toNat/\(∀s∈fin.take i,bat rch s=true->bat out s=true)/\s=(S,fin,rs,rch,out,fin,((fin.length:Nat):Int),(i:Int))) ?_ ?_ ⟨_,by simp,by simp,rfl⟩)) ?_
 ·rintro i s hi ⟨out,ho,hf,rfl⟩;unfold eP.L1;dsimp only;obtain⟨q0,q1⟩:=hfin fin[i] (aag hi);refine Bd.yes (aT (by omega)) (Bd.nth hi (Bd.chk (rng q0 (by omega)) (Bd.at (by omega) λ e _ he=>Bd.chk (rng q0 (by omega)) (Bd.at (by omega) λ e' _ _=>Bd.again ⟨out.set fin[i].toNat e,by simpa using ho,λ s hs hb=> ?_,by rw[aA (by omega)]⟩))));unfold bat;rw[aaS];split
  ·rename_i e1;rw[if_pos (by omega)];have:=NM he;unfold bat at hb this;rw[e1,hb]at this;exact this.symm
  ·rename_i e1;refine hf s ?_ hb;rw[aaD,aac hi,aau]at hs;rcases hs with hs|hs
   ·exact hs
   ·simp only[abd,aam]at hs;rw[hs]at e1;exact absurd rfl e1
 ·rintro s ⟨out,ho,hf,rfl⟩;unfold eP.L1;dsimp only;rw[aaC]at hf;exact Bd.no (decide_eq_false (by omega)) (Bd.done ⟨out,ho,hf,rfl⟩)
 rintro _ ⟨out0,ho0,hf0,rfl⟩;dsimp only;refine Tt.bind (R:=λ r:List Bool=>r.length=S.toNat/\Useful fin rs rch r) (Tt.loop (Lp.measure (λ s=> ∃(out:List Bool) (more:Bool),out.length=S.toNat/\(∀s∈fin,bat rch s=true->bat out s=true)/\(more=false-> ∀r∈rs,bat out r.2.2=true->(∀s∈r.2.1,bat rch s=true)-> ∀s∈r.2.1,bat out s=true)/\s=(S,fin,rs,rch,out,more)) (λ s=>if s.2.2.2.2.2 then nf s.2.2.2.2.1+1 else 0) ?_ ⟨_,true,ho0,hf0,λ h=>(by cases h),rfl⟩)) λ r hr=>Tt.pure ⟨hr.1,rch,hclo,hr.2⟩;rintro s ⟨out,more,ho,hfo,hcl,rfl⟩;unfold eP.L5;dsimp only;refine Bd.ite (λ hm=> ?_) (λ hm=>Bd.done ⟨ho,hfo,hcl hm⟩);subst hm;refine Bd.bind (R:=λ t=> ∃(out':List Bool) (more':Bool),out'.length=S.toNat/\nf out'<=nf out/\(more'=true->nf out'<nf out)/\(∀s,bat out s=true->bat out' s=true)/\(more'=false->out'=out/\ ∀r∈rs,bat out r.2.2=true->(∀s∈r.2.1,bat rch s=true)-> ∀s∈r.2.1,bat out s=true)/\t=(S,fin,rs,rch,out',more')) (Tt.loop (Lp.count rs.length (λ i s=> ∃(out':List Bool) (more':Bool),out'.length=S.toNat/\nf out'<=nf out/\(more'=true->nf out'<nf out)/\(∀s,bat out s=true->bat out' s=true)/\(more'=false->out'=out/\ ∀r∈rs.take i,bat out r.2.2=true->(∀s∈r.2.1,bat rch s=true)-> ∀s∈r.2.1,bat out s=true)/\s=(S,fin,rs,rch,out',more',rs,((rs.length:Nat):Int),(i:Int))) ?_ ?_ ⟨out,false,ho,aaq _,λ h=>(by cases h),λ _ h=>h,λ _=>⟨rfl,by simp⟩,rfl⟩)) ?_
 ·rintro i s hi ⟨out',more',ho',hn,hlt,hmo,hmf,rfl⟩;unfold eP.L4;dsimp only;obtain⟨hto,hfrom,hfl⟩:=hr rs[i] (aag hi);refine Bd.yes (aT (by omega)) (Bd.nth hi (Bd.chk (rng hto.1 (by have:=hto.2;omega)) (Bd.at (by have:=hto.2;have:=hto.1;omega) λ e13 _ he13=> ?_)));refine Bd.bind (R:=λ t=> ∃b:Bool,b=(bat out' rs[i].2.2&&rs[i].2.1.all (bat rch))/\t=(S,fin,rs,rch,out',more',rs[i].1,rs[i].2.1,rs[i].2.2,b,rs,((rs.length:Nat):Int),(i:Int))) (Tt.loop (Lp.count rs[i].2.1.length (λ j s=> ∃b:Bool,b=(bat out' rs[i].2.2&&(rs[i].2.1.take j).all (bat rch))/\s=(S,fin,rs,rch,out',more',rs[i].1,rs[i].2.1,rs[i].2.2,b,rs,((rs.length:Nat):Int),(i:Int),rs[i].2.1,((rs[i].2.1.length:Nat):Int),(j:Int))) ?_ ?_ ⟨_,by rw[NM he13];simp,rfl⟩)) ?_
  ·rintro j s hj ⟨b,hb,rfl⟩;unfold eP.L2;dsimp only;obtain⟨q0,q1⟩:=hfrom rs[i].2.1[j] (aag hj);refine Bd.yes (aT (by omega)) (Bd.nth hj (Bd.eU (λ hbt=> ?_) (λ hbt=> ?_)))
   ·refine Bd.iU (rng q0 (by omega)) (Bd.fB (Bd.at (by omega) λ e _ he=>Bd.aG (Bd.again ⟨e,?_,by rw[aA (by omega)]⟩)));rw[hbt]at hb;obtain⟨g1,g2⟩:=(aad _ _).mp hb.symm;rw[g1,acL];exact Vl hj g2 (NM he)
   ·refine Bd.aG (Bd.again ⟨false,?_,by rw[aA (by omega)]⟩);rw[hbt]at hb;rcases(Bool.and_eq_false_iff).mp hb.symm with g|g
    ·rw[g,Bool.false_and]
    ·rw[←adM (j:=j) g,Bool.and_false]
  ·rintro s ⟨b,hb,rfl⟩;unfold eP.L2;dsimp only;rw[aaC]at hb;exact Bd.no (decide_eq_false (by omega)) (Bd.done ⟨b,hb,rfl⟩)
  ·rintro _ ⟨b,hb,rfl⟩;dsimp only;refine Bd.bind (R:=λ t=> ∃(out2:List Bool) (more2:Bool),out2.length=S.toNat/\nf out2<=nf out/\(more2=true->nf out2<nf out)/\(∀s,bat out s=true->bat out2 s=true)/\(more2=false->out2=out/\more'=false/\(b=true-> ∀s∈rs[i].2.1,bat out2 s=true))/\t=(S,fin,rs,rch,out2,more2,rs,((rs.length:Nat):Int),(i:Int))) (Tt.loop (Lp.count rs[i].2.1.length (λ j s=> ∃(out2:List Bool) (more2:Bool),out2.length=S.toNat/\nf out2<=nf out/\(more2=true->nf out2<nf out)/\(∀s,bat out s=true->bat out2 s=true)/\(more2=false->out2=out/\more'=false/\(b=true-> ∀s∈rs[i].2.1.take j,bat out2 s=true))/\s=(S,fin,rs,rch,out2,more2,b,rs,((rs.length:Nat):Int),(i:Int),rs[i].2.1,((rs[i].2.1.length:Nat):Int),(j:Int))) ?_ ?_ ⟨out',more',ho',hn,hlt,hmo,λ h=>⟨(hmf h).1,h,by simp⟩,rfl⟩)) ?_
   ·rintro j s hj ⟨out2,more2,ho2,hn2,hlt2,hmo2,hmf2,rfl⟩;unfold eP.L3;dsimp only;obtain⟨q0,q1⟩:=hfrom rs[i].2.1[j] (aag hj);refine Bd.yes (aT (by omega)) (Bd.nth hj ?_);refine Bd.bind (R:=λ t=> ∃c:Bool,(c=true->out2[rs[i].2.1[j].toNat]? =some false)/\(c=false->b=true->bat out2 rs[i].2.1[j]=true)/\t=(S,fin,rs,rch,out2,more2,b,rs[i].2.1[j],rs,((rs.length:Nat):Int),(i:Int),rs[i].2.1,((rs[i].2.1.length:Nat):Int),(j:Int),c)) ?_ ?_
    ·refine Tt.ite (λ _=>Tt.chk (rng q0 (by omega)) (Tt.atB (by omega) λ e _ he=>Tt.pure ⟨!e,λ h=> ?_,λ h _=> ?_,rfl⟩)) (λ hbf=>Tt.pure ⟨false,λ h=>(by cases h),λ _ h=>(by rw[hbf]at h;cases h),rfl⟩)
     ·cases e with
      |true=>cases h
      |false=>exact he
     ·cases e with
      |true=>exact XK he
      |false=>cases h
    ·rintro _ ⟨c,hc,hcf,rfl⟩;dsimp only;refine Bd.eU (λ hct=> ?_) (λ hct=> ?_)
     ·refine Bd.iU (rng q0 (by omega)) (Bd.fB (Bd.at (by omega) λ e _ he=>Bd.aG (Bd.again ⟨out2.set rs[i].2.1[j].toNat true,true,by simpa using ho2,?_,λ _=> ?_,λ s h=>aef (hmo2 s h),λ h=>(by cases h),by rw[aA (by omega)]⟩)))
      ·exact aaJ (QZ _ _) hn2
      ·exact abb (Ew (hc hct)) hn2
     ·refine Bd.aG (Bd.again ⟨_,more2,ho2,hn2,hlt2,hmo2,λ h=>⟨(hmf2 h).1,(hmf2 h).2.1,λ hbt s hs=> ?_⟩,by rw[aA (by omega)]⟩);rw[aaD,aac hj,aau]at hs;rcases hs with hs|hs
      ·exact(hmf2 h).2.2 hbt s hs
      ·simp only[abd,aam]at hs;rw[hs];exact hcf hct hbt
   ·rintro s ⟨out2,more2,ho2,hn2,hlt2,hmo2,hmf2,rfl⟩;unfold eP.L3;dsimp only;rw[aaC]at hmf2;exact Bd.no (decide_eq_false (by omega)) (Bd.done ⟨out2,more2,ho2,hn2,hlt2,hmo2,hmf2,rfl⟩)
   ·rintro _ ⟨out2,more2,ho2,hn2,hlt2,hmo2,hmf2,rfl⟩;dsimp only;refine Bd.again ⟨out2,more2,ho2,hn2,hlt2,hmo2,λ h=>⟨(hmf2 h).1,λ r hr' h1 h2=> ?_⟩,by rw[aA (by omega)]⟩;obtain⟨e2,e1,e3⟩:=hmf2 h;rw[aaD,aac hi,aau]at hr';rcases hr' with hr'|hr'
    ·exact(hmf e1).2 r hr' h1 h2
    ·simp only[abd,aam]at hr';subst hr';intro s hs;rw[←e2];refine e3 ?_ s hs;rw[hb,(hmf e1).1,h1,acL,aaV];exact h2
 ·rintro s ⟨out',more',ho',hn,hlt,hmo,hmf,rfl⟩;unfold eP.L4;dsimp only;rw[aaC]at hmf;exact Bd.no (decide_eq_false (by omega)) (Bd.done ⟨out',more',ho',hn,hlt,hmo,hmf,rfl⟩)
 ·rintro _ ⟨out',more',ho',hn,hlt,hmo,hmf,rfl⟩;dsimp only;refine Bd.again ⟨⟨out',more',ho',λ s hs hb=>hmo s (hfo s hs hb),λ h=>by rw[(hmf h).1];exact(hmf h).2,rfl⟩,?_⟩;dsimp only
  cases more' with
  |true=>have:=hlt rfl;simp;omega
  |false=>simp
end Go.Bk
end
noncomputable section
namespace Go.Bk
open Go Go.AM
theorem adz {F:Nat->List Rule->Option (List Rule)} (S:Int) (fin:List Int) (rs:List Rule) (keep:List Bool) (h:Wf S fin rs) (hk:keep.length=S.toNat)
 (hF: ∀x:List Rule,x.length<=1000000000->(∀r∈x,r.2.1.length<=1000)->Sp F x (λ r:List Rule=>r.length<=x.length/\ ∀y∈r,y∈x)):
 Sp (λ n=>fM.P (F n) n) (S,fin,rs,keep) (λ a=>a.1=((keep.count true:Nat):Int)):=by
 obtain⟨h0,h1,hfl0,hrl,hfin,hr⟩:=h;show Tt (λ n=>fM.P (F n) n (S,fin,rs,keep)) _;unfold fM.P;dsimp only;refine Tt.chk (wP h0 (by omega)) ?_
 refine Tt.bind (R:=λ t=> ∃(num:List Int) (c:Int),num.length=S.toNat/\c=((keep.count true:Nat):Int)/\t=(keep,S,fin,rs,(0:Int),([]:List Int),([]:List Rule),num,c,([]:List Int),([]:List Rule)))
  (Tt.loop (Lp.count keep.length (λ i s=> ∃(num:List Int) (c:Int),num.length=S.toNat/\c=(((keep.take i).count true:Nat):Int)/\
   s=(keep,S,fin,rs,(0:Int),([]:List Int),([]:List Rule),num,c,([]:List Int),([]:List Rule),keep,((keep.length:Nat):Int),(i:Int))) ?_ ?_ ⟨_,0,by simp,by simp,rfl⟩)) ?_
 ·rintro i s hi ⟨num,c,hn,hc0,rfl⟩;unfold fM.L1;dsimp only;have hcl:(keep.take i).count true<=i:=aaJ List.count_le_length (List.length_take_le i keep)
  have hnx:(keep.take (i+1)).count true=(keep.take i).count true+if keep[i]then 1 else 0:=by
   rw[aaD,aac hi,List.count_append];cases keep[i]<;>rfl
  refine Bd.yes (aT (by omega)) (Bd.nth hi (Bd.eU (λ hki=> ?_) (λ hki=> ?_)))
  ·refine Bd.iU (rng (by omega) (by omega)) (Bd.fB ?_);rw[aat];refine Bd.at (by omega) λ e _ _=>Bd.aG (Bd.again ⟨num.set i c,c+1,by simpa using hn,?_,by rw[aA (by omega),nU _ (by omega) (by omega)]⟩);rw[hnx,hki,if_pos rfl];omega
  ·refine Bd.aG (Bd.again ⟨num,c,hn,?_,by rw[aA (by omega)]⟩);rw[hnx,hki];simpa using hc0
 ·rintro s ⟨num,c,hn,hc0,rfl⟩;unfold fM.L1;dsimp only;rw[aaC]at hc0;exact Bd.no (decide_eq_false (by omega)) (Bd.done ⟨num,c,hn,hc0,rfl⟩)
 rintro _ ⟨num,c,hn,hc0,rfl⟩;dsimp only
 refine Tt.bind (R:=λ t=> ∃fin':List Int,fin'.length<=fin.length/\t=(keep,S,fin,rs,(0:Int),([]:List Int),([]:List Rule),num,c,fin',([]:List Rule)))
  (Tt.loop (Lp.count fin.length (λ i s=> ∃fin':List Int,fin'.length<=i/\s=(keep,S,fin,rs,(0:Int),([]:List Int),([]:List Rule),num,c,fin',([]:List Rule),fin,((fin.length:Nat):Int),(i:Int))) ?_ ?_ ⟨[],by simp,rfl⟩)) ?_
 ·rintro i s hi ⟨fin',hf1,rfl⟩;unfold fM.L2;dsimp only;obtain⟨q0,q1⟩:=hfin fin[i] (aag hi);refine Bd.yes (aT (by omega)) (Bd.nth hi (Bd.afF q0 (by omega) λ b _ hb=>Bd.eU (λ hbt=> ?_) (λ _=> ?_)))
  ·exact Bd.iU (rng q0 (by omega)) (Bd.fB (Bd.at (by omega) λ v _ hv=>Bd.iU (pY (by simp;omega)) (Bd.aG (Bd.again ⟨fin'++[v],by simp;omega,by rw[aA (by omega)];rfl⟩))))
  ·exact Bd.aG (Bd.again ⟨fin',by omega,by rw[aA (by omega)]⟩)
 ·rintro s ⟨fin',hf1,rfl⟩;unfold fM.L2;dsimp only;exact Bd.no (decide_eq_false (by omega)) (Bd.done ⟨fin',hf1,rfl⟩)
 rintro _ ⟨fin',hf1,rfl⟩;dsimp only
 refine Tt.bind (R:=λ t=> ∃out:List Rule,out.length<=rs.length/\(∀r'∈out,r'.2.1.length<=1000)/\t=((0:Int),([]:List Int),([]:List Rule),c,fin',out))
  (Tt.loop (Lp.count rs.length (λ i s=> ∃out:List Rule,out.length<=i/\(∀r'∈out,r'.2.1.length<=1000)/\s=(keep,(0:Int),([]:List Int),([]:List Rule),num,c,fin',out,rs,((rs.length:Nat):Int),(i:Int))) ?_ ?_ ⟨[],by simp,by simp,rfl⟩)) ?_
 ·rintro i s hi ⟨out,ho1,ho2,rfl⟩;unfold fM.L4;dsimp only;obtain⟨hto,hfrom,hfl⟩:=hr rs[i] (aag hi);refine Bd.yes (aT (by omega)) (Bd.nth hi (Bd.afF hto.1 (by have:=hto.2;omega) λ b0 _ hb0=> ?_))
  refine Bd.bind (R:=λ t=> ∃(b:Bool) (from':List Int),from'.length=rs[i].2.1.length/\t=(keep,(0:Int),([]:List Int),([]:List Rule),num,c,fin',out,rs[i].1,rs[i].2.1,rs[i].2.2,b,from',rs,((rs.length:Nat):Int),(i:Int)))
   (Tt.loop (Lp.count rs[i].2.1.length (λ j s=> ∃(b:Bool) (from':List Int),from'.length=j/\
    s=(keep,(0:Int),([]:List Int),([]:List Rule),num,c,fin',out,rs[i].1,rs[i].2.1,rs[i].2.2,b,from',rs,((rs.length:Nat):Int),(i:Int),rs[i].2.1,((rs[i].2.1.length:Nat):Int),(j:Int))) ?_ ?_ ⟨b0,[],rfl,rfl⟩)) ?_
  ·rintro j s hj ⟨b,from',hl',rfl⟩;unfold fM.L3;dsimp only;obtain⟨q0,q1⟩:=hfrom rs[i].2.1[j] (aag hj);refine Bd.yes (aT (by omega)) (Bd.nth hj ?_);refine Bd.bind (R:=λ t=> ∃b':Bool,t=(keep,(0:Int),([]:List Int),([]:List Rule),num,c,fin',out,rs[i].1,rs[i].2.1,rs[i].2.2,b',from',rs[i].2.1[j],rs,((rs.length:Nat):Int),(i:Int),rs[i].2.1,((rs[i].2.1.length:Nat):Int),(j:Int))) ?_ ?_
   ·refine Tt.ite (λ hbt=>Tt.afF q0 (by omega) λ e _ he=>Tt.pure ⟨e,rfl⟩) (λ _=>Tt.pure ⟨false,rfl⟩)
   ·rintro _ ⟨b',rfl⟩;dsimp only;exact Bd.chk (rng q0 (by omega)) (Bd.at (by omega) λ v _ hv=>Bd.chk (pY (by simp;omega)) (Bd.again ⟨b',from'++[v],by simp[hl'],by rw[aA (by omega)];rfl⟩))
  ·rintro s ⟨b,from',hl',rfl⟩;unfold fM.L3;dsimp only;exact Bd.no (decide_eq_false (by omega)) (Bd.done ⟨b,from',hl',rfl⟩)
  ·rintro _ ⟨b,from',hl',rfl⟩;dsimp only;refine Bd.eU (λ hbt=> ?_) (λ _=> ?_)
   ·refine Bd.iU (rng hto.1 (by have:=hto.2;omega)) (Bd.fB (Bd.at (by have:=hto.2;have:=hto.1;omega) λ v _ hv=>Bd.iU (pY (by simp;omega)) (Bd.aG (Bd.again ⟨out++[(rs[i].1,from',v)],by simp;omega,λ r' hr'=> ?_,by rw[aA (by omega)];rfl⟩))));rcases aau.1 hr' with h3|h3
    ·exact ho2 r' h3
    ·rw[aam.1 h3];dsimp only;omega
   ·exact Bd.aG (Bd.again ⟨out,by omega,ho2,by rw[aA (by omega)]⟩)
 ·rintro s ⟨out,ho1,ho2,rfl⟩;unfold fM.L4;dsimp only;exact Bd.no (decide_eq_false (by omega)) (Bd.done ⟨out,ho1,ho2,rfl⟩)
 rintro _ ⟨out,ho1,ho2,rfl⟩;dsimp only;exact Tt.bind (hF out (by omega) ho2) λ r hr'=>Tt.pure hc0
theorem Xl {U:Nat->Int×List Int×List Rule->Option (List Bool)} {K:Nat->Int×List Int×List Rule×List Bool->Option Aut} {S:Int} {fin:List Int} {rs:List Rule} (hU:Sp U (S,fin,rs) (λ r=>r.length=S.toNat/\ ∃R,Closed rs R/\Useful fin rs R r))
 (hK: ∀keep:List Bool,keep.length=S.toNat->Sp K (S,fin,rs,keep) (λ a=>a.1=((keep.count true:Nat):Int))):Sp (λ n=>qW.P (K n) (U n) n) (S,fin,rs) (λ a=> ∃keep:List Bool,keep.length=S.toNat/\(∃R,Closed rs R/\Useful fin rs R keep)/\a.1=((keep.count true:Nat):Int)):=by
 show Tt (λ n=>qW.P (K n) (U n) n (S,fin,rs)) _;unfold qW.P;dsimp only;exact Tt.bind hU λ keep hk=>Tt.bind (hK keep hk.1) λ r hr=>Tt.pure ⟨keep,hk.1,hk.2,hr⟩
theorem afi (x y:List Int) (hx:x.length<=au):Sp nM.P (x,y) (λ r=>r=true ↔ x=y):=by
 rw[yZ]at hx;show Tt (λ n=>nM.P n (x,y)) _;unfold nM.P;dsimp only;refine Tt.ite (λ h=> ?_) (λ h=> ?_)
 ·have:x.length≠y.length:=by intro e;simp[e]at h
  exact Tt.pure ⟨λ h=>(by cases h),λ h=>absurd (congrArg List.length h) this⟩
 ·have hl:x.length=y.length:=by simp at h;omega
  refine Tt.bind (R:=λ q=>q=Sum.inl ()/\x=y\/q=Sum.inr false/\x≠y) (Tt.loop (Lp.count x.length (λ i s=>s=(x,y,((x.length:Nat):Int),(i:Int))/\ ∀j,j<i->x[j]? =y[j]?) ?_ ?_ ⟨rfl,λ j h=>absurd h (by omega)⟩)) ?_
  ·rintro i s hi ⟨rfl,hI⟩;unfold nM.L1;dsimp only;refine Bd.yes (aT (by omega)) (Bd.nth hi (Bd.nth (by omega) (Bd.ite (λ h=> ?_) (λ h=> ?_))))
   ·refine Bd.done (.inr ⟨rfl,λ e=> ?_⟩);subst e;simp at h
   ·refine Bd.again ⟨by rw[aA (by omega)],λ j hj=> ?_⟩;rcases aaE j i with h2|h2
    ·exact hI j h2
    ·obtain rfl:j=i:=by omega
     rw[aac hi,aac (by omega)];simp at h;rw[h]
  ·rintro s ⟨rfl,hI⟩;unfold nM.L1;dsimp only;refine Bd.no (decide_eq_false (by omega)) (Bd.done (.inl ⟨rfl,?_⟩));apply aaP;intro j;rcases aaE j x.length with h2|h2
   ·exact hI j h2
   ·rw[aah h2,aah (by omega)]
  ·rintro q (⟨rfl,h⟩|⟨rfl,h⟩)
   ·exact Tt.pure ⟨λ _=>h,λ _=>rfl⟩
   ·exact Tt.pure ⟨λ h'=>(by cases h'),λ h'=>absurd h' h⟩
theorem ag9 {F:Nat->List Int×List Int->Option Bool} (S:Int) (fin:List Int) (rs:List Rule) (hl:rs.length<=1000000) (hr: ∀r∈rs,r.2.1.length<=1000)
 (hF: ∀x y:List Int,x.length<=1000->Sp F (x,y) (λ r=>r=true ↔ x=y)):Sp (λ n=>lV.P (F n) n) (S,fin,rs) (λ r=>r=true->FY rs):=by
 show Tt (λ n=>lV.P (F n) n (S,fin,rs)) _;unfold lV.P;dsimp only;refine Tt.bind (R:=λ q=>(q=Sum.inl ()/\FY rs)\/q=Sum.inr false) (Tt.loop (Lp.count rs.length (λ i s=>s=(S,fin,rs,rs,((rs.length:Nat):Int),(i:Int))/\ ∀(j k:Nat) (r r':Rule),j<k->k<i->rs[j]? =some r->rs[k]? =some r'-> ¬(r.1=r'.1/\r.2.1=r'.2.1)) ?_ ?_ ⟨rfl,λ j k r r' _ h=>absurd h (by omega)⟩)) ?_
 ·rintro i s hi ⟨rfl,hd⟩;unfold lV.L2;dsimp only;refine Bd.yes (aT (by omega)) (Bd.nth hi (Bd.chk (by simp;omega) ?_));have e:List.drop (Int.toNat 0) (List.take (Int.toNat (i:Int)) rs)=rs.take i:=by simp
  rw[e];have hil:(rs.take i).length=i:=by simp;omega
  refine Bd.bind (R:=λ q=>(q=Sum.inl (S,fin,rs,rs,((rs.length:Nat):Int),(i:Int))/\ ∀(j:Nat) (r:Rule),j<i->rs[j]? =some r-> ¬(r.1=rs[i].1/\r.2.1=rs[i].2.1))\/q=Sum.inr (Sum.inr false)) (Tt.loop (Lp.count (rs.take i).length (λ j s=>s=(S,fin,rs,rs[i].1,rs[i].2.1,rs[i].2.2,rs,((rs.length:Nat):Int),(i:Int),rs.take i,(((rs.take i).length:Nat):Int),(j:Int))/\ ∀(k:Nat) (r:Rule),k<j->rs[k]? =some r-> ¬(r.1=rs[i].1/\r.2.1=rs[i].2.1)) ?_ ?_ ⟨rfl,λ k r h=>absurd h (by omega)⟩)) ?_
  ·rintro j s hj ⟨rfl,hI⟩;unfold lV.L1;dsimp only;refine Bd.yes (aT (by omega)) (Bd.nth hj ?_);have hji:j<i:=by omega
   have hg:(rs.take i)[j]=rs[j]:=acB;rw[hg];refine Bd.bind (R:=λ t=> ∃b:Bool,(b=false-> ¬(rs[j].1=rs[i].1/\rs[j].2.1=rs[i].2.1))/\t=(S,fin,rs,rs[i].1,rs[i].2.1,rs[i].2.2,rs,((rs.length:Nat):Int),(i:Int),rs.take i,(((rs.take i).length:Nat):Int),(j:Int),b)) ?_ ?_
   ·refine Tt.ite (λ _=>Tt.bind (hF _ _ (hr _ (aag hi))) λ b hb=>Tt.pure ⟨b,λ h h2=> ?_,rfl⟩) (λ h=>Tt.pure ⟨_,λ _ h2=>dec_not h h2.1.symm,rfl⟩);have:=hb.2 h2.2.symm;rw[h]at this;cases this
   ·rintro _ ⟨b,hb,rfl⟩;dsimp only;refine Bd.ite (λ _=>Bd.done (.inr rfl)) (λ h=>Bd.again ⟨by rw[aA (by omega)],λ k r hk hkr=> ?_⟩);rcases aaY (aa8 hk)with h2|rfl
    ·exact hI k r h2 hkr
    ·rw[aac (by omega)]at hkr;cases hkr;exact hb h
  ·rintro s ⟨rfl,hI⟩;unfold lV.L1;dsimp only;exact Bd.no (decide_eq_false (by omega)) (Bd.done (.inl ⟨rfl,λ j r hj=>hI j r (by omega)⟩))
  ·rintro _ (⟨rfl,hI⟩|rfl)
   ·dsimp only;refine Bd.again ⟨by rw[aA (by omega)],λ j k r r' hjk hk hj hkr=> ?_⟩;rcases aaY (aa8 hk)with h2|rfl
    ·exact hd j k r r' hjk h2 hj hkr
    ·rw[aac hi]at hkr;cases hkr;exact hI j r hjk hj
   ·exact Bd.done (.inr rfl)
 ·rintro s ⟨rfl,hd⟩;unfold lV.L2;dsimp only;exact Bd.no (decide_eq_false (by omega)) (Bd.done (.inl ⟨rfl,λ j k r r' hjk hj hk=>hd j k r r' hjk (aaf.1 hk).1 hj hk⟩))
 ·rintro q (⟨rfl,h⟩|rfl)
  ·exact Tt.pure λ _=>h
  ·exact Tt.pure λ h=>by cases h
theorem adx (x y:List Int) (hx:x.length<=au):Sp eY.P (x,y) (λ r=>r=true ↔ x=y):=by
 rw[yZ]at hx;show Tt (λ n=>eY.P n (x,y)) _;unfold eY.P;dsimp only;refine Tt.ite (λ h=> ?_) (λ h=> ?_)
 ·have:x.length≠y.length:=by intro e;simp[e]at h
  exact Tt.pure ⟨λ h=>(by cases h),λ h=>absurd (congrArg List.length h) this⟩
 ·have hl:x.length=y.length:=by simp at h;omega
  refine Tt.bind (R:=λ q=>q=Sum.inl ()/\x=y\/q=Sum.inr false/\x≠y) (Tt.loop (Lp.count x.length (λ i s=>s=(x,y,((x.length:Nat):Int),(i:Int))/\ ∀j,j<i->x[j]? =y[j]?) ?_ ?_ ⟨rfl,λ j h=>absurd h (by omega)⟩)) ?_
  ·rintro i s hi ⟨rfl,hI⟩;unfold eY.L1;dsimp only;refine Bd.yes (aT (by omega)) (Bd.nth hi (Bd.nth (by omega) (Bd.ite (λ h=> ?_) (λ h=> ?_))))
   ·refine Bd.done (.inr ⟨rfl,λ e=> ?_⟩);subst e;simp at h
   ·refine Bd.again ⟨by rw[aA (by omega)],λ j hj=> ?_⟩;rcases aaE j i with h2|h2
    ·exact hI j h2
    ·obtain rfl:j=i:=by omega
     rw[aac hi,aac (by omega)];simp at h;rw[h]
  ·rintro s ⟨rfl,hI⟩;unfold eY.L1;dsimp only;refine Bd.no (decide_eq_false (by omega)) (Bd.done (.inl ⟨rfl,?_⟩));apply aaP;intro j;rcases aaE j x.length with h2|h2
   ·exact hI j h2
   ·rw[aah h2,aah (by omega)]
  ·rintro q (⟨rfl,h⟩|⟨rfl,h⟩)
   ·exact Tt.pure ⟨λ _=>h,λ _=>rfl⟩
   ·exact Tt.pure ⟨λ h'=>(by cases h'),λ h'=>absurd h' h⟩
theorem Sr {O:Nat->Int×List Int×Int×Int×List Int×Int->Option Bool} (hO: ∀x y:Rule,x.2.1.length<=1000->y.2.1.length<=1000->Sp O (x.1,x.2.1,x.2.2,y.1,y.2.1,y.2.2) (λ v=>v=true ↔ x=y)) (x y:List Rule) (hx:x.length<=1000000) (hxr: ∀r∈x,r.2.1.length<=1000) (hyr: ∀r∈y,r.2.1.length<=1000):
 Sp (λ n=>ay.P (O n) n) (x,y) (λ r=>r=true ↔ x=y):=by
 show Tt (λ n=>ay.P (O n) n (x,y)) _;unfold ay.P;dsimp only;refine Tt.ite (λ h=> ?_) (λ h=> ?_)
 ·have:x.length≠y.length:=by intro e;simp[e]at h
  exact Tt.pure ⟨λ h=>(by cases h),λ h=>absurd (congrArg List.length h) this⟩
 ·have hl:x.length=y.length:=by simp at h;omega
  refine Tt.bind (R:=λ q=>q=Sum.inl ()/\x=y\/q=Sum.inr false/\x≠y) (Tt.loop (Lp.count x.length (λ i s=>s=(y,x,((x.length:Nat):Int),(i:Int))/\ ∀j,j<i->x[j]? =y[j]?) ?_ ?_ ⟨rfl,λ j h=>absurd h (by omega)⟩)) ?_
  ·rintro i s hi ⟨rfl,hI⟩;unfold ay.L1;dsimp only;have hiy:i<y.length:=by omega
   refine Bd.yes (aT (by omega)) (Bd.nth hi (Bd.nth hiy (Bd.bind (hO x[i] y[i] (hxr _ (aag hi)) (hyr _ (aag hiy))) λ v hv=>Bd.ite (λ hne=> ?_) (λ heq=> ?_))))
   ·refine Bd.done (.inr ⟨rfl,λ e=> ?_⟩);subst e;rw[hv.2 rfl]at hne;cases hne
   ·refine Bd.again ⟨by rw[aA (by omega)],λ j hj=> ?_⟩;rcases aaE j i with h2|h2
    ·exact hI j h2
    ·obtain rfl:j=i:=by omega
     rw[aac hi,aac hiy];have hvt:v=true:=by simpa using heq
     rw[hv.1 hvt]
  ·rintro s ⟨rfl,hI⟩;unfold ay.L1;dsimp only;refine Bd.no (decide_eq_false (by omega)) (Bd.done (.inl ⟨rfl,?_⟩));apply aaP;intro j;rcases aaE j x.length with h2|h2
   ·exact hI j h2
   ·rw[aah h2,aah (by omega)]
  ·rintro q (⟨rfl,h⟩|⟨rfl,h⟩)
   ·exact Tt.pure ⟨λ _=>h,λ _=>rfl⟩
   ·exact Tt.pure ⟨λ h'=>(by cases h'),λ h'=>absurd h' h⟩
theorem Zk {O:OrF} (hO:afL O) (x y:Rule) (hx:x.2.1.length<=1000) (hy:y.2.1.length<=1000):Sp (λ n=>tV.P (O n) n) (x.1,x.2.1,x.2.2,y.1,y.2.1,y.2.2) (λ v=>v=true ↔ x=y):=by
 show Tt (λ n=>tV.P (O n) n (x.1,x.2.1,x.2.2,y.1,y.2.1,y.2.2)) _;unfold tV.P;dsimp only;exact Tt.bind (hO x y hx hy) λ v hv=>Tt.pure (by rw[decide_eq_true_eq,hv])
theorem Ph {E:Nat->List Int×List Int->Option Bool} {G:Nat->List Rule×List Rule->Option Bool} (a b:Aut) (hE:Sp E (a.2.1,b.2.1) (λ r=>r=true ↔ a.2.1=b.2.1)) (hG:Sp G (a.2.2,b.2.2) (λ r=>r=true ↔ a.2.2=b.2.2)):
 Sp (λ n=>yt.P (G n) (E n) n) (a.1,a.2.1,a.2.2,b.1,b.2.1,b.2.2) (λ r=>r=true ↔ a=b):=by
 show Tt (λ n=>yt.P (G n) (E n) n (a.1,a.2.1,a.2.2,b.1,b.2.1,b.2.2)) _;unfold yt.P;dsimp only;refine Tt.bind (R:=λ r=>r=true ↔ a=b) (Tt.ite (λ h=>Tt.bind hE λ v hv=>Tt.ite (λ hvt=>Tt.bind hG λ w hw=>Tt.pure ?_) (λ hvf=>Tt.pure ?_)) (λ h=>Tt.pure ?_)) λ r hr=>Tt.pure hr
 ·exact hw.trans ⟨λ e=>acM (sW h) (acM (hv.1 hvt) e),λ e=>by rw[e]⟩
 ·exact⟨λ h=>(by cases h),λ e=>absurd (hv.2 (by rw[e])) (by rw[hvf];exact Bool.false_ne_true)⟩
 ·exact⟨λ h=>(by cases h),λ e=>absurd (by rw[e]) (dec_not h)⟩
theorem LX {G:Nat->List Int->Option Bool} (al:List Int) (hG:Sp G al (λ r=>r=true ↔ adJ al)) (S:Int) (fin:List Int) (rs:List Rule) (hv:dV al (S,fin,rs)):Sp (λ n=>fA.P (G n) n) (al,S,fin,rs) (λ r=>r=true):=by
 obtain⟨h1,h2,h3,h4,h5,h6⟩:=id hv;have hw:=hv.wf;have hal:=h1.1;have hfl:=hw.2.2.1;dsimp only at h2 h3 h4 h5 h6 hw hfl;show Tt (λ n=>fA.P (G n) n (al,S,fin,rs)) _;unfold fA.P;dsimp only;refine Tt.bind (R:=λ t=>t=(al,S,fin,rs,false)) (Tt.bind hG λ b hb=> ?_) ?_
 ·rw[hb.2 h1];exact Tt.no rfl (Tt.no (decide_eq_false (by omega)) (Tt.no (decide_eq_false (by omega)) (Tt.pure (by rw[decide_eq_false (by omega)]))))
 rintro _ rfl
 refine Tt.no rfl (Tt.bind (R:=λ t=>t=Sum.inl (al,S,fin,rs))
  (Tt.loop (L:=λ _=>fA.L1) (Lp.count fin.length (λ i t=>t=(al,S,fin,rs,fin,((fin.length:Nat):Int),(i:Int))) ?_ ?_ rfl)) ?_)
 ·rintro i t hi rfl;unfold fA.L1;dsimp only;obtain⟨g1,g2⟩:=h5 i hi hi;have g3:=g1.1;have g4:=g1.2;refine Bd.yes (aT (by omega)) (Bd.nth hi (Bd.bind (R:=λ t=>t=(al,S,fin,rs,fin,((fin.length:Nat):Int),(i:Int),false)) (Tt.no (decide_eq_false (by omega)) (Tt.no (decide_eq_false (by omega)) (Tt.ite (λ h=> ?_) (λ h=>Tt.pure rfl)))) ?_))
  ·have hi0:0<i:=by have:=sW h;omega
   rw[nU ((i:Int)-1) (by omega) (by omega)];refine Tt.afF (by omega) (by omega) λ e _ he=>Tt.pure ?_;have hlt:=g2 hi0;have hi1:((i:Int)-1).toNat=i-1:=by omega
   rw[hi1,aac (by omega)]at he;cases he;rw[decide_eq_false (by omega)]
  ·rintro _ rfl;exact Bd.no rfl (Bd.again (by rw[aA (by omega)]))
 ·rintro t rfl;unfold fA.L1;dsimp only;exact Bd.no (decide_eq_false (by omega)) (Bd.done rfl)
 rintro _ rfl;dsimp only
 refine Tt.bind (R:=λ t=>t=Sum.inl ())
  (Tt.loop (L:=λ n=>fA.L3 n) (Lp.count rs.length (λ i t=>t=(al,S,fin,rs,rs,((rs.length:Nat):Int),(i:Int))) ?_ ?_ rfl)) ?_
 ·rintro i t hi rfl;unfold fA.L3;dsimp only;obtain⟨g1,g2,g3,g4,g5⟩:=h6 i hi hi;have g6:=g4.1;have g7:=g4.2;have hr3:=(hw.2.2.2.2.2 _ (aag hi)).2.2;refine Bd.yes (aT (by omega)) (Bd.nth hi (Bd.bind (R:=λ t=>t=(al,S,fin,rs,rs[i].1,rs[i].2.1,rs[i].2.2,rs,((rs.length:Nat):Int),(i:Int),false)) (Tt.no (decide_eq_false (by omega)) (Tt.no (decide_eq_false (by omega)) (Tt.afF g1 (by omega) λ e _ he=> ?_))) ?_))
  ·have hlt:rs[i].1.toNat<al.length:=by omega
   rw[aac hlt]at he;cases he;have:=g3 hlt;exact Tt.no (by rw[decide_eq_true this];rfl) (Tt.no (decide_eq_false (by omega)) (Tt.pure (by rw[decide_eq_false (by omega)])))
  ·rintro _ rfl
   refine Bd.no rfl (Bd.bind (R:=λ t=>t=Sum.inl (al,S,fin,rs,rs,((rs.length:Nat):Int),(i:Int)))
    (Tt.loop (L:=λ _=>fA.L2) (Lp.count rs[i].2.1.length (λ j t=>t=(al,S,fin,rs,rs,((rs.length:Nat):Int),(i:Int),rs[i].2.1,((rs[i].2.1.length:Nat):Int),(j:Int))) ?_ ?_ rfl)) ?_)
   ·rintro j t hj rfl;unfold fA.L2;dsimp only;have hs:=(hw.2.2.2.2.2 _ (aag hi)).2.1 _ (aag hj);have hs1:=hs.1;have hs2:=hs.2;refine Bd.yes (aT (by omega)) (Bd.nth hj (Bd.bind (R:=λ t=>t=(al,S,fin,rs,rs,((rs.length:Nat):Int),(i:Int),rs[i].2.1,((rs[i].2.1.length:Nat):Int),(j:Int),false)) (Tt.no (decide_eq_false (by omega)) (Tt.pure (by rw[decide_eq_false (by omega)]))) ?_));rintro _ rfl;exact Bd.no rfl (Bd.again (by rw[aA (by omega)]))
   ·rintro t rfl;unfold fA.L2;dsimp only;exact Bd.no (decide_eq_false (by omega)) (Bd.done rfl)
   ·rintro _ rfl;exact Bd.again (by rw[aA (by omega)])
 ·rintro t rfl;unfold fA.L3;dsimp only;exact Bd.no (decide_eq_false (by omega)) (Bd.done rfl)
 rintro _ rfl;exact Tt.pure rfl
theorem Y2 {rs:List Rule} {fin:List Int}: ∀(c:Ctx) {t:RT Int},Acc rs fin (plug c t)-> ∃p,Reach rs t p/\Up rs fin p
 | [],t,⟨q,h1,h2⟩=>⟨q,h1,.fin h2 ⟨t,h1⟩⟩
 |(a,l,r)::c,t,h=>by
  obtain⟨p,hp,hu⟩:=Y2 c h;obtain⟨x,h0,h1,h2,h3,h4⟩:=dD.1 hp;have hl:l.length<x.2.1.length:=by rw[h3];simp
  subst h2;refine⟨x.2.1[l.length],h4 l.length t _ (by rw[QX (y:=t),if_pos rfl]) (aac hl),.rule h0 hu (λ y hy=> ?_) (aag hl)⟩;obtain⟨i,hi,e⟩:=aay hy;have hk:i<(l++t::r).length:=by omega
  exact⟨_,h4 i _ y (aac hk) (by rw[aac hi,e])⟩
theorem afD {rs:List Rule} {fin:List Int} {R U:List Bool} (hcl:Closed rs R) (hu:Useful fin rs R U) {s:Int} (h:Up rs fin s):bat U s=true:=by
 have rch: ∀x,Rch rs x->bat R x=true:=λ x ⟨t,ht⟩=>hcl.reach t x ht
 induction h with
 |fin h hr=>exact hu.1 _ h (rch _ hr)
 | @rule r s hr h hk hs ih=>exact hu.2 r hr ih (λ x hx=>rch x (hk x hx)) s hs
theorem Z9 {U:List Bool} {l:List Int} (hn:l.Nodup) (hl: ∀s∈l,0<=s/\bat U s=true):l.length<=U.count true:=by
 have e1:U=(List.range U.length).map λ i=>U[i]?.getD false:=by
  apply aaP;intro i;rw[aar];rcases aaE i U.length with h|h
  ·rw[abZ h,aaK];show _=some (U[i]?.getD false);rw[aac h];rfl
  ·rw[aah h,aah (by simpa using h)];rfl
 have e2:U.count true=((List.range U.length).filter λ i=>U[i]?.getD false).length:=by
  rw[←List.countP_eq_length_filter]
  conv=>lhs;rw[e1]
  rw[List.count,List.countP_map];congr 1;funext i;show(U[i]?.getD false==true)=U[i]?.getD false;cases U[i]?.getD false<;>rfl
 have hn2:(l.map Int.toNat).Nodup:=acD.2 (List.Pairwise.imp_of_mem (λ{a b} ha hb h e=>h (by have:=(hl a ha).1;have:=(hl b hb).1;omega)) hn)
 have:=hn2.length_le_of_subset (l₂:=(List.range U.length).filter λ i=>U[i]?.getD false) λ i hi=>by
  obtain⟨s,hs,rfl⟩:=aaL.1 hi;have hb:=(hl s hs).2;unfold bat at hb;refine List.mem_filter.2 ⟨abW.2 ?_,hb⟩;rcases aaE s.toNat U.length with h|h
  ·exact h
  ·rw[aah h]at hb;cases hb
 rw[aaN]at this;omega
theorem Zv {M:Aut} (hM:Can M) {S:Int} {fin:List Int} {rs:List Rule} (hw:Wf S fin rs) (hd:Det rs) (hs: ∀t,Acc M.2.2 M.2.1 t ↔ Acc rs fin t) {R U:List Bool} (hc:Closed rs R) (hu:Useful fin rs R U):M.1<=((U.count true:Nat):Int):=by
 have hex: ∀q:Int,∃p:Int,dH M.1 q-> ∃t,Reach M.2.2 t q/\Reach rs t p/\Up rs fin p:=λ q=>by
  by_cases hq:dH M.1 q
  ·obtain⟨t,c,h1,h2⟩:=hM.co q hq;obtain⟨p,a1,a2⟩:=Y2 c ((hs _).1 h2);exact⟨p,λ _=>⟨t,h1,a1,a2⟩⟩
  ·exact⟨0,λ h=>absurd h hq⟩
 obtain⟨g,hg⟩: ∃g:Int->Int,∀q,dH M.1 q-> ∃t,Reach M.2.2 t q/\Reach rs t (g q)/\Up rs fin (g q):=⟨λ q=>(hex q).choose,λ q=>(hex q).choose_spec⟩
 have hn:((Za M.1).map g).Nodup:=acD.2 (List.Pairwise.imp_of_mem (λ{a b} ha hb hne e=>hne (by
  obtain⟨t,a1,a2,_⟩:=hg a (wO.1 ha);obtain⟨u,b1,b2,_⟩:=hg b (wO.1 hb);rw[←e]at b2;exact hM.sep a1 b1 λ c=>(hs _).trans ((JD hd.uni a2 b2 c).trans (hs _).symm))) (yu M.1))
 have:=Z9 hn λ s hs'=>by
  obtain⟨q,hq,rfl⟩:=aaL.1 hs';obtain⟨t,_,a2,a3⟩:=hg q (wO.1 hq);exact⟨(OX hw a2).1,afD hc hu a3⟩
 rw[aaN,Eu]at this;omega
theorem V9.valid {al fin:List Int} {rs:List Rule} {M:Aut} (hal:adJ al) (h:V9 al fin rs M):dV al M:=by
 obtain⟨h1,h2,h3,h4,h5,h6,h7,h8,h9⟩:=h;refine⟨hal,h6.1,h6.2,h7,λ i hi hi'=>⟨h1.fin _ (aag hi'),λ h0=>abx.1 h3 (i-1) i (by omega) hi' (by omega)⟩,λ i hi hi'=> ?_⟩;have hm:=aag hi';obtain⟨a1,a2⟩:=h8 _ hm;obtain⟨hlt,e⟩:=aaf.1 a2;exact⟨a1,by omega,λ h=>e.symm,(h1.st _ hm).1,λ j hj hj'=>(h1.st _ hm).2 _ (aag hj')⟩
theorem V9.ajg {al fin:List Int} {rs:List Rule} {M:Aut} (h:V9 al fin rs M):FY M.2.2:=X5 h.1.det h.2.2.2.1
theorem afk {V:Nat->List Int×Int×List Int×List Rule->Option Bool} {E:Nat->Int×List Int×List Rule×Int×List Int×List Rule->Option Bool} {Mi:Nat->List Int×Int×List Int×List Rule->Option (Int×List Int×List Rule×Int)} (b:List Int) (x y:Aut) {vx vy:Int×List Int×List Rule×Int}
 (hVx:Sp V (b,x.1,x.2.1,x.2.2) (λ r=>r=true)) (hVy:Sp V (b,y.1,y.2.1,y.2.2) (λ r=>r=true)) (hMx:Sp Mi (b,x.1,x.2.1,x.2.2) (λ r=>r=vx)) (hMy:Sp Mi (b,y.1,y.2.1,y.2.2) (λ r=>r=vy)) (ex:vx.2.2.2=0) (ey:vy.2.2.2=0)
 (hE:Sp E (vx.1,vx.2.1,vx.2.2.1,vy.1,vy.2.1,vy.2.2.1) (λ r=>r=true ↔ ((vx.1,vx.2.1,vx.2.2.1):Aut)=(vy.1,vy.2.1,vy.2.2.1))):
 Sp (λ n=>Az.P (V n) (E n) (Mi n) n) (b,x.1,x.2.1,x.2.2,y.1,y.2.1,y.2.2) (λ r=>r.2=0/\(r.1=true ↔ ((vx.1,vx.2.1,vx.2.2.1):Aut)=(vy.1,vy.2.1,vy.2.2.1))):=by
 show Tt (λ n=>Az.P (V n) (E n) (Mi n) n (b,x.1,x.2.1,x.2.2,y.1,y.2.1,y.2.2)) _;unfold Az.P;dsimp only;refine Tt.bind (R:=λ t=>t=(b,x.1,x.2.1,x.2.2,y.1,y.2.1,y.2.2,false)) (Tt.bind hVx ?_) ?_
 ·rintro _ rfl;refine Tt.no rfl (Tt.bind hVy ?_);rintro _ rfl;exact Tt.pure rfl
 rintro _ rfl;refine Tt.no rfl (Tt.bind hMx ?_);rintro _ rfl;refine Tt.no (by rw[ex];rfl) (Tt.bind hMy ?_);rintro _ rfl;exact Tt.no (by rw[ey];rfl) (Tt.bind hE λ r hr=>Tt.pure ⟨rfl,hr⟩)
theorem U7 {Aw:Nat->Unit->Option Bool} {Fw:Nat->List Int×List Aut->Option Bool} {E:Nat->Int×List Int×List Rule×Int×List Int×List Rule->Option Bool} {Mi:Nat->List Int×Int×List Int×List Rule->Option (Int×List Int×List Rule×Int)} {Sm:Nat->List Int×Int×List Int×List Rule×Int×List Int×List Rule->Option (Bool×Int)}
 {F1:Nat->Int×List (RT Int)×Int->Option Bool} {V1:Nat->List Int×Int×List (RT Int)->Option Bool} {Ha:Nat->Int×List Int×List Rule×Int×List (RT Int)->Option Bool} {On:Nat->Int×List Int×List Rule->Option Bool} {Tr:Nat->Int×List Int×List Rule->Option (Int×List Int×List Rule)} {V3 Df:Nat->List Int×Int×List Int×List Rule->Option Bool}
 (b:List Int) (x y:Aut) (t:RT Int) {P:Prop} (hAw:Sp Aw () (λ r=>r=true)) (hFw:Sp Fw (b,[x,y]) (λ r=>r=true->P)) (hF1:Sp F1 (t.a,t.kids,(400:Int)) (λ _=>True))
 (hMx:P-> ∃v:Int×List Int×List Rule×Int,(v.2.2.2=0->dV b x/\V9 b x.2.1 x.2.2 (v.1,v.2.1,v.2.2.1))/\Sp Mi (b,x.1,x.2.1,x.2.2) (λ r=>r=v))
 (hMy:P-> ∃v:Int×List Int×List Rule×Int,(v.2.2.2=0->dV b y/\V9 b y.2.1 y.2.2 (v.1,v.2.1,v.2.2.1))/\Sp Mi (b,y.1,y.2.1,y.2.2) (λ r=>r=v))
 (hMm: ∀M:Aut,dV b M->FY M.2.2->Sp Mi (b,M.1,M.2.1,M.2.2) (λ v=>v.2.2.2=0/\V9 b M.2.1 M.2.2 (v.1,v.2.1,v.2.2.1)))
 (hV3: ∀M:Aut,dV b M->Sp V3 (b,M.1,M.2.1,M.2.2) (λ r=>r=true))
 (hSm: ∀vx vy:Int×List Int×List Rule×Int,dV b x->dV b y->Sp Mi (b,x.1,x.2.1,x.2.2) (λ r=>r=vx)->Sp Mi (b,y.1,y.2.1,y.2.2) (λ r=>r=vy)->vx.2.2.2=0->vy.2.2.2=0->dV b (vx.1,vx.2.1,vx.2.2.1)->dV b (vy.1,vy.2.1,vy.2.2.1)->
  Sp Sm (b,x.1,x.2.1,x.2.2,y.1,y.2.1,y.2.2) (λ r=>r.2=0/\(r.1=true ↔ ((vx.1,vx.2.1,vx.2.2.1):Aut)=(vy.1,vy.2.1,vy.2.2.1))))
 (hE: ∀M M':Aut,dV b M->dV b M'->Sp E (M.1,M.2.1,M.2.2,M'.1,M'.2.1,M'.2.2) (λ r=>r=true ↔ M=M'))
 (hOn:dV b y->Sp On (y.1,y.2.1,y.2.2) (λ r=>r=true->FY y.2.2))
 (hTr:dV b y->Sp Tr (y.1,y.2.1,y.2.2) (λ a=> ∃keep:List Bool,keep.length=y.1.toNat/\(∃R,Closed y.2.2 R/\Useful y.2.1 y.2.2 R keep)/\a.1=((keep.count true:Nat):Int)))
 (hV1:Sp V1 (b,t.a,t.kids) (λ r=>r=true->Shp b t))
 (hHa: ∀M:Aut,dV b M->Shp b t->Sp Ha (M.1,M.2.1,M.2.2,t.a,t.kids) (λ r=>r=true ↔ Acc M.2.2 M.2.1 t)):
 Sp (λ n=>pK.P (Aw n) (Fw n) (E n) (Mi n) (Sm n) (F1 n) (V1 n) (Ha n) (On n) (Tr n) (V3 n) (Df n) n) (b,x.1,x.2.1,x.2.2,y.1,y.2.1,y.2.2,t.a,t.kids) (λ r=>r=true):=by
 have aw:Tt (λ n=>(Aw n ()).bind λ r=>some r) (λ r=>r=true):=Tt.bind hAw λ r hr=>Tt.pure hr;show Tt (λ n=>pK.P (Aw n) (Fw n) (E n) (Mi n) (Sm n) (F1 n) (V1 n) (Ha n) (On n) (Tr n) (V3 n) (Df n) n (b,x.1,x.2.1,x.2.2,y.1,y.2.1,y.2.2,t.a,t.kids)) _;unfold pK.P;dsimp only;refine Tt.fB (Tt.bind hFw λ f1 hf1=>Tt.eU (λ _=>Tt.aG (Tt.yes rfl aw)) (λ g1=> ?_));refine Tt.fB (Tt.bind hF1 λ f2 _=>Tt.aG (Tt.ite (λ _=>aw) (λ _=> ?_)));dsimp only;have hP:P:=hf1 (by simpa using g1);obtain⟨m,hm,mm⟩:=hMx hP;obtain⟨w,hw,mw⟩:=hMy hP;refine Tt.bind mm λ r1 e1=>Tt.bind mw λ r2 e2=> ?_;subst e1;subst e2;refine Tt.eU (λ _=>Tt.aG (Tt.yes rfl aw)) (λ g3=>Tt.aG (Tt.ite (λ _=>aw) (λ g4=> ?_)));dsimp only;have em:r1.2.2.2=0:=by simpa using g3
 have ew:r2.2.2.2=0:=by simpa using g4
 obtain⟨vx,cx⟩:=hm em;obtain⟨vy,cy⟩:=hw ew;have vmx:=cx.valid vx.1;have vmy:=cy.valid vy.1;refine Tt.fB (Tt.bind (hV3 _ vmx) ?_);rintro _ rfl;refine Tt.eU (λ h=>by cases h) (λ _=>Tt.fB (Tt.bind (hV3 _ vmy) ?_));rintro _ rfl;refine Tt.aG (Tt.no rfl ?_);dsimp only;refine Tt.bind (hMm _ vmx cx.ajg) λ o ho=>Tt.bind (hSm r1 r2 vx vy mm mw em ew vmx vmy) λ s hs=> ?_;obtain⟨eo,co⟩:=ho;obtain⟨s2,s1⟩:=hs;have hoe:=co.eq cx λ t=>cx.2.2.2.2.1 t;refine Tt.eU (λ h=>absurd eo (by simpa using h)) (λ _=>Tt.fB (Tt.bind (hE _ _ vmx (co.valid vx.1)) λ q hq=>Tt.aG (Tt.no ?_ ?_)))
 ·rw[hq.2 hoe.symm];rfl
 dsimp only;refine Tt.eU (λ h=>absurd (sW h) (by omega)) (λ _=>Tt.aG (Tt.no rfl ?_));dsimp only;refine Tt.eU (λ h=>absurd s2 (by simpa using h)) (λ _=>Tt.fB (Tt.bind (hE _ _ vmx vmy) λ e he=>Tt.aG (Tt.no ?_ ?_)))
 ·have:s.1=e:=acu.2 (s1.trans he.symm);rw[this];simp
 dsimp only
 have lang:s.1=true-> ∀t,Acc x.2.2 x.2.1 t ↔ Acc y.2.2 y.2.1 t:=λ h t=>by
  have h1:=cx.2.2.2.2.1 t;have h2:=cy.2.2.2.2.1 t;rw[s1.1 h]at h1;exact h1.symm.trans h2
 refine Tt.bind (R:=λ v=>v=(b,x.1,x.2.1,x.2.2,y.1,y.2.1,y.2.2,t.a,t.kids,r1.1,r1.2.1,r1.2.2.1,s.1,false)) (Tt.ite (λ hs=>Tt.bind (hOn vy) λ on hon=>Tt.ite (λ ho=>Tt.bind (hTr vy) λ tr htr=>Tt.pure ?_) (λ _=>Tt.pure rfl)) (λ _=>Tt.pure rfl)) ?_
 ·obtain⟨keep,_,⟨R,hR1,hR2⟩,hk⟩:=htr;have:=Zv cx.1 vy.wf (hon ho).det (λ t=>(cx.2.2.2.2.1 t).trans (lang hs t)) hR1 hR2;dsimp only at this;rw[decide_eq_false (by omega)]
 rintro _ rfl;dsimp only;refine Tt.no rfl (Tt.bind hV1 λ v1 hv1=>Tt.ite (λ _=>aw) (λ g5=> ?_));have hst:Shp b t:=hv1 (by simpa using g5);refine Tt.bind (hHa x vx hst) λ u1 hu1=>Tt.bind (hHa y vy hst) λ u2 hu2=>Tt.fB (Tt.bind (hHa _ vmx hst) λ u3 hu3=> ?_);have e3:u3=u1:=acu.2 (hu3.trans ((cx.2.2.2.2.1 t).trans hu1.symm));subst e3;have fin: ∀{G:Nat->Option Bool},Tt G (λ r=>r=true)->Tt (λ n=>(G n).bind λ x=>some x) (λ r=>r=true):=λ h=>Tt.bind h λ r hr=>Tt.pure hr;refine Tt.eU (λ _=>fin (Tt.ite (λ _=>aw) (λ g6=>Tt.ite (λ _=>aw) (λ g7=> ?_)))) (λ h=>by simp at h);have hs:s.1=true:=by simpa using g6
 have:=acu.2 (hu1.trans ((lang hs t).trans hu2.symm));rw[this]at g7;simp at g7
theorem VZ {α:Type} {f:α->Nat}: ∀{l:List α} {x:α},x∈l->f x<=sumW f l
 |a::l,x,h=>by
  simp only[sumW];rcases aaR.mp h with rfl|h
  ·omega
  ·have:=VZ (f:=f) h;omega
theorem Pj {α:Type} {f:α->Nat} (h: ∀x,1<=f x): ∀l:List α,l.length<=sumW f l
 | []=>by simp[sumW]
 |a::l=>by
  have:=Pj h l;have:=h a;simp only[sumW,abe];omega
mutual
theorem agD (f:Int->Nat): ∀t:RT Int,nds t<=RT.wt f t
 | .mk a ks=>by
   have:=OM f ks;simp only[nds,RT.wt];omega
theorem OM (f:Int->Nat): ∀ks:List (RT Int),ZM ks<=RT.wts f ks
 | []=>by simp[ZM,RT.wts]
 |k::ks=>by
  have:=agD f k;have:=OM f ks;simp only[ZM,RT.wts];omega
end
theorem agz (l:List Int):l.length+1<=wt (.sl [.int .i64]) l:=by
 have:=Pj (f:=wtA [.int .i64]) (λ x=>aaq _) l;exact Nat.succ_le_succ this
theorem VR (l:List Rule):l.length+1<=wt (.sl [.int .i64,.sl [.int .i64],.int .i64]) l/\ ∀r∈l,r.2.1.length<=wt (.sl [.int .i64,.sl [.int .i64],.int .i64]) l:=by
 have h1: ∀r:Rule,1<=wtA [.int .i64,.sl [.int .i64],.int .i64] r:=λ r=>by
  show 1<=1+_;omega
 have:=Pj (f:=wtA [.int .i64,.sl [.int .i64],.int .i64]) h1 l;refine⟨Nat.succ_le_succ this,λ r hr=> ?_⟩;have h2:=VZ (f:=wtA [.int .i64,.sl [.int .i64],.int .i64]) hr
 have h3:r.2.1.length+1<=wtA [.int .i64,.sl [.int .i64],.int .i64] r:=by
  have:=agz r.2.1;show _<=1+(wt (.sl [.int .i64]) r.2.1+1);omega
 exact aaJ (aaJ (Nat.le_succ _) h3) (aaJ h2 (Nat.le_succ _))
theorem aeD (s:Int) (ks:List (RT Int)):nds (.mk s ks)<=wt (.rsl [.int .i64]) ks:=by
 have:=OM (wtA [.int .i64]) ks;exact Nat.succ_le_succ this
end Go.Bk
end
