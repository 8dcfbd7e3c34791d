import Derived.Test.YtdchbjmbgecejaaGreatDoorMb
import Derived.Orders
set_option linter.unusedVariables false
section
namespace Go.AM
open Go
section
variable {P:Program} {E:Env} {C:Ctx} {s s':St} {a a':Act} {w w':World} {g g':Gh} {o:Oper} {Q:Exit->Act->World->Prop}
def Tg.moves:Tg->Bool| .own=>true| .tip=>true|_=>false
theorem qF: ∀{cs:LC} {want:List (Sh×Tg)} {ds:LC},weaken cs want=some ds->cs.length=want.length/\ds.length=want.length/\
 ∀(k:Nat) (c:CV),cs[k]? =some c-> ∃sh tg,want[k]? =some (sh,tg)/\ds[k]? =some (c.to tg)/\c.sh=sh/\Tg.le tg c.tg=true/\(iL cs want)[k]? =some (bif c.isPure then c else leftAs c tg)
 | [],[],ds,h=>by
   simp only[weaken,aag]at h;subst h;exact⟨rfl,rfl,λ k c e=>by simp at e⟩
 | [],_::_,ds,h=>by simp[weaken]at h
 |_::_,[],ds,h=>by simp[weaken]at h
 |c::cs,(sh,tg)::want,ds,h=>by
  simp only[weaken,cond_eq_ite,aae]at h;split at h
  ·rename_i e;obtain⟨A,f,rfl⟩:=aaK.1 h;obtain⟨l,m,p⟩:=qF f;refine⟨by simp[l],by simp[m],λ k q d=> ?_⟩
   cases k with
   |zero=>simp at d;subst d;exact⟨sh,tg,rfl,rfl,aY7 e.1.1,e.1.2,rfl⟩
   |succ k=>
    obtain⟨g,i,t,u,v,y,z⟩:=p k q (by simpa using d);exact⟨g,i,by simpa using t,by simpa using u,v,y,by simpa [iL]using z⟩
  ·cases h
theorem Xi (c:CV) (tg:Tg) (h:(leftAs c tg).tg= .own):leftAs c tg=c:=by
 obtain⟨sh,d,x⟩:=c;cases tg<;>cases d<;>simp_all [leftAs,CV.kill,CV.to]
theorem Ll: ∀{cs:LC} {want:List (Sh×Tg)} {i:Nat} {d:CV},(iL cs want)[i]? =some d->d.tg= .own->cs[i]? =some d
 | [],_,i,d,h,_=>by simp[iL]at h
 |_::_,[],i,d,h,_=>by simp[iL]at h
 |c::cs,(sh,tg)::want,0,d,h,e=>by
  simp only[iL,aaN,aag]at h ⊢
  cases f:c.isPure with
  |true=>rw[f]at h;exact h
  |false=>
   rw[f]at h;simp only[cond_false]at h;rw[←h]at e ⊢;exact(Xi c tg e).symm
 |c::cs,(sh,tg)::want,i+1,d,h,e=>by
  simpa using Ll (cs:=cs) (want:=want) (i:=i) (by simpa [iL]using h) e
theorem jZ.af7 {ρ:aG->aG} {ow ow':aG} {c:CV} {v:Value} (d:c.tg= .pure) (h:jZ w g ow c v):jZ w (g.ren ρ) ow' c v:=by
 have:=h.pure (w':=w) (g':=g.ren ρ) (ow':=ow') (show Keeps w w g.F (g.ren ρ).F from Keeps.refl w g.F) (by unfold CV.isPure;rw[d];rfl);exact this
theorem aF.frB {K:aG->Prop} {w w':World} {g g':Gh} (f:Fr K w w' g g') {mk:Nat->aG}: ∀(cs:LC) (i:Nat) (d:LV),(∀j,i<=j->j<i+cs.length->K (mk j))->aF w g mk i cs d->aF w' g' mk i cs d
 | [],_,_,_,h=>h
 |c::cs,i,_,k,⟨v,l,e,m,h⟩=>⟨v,l,e,m.fr f (k i (aav _) (by simp)),aF.frB f cs (i+1) l (λ j m p=>k j (by omega) (by simp;omega)) h⟩
theorem DF (h:Rel E C s a w g) {hs:LC} {hv:LV} (hh:aF w g .hand 0 hs hv) {p:Pl} {m:Nat} {cs ds:LC} {want:List (Sh×Tg)} {us:List Upd} (hc:bf s p m=some cs) (hw:weaken cs want=some ds)
 (hu:jU s p (iL cs want) false=some us):
 ∃g',Rel E C (s.dX us) a w g'/\aF w g' .hand 0 (hs++ds) (hv++((aC a w g p.root).drop p.cell).take m)/\g'.at_=g.at_/\Keeps w w g.F g'.F/\(∀b n,g.own b=some (.box n)->g'.own b=some (.box n)):=by
 obtain⟨hp,hl⟩:=h.pl hc;obtain⟨b6,b7,z⟩:=qF hw;obtain⟨D,R,b1,o1,a1,S,U,_,_,A⟩:=Ej (wR p.root) cs want ds p.cell _ g h.base hw hp
 let B:Nat->Bool:=λ j=>decide (p.cell<=j/\j<p.cell+m)&&(match want[j-p.cell]? with|some (_,tg)=>tg.moves|none=>false)
 let ρ:aG->aG:=λ o=>match p.root,o with
  | .tmp n,.tm k j=>if k=n/\B j=true then .hand (hs.length+(j-p.cell))else o
  | .box n,.cell k j=>if k=n/\B j=true then .hand (hs.length+(j-p.cell))else o
  |_,o=>o
 have W: ∀j,B j=true->p.cell<=j/\j<p.cell+m:=λ j y=>by
  simp only[B,aae,decide_eq_true_eq]at y;exact y.1
 have q: ∀o,(∀j,B j=true->o≠dQ p.root j)->ρ o=o:=by
  intro o O;simp only[ρ]
  cases t:p.root with
  |tmp n=>
   cases o<;>simp only;rename_i k j;split
   ·rename_i f;exact absurd (by rw[t,f.1];rfl) (O j f.2)
   ·rfl
  |box n=>
   cases o<;>simp only;rename_i k j;split
   ·rename_i f;exact absurd (by rw[t,f.1];rfl) (O j f.2)
   ·rfl
 have G: ∀i,ρ (.hand i)= .hand i:=λ i=>q _ (λ j _=>by cases p.root<;>simp[dQ])
 have I: ∀k,B (p.cell+k)=true->ρ (dQ p.root (p.cell+k))= .hand (hs.length+k):=by
  intro k f;simp only[ρ]
  cases t:p.root with
  |tmp n=>simp only[dQ];rw[if_pos ⟨trivial,f⟩];congr 1;omega
  |box n=>simp only[dQ];rw[if_pos ⟨trivial,f⟩];congr 1;omega
 have l:(iL cs want).length=cs.length:=by have:=congrArg List.length A;simpa using this
 have Y:=hp.length
 have L:aF w (D.ren ρ) (dQ p.root) p.cell (iL cs want) (((aC a w g p.root).drop p.cell).take m):=by
  refine aF.of _ _ _ (by rw[l];exact Y) λ k c v f hv=> ?_
  have M:k<cs.length:=by
   rw[←l];rcases aaF k (iL cs want).length with h|h
   ·exact h
   ·simp[aai h]at f
  obtain⟨sh,tg,Q,e2,_,e4,e5⟩:=z k cs[k] (aac M);obtain⟨u,N,t⟩:=U.get _ p.cell _ k c f;rw[N]at hv;cases hv;rw[e5]at f;cases f
  cases d:tg.moves with
  |true=>
   have Z:cs[k].isPure=false:=by
    unfold CV.isPure;cases a0:cs[k].tg<;>rw[a0]at e4<;>first|rfl|(cases tg<;>simp_all [Tg.moves,Tg.le])
   rw[Z]at t ⊢;simp only[cond_false]at t ⊢;have:leftAs cs[k] tg=cs[k].kill:=by cases tg<;>first|rfl|simp[Tg.moves]at d
   rw[this];exact trivial
  |false=>
   have a2:ρ (dQ p.root (p.cell+k))=dQ p.root (p.cell+k):=q _ λ j y e=>by
    have:=wR p.root _ _ e;subst this;simp only[B,aae]at y;rw[show p.cell+k-p.cell=k by omega,Q]at y;simp only[d]at y;exact absurd y.2 (by simp)
   have:=t.ren (ρ:=ρ)
   rwa [a2]at this
 have a3:aF w (D.ren ρ) .hand hs.length ds (((aC a w g p.root).drop p.cell).take m):=by
  refine aF.of _ _ _ (by omega) λ k c v f hv=> ?_
  have M:k<cs.length:=by
   rcases aaF k ds.length with h|h
   ·omega
   ·simp[aai h]at f
  obtain⟨sh,tg,Q,e2,_,e4,e5⟩:=z k cs[k] (aac M);obtain⟨u,N,t⟩:=S.get _ p.cell _ k c f;rw[N]at hv;cases hv;rw[e2]at f;cases f
  cases d:tg.moves with
  |true=>
   have:=t.ren (ρ:=ρ)
   rwa [I k (by
    simp only[B,aae,decide_eq_true_eq];exact⟨by omega,by rw[show p.cell+k-p.cell=k by omega,Q];exact d⟩)]at this
  |false=>
   cases tg with
   |pure=>exact jZ.af7 rfl t
   |dead=>exact trivial
   |own=>cases d
   |tip=>cases d
 have f2:Fr (λ o=>(∀j,p.cell<=j->j<p.cell+cs.length->o≠dQ p.root j)/\ ∀j,o≠ .hand j) w w g (D.ren ρ):=
  (R.mono λ o O=>O.1).trans (Fr.ren w D λ o O=>q o λ j y e=>by
   obtain⟨h1,h2⟩:=W j y;exact O.1 j h1 (by omega) e)
 refine⟨D.ren ρ,?_,?_,a1,R.keeps,λ b n e=> ?_⟩
 ·refine kK h (ds:=iL cs want) (by rw[l,hl];exact hc) hu A (by rw[l];exact f2) (b1.ren ρ) a1 ?_ (λ i es l' hi=>⟨l',Ll hi rfl,λ _ _ _ _=>rfl⟩);rw[l,hl];exact L
 ·refine aF.append hs 0 hv ds _ ?_ (by rw[aa0];exact a3);have h1:aF w D .hand 0 hs hv:=aF.fr (K:=λ o=> ∃i,o= .hand i) (R.mono λ o ⟨i,e⟩ j _ _=>by subst e;cases p.root<;>simp[dQ]) hs 0 hv (λ j=>⟨j,rfl⟩) hh;exact aF.ren hs 0 0 hv (λ k _=>by simpa using G (0+k)) h1
 ·have Q:D.own b=some (.box n):=by rw[o1];exact e
  simp only[Gh.ren,Q,aaL];rw[q _ λ j _=>by cases p.root<;>simp[dQ]]
theorem Sh.beq_refl: ∀sh:Sh,Sh.beq sh sh=true:=by
 intro sh
 induction sh using Sh.rec (motive_2:=λ i=>aX i i=true)with
 |int k=>simp[Sh.beq]
 |bool=>rfl
 |str=>rfl
 |sl es g=>simpa [Sh.beq]using g
 |rsl es g=>simpa [Sh.beq]using g
 |dl es g=>simpa [Sh.beq]using g
 |mp k e d f=>simp[Sh.beq,d,f]
 |nil=>rfl
 |cons s ss d f=>simp[aX,d,f]
theorem xQ {mk mk':Nat->aG} {cs ds:LC} {want:List (Sh×Tg)} {i j:Nat} {p:LV} (q:bJ cs=true) (t:weaken cs want=some ds) (h:aF w g mk i cs p):aF w g mk' j ds p:=by
 obtain⟨y,z,e⟩:=qF t;have A:=h.length;refine aF.of _ _ _ (by omega) λ k c v l hv=> ?_
 have d:k<cs.length:=by
  rcases aaF k ds.length with h|h
  ·omega
  ·simp[aai h]at l
 obtain⟨sh,tg,E,B,_,m,_⟩:=e k cs[k] (aac d);obtain⟨u,C,D⟩:=h.get _ i _ k _ (aac d);rw[C]at hv;cases hv;rw[B]at l;cases l;have f:=uq q cs[k] (aaf d);rw[f]at m
 cases tg with
 |dead=>exact trivial
 |pure=>exact(sK rfl).2 ((sK f).1 D)
 |own=>simp[Tg.le]at m
 |tip=>simp[Tg.le]at m
def Tagged (cs:LC) (want:List (Sh×Tg)):Prop:=cs.map (λ c=>(c.sh,c.tg))=want
theorem fB {cs ds:LC} {want:List (Sh×Tg)} (f:weaken cs want=some ds):Tagged ds want:=by
 obtain⟨g,i,d⟩:=qF f;apply aaT;intro k;rw[aas];rcases aaF k cs.length with e|e
 ·obtain⟨sh,tg,l,m,p,_,_⟩:=d k cs[k] (aac e);rw[l,m,←p];rfl
 ·rw[aai (by omega),aai (by omega)];rfl
theorem QK {ow:aG} {sh:Sh} (e:sh.qH=true) (tg:Tg):jZ w g ow ((JK sh).to tg) (.slice none 0 0):=by
 have d:=fZ e;have f:aQ sh (lF sh)=0:=by cases sh<;>first|rfl|(simp[Sh.qO]at d)
 cases tg with
 |dead=>exact trivial
 |pure=>
  show jL w g.F sh (lF sh) _;rw[yt e];exact⟨none,0,by rw[f],by omega,.inl f⟩
 |own=>
  show if sh.qO=true then zq w g ow false sh (lF sh) _ else _;rw[if_pos d];exact .inl ⟨rfl,f⟩
 |tip=>
  show if sh.qO=true then zq w g ow true sh (lF sh) _ else _;rw[if_pos d];exact .inl ⟨rfl,f⟩
theorem V8 {want:List (Sh×Tg)} {ds:LC} (h:(aea want).run=some ds): ∃sh tg,want= [(sh,tg)]/\sh.qH=true/\ds= [(JK sh).to tg]:=by
 unfold aea at h;split at h
 ·obtain⟨d,h⟩:=bg h;exact⟨_,_,rfl,d,(au h).symm⟩
 ·exact(aj h).elim
theorem O4 {d:CV} {want:List (Sh×Tg)} {ds:LC} (h:weaken [d] want=some ds): ∃tg,want= [(d.sh,tg)]/\ds= [d.to tg]/\Tg.le tg d.tg=true:=by
 match want,h with
 | [],h=>simp[weaken]at h
 | [(sh,tg)],h=>
   simp only[weaken,cond_eq_ite,aae]at h;split at h
   ·rename_i e;simp only[aaL,aag]at h;exact⟨tg,by rw[aY7 e.1.1],h.symm,e.1.2⟩
   ·cases h
 |(sh,tg)::y::f,h=>
  simp only[weaken,cond_eq_ite,aae]at h;split at h
  ·simp at h
  ·cases h
theorem adO (h:Rel E C s a w g) {hs:LC} {hv:LV} (D:aF w g .hand 0 hs hv) {n:Nat} {p:Pl} {q c:CV} (f:(s.tm n).1= .ext p q c) (S:c.tg= .own):
 ∃g',Rel E C (s.dX [.keep n (.ext p q c.kill)]) a w g'/\aF w g' .hand 0 (hs++[c]) (hv++(a.eval (.tmp n)).cells.toList)/\g'.at_=g.at_/\Keeps w w g.F g'.F/\(∀b n,g.own b=some (.box n)->g'.own b=some (.box n))/\isAgg (a.eval (.tmp n))=false:=by
 have A:=h.tm n;rw[f]at A;obtain⟨B,G,I,t,K,L,M,N,O⟩:=A
 let ρ:aG->aG:=λ o=>if o= .tm n 0 then .hand hs.length else o
 have d: ∀o,o≠ .tm n 0->ρ o=o:=λ o v=>by simp only[ρ,if_neg v]
 have i:ρ (.tm n 0)= .hand hs.length:=by simp only[ρ,if_pos rfl]
 have y:s.dX [.keep n (.ext p q c.kill)]= {s with tm:=put s.tm n (.ext p q c.kill,(s.tm n).2)}:=rfl;refine⟨g.ren ρ,h.KZ (Fr.ren w g λ o v=>d o (v.1 0)) (h.base.ren ρ) rfl (λ _ _ e=>by cases e) ?_,?_,rfl,Keeps.refl _ _,λ b m e=>by simp only[Gh.ren,e,aaL,d _ (by simp:aG.box m≠ .tm n 0)],t⟩
 ·rw[y];refine⟨⟨?_,B.vers⟩,G,I,t,?_,L,M,N,λ e Q=> ?_⟩
  ·refine aaX B.inst (acG ?_)
   cases p.root with
   |box m=>rfl
   |tmp m=>
    simp only[rH];by_cases l:m=n
    ·subst l;rw[bH]
    ·rw[bM _ _ _ l]
  ·trivial
  ·have z:bf s p 1=some [e]:=by
    rw[←Q];unfold bf
    cases U:p.root with
    |box m=>rfl
    |tmp m=>
     simp only[aB];by_cases l:m=n
     ·subst l;rw[bH];have:s.tm m=(.ext p q c,(s.tm m).2):=by rw[←f]
      rw[this]
     ·rw[bM _ _ _ l]
   obtain⟨u,R,f⟩:=O e z;refine⟨u,?_,?_⟩
   ·rw[←R];cases p.root<;>rfl
   ·rcases f with f|f
    ·exact .inl f
    ·refine .inr ?_;have:=f.ren (ρ:=ρ)
     rwa [d _ (by simp)]at this
 ·refine aF.append hs 0 hv _ _ (aF.ren hs 0 0 _ (λ k _=>d _ (by simp)) D) ?_;rw[aI t];refine⟨_,[],rfl,?_,rfl⟩;have:=K.ren (ρ:=ρ);rw[i]at this;simpa using this
theorem JQ (h:Rel E C s a w g) {hs:LC} {hv:LV} (R:aF w g .hand 0 hs hv) {x:Operand} {ag:Bool} {want:List (Sh×Tg)} {ds:LC} {us:List Upd} (f:(KT s (at_ E s x) x ag want).run=some (ds,us)):
 ∃g',Rel E C (s.dX us) a w g'/\aF w g' .hand 0 (hs++ds) (hv++(a.eval x).cells.toList)/\g'.at_=g.at_/\Keeps w w g.F g'.F/\(∀b n,g.own b=some (.box n)->g'.own b=some (.box n))/\isAgg (a.eval x)=ag/\Tagged ds want:=by
 unfold KT at f
 have S: ∀{mk:Nat->aG} {i:Nat} {cs:LC} {vs:LV},aF w g mk i cs vs->bJ cs=true->weaken cs want=some ds->us= []->vs=(a.eval x).cells.toList->isAgg (a.eval x)=ag->
  ∃g',Rel E C (s.dX us) a w g'/\aF w g' .hand 0 (hs++ds) (hv++(a.eval x).cells.toList)/\g'.at_=g.at_/\Keeps w w g.F g'.F/\(∀b n,g.own b=some (.box n)->g'.own b=some (.box n))/\isAgg (a.eval x)=ag/\Tagged ds want:=by
  intro mk i cs vs t hp B U b5 m;subst U;rw[←b5];exact⟨g,h,aF.append hs 0 hv _ _ R (xQ hp B t),rfl,Keeps.refl _ _,λ _ _ e=>e,m,fB B⟩
 split at f
 ·rename_i D cs K;have hv:=aK h K (by simp);obtain⟨m,f⟩:=bg f;have m:D=ag:=by simpa using m
  split at f
  ·exact(aj f).elim
  ·rename_i M B;simp only[cond_eq_ite]at f;split at f
   ·rename_i hp;have:=au f;simp only[aay]at this;obtain⟨rfl,rfl⟩:=this;exact S hv.2 hp B rfl rfl (hv.1.trans m)
   ·cases x with
    |tmp n=>
     have:=au f;simp only[aay]at this;obtain⟨rfl,rfl⟩:=this;have b6:(s.tm n).1= .val D cs:=K;have e:s.tm n=(.val D cs,(s.tm n).2):=by rw[←b6]
     have b7:bf s ⟨.tmp n,(s.tm n).2,[],0,none⟩ cs.length=some cs:=by
      rw[bQ];refine⟨cs.map λ c=>(c,(s.tm n).2),?_,by simp,by simp,by rw[←qo,nN];simp⟩;simp only[aB];rw[e]
     have b8:(iL cs want).length=cs.length:=by
      obtain⟨Z,_,h3⟩:=qF B
      have: ∀(cs:LC) (want:List (Sh×Tg)),cs.length=want.length->(iL cs want).length=cs.length:=by
       intro cs
       induction cs with
       |nil=>intro want _;cases want<;>rfl
       |cons c cs ih=>
        intro want hl
        cases want with
        |nil=>simp at hl
        |cons y ys=>obtain⟨_,_⟩:=y;simp[iL,ih ys (by simpa using hl)]
      exact this cs want Z
     have a2:jU s ⟨.tmp n,(s.tm n).2,[],0,none⟩ (iL cs want) false=some [.keep n (.val D (iL cs want))]:=by
      simp only[jU];rw[e];simp only[cond_false,acF,cond_true,yF _ _ b8]
     obtain⟨g',r,k,N,O,Q⟩:=DF h R b7 B a2;have d0:=hv.2.length
     have:((aC a w g (.tmp n)).drop 0).take cs.length=(a.eval (.tmp n)).cells.toList:=by
      simp only[aC,abA];exact aaJ (by omega)
     rw[this]at k;exact⟨g',r,k,N,O,Q,hv.1.trans m,fB B⟩
    |const v=>exact(aj f).elim
    |global v=>exact(aj f).elim
    |func v=>exact(aj f).elim
 ·rename_i p D n K;obtain⟨_,_,G,hv⟩:=aK h K (by simp);obtain⟨m,f⟩:=bg f;have m:D=ag:=by simpa using m
  obtain⟨cs,t,f⟩:=aT f;have t:=iE G t;obtain⟨Z,h2⟩:=hv _ t;unfold KR at f;split at f
  ·exact(aj f).elim
  ·rename_i M B;simp only[cond_eq_ite]at f;split at f
   ·rename_i hp;have:=au f;simp only[aay]at this;obtain⟨rfl,rfl⟩:=this;exact S (h.pl t).1 hp B rfl h2.symm (Z.trans m)
   ·rw[G]at f;simp only[]at f;split at f
    ·rename_i a3 U;have:=au f;simp only[aay]at this;obtain⟨rfl,rfl⟩:=this;obtain⟨g',r,k,N,O,Q⟩:=DF h R t B U;rw[←h2]at k;rw[←PI U]at r;exact⟨g',r,k,N,O,Q,Z.trans m,fB B⟩
    ·exact(aj f).elim
 ·rename_i p z lo hi K;obtain⟨_,_,G,_,hv⟩:=aK h K (by simp)
  cases I:ag with
  |true=>rw[I]at f;exact(aj f).elim
  |false=>
   rw[I]at f;simp only[cond_false]at f;obtain⟨cs,t,f⟩:=aT f;have t:=iE G t;obtain⟨c,rfl⟩:=G6 t;simp only[]at f;split at f
   ·exact(aj f).elim
   ·rename_i d hd;split at f
    ·exact(aj f).elim
    ·rename_i M B;obtain⟨c1,f⟩:=bg f;rw[G]at f;simp only[]at f;split at f
     ·rename_i a3 U;have:=au f;simp only[aay]at this;obtain⟨rfl,rfl⟩:=this;obtain⟨L,d6,rfl⟩:=tN hd;obtain⟨tg,rfl,rfl,c2⟩:=O4 B
      have c3:tg= .pure:=by
       have:=uq c1 _ (aah.2 rfl);exact this
      subst c3;obtain⟨A,l,k,e1,Z,h2,h3,h4⟩:=hv c t
      have c4:weaken [c] [(c.sh,.pure)]=some [c.to .pure]:=by
       have a4:Tg.le .pure c.tg=true:=c2;have c5:c.sh.adn .pure=true:=by cases hs:c.sh<;>first|rfl|(rw[hs]at L;simp[Sh.qH]at L)
       simp[weaken,Sh.beq_refl,a4,c5]
      obtain⟨g',r,a5,N,O,Q⟩:=DF h R t c4 U;obtain⟨u,e2,_,e3⟩:=qA h t;rw[e1]at e2;cases e2;rw[e3]at a5;obtain⟨l1,l2,l3⟩:=sU.1 a5;have W:isAgg (a.eval x)=false:=by rw[h4];rfl
      refine⟨g',r,?_,N,O,Q,W,fB B⟩;rw[aI W];refine sU.2 ⟨l1,l2,?_⟩;rw[h4];exact jL.sub L l3 Z h2
     ·exact(aj f).elim
 ·rename_i K
  cases I:ag with
  |true=>rw[I]at f;exact(aj f).elim
  |false=>
   rw[I]at f;simp only[cond_false]at f;obtain⟨M,hn,f⟩:=aT f;have:=au f;simp only[aay]at this;obtain⟨rfl,rfl⟩:=this;obtain⟨sh,tg,rfl,L,rfl⟩:=V8 hn
   have a6:a.eval x= .slice none 0 0:=by
    rcases h.at_ x with⟨_,e⟩|e
    ·exact e
    ·rw[K]at e;exact e.elim
   rw[a6];exact⟨g,h,sU.2 ⟨R.length,R,QK L tg⟩,rfl,Keeps.refl _ _,λ _ _ e=>e,rfl,rfl⟩
 ·rename_i p D n K;have hv:=aK h K (by simp)
  obtain⟨a7,f⟩:(D=false/\ag=false)/\_:=by
   cases D<;>cases ag<;>first|exact⟨⟨rfl,rfl⟩,f⟩|exact(aj f).elim
  obtain⟨rfl,rfl⟩:=a7;simp only[Bool.or_self,cond_false]at f;split at f
  ·rename_i c i j hd;obtain⟨cs,c6,f⟩:=aT f;split at f
   ·rename_i e sh tg c' hm q1 q2;split at f
    ·rename_i M a3 B U;have:=au f;simp only[aay]at this;obtain⟨rfl,rfl⟩:=this;obtain⟨g',r,Y,k,N,O,Q⟩:=QF (mk:=V9 x) h R hv hd c6 hm U;have a8:=fB B;simp only[weaken,cond_eq_ite,aaL]at B;split at B
     ·rename_i t;simp only[aae]at t;simp only[aag]at B;subst B;rw[aI Y]at k ⊢;obtain⟨hl,c7,hr⟩:=sU.1 k;obtain⟨g1,f1,b1,o1,a1,p1,_⟩:=hr.weak r.base t.1.2 (by rw[aY7 t.1.1];exact t.2);refine⟨g1,r.world (f1.mono λ o ho=>ho _) b1 a1,sU.2 ⟨hl,aF.frB f1 hs 0 _ (λ q _ hq e=>by simp at e;omega) c7,p1⟩,a1.trans N,O.trans f1.keeps,λ b n e=>by rw[o1];exact Q b n e,Y,a8⟩
     ·cases B
    ·exact(aj f).elim
   ·exact(aj f).elim
  ·exact(aj f).elim
 ·rename_i p q c K;split at f
  ·rename_i sh n;obtain⟨t,f⟩:=bg f;simp only[aae,abw]at t;obtain⟨⟨m,c9⟩,a9⟩:=t;have:=au f;simp only[aay]at this;obtain⟨rfl,rfl⟩:=this;have b0:c.tg= .own:=by unfold Tg.GK at a9;split at a9<;>simp_all
   obtain⟨g',r,k,N,O,Q,h3⟩:=adO h R K b0;exact⟨g',r,k,N,O,Q,h3.trans m.symm,by simp[Tagged,aY7 c9,b0]⟩
  ·exact(aj f).elim
 ·exact(aj f).elim
def N9 (w:World) (g:Gh):PK->Option Nat->Value->LV->Prop
 | .val ag _,none,v,sg=>isAgg v=ag/\v.cells.toList=sg
 | .rptr want,none,v,sg=>(∃b off,v= .pointer (some ⟨b,off,none⟩)/\O9 w g.F ⟨b,off,none⟩ sg)/\want.all (·.2.isPure)=true
 | .ptr _,some n,v,sg=>v= .pointer (some ⟨g.at_ n,0,none⟩)/\g.own (g.at_ n)=some (.box n)/\ ∃cur d,w.heap[g.at_ n]? =some (.cells cur d (0,0))/\sg=cur.toList
 | .fn f,none,v,_=>v= .func (.func f) #[] #[]
 | .io _,none,v,sg=>isAgg v=false/\v.cells.toList=sg
 |_,_,_,_=>False
def yI (w:World) (g:Gh):List PK->List (Option Nat)->LV->List (LV)->Prop
 | [],[],[],[]=>True
 |p::ps,b::e,v::f,sg::d=>N9 w g p b v sg/\sg.length=p.cells.length/\yI w g ps e f d
 |_,_,_,_=>False
theorem N9.mono (k:Keeps w w g.F g'.F) (d:g'.at_=g.at_) (i: ∀b n,g.own b=some (.box n)->g'.own b=some (.box n)) {p:PK} {b:Option Nat} {v:Value} {sg:LV} (h:N9 w g p b v sg):N9 w g' p b v sg:=by
 cases p with
 |val ag want=>cases b<;>exact h
 |fn f=>cases b<;>exact h
 |clo f want=>cases b<;>exact h
 |io want=>cases b<;>exact h
 |rptr want=>
  cases b with
  |none=>obtain⟨⟨b,off,e,l⟩,m⟩:=h;exact⟨⟨b,off,e,l.keeps k⟩,m⟩
  |some n=>exact h
 |ptr want=>
  cases b with
  |none=>exact h
  |some n=>obtain⟨e,q,cur,t,u,y⟩:=h;exact⟨by rw[d];exact e,by rw[d];exact i _ _ q,cur,t,by rw[d];exact u,y⟩
theorem Keeps.same {F F':Fz} (h: ∀b o,F b o->F' b o):Keeps w w F F':=⟨h,λ _ _ _=>rfl⟩
theorem Tagged.append {d e:LC} {f g:List (Sh×Tg)} (i:Tagged d f) (k:Tagged e g):Tagged (d++e) (f++g):=by
 simp only[Tagged,abr]at *;rw[i,k]
theorem Zi {n:Nat} {d:List (Option Nat)} (h:ah2 n d=true):n∉d.filterMap id:=by
 intro f;obtain⟨b,g,e⟩:=List.mem_filterMap.1 f;simp only[id]at e;subst e;have:=aaV.1 h _ g;simp at this
theorem Vq {cs:LC} {want:List (Sh×Tg)} (h:Tagged cs want) (d:bJ cs=true):want.all (·.2.isPure)=true:=by
 rw[←h,aaV];intro x e;obtain⟨c,f,rfl⟩:=aaB.1 e;exact aaV.1 d c f
theorem U2 {cs:LC} {want:List (Sh×Tg)} (h:Tagged cs want) (d:want.all (·.2.isPure)=true):bJ cs=true:=by
 rw[←h,List.all_map]at d;exact d
theorem adN (h:Rel E C s a w g) {hs:LC} {hv:LV} (y:aF w g .hand 0 hs hv) {x:Operand} {want:List (Sh×Tg)} {ds:LC} (d:(YG (at_ E s x) want).run=some ds):
 ∃sg,N9 w g (.rptr want) none (a.eval x) sg/\aF w g .hand 0 (hs++ds) (hv++sg)/\Tagged ds want/\bJ ds=true:=by
 unfold YG at d;split at d
 ·rename_i cs off z;obtain⟨ad,u,e,f,v,p⟩:=aK h z (by simp);obtain⟨i,d⟩:=bg d;have i:=abk i;split at d
  ·rename_i A q;obtain⟨k,d⟩:=bg d;obtain rfl:=au d;have B:=p.length;have l:=p.sub off want.length
   have t:bJ ((cs.drop off).take want.length)=true:=by
    rw[bJ,aaV]at v ⊢;intro c p;exact v c (abD (abq p))
   refine⟨(u.drop off).take want.length,⟨⟨ad.block,ad.off+off,e,λ j D=> ?_⟩,Vq (fB q) k⟩,aF.append hs 0 hv _ _ y (xQ t q l),fB q,k⟩;have m:j<want.length/\off+j<u.length:=by simp at D;omega
   have:=f (off+j) m.2;simp only at this ⊢;rw[aam,if_pos m.1,aar,abK];exact this
  ·exact(aj d).elim
 ·exact(aj d).elim
theorem MZ {n:Nat}: ∀(us:List Upd) (s:St),(s.bx n).isSome=true->((s.dX us).bx n).isSome=true
 | [],_,h=>h
 |u::us,s,h=>by
  refine MZ us (u.on s) ?_
  cases u with
  |tm k t=>exact h
  |keep k t=>exact h
  |bx k b=>
   simp only[Upd.on,put];cases Nat.beq n k<;>simp[h]
  |cl k l=>
   simp only[Upd.on,put]
   cases d:Nat.beq n k with
   |false=>exact h
   |true=>have:=aao d;subst this;simpa using h
theorem yR {α:Type}: ∀(l:List (Nat×α)) (cs:List α),(setMany cs l).length=cs.length
 | [],_=>rfl
 |(i,c)::l,cs=>by simp only[setMany];rw[yR l];simp
def over {α:Type}:List (Nat×α)->Nat->α->α
 | [],_,x=>x
 |(j,c)::l,i,x=>over l i (if j=i then c else x)
theorem Cc {α:Type}: ∀(l:List (Nat×α)) (cs:List α) (i:Nat),(setMany cs l)[i]? =(cs[i]?).map (over l i)
 | [],cs,i=>by simp[setMany,over]
 |(j,c)::l,cs,i=>by
  simp only[setMany];rw[Cc l];by_cases d:j=i
  ·subst d;by_cases e:j<cs.length
   ·simp[over,e]
   ·rw[aai (by simp;omega),aai (by omega)];rfl
  ·simp only[aaU,if_neg d]
   cases cs[i]? with
   |none=>rfl
   |some x=>simp[over,if_neg d]
theorem Qd {α:Type}: ∀(l:List (Nat×α)) (i:Nat) (x:α),(∀c,c∈l->c.1≠i)->over l i x=x
 | [],_,_,_=>rfl
 |(j,c)::l,i,x,h=>by
  simp only[over,if_neg (h (j,c) (by simp))];exact Qd l i x λ d e=>h d (by simp[e])
theorem Y9 {e:Nat}: ∀{want:List (Sh×Tg)} {j:Nat} {cs:LC} {old:List (CV×Nat)} {c:Nat×CV×Nat},c∈iV e j cs old want->j<=c.1
 | [],j,cs,old,c,h=>by cases cs<;>cases old<;>simp[iV]at h
 |(sh,tg)::want,j,[],old,c,h=>by simp[iV]at h
 |(sh,tg)::want,j,_::_,[],c,h=>by simp[iV]at h
 |(sh,tg)::want,j,g::cs,(i,k)::old,c,h=>by
  have d:c∈iV e (j+1) cs old want->j<=c.1:=λ f=>Nat.le_of_succ_le (Y9 f);cases tg<;>simp only[iV,aaQ]at h<;>first|exact d h|(rcases h with rfl|h;exact aav _;exact d h)
def aeT (tg:Tg) (x y:CV×Nat):CV×Nat:=match tg with| .dead=>x|_=>y
theorem Lr {e:Nat}: ∀{want:List (Sh×Tg)} {j:Nat} {cs:LC} {old:List (CV×Nat)} {i:Nat} {sh:Sh} {tg:Tg} {c:CV} {o:CV×Nat} (x:CV×Nat),want[i]? =some (sh,tg)->cs[i]? =some c->old[i]? =some o->
 over (iV e j cs old want) (j+i) x=aeT tg x (c,o.2+e)
 | [],_,_,_,_,_,_,_,_,_,h,_,_=>by simp at h
 |_::_,_,[],_,_,_,_,_,_,_,_,h,_=>by simp at h
 |_::_,_,_::_,[],_,_,_,_,_,_,_,_,h=>by simp at h
 |(p,f)::want,j,t::cs,(u,v)::old,0,sh,tg,c,o,x,k,l,m=>by
  simp only[aaN,aag,aay]at k l m;obtain⟨rfl,rfl⟩:=k;subst l m;have out: ∀y,over (iV e (j+1) cs old want) (j+0) y=y:=λ y=>Qd _ _ _ λ d z=>by have:=Y9 z;omega
  cases f<;>simp only[iV,over,aaZ,if_true,aeT]<;>exact out _
 |(p,f)::want,j,t::cs,(u,v)::old,i+1,sh,tg,c,o,x,k,l,m=>by
  have g: ∀y,over (iV e (j+1) cs old want) (j+(i+1)) y=aeT tg y (c,o.2+e):=λ y=>by
   have:=Lr (e:=e) (j:=j+1) y (by simpa using k) (by simpa using l) (by simpa using m)
   rwa [show j+1+i=j+(i+1) by omega]at this
  have q: ¬j=j+(i+1):=by omega
  cases f<;>simp only[iV,over,if_neg q]<;>exact g x
theorem ad5 {n:Nat} {b:Bx} {new:LC} {want:List (Sh×Tg)} (l:s.bx n=some b) (t:new.length=want.length) (u:b.cells.length=want.length) (m: ∀(i:Nat) (sh:Sh),want[i]? =some (sh,Tg.dead)->new[i]? =(b.cells[i]?).map (λ x=>x.1)):
 s.dX [.cl n (iV 0 0 new b.cells want)]=s.dX [.bx n ⟨b.inst,(new.zip b.cells).map λ x=>(x.1,x.2.2)⟩]:=by
 have e:setMany b.cells (iV 0 0 new b.cells want)=(new.zip b.cells).map λ x=>(x.1,x.2.2):=by
  apply aaT;intro i;rw[Cc];rcases aaF i want.length with d|d
  ·have g:new[i]? =some (new[i]'(by omega)):=aac (by omega);have f:b.cells[i]? =some (b.cells[i]'(by omega)):=aac (by omega);have k:want[i]? =some ((want[i]'d).1,(want[i]'d).2):=aac d;have p:(new.zip b.cells)[i]? =some (new[i]'(by omega),b.cells[i]'(by omega)):=acy.2 ⟨g,f⟩;have:=Lr (e:=0) (j:=0) (b.cells[i]'(by omega)) k g f;rw[aa0]at this;rw[aas,p,f];simp only[aaL,this,aag];unfold aeT;split
   ·rename_i q;have:=m i _ (by rw[k,q]);rw[g,f]at this;simp only[aaL,aag]at this;rw[this]
   ·rfl
  ·rw[aai (by omega),aai (by simp;omega)];rfl
 simp only[St.dX,acC,acS,Upd.on,l,aaL,e]
theorem adM (h:Rel E C s a w g) {hs:LC} {hv:LV} (M:aF w g .hand 0 hs hv) {x:Operand} {pk:PK} {bs:List (Option Nat)} {ds:LC} {us:List Upd} {b:Option Nat} (d:(RD s bs pk (at_ E s x) x).run=some (ds,us,b)):
 ∃g' sg,Rel E C (s.dX us) a w g'/\aF w g' .hand 0 (hs++ds) (hv++sg)/\g'.at_=g.at_/\Keeps w w g.F g'.F/\(∀b n,g.own b=some (.box n)->g'.own b=some (.box n))/\N9 w g' pk b (a.eval x) sg/\Tagged ds pk.cells/\
  (∀n,b=some n->n∉bs.filterMap id/\(s.bx n).isSome=true):=by
 unfold RD at d
 cases pk with
 |val ag want=>
  simp only[]at d;obtain⟨⟨B,t⟩,u,d⟩:=aT d;have:=au d;simp only[aay]at this;obtain⟨rfl,rfl,rfl⟩:=this;obtain⟨g',r,k,A,N,K,D,W⟩:=JQ h M u;exact⟨g',_,r,k,A,N,K,⟨D,rfl⟩,W,λ n e=>by cases e⟩
 |io want=>
  simp only[]at d;obtain⟨⟨B,t⟩,u,d⟩:=aT d;have:=au d;simp only[aay]at this;obtain⟨rfl,rfl,rfl⟩:=this;obtain⟨g',r,k,A,N,K,D,W⟩:=JQ h M u;exact⟨g',_,r,k,A,N,K,⟨D,rfl⟩,W,λ n e=>by cases e⟩
 |rptr want=>
  simp only[]at d;obtain⟨B,u,d⟩:=aT d;have:=au d;simp only[aay]at this;obtain⟨rfl,rfl,rfl⟩:=this;obtain⟨sg,k1,k2,k3,_⟩:=adN h M u;exact⟨g,sg,h,k2,rfl,Keeps.refl _ _,λ _ _ e=>e,k1,k3,λ n e=>by cases e⟩
 |clo f want=>exact(aj d).elim
 |fn f=>
  simp only[]at d;split at d
  ·rename_i f' Y;have O:=bg d;have hf:=aao O.1;have:=au O.2;simp only[aay]at this;obtain⟨rfl,rfl,rfl⟩:=this;have hv:=aK h Y (by simp);subst hf;exact⟨g,[],h,by simpa using M,rfl,Keeps.refl _ _,λ _ _ e=>e,hv,rfl,λ n e=>by cases e⟩
  ·exact(aj d).elim
 |ptr want=>
  simp only[]at d;split at d
  ·rename_i p Y;split at d
   ·rename_i n cs Q Z hc;obtain⟨v,d⟩:=bg d;simp only[aae]at v;obtain⟨⟨l,a1⟩,z⟩:=v;have l:=aao l;split at d
    ·rename_i B t hw L;have:=au d;simp only[aay]at this;obtain⟨rfl,rfl,rfl⟩:=this;obtain⟨_,hv⟩:=aK h Y (by simp);rw[Z]at hv;obtain⟨n',R,hv⟩:=hv;rw[Q]at R;cases R;obtain⟨g',r,k,A,N,K⟩:=DF h M hc hw L
     have q: ∃b,s.bx n=some b/\b.inst=p.inst:=by
      have:=hc;rw[bQ]at this;obtain⟨cells,e,_⟩:=this;rw[Q]at e;simp only[aB]at e
      cases q:s.bx n with
      |none=>rw[q]at e;simp at e
      |some b=>rw[q]at e;simp only[aag,aay]at e;exact⟨b,rfl,e.1⟩
     obtain⟨b,q,a3⟩:=q;obtain⟨cur,et,h1,h2,_,h4⟩:=h.bx n b q;rw[q]at z;simp only at z;have z:=aao z
     have G:s.dX (bif qZ want then[.cl n (iV 0 0 (iL cs want) (zA s n) want)]else t)=s.dX t:=by
      cases qZ want with
      |false=>rfl
      |true=>
       obtain⟨I,_,S⟩:=qF hw
       have a4:cs=b.cells.map (·.1):=by
        have U:=hc;rw[bQ]at U;obtain⟨cells,e,q1,q2,q3⟩:=U;rw[Q]at e;simp only[aB,q,aag,aay]at e;obtain⟨_,rfl⟩:=e;rw[q3,l,abA,aaJ (by omega)]
       have a5:(iL cs want).length=want.length:=by
        have: ∀(cs:LC) (want:List (Sh×Tg)),cs.length=want.length->(iL cs want).length=cs.length:=by
         intro cs
         induction cs with
         |nil=>intro want _;cases want<;>rfl
         |cons c cs ih=>
          intro want hl
          cases want with
          |nil=>simp at hl
          |cons y ys=>obtain⟨_,_⟩:=y;simp[iL,ih ys (by simpa using hl)]
        rw[this cs want I,I]
       have a6:t= [.bx n ⟨b.inst,((iL cs want).zip b.cells).map λ x=>(x.1,x.2.2)⟩]:=by
        unfold jU at L;simp only[Q,q,l,cond_eq_ite]at L;split at L
        ·cases L;simp only[acz,abA,abT,aa0,abb,if_false];rw[aa2 (by omega),aaM]
        ·cases L
       rw[a6];simp only[cond_true,zA,q];refine ad5 q a5 z λ i sh hd=> ?_
       have hi:i<cs.length:=by
        rw[I];rcases aaF i want.length with h|h
        ·exact h
        ·simp[aai h]at hd
       obtain⟨c3,c4,e1,_,_,_,e5⟩:=S i cs[i] (aac hi);rw[hd]at e1;simp only[aag,aay]at e1;obtain⟨_,rfl⟩:=e1;rw[e5,←aas,←a4,aac hi];congr 1;unfold leftAs;cases cs[i].isPure<;>rfl
     rw[G];have a8:=h4.length;simp only[aaH,aa8]at a8;refine⟨g',_,r,k,A,N,K,⟨by rw[A,←l];exact hv b q a3,by rw[A];exact K _ _ h2,cur,et,by rw[A];exact h1,?_⟩,fB hw,λ m e=>by cases e;exact⟨Zi a1,by rw[q];rfl⟩⟩;rw[Q,l,yB h1,abA];exact aaJ (by simp;omega)
    ·exact(aj d).elim
   ·exact(aj d).elim
  ·exact(aj d).elim
theorem yI.mono (k:Keeps w w g.F g'.F) (e:g'.at_=g.at_) (l: ∀b n,g.own b=some (.box n)->g'.own b=some (.box n)): ∀{ps:List PK} {f:List (Option Nat)} {i:LV} {d:List (LV)},yI w g ps f i d->yI w g' ps f i d
 | [],[],[],[],_=>trivial
 |p::ps,b::f,v::i,sg::d,⟨m,q,t⟩=>⟨m.mono k e l,q,yI.mono k e l t⟩
theorem Ox: ∀(ps:List PK) (K:List Operand) (A:List (Option Nat)) (s:St) (g:Gh) (hs:LC) (hv:LV) (us:List Upd) (d:LC) (k:List Upd) (f:List (Option Nat)),Rel E C s a w g->aF w g .hand 0 hs hv->
 (A.filterMap id).Nodup->(xu E ps K A s hs us).run=some (d,k,f)->
 ∃i l ds g' q,k=us++i/\f=A++l/\d=hs++ds/\Rel E C (s.dX i) a w g'/\aF w g' .hand 0 d (hv++q.flatten)/\g'.at_=g.at_/\Keeps w w g.F g'.F/\(∀b n,g.own b=some (.box n)->g'.own b=some (.box n))/\
  yI w g' ps l (K.map a.eval) q/\Tagged ds (ps.flatMap PK.cells)/\(f.filterMap id).Nodup/\(∀n,some n∈l->((s.dX i).bx n).isSome=true)
 | [],[],A,s,g,hs,hv,us,d,k,f,h,L,t,m=>by
   have:=au m;simp only[aay]at this;obtain⟨rfl,rfl,rfl⟩:=this;exact⟨[],[],[],g,[],by simp,by simp,by simp,h,by simpa using L,rfl,Keeps.refl _ _,λ _ _ e=>e,trivial,rfl,t,λ n B=>by cases B⟩
 | [],_::_,_,_,_,_,_,_,_,_,_,_,_,_,m=>(aj m).elim
 |_::_,[],_,_,_,_,_,_,_,_,_,_,_,_,m=>(aj m).elim
 |p::ps,x::K,A,s,g,hs,hv,us,d,k,f,h,L,t,m=>by
  simp only[xu]at m;obtain⟨⟨ds,u,b⟩,M,m⟩:=aT m;simp only[]at m;obtain⟨g1,sg,r1,U,a1,N,O,pv,W,Y⟩:=adM h L M
  obtain⟨i,l,Q,g',q,e1,e2,e3,r2,k2,Z,D,G,R,S,I,v⟩:=Ox ps K (A++[b]) (s.dX u) g1 (hs++ds) (hv++sg) (us++u) d k f r1 U (by
   cases b with
   |none=>simpa using t
   |some n=>
    have:=(Y n rfl).1;simp only[List.filterMap_append,List.filterMap_cons,id,List.filterMap_nil];rw[acD];refine⟨t,by simp,λ y hy z hz=> ?_⟩;simp only[aah]at hz;subst hz;rintro rfl;exact this hy) m
  have b2:ds.length=sg.length:=by
   have h1:=U.length;have h2:=L.length;simp only[aaq]at h1;omega
  have b4:ds.length=p.cells.length:=by have:=congrArg List.length W;simpa using this
  refine⟨u++i,b::l,ds++Q,g',sg::q,by rw[e1,aaD],by rw[e2];simp,by rw[e3,aaD],by rw[eH];exact r2,?_,Z.trans a1,N.trans D,λ b n e=>G b n (O b n e),⟨pv.mono D Z G,by omega,R⟩,?_,I,λ n B=> ?_⟩
  ·rw[ace,←aaD];exact k2
  ·rw[abo];exact W.append S
  ·rw[eH];rcases aaQ.1 B with rfl|B
   ·exact MZ i _ (MZ u _ (Y n rfl).2)
   ·exact v n B
end
section
variable {P:Program} {E:Env} {C:Ctx} {s s':St} {a a':Act} {w w':World} {g g':Gh} {o:Oper} {Q:Exit->Act->World->Prop}
theorem MI (ag:Bool) (want:List (Sh×Tg)): ∀(ps:List (Nat×Operand)) (k:Nat) (s:St) (g:Gh) (hs:LC) (hv:LV) (rows:List (LC)) (l:List Upd) (d:List (LC)) (m:List Upd),
 Rel E C s a w g->aF w g .hand 0 hs hv->rows.reverse.flatten=hs->(yC E ag want ps k s rows l).run=some (d,m)->
 ∃p g' rest,m=l++p/\Rel E C (s.dX p) a w g'/\aF w g' .hand 0 d.flatten (hv++ps.flatMap λ x=>(a.eval x.2).cells.toList)/\d=rows.reverse++rest/\
  rest.map List.length=ps.map (λ x=>(a.eval x.2).cells.size)/\ps.map (·.1)=List.range' k ps.length/\ ∀r,r∈rest->Tagged r want
 | [],k,s,g,hs,hv,rows,l,d,m,h,y,q,f=>by
   simp only[yC]at f;have:=au f;simp only[aay]at this;obtain⟨rfl,rfl⟩:=this;exact⟨[],g,[],by simp,h,by rw[q];simpa using y,by simp,rfl,rfl,λ r f=>by cases f⟩
 |(i,x)::ps,k,s,g,hs,hv,rows,l,d,m,h,y,q,f=>by
  simp only[yC]at f;obtain⟨t,f⟩:=bg f;have t:=aao t;subst t;obtain⟨⟨ds,u⟩,G,f⟩:=aT f;simp only[]at f;obtain⟨I,K,v,_,_,_,_,z⟩:=JQ h y G;obtain⟨p,g',rest,e,L,A,M,N,O,B⟩:=MI ag want ps (i+1) (s.dX u) I (hs++ds) _ (ds::rows) (l++u) d m K v (by simp[q]) f
  have D:ds.length=(a.eval x).cells.size:=by
   have Q:=v.length;have R:=y.length;simp only[aaq]at Q;have:(a.eval x).cells.toList.length=(a.eval x).cells.size:=by simp
   omega
  refine⟨u++p,g',ds::rest,by rw[e,aaD],by rw[eH];exact L,?_,by rw[M];simp,by simp[D,N],?_,λ r f=>by
   rcases aaQ.1 f with rfl|f
   ·exact z
   ·exact B r f⟩
  ·rw[abo,←aaD];exact A
  ·simp only[abm,O,abl];rfl
theorem KI {α:Type} {N:Nat}: ∀(rows:List (List α)),(∀r,r∈rows->r.length=N)-> ∀(i k:Nat),k<N->rows.flatten[i*N+k]? =rows[i]?.bind (·[k]?)
 | [],_,i,k,_=>by simp
 |r::rs,h,0,k,f=>by
  rw[ace,aaw (by rw[h r (by simp)];omega)];simp
 |r::rs,h,i+1,k,f=>by
  have d:=h r (by simp);have e:(i+1)*N+k=N+(i*N+k):=by rw[abx];omega
  rw[ace,e,aaC (by omega),d,Nat.add_sub_cancel_left,KI rs (λ r d=>h r (by simp[d])) i k f];simp
theorem Jh {α:Type} {f:LC->Option α}: ∀{rows:List (LC)} {l:List α},kE f rows=some l-> ∀(i:Nat) (e:α),l[i]? =some e-> ∃r,rows[i]? =some r/\EP r=true/\f r=some e
 | [],l,h,i,e,d=>by simp[kE]at h;subst h;simp at d
 |r::rs,l,h,i,e,d=>by
  obtain⟨p,q,g,k,m,rfl⟩:=qB h
  cases i with
  |zero=>simp at d;subst d;exact⟨r,rfl,g,k⟩
  |succ i=>simpa using Jh m i e (by simpa using d)
theorem YJ (h:Rel E C s a w g) {d:Nat} (hd:DOk E d) {es:List Sh} {rows:List (LC)} {l:List (ElA es)} {L:LV} (hh:aF w g .hand 0 rows.flatten L) (W: ∀r,r∈rows-> ∀c,c∈r->c.tg=c.sh.top)
 (hl:kE (iq es) rows=some l) (q: ∀r,r∈rows->r.length=es.length) (e:TypeId) (a7:l.length<=maxLen):
 ∃g',Rel E C (s.dX [.tm d (.val false [⟨.dl es,.own,List.map some l⟩])]) (a.put (some d) (.slice (some ⟨w.heap.size,0,none⟩) l.length l.length)) (w.alloc (.cells L.toArray e)) g':=by
 have t: ∀b ow,g.own b=some ow->b<w.heap.size:=λ b ow e=>(h.base.own b ow e).2;have hF: ∀b o,g.F b o->b<w.heap.size:=λ b o e=>(h.base.fz b o e).2
 let ρ:aG->aG:=λ o=>match o with| .hand _=> .hand 0|o=>o
 have f:=Fr.new (K:=λ o=> ∀i,o≠ .hand i) t hF (ρ:=ρ) (λ o U=>by
  cases o with
  |hand i=>exact absurd rfl (U i)
  |_=>rfl) (.cells L.toArray e) (.hand 0)
 have r1:=h.world f (h.base.new _ _ (λ _ _ _ e=>by cases e;rfl) _) rfl
 let w1:=w.alloc (.cells L.toArray e)
 let Y:=g.new ρ w.heap.size (.hand 0)
 have a9:l.length=rows.length:=(tJ hl).2
 have b0: ∀(rows:List (LC)),(∀r,r∈rows->r.length=es.length)->rows.flatten.length=rows.length*es.length:=by
  intro rows
  induction rows with
  |nil=>intro _;simp
  |cons r rs ih=>
   intro h;rw[ace,aaq,h r (by simp),ih (λ r Z=>h r (by simp[Z])),abl,abx,acX]
 have A:L.length=l.length*es.length:=by rw[hh.length,b0 rows q,a9]
 let B:Nat->Option Nat:=λ k=>(L[k]?).bind λ v=>(blk v).filter λ z=>decide (g.own z=some (.hand k))
 have hB: ∀k z,B k=some z->g.own z=some (.hand k):=by
  intro k z M;simp only[B,aa4,acA,decide_eq_true_eq]at M;obtain⟨v,_,_,h⟩:=M;exact h
 have D:jq w1 Y (.hand 0) w.heap.size es (List.map some l) L:=by
  refine⟨by rw[aaH];exact A,B,λ k M=> ?_,λ i j z hi hj=> ?_,λ i x Q=> ?_⟩
  ·have:=t _ _ (hB k _ M);omega
  ·have a1:=hB i z hi;rw[hB j z hj]at a1;simpa using a1.symm
  ·rw[aas]at Q
   have Q:l[i]? =some x:=by
    cases a0:l[i]? with
    |none=>rw[a0]at Q;cases Q
    |some y=>rw[a0]at Q;simpa using Q
   obtain⟨r,Z,b2,b3⟩:=Jh hl i x Q
   have b4:i<l.length:=by
    rcases aaF i l.length with h|h
    ·exact h
    ·simp[aai h]at Q
   have N:=zS es r x b3;have b5:=q r (aaj Z);have c9:i*es.length+es.length<=L.length:=by rw[A,←abx];exact aaA _ b4
   refine⟨by rw[aaE,abe];omega,λ k c0 v p hv=> ?_⟩;rw[←N,aas]at p
   cases G:r[k]? with
   |none=>rw[G]at p;cases p
   |some c=>
    rw[G]at p;have p:c.to .pure=c0:=by simpa using p
    subst p
    have a2:k<es.length:=by
     rw[←b5];rcases aaF k r.length with h|h
     ·exact h
     ·simp[aai h]at G
    rw[aam,if_pos a2,aar]at hv
    have b6:rows.flatten[i*es.length+k]? =some c:=by
     rw[KI rows q i k a2,Z];exact G
    obtain⟨u,hu,m⟩:=hh.get _ 0 _ _ c b6;have R:L[i*es.length+k]? =some v:=hv;rw[R]at hu;cases hu;rw[aa0]at m;have a3:c∈r:=aaj G;have a4:=W r (aaj Z) c a3
    have S:c.sh.adR=false/\c.sh.JR=false:=by
     have:=aaV.1 b2 c a3;simp only[aae,abw]at this;exact⟨this.1.2,this.2⟩
    show rZ w1 Y (.hand 0) (B (i*es.length+k)) c.sh c.x v;obtain⟨I,ct,cx⟩:=c;simp only at a4 S m ⊢;subst a4;unfold rZ;split
    ·rename_i hs
     have a5:I.qH=true:=by
      rcases Uz hs with e|⟨d1,e⟩
      ·exact e
      ·subst e;simp[Sh.adR]at S
     have e:I.top= .own:=by cases I<;>first|rfl|simp[Sh.qO]at hs
     rw[e]at m;simp only[jZ,if_pos hs]at m;have hp:=(o8 a5).1 m;refine⟨a5,hp.move f.keeps λ z M=> ?_,?_⟩
     ·have U:=hp.nD M;have b8:=t _ _ U;refine⟨?_,nM b8,λ o=>acd⟩;simp only[Y,Gh.new];rw[if_neg (by omega),U];rfl
     ·cases M:blk v with
      |none=>simp only[B,R,aan,M,Option.filter_none]
      |some z=>
       have U:=hp.nD M;symm;simp only[B,R,aan,M,acA,decide_eq_true_eq,true_and];exact U
    ·rename_i hs;have e:I.top= .pure:=by cases I<;>first|rfl|(simp[Sh.qO]at hs;done)|cases S.2
     rw[e]at m;exact jL.keeps f.keeps _ _ _ m
 have m:jZ w1 Y (.hand 0) ⟨.dl es,.own,List.map some l⟩ (.slice (some ⟨w.heap.size,0,none⟩) l.length l.length):=by
  simp only[jZ,Sh.qO,if_true];have O:(List.map some l).length=l.length:=aaH ..;refine .inr ⟨w.heap.size,l.length,L.toArray,e,by simp only[aQ];rw[O],by simp only[aQ];rw[O];exact aav _,a7,by simp[Y,Gh.new],nK,by simp only[Sh.n];simpa using A,⟨⟨rfl,?_⟩,?_⟩,λ o=>⟨λ hf=> ?_,λ hf=>by cases hf.1⟩⟩
  ·simp only[aQ,Sh.n];rw[O];rw[aaJ (by simpa using acG A)];exact D.one
  ·simp only[aQ,Sh.n];rw[O];rw[aaJ (by simpa using acG A)];exact D
  ·have hf:g.F w.heap.size o:=hf;have:=hF _ _ hf;omega
 obtain⟨g2,r2,_,_⟩:=r1.yQ hd (v:= .slice (some ⟨w.heap.size,0,none⟩) l.length l.length) (ag:=false) (cs:=[⟨.dl es,.own,List.map some l⟩]) rfl ⟨_,[],rfl,m,rfl⟩;exact⟨g2,r2⟩
theorem Qc (hT:xU P E.ty) {t:TypeId} {n:Nat} {ps:Array (Nat×Operand)} (ho:o.op= .buildSlice t n ps):rY P E C o:=by
 intro s a w g us d Q h K hd m;simp only[plan,ho,K]at m;split at m
 ·rename_i ag sh fl ft e hi;obtain⟨⟨rows,R⟩,hf,m⟩:=aT m;obtain⟨N,m⟩:=bg m;simp only[aae]at N;have S:=aao N.1.1;have A:=abk N.1.2;have c4:=abk N.2;obtain⟨info,de,z,U⟩:=hT.at_ hi;obtain⟨e6,j,rfl,_,a6,c5,hj,a7⟩:=U.elem rfl;simp only[abh,and_true]at a6;subst a6;obtain⟨ie,e7,z',D⟩:=hT.at_ hj;have c7:ig E e=xJ sh:=by simp only[ig,hj,a7]
  have a8:(ig E e).length=sh.n:=by rw[c7,kX]
  have L:ie.size=sh.n:=by rw[D.size,a7,kX]
  rw[a8]at A c4;obtain⟨e9,g1,rest,eu,r1,hh,er,a9,b0,b1⟩:=MI (ajw E e) _ ps.toList 0 s g [] [] [] [] rows R h rfl rfl hf;simp only[abT,List.reverse_nil]at eu er hh;subst eu er;have b3:ps.toList.length=n:=by have:=congrArg List.length a9;simp only[aaH]at this;omega
  let f:=(ps.map λ x=>(x.1,a.eval x.2)).toList
  have W:f.length=n:=by simp only[f,Array.toList_map,aaH];exact b3
  have M:(ps.toList.flatMap λ x=>(a.eval x.2).cells.toList)=f.flatMap λ v=>v.2.cells.toList:=by
   simp only[f,Array.toList_map,List.flatMap_map]
  have G:(∀r,r∈rows->r.length=sh.n)->(Instr.buildSlice t n (ps.map λ x=>(x.1,a.eval x.2))).run P w= .ok (.slice (some ⟨w.heap.size,0,none⟩) n n) (w.alloc (.cells (f.flatMap λ v=>v.2.cells.toList).toArray e)):=by
   intro B;by_cases Y:n=0
   ·have e0:(ps.map λ x=>(x.1,a.eval x.2))= #[]:=by
     apply abu.1;show f= [];exact aax (by rw[W];exact Y)
    have ev:f= []:=by simp only[f];rw[e0]
    rw[e0,ev,Y];exact Kq w t e ie U.und D.inf
   ·refine run_buildSlice w t e n _ _ ie z' U.und D.inf D.zero (by rw[L];omega) (by rw[L];have:=Nat.mul_pos (Nat.pos_of_ne_zero Y) A;omega) ?_;rw[L];refine Xa A (n:=n) f ?_ _ ?_ (by rw[W];simp)
    ·have e1:f.map (·.1)=ps.toList.map (·.1):=by simp only[f,Array.toList_map,abM];rfl
     rw[e1,W,←b3];exact b0
    ·intro v hv;simp only[f,Array.toList_map,aaB]at hv;obtain⟨p,c9,rfl⟩:=hv;have:(a.eval p.2).cells.size∈rows.map List.length:=by rw[a9];exact aaB.2 ⟨p,c9,rfl⟩
     obtain⟨r,d0,d1⟩:=aaB.1 this;rw[←d1];exact B r d0
  have main: ∀(x:El sh),EP rows.flatten=true->aQ sh x=n->(∀(g:Gh) O,aF w g .hand 0 (rows.flatten.map (·.to .pure)) O->wB w g.F sh x O)->(∀r,r∈rows->r.length=sh.n)->us=R++[.tm d (.val false [⟨sh,.own,x⟩])]->
   o.wp P a w (λ a' w'=> ∃g',Rel E C (s.dX us) a' w' g') Q:=by
   intro x Z a0 b5 B d2;obtain⟨g2,f2,b2,o2,a2,c2⟩:=Ou (by intro i j e;cases e;rfl) r1.base Z hh;have r2:Rel E C (s.dX R) a w g2:=r1.world (f2.mono λ o ho j _ _=>ho j) b2 a2;have hx:=b5 g2 _ c2;have u:=hx.length;rw[a0]at u;have G:=G B;rw[M]at hx u
   obtain⟨g3,r3⟩:=VK r2 hd c5 (x:=x) (cells:=(f.flatMap λ v=>v.2.cells.toList).toArray) (c:=n) e (by
    rw[a0,aaJ (by simpa using acG u)];exact hx) (by omega) (by
    have:n<=n*sh.n:=Nat.le_mul_of_pos_right n A;have:n<=16777216:=by omega
    exact aaX this (by decide)) (by simpa using u)
   have a1:(execOp a.eval o).run P w= .ok (.value (.slice (some ⟨w.heap.size,0,none⟩) n n)) (w.alloc (.cells (f.flatMap λ v=>v.2.cells.toList).toArray e)):=by
    simp only[execOp,ho,Sem.run_bind,G,Result.andThen_ok,Sem.run_pure]
   unfold Oper.wp;rw[a1,Oper.upon_value,K,d2,eH];rw[a0]at r3;exact⟨g3,r3⟩
  cases sh with
  |sl es=>
   simp only[]at m;split at m
   ·rename_i l y;rw[RX]at y
    have b7: ∀r,r∈rows->r.length=es.length:=by
     have: ∀(rows:List (LC)) (l:List (ElA es)),kE (iq es) rows=some l-> ∀r,r∈rows->r.length=es.length:=by
      intro rows
      induction rows with
      |nil=>intro l _ r q;cases q
      |cons r0 rs ih=>
       intro l y r q;obtain⟨e,l',_,h2,h3,rfl⟩:=qB y;rcases aaQ.1 q with rfl|q
       ·have:=congrArg List.length (Iy es r e h2);simpa using this
       ·exact ih l' h3 r q
     exact this rows l y
    cases I:tX E d with
    |true=>
     rw[I]at m;obtain rfl:=au m;have c1:l.length=n:=by rw[(tJ y).2];exact S
     rw[M]at hh
     obtain⟨g3,r3⟩:=YJ r1 hd hh (λ r q c N=>by
      have:=b1 r q;rw[I]at this
      have hm:(c.sh,c.tg)∈(ig E e).map λ sh=>(sh,bif true then sh.top else .pure):=by
       rw[←this];exact aaB.2 ⟨c,N,rfl⟩
      obtain⟨sh,_,e1⟩:=aaB.1 hm;simp only[cond_true,aay]at e1;rw[←e1.1,←e1.2]) y b7 e (by
      have:n<=n*(Sh.sl es).n:=Nat.le_mul_of_pos_right n A;have:n<=16777216:=by omega
      rw[c1];exact aaX this (by decide))
     have a1:(execOp a.eval o).run P w= .ok (.value (.slice (some ⟨w.heap.size,0,none⟩) n n)) (w.alloc (.cells (f.flatMap λ v=>v.2.cells.toList).toArray e)):=by
      simp only[execOp,ho,Sem.run_bind,G b7,Result.andThen_ok,Sem.run_pure]
     unfold Oper.wp;rw[a1,Oper.upon_value,K,eH];rw[c1]at r3;exact⟨g3,r3⟩
    |false=>
    rw[I]at m;obtain rfl:=au m;obtain⟨k1,k2⟩:=tJ y
    refine main l k1 (by show List.length l=n;rw[k2];exact S) (λ g O hv=>FZ (jX es) (λ r e i O hf hv=>EJ .hand es _ e i O (by rw[EC];exact hf) (λ c N=>by
     obtain⟨c',_,rfl⟩:=aaB.1 N;rfl) hv) rows l 0 O y hv) (λ r q=> ?_) rfl
    have: ∀(rows:List (LC)) (l:List (ElA es)),kE (iq es) rows=some l-> ∀r,r∈rows->r.length=es.length:=by
     intro rows
     induction rows with
     |nil=>intro l _ r q;cases q
     |cons r0 rs ih=>
      intro l y r q;obtain⟨e,l',_,h2,h3,rfl⟩:=qB y;rcases aaQ.1 q with rfl|q
      ·have:=congrArg List.length (Iy es r e h2);simpa using this
      ·exact ih l' h3 r q
    exact this rows l y r q
   ·exact(aj m).elim
  |rsl ss=>
   simp only[]at m;split at m
   ·rename_i l y
    cases I:tX E d with
    |true=>rw[I]at m;exact(aj m).elim
    |false=>
    rw[I]at m;obtain rfl:=au m;rw[OG]at y;obtain⟨k1,k2⟩:=tJ y
    refine main l k1 (by show List.length l=n;rw[k2];exact S) (λ g O hv=>FZ (kL ss) (λ r e i O hf hv=>Vs .hand ss _ e i O (by rw[RY];exact hf) (λ c N=>by
     obtain⟨c',_,rfl⟩:=aaB.1 N;rfl) hv) rows l 0 O y hv) (λ r q=> ?_) rfl
    have: ∀(rows:List (LC)) (l:List (RT (ElA ss))),kE (xA ss) rows=some l-> ∀r,r∈rows->r.length=ss.length+1:=by
     intro rows
     induction rows with
     |nil=>intro l _ r q;cases q
     |cons r0 rs ih=>
      intro l y r q;obtain⟨e,l',_,h2,h3,rfl⟩:=qB y;rcases aaQ.1 q with rfl|q
      ·unfold xA at h2;split at h2
       ·rename_i hk;have:=congrArg List.length hk;simp at this;omega
       ·cases h2
      ·exact ih l' h3 r q
    exact this rows l y r q
   ·exact(aj m).elim
  |int k=>exact(aj m).elim
  |bool=>exact(aj m).elim
  |str=>exact(aj m).elim
  |dl _=>exact(aj m).elim
  |mp _ _=>exact(aj m).elim
 ·exact(aj m).elim
end
section
variable {P:Program} {E:Env} {C:Ctx} {s s':St} {a a':Act} {w w':World} {g g':Gh} {o:Oper} {Q:Exit->Act->World->Prop}
def EM (w:World) (g:Gh):List PK->Nat->LC->LV->Prop
 | [],_,cs,e=>cs= []/\e= []
 | .val ag want::ps,i,cs,e=> ∃v d,e=v::d/\EO w g (.tm i) 0 ag (cs.take want.length) v/\EM w g ps (i+1) (cs.drop want.length) d
 | .ptr want::ps,i,cs,e=> ∃v d,e=v::d/\(v= .pointer (some ⟨g.at_ i,0,none⟩)/\EL w g i ⟨0,(cs.take want.length).map λ c=>(c,0)⟩)/\EM w g ps (i+1) (cs.drop want.length) d
 | .rptr want::ps,i,cs,e=> ∃v d,e=v::d/\(∃b off sg,v= .pointer (some ⟨b,off,none⟩)/\O9 w g.F ⟨b,off,none⟩ sg/\bJ (cs.take want.length)=true/\aF w g (.tm i) 0 (cs.take want.length) sg)/\EM w g ps (i+1) (cs.drop want.length) d
 | .fn f::ps,i,cs,e=> ∃v d,e=v::d/\v= .func (.func f) #[] #[]/\EM w g ps (i+1) cs d
 | .io want::ps,i,cs,e=> ∃v d,e=v::d/\EO w g (.tm i) 0 false (cs.take want.length) v/\EM w g ps (i+1) (cs.drop want.length) d
 | .clo f want::ps,i,cs,e=> ∃v d,e=v::d/\(∃b off sg,v= .func (.func f) #[] #[.pointer (some ⟨b,off,none⟩)]/\O9 w g.F ⟨b,off,none⟩ sg/\bJ (cs.take want.length)=true/\aF w g (.tm i) 0 (cs.take want.length) sg)/\EM w g ps (i+1) (cs.drop want.length) d
def QN (glob:Nat->Option (LC)) (w:World) (g:Gh):Prop:= ∀d cs,glob d=some cs->bJ cs=true/\ ∃e,O9 w g.F ⟨d,0,none⟩ e/\aF w g .hand 0 cs e
def adk (w:World) (g g':Gh):List PK->Nat->LV->LC->Prop
 | [],_,_,_=>True
 | .ptr want::ps,i,d,cs=>(g'.at_ i=g.at_ i/\EL w g' i ⟨0,(cs.take want.length).map λ c=>(c,0)⟩)/\adk w g g' ps (i+1) d.tail (cs.drop want.length)
 | .io want::ps,i,d,cs=>(∃v,d.head? =some v/\EO w g' (.tm i) 0 false (cs.take want.length) v)/\adk w g g' ps (i+1) d.tail (cs.drop want.length)
 |_::ps,i,d,cs=>adk w g g' ps (i+1) d.tail cs
def adl (w:World) (g:Gh) (mk:Nat->aG) (ts:List (Bool×LC)) (v:Value):Prop:=
 match ts with
 | [(ag,cs)]=>EO w g mk 0 ag cs v
 |ts=> ∃d,v= .tuple d.toArray/\mF w g mk 0 ts d
def Enters (P:Program) (f:FuncId):Prop:= ∃fn,P.funcs[f]? =some fn/\fn.body.isNone=false/\(fn.name== "runtime.NumGoroutine")=false
def VB (w:World) (g:Gh) (i j:Nat):Option Value:=match w.heap[g.at_ i]? with|some (.cells cur _ _)=>cur.toList[j]? |_=>none
def ahj (w w':World) (g:Gh) (ps:List PK):Prop:= ∀(i:Nat) (want:List (Sh×Tg)) (j:Nat) (sh:Sh) (v:Value),ps[i]? =some (.ptr want)->want[j]? =some (sh,.dead)->VB w g i j=some v->VB w' g i j=some v
def Good (P:Program) (glob:Nat->Option (LC)) (sig:Sig) (f:sig.In->Option sig.Out):Prop:=
 ∀x r,f x=some r->Enters P sig.fn/\ ∀(w:World) (g:Gh) (d:LV),EM w g sig.params 0 (retag sig.ins (cellsOf _ x)) d->QN glob w g->(∀b ow,g.own b=some ow->b<w.heap.size)->(∀b o,g.F b o->b<w.heap.size)->(∀b ow cs t f,g.own b=some ow->w.heap[b]? =some (.cells cs t f)->f=(0,0))->
  Calls P sig.fn d.toArray w λ e w'=> ∃v g',e= .returned v/\Base w g.F (λ b=> ∃ow,g.own b=some ow) w' g'/\
   adl w' g' .hand (resT sig.res (retag sig.outs (cellsOf _ r))).1 v/\adk w' g g' sig.params 0 d (resT sig.res (retag sig.outs (cellsOf _ r))).2/\ahj w w' g sig.params
theorem EM.length: ∀{ps:List PK} {i:Nat} {cs:LC} {f:LV},EM w g ps i cs f->f.length=ps.length
 | [],_,_,_,h=>by simp[h.2]
 | .val _ _::ps,i,cs,_,⟨v,d,e,_,h⟩=>by simp[e,h.length]
 | .ptr _::ps,i,cs,_,⟨v,d,e,_,h⟩=>by simp[e,h.length]
 | .rptr _::ps,i,cs,_,⟨v,d,e,_,h⟩=>by simp[e,h.length]
 | .fn _::ps,i,cs,_,⟨v,d,e,_,h⟩=>by simp[e,h.length]
 | .clo _ _::ps,i,cs,_,⟨v,d,e,_,h⟩=>by simp[e,h.length]
 | .io _::ps,i,cs,_,⟨v,d,e,_,h⟩=>by simp[e,h.length]
def zo (F:Fz):Gh:=⟨λ _=>0,λ _=>none,F⟩
theorem aF.zo {F:Fz} {mk mk':Nat->aG} {cs:LC} {i j:Nat} {d:LV} (hF: ∀b o,g.F b o->F b o) (e:bJ cs=true) (h:aF w g mk i cs d):aF w (zo F) mk' j cs d:=
 aF.vN (g':=AM.zo F) (show Keeps w w g.F F from Keeps.same hF) cs i j d e h
theorem agW {c:CV} (h:c.sh.qH=true) {d:List Sh} {ds:LC} (e:(thaw [c] d).run=some ds):ds= [c]:=by
 cases d with
 |nil=>exact(au e).symm
 |cons sh d=>
  have g:agU c sh= .ret c:=by
   obtain⟨f,i,k⟩:=c;cases f<;>first|rfl|simp[Sh.qH]at h
  simp only[thaw,g]at e;cases d<;>exact(au e).symm
theorem Qh (h:Base C.w0 C.F0 C.X w g) {mk:Nat->aG} (d: ∀i j,mk i=mk j->i=j) {cs ds:LC} {want:List (Sh×Tg)} {i:Nat} {l:LV} (u:aF w g mk i cs l) (e:(U3 cs want).run=some ds):
 ∃F':Fz,(∀b o,g.F b o->F' b o)/\(∀b o,F' b o->b<w.heap.size)/\bJ ds=true/\Tagged ds want/\ ∀(mk':Nat->aG) j,aF w (zo F') mk' j ds l:=by
 unfold U3 at e;obtain⟨f,m,e⟩:=aT e;obtain⟨g0,v,y,_,_,p,_⟩:=Vr d cs _ f i l g h m u;split at e
 ·rename_i z t;obtain⟨k,e⟩:=bg e;obtain rfl:=au e;obtain⟨A,B,D,_,_,E,_⟩:=Ej d f want _ i l g0 y t p;exact⟨A.F,λ b o q=>B.keeps.sub b o (v.keeps.sub b o q),λ b o q=>(D.fz b o q).2,k,fB t,λ mk' j=>E.zo (λ _ _ h=>h) k⟩
 ·exact(aj e).elim
theorem aeb {x:Operand}: ∀i j,V9 x i=V9 x j->i=j:=by cases x<;>simp[V9]
theorem Qa (h:Rel E C s a w g) {t:T} {v:Value} {mk:Nat->aG} (hv:TV s a w g mk t v) {want:List (Sh×Tg)} {ds:LC} (d:(RP s t want).run=some ds):
 ∃F':Fz,(∀b o,g.F b o->F' b o)/\(∀b o,F' b o->b<w.heap.size)/\Tagged ds (PK.rptr want).cells/\ ∀F,(∀b o,F' b o->F b o)-> ∀i (ps:List PK) cs m,EM w (zo F) ps (i+1) cs m->EM w (zo F) (.rptr want::ps) i (ds++cs) (v::m):=by
 have Q: ∀b o,g.F b o->b<w.heap.size:=λ b o e=>(h.base.fz b o e).2
 have y: ∀{F':Fz} {sg:LV} {b off:Nat},v= .pointer (some ⟨b,off,none⟩)->O9 w F' ⟨b,off,none⟩ sg->(∀b o,g.F b o->F' b o)->(∀b o,F' b o->b<w.heap.size)->bJ ds=true->Tagged ds want->(∀(mk':Nat->aG) j,aF w (zo F') mk' j ds sg)->
  ∃F':Fz,(∀b o,g.F b o->F' b o)/\(∀b o,F' b o->b<w.heap.size)/\Tagged ds (PK.rptr want).cells/\ ∀F,(∀b o,F' b o->F b o)-> ∀i (ps:List PK) cs m,EM w (zo F) ps (i+1) cs m->EM w (zo F) (.rptr want::ps) i (ds++cs) (v::m):=by
  intro F' sg b off hv q I Y u K L;have k:ds.length=want.length:=by have:=congrArg List.length K;simpa using this
  refine⟨F',I,Y,K,λ F hF i ps cs m he=>⟨_,m,rfl,⟨b,off,sg,hv,q.keeps (show Keeps w w F' F from Keeps.same hF),?_,?_⟩,?_⟩⟩
  ·rw[←k,abL];exact u
  ·rw[←k,abL];exact aF.zo (g:=zo F') hF u (L (.tm i) 0)
  ·rw[←k,abQ];exact he
 unfold RP at d;split at d
 ·rename_i p;split at d
  ·rename_i l;obtain⟨cs,G,d⟩:=aT d;have G:=iE l G;obtain⟨_,hv⟩:Old s p/\_:=hv;rw[l]at hv;obtain⟨n,Z,hv⟩:=hv;obtain⟨z,k⟩:=h.pl G
   have A: ∃b,s.bx n=some b/\b.inst=p.inst:=by
    have:=G;rw[bQ]at this;obtain⟨cells,e,_⟩:=this;rw[Z]at e;simp only[aB]at e
    cases A:s.bx n with
    |none=>rw[A]at e;simp at e
    |some b=>rw[A]at e;simp only[aag,aay]at e;exact⟨b,rfl,e.1⟩
   obtain⟨b,A,R⟩:=A;obtain⟨cur,et,I,Y,_,h4⟩:=h.bx n b A;have S:aC a w g p.root=cur.toList:=by rw[Z];exact yB I
   obtain⟨F',k1,k2,k3,k4,k5⟩:=Qh h.base (wR _) z d;rw[S]at k5;refine y (F':=λ b o=>F' b o\/b=g.at_ n) (hv b A R) (λ j U=>⟨?_,.inr rfl⟩) (λ b o M=> .inl (k1 b o M)) (λ b o M=> ?_) k3 k4 λ mk' j=>aF.zo (g:=zo F') (λ _ _ h=> .inl h) k3 (k5 .hand 0)
   ·have B:j<want.length:=by simp at U;omega
    simp only;rw[cell_of_heap I,aam,if_pos B,aar];simp
   ·rcases M with M|rfl
    ·exact k2 b o M
    ·exact lt_of_heap I
  ·exact(aj d).elim
 ·unfold YG at d;split at d
  ·rename_i D off _;obtain⟨N,d⟩:=bg d;have N:=abk N;split at d
   ·rename_i a7 hw;obtain⟨u,d⟩:=bg d;obtain rfl:=au d;obtain⟨ad,m,e1,q,f,O⟩: ∃(ad:Addr) (m:LV),v= .pointer (some ⟨ad.block,ad.off+off,none⟩)/\O9 w g.F ad m/\bJ D=true/\aF w g mk 0 D m:=hv;have l:=O.sub off want.length;have a9:=O.length
    have W:bJ ((D.drop off).take want.length)=true:=by
     unfold bJ at f ⊢;rw[aaV]at f ⊢;exact λ c G=>f c (abD (abq G))
    refine y (F':=g.F) (sg:=(m.drop off).take want.length) e1 (λ j U=> ?_) (λ _ _ h=>h) Q u (fB hw) λ mk' j=>aF.zo (λ _ _ h=>h) u (xQ (mk':=mk') (j:=j) W hw l);have B:j<want.length:=by simp at U;omega
    have:=q (off+j) (by omega);simp only at this ⊢;rw[aam,if_pos B,aar,abK];exact this
   ·exact(aj d).elim
  ·exact(aj d).elim
theorem ad4 (h:Rel E C s a w g) {x:Operand} {pk:PK} {ds:LC} (m:(Xj E s pk x).run=some ds):
 ∃F':Fz,(∀b o,g.F b o->F' b o)/\(∀b o,F' b o->b<w.heap.size)/\Tagged ds pk.cells/\ ∀F,(∀b o,F' b o->F b o)-> ∀i (ps:List PK) cs I,EM w (zo F) ps (i+1) cs I->EM w (zo F) (pk::ps) i (ds++cs) (a.eval x::I):=by
 have Z: ∀b o,g.F b o->b<w.heap.size:=λ b o e=>(h.base.fz b o e).2;unfold Xj at m
 have fin: ∀{ag:Bool} {want:List (Sh×Tg)} {F':Fz},isAgg (a.eval x)=ag->(∀b o,g.F b o->F' b o)->(∀b o,F' b o->b<w.heap.size)->bJ ds=true->Tagged ds want->(∀(mk':Nat->aG) j,aF w (zo F') mk' j ds (a.eval x).cells.toList)->
  ∃F':Fz,(∀b o,g.F b o->F' b o)/\(∀b o,F' b o->b<w.heap.size)/\Tagged ds (PK.val ag want).cells/\ ∀F,(∀b o,F' b o->F b o)-> ∀i (ps:List PK) cs I,EM w (zo F) ps (i+1) cs I->EM w (zo F) (.val ag want::ps) i (ds++cs) (a.eval x::I):=by
  intro ag want F' q U W B D a0;have Q:ds.length=want.length:=by have:=congrArg List.length D;simpa using this
  refine⟨F',U,W,D,λ F hF i ps cs I he=>⟨_,I,rfl,⟨q,?_⟩,?_⟩⟩
  ·rw[←Q,abL];exact aF.zo (g:=zo F') hF B (a0 (.tm i) 0)
  ·rw[←Q,abQ];exact he
 cases pk with
 |val O want=>
  simp only[]at m;split at m
  ·rename_i ag cs K;obtain⟨q,m⟩:=bg m;have q:ag=O:=by simpa using q
   have hv:=aK h K (by simp);obtain⟨F',U,W,h3,h4,h5⟩:=Qh h.base aeb hv.2 m;exact fin (hv.1.trans q) U W h3 h4 h5
  ·rename_i p ag n K;obtain⟨q,m⟩:=bg m;have q:ag=O:=by simpa using q
   obtain⟨_,_,L,hv⟩:=aK h K (by simp);obtain⟨cs,N,m⟩:=aT m;have N:=iE L N;obtain⟨k1,k2⟩:=hv _ N;obtain⟨F',U,W,h3,h4,h5⟩:=Qh h.base (wR _) (h.pl N).1 m;rw[←k2]at h5;exact fin (k1.trans q) U W h3 h4 h5
  ·rename_i p z lo hi K
   cases y:O with
   |true=>rw[y]at m;exact(aj m).elim
   |false=>
    rw[y]at m;simp only[cond_false]at m;obtain⟨_,_,L,_,hv⟩:=aK h K (by simp);obtain⟨cs,N,m⟩:=aT m;have N:=iE L N;obtain⟨c,rfl⟩:=G6 N;simp only[]at m;split at m
    ·rename_i d hd;obtain⟨G,b0,rfl⟩:=tN hd;have b2:c.sh.adn .pure=true:=by cases hs:c.sh<;>first|rfl|(rw[hs]at G;simp[Sh.qH]at G)
     obtain⟨A,l,k,e1,k1,k2,k3,k4⟩:=hv c N;obtain⟨u,e2,b4,_⟩:=qA h N;rw[e1]at e2;cases e2
     have b5:Tg.le .pure c.tg=true:=by
      cases D:c.tg<;>first|rfl|exact absurd D b0
     obtain⟨g1,f1,b1,_,_,b6,_⟩:=b4.weak h.base b5 b2;have b7:jL w g1.F c.sh (IK c.sh c.x lo hi) (Dc A k lo hi c.sh.n):=jL.sub G b6 k1 k2;unfold U3 at m;obtain⟨c8,b8,m⟩:=aT m;obtain rfl:=agW (c:=⟨c.sh,c.tg,IK c.sh c.x lo hi⟩) G b8;split at m
     ·rename_i b9 hw;obtain⟨B,m⟩:=bg m;obtain rfl:=au m;obtain⟨tg,rfl,rfl,_⟩:=O4 hw;have D:tg= .pure:=uq B _ (aah.2 rfl);subst D;have R:isAgg (a.eval x)=false:=by rw[k4];rfl
      refine fin R f1.keeps.sub (λ b o hf=>(b1.fz b o hf).2) B (fB hw) λ mk' j=> ?_;rw[aI R,k4];exact⟨_,[],rfl,b7,rfl⟩
     ·exact(aj m).elim
    ·exact(aj m).elim
  ·rename_i K
   cases y:O with
   |true=>rw[y]at m;exact(aj m).elim
   |false=>
    rw[y]at m;simp only[cond_false]at m;obtain⟨b9,hn,m⟩:=aT m;obtain⟨B,m⟩:=bg m;obtain rfl:=au m;obtain⟨sh,tg,rfl,G,rfl⟩:=V8 hn
    have S:a.eval x= .slice none 0 0:=by
     rcases h.at_ x with⟨_,e⟩|e
     ·exact e
     ·rw[K]at e;exact e.elim
    refine fin (F':=g.F) (by rw[S];rfl) (λ _ _ h=>h) Z B rfl λ mk' j=> ?_;rw[S];exact⟨_,[],rfl,QK G tg,rfl⟩
  ·exact(aj m).elim
 |ptr want=>exact(aj m).elim
 |io want=>exact(aj m).elim
 |fn f=>
  simp only[]at m;split at m
  ·rename_i f' K;have M:=bg m;have hf:=aao M.1;obtain rfl:=au M.2;have hv:=aK h K (by simp);subst hf;exact⟨g.F,λ _ _ h=>h,Z,rfl,λ F hF i ps cs I he=>⟨_,I,rfl,hv,he⟩⟩
  ·exact(aj m).elim
 |clo f want=>
  simp only[]at m;split at m
  ·rename_i f' t K;have M:=bg m;have hf:=aao M.1;obtain⟨d1,hv,v0,c0,rfl,hk,ht,Y⟩:=aK h K (by simp);have Y:c0= []:=Y;subst Y;subst hf;obtain⟨F',U,W,h3,h4⟩:=Qa h (show TV s a w g (V9 x) t v0 from by cases t<;>first|exact ht|exact hk.elim) M.2
   refine⟨F',U,W,h3,λ F hF i ps cs I he=> ?_⟩;obtain⟨v,ws,e,⟨b,off,sg,e1,k1,k2,k3⟩,k4⟩:=h4 F hF i ps cs I he;cases e;exact⟨_,_,rfl,⟨b,off,sg,by rw[hv,e1],k1,k2,k3⟩,k4⟩
  ·exact(aj m).elim
 |rptr want=>
  rcases h.at_ x with⟨e,_⟩|e
  ·simp only[e]at m;exact(aj m).elim
  ·exact Qa h e m
theorem Iu (h:Rel E C s a w g) {mk:Nat->aG}: ∀{ts:List T} {cvs:LV},oI s a w g mk ts cvs-> ∀(ps:List PK) (k:List Operand) (cs:LC),(yP E s ps k ts).run=some cs->
 ∃F':Fz,(∀b o,g.F b o->F' b o)/\(∀b o,F' b o->b<w.heap.size)/\Tagged cs (ps.flatMap PK.cells)/\ ∀F,(∀b o,F' b o->F b o)-> ∀i,EM w (zo F) ps i cs (k.map a.eval++cvs)
 | [],cvs,f,[],[],cs,d=>by
   obtain rfl:=au d;have f:cvs= []:=f;subst f;exact⟨g.F,λ _ _ h=>h,λ b o e=>(h.base.fz b o e).2,rfl,λ F hF i=>⟨rfl,rfl⟩⟩
 |_::_,_,_,[],[],_,d=>(aj d).elim
 |_,_,_,[],_::_,_,d=>(aj d).elim
 | [],_,_,p::_,[],_,d=>by cases p<;>exact(aj d).elim
 |ts,cvs,f,p::ps,x::k,cs,d=>by
  simp only[yP]at d;obtain⟨ds,l,d⟩:=aT d;obtain⟨es,m,d⟩:=aT d;obtain rfl:=au d;obtain⟨q,u,y,z,A⟩:=ad4 h l;obtain⟨B,K,D,G,I⟩:=Iu h f ps k es m;refine⟨λ b o=>q b o\/B b o,λ b o e=> .inl (u b o e),λ b o e=>e.elim (y b o) (D b o),by rw[abo];exact z.append G,λ F hF i=> ?_⟩;exact A F (λ b o e=>hF b o (.inl e)) i ps es _ (I F (λ b o e=>hF b o (.inr e)) (i+1))
 |t::ts,cvs,⟨v,N,e,L,M,f⟩,.rptr want::ps,[],cs,d=>by
  subst e;simp only[yP]at d;obtain⟨ds,l,d⟩:=aT d;obtain⟨es,m,d⟩:=aT d;obtain rfl:=au d;obtain⟨q,u,y,z,A⟩:=Qa h (show TV s a w g mk t v from by cases t<;>first|exact M|exact L.elim) l
  obtain⟨B,K,D,G,I⟩:=Iu h f ps [] es m;refine⟨λ b o=>q b o\/B b o,λ b o e=> .inl (u b o e),λ b o e=>e.elim (y b o) (D b o),by rw[abo];exact z.append G,λ F hF i=> ?_⟩;exact A F (λ b o e=>hF b o (.inl e)) i ps es _ (I F (λ b o e=>hF b o (.inr e)) (i+1))
 |_::_,_,_,.val _ _::_,[],_,d=>(aj d).elim
 |_::_,_,_,.ptr _::_,[],_,d=>(aj d).elim
 |_::_,_,_,.fn _::_,[],_,d=>(aj d).elim
 |_::_,_,_,.clo _ _::_,[],_,d=>(aj d).elim
 |_::_,_,_,.io _::_,[],_,d=>(aj d).elim
end
section
variable {P:Program} {E:Env} {C:Ctx} {s s':St} {a a':Act} {w w':World} {g g':Gh} {o:Oper} {Q:Exit->Act->World->Prop}
theorem Rj {cl:Call} {e:Operand} {f:FuncId} (g:o.op= .call cl) (i:cl.callee= .value e) {d:Array Value} (k:a.eval e= .func (.func f) #[] d) (l:Enters P f):
 (execOp a.eval o).run P w= .ok (.enter f (cl.args.map a.eval++d)) w:=by
 obtain⟨fn,m,p,q⟩:=l
 have t:(invoke (.fn (.func f) d) (cl.args.map a.eval)).run P w= .ok (.enter f (cl.args.map a.eval++d)) w:=by
  simp only[invoke,callFunc,Sem.run_bind,run_program,Result.andThen_ok,m,p,q,abb,if_false,Sem.run_pure]
 simp only[execOp,g,resolve,i,k,Deferred.ofValue];simpa using t
theorem agT {c:CV} {tg:Tg} (h:c.tg=tg):c.to tg=c:=by
 obtain⟨sh,d,x⟩:=c;simp only at h;subst h;rfl
theorem Kv {c:CV} {sh:Sh} {y:El sh} (h:jY c sh=some y):(⟨sh,.pure,y⟩:CV)=c.to .pure:=by
 obtain⟨e,rfl⟩:=lg h;obtain⟨d,f,g⟩:=c;simp only at e;subst e;rfl
theorem sH: ∀(es:List Sh) (cs:LC) (x:ElA es),iq es cs=some x->cellsOf es x=cs.map (·.to .pure)
 | [],[],_,_=>rfl
 | [],_::_,_,d=>(aO d rfl).elim
 | [s],[],_,d=>(aO d rfl).elim
 | [s],[c],x,d=>by
   have:=Kv (c:=c) (sh:=s) (y:=x) d;show[(⟨s,.pure,x⟩:CV)]=_;rw[this];rfl
 | [s],_::_::_,_,d=>(aO d rfl).elim
 |s::t::ss,[],_,d=>(aO d rfl).elim
 |s::t::ss,c::cs,x,d=>by
  obtain⟨y,z,e,f,rfl⟩:=qp d;have g:=Kv e;have i:=sH (t::ss) cs z f;show(⟨s,.pure,y⟩:CV)::cellsOf (t::ss) z=_;rw[g,i];rfl
theorem yA: ∀{cs:LC} {want:List (Sh×Tg)},Tagged cs want->retag want (cs.map (·.to .pure))=cs
 | [],want,h=>by cases want<;>simp[Tagged]at h<;>rfl
 |c::cs,[],h=>by simp[Tagged]at h
 |c::cs,(sh,tg)::want,h=>by
  simp only[Tagged,abm,abh,aay]at h;simp only[abm,retag];rw[yA h.2];congr 1;obtain⟨d,e,f⟩:=c;simp only at h;obtain⟨⟨_,rfl⟩,_⟩:=h;rfl
theorem O1 {cs:LC} {sig:Sig} (h:Tagged cs (sig.params.flatMap PK.cells)):Tagged cs sig.ins:=h
theorem Wq {cs:LC} {sig:Sig} (h:Tagged cs sig.ins) {x:sig.In} (d:iq (sig.ins.map (·.1)) cs=some x):retag sig.ins (cellsOf _ x)=cs:=by
 rw[sH _ _ _ d,yA h]
theorem Wp {ts:List (Bool×LC)} {v:Value} {mk:Nat->aG} (h:adl w g mk ts v):TV s a w g mk (ajE ts) v:=by
 match ts,h with
 | [],h=>exact h
 | [(ag,cs)],h=>exact h
 |_::_::_,h=>exact h
theorem Vh {g2:Gh} {f:World} {ow ow':aG} {c:CV} {v:Value} (hs:c.sh.scalar=true) (h:jZ w g ow c v):jZ f g2 ow' c v:=by
 obtain⟨sh,d,x⟩:=c
 cases sh with
 |sl es=>simp[Sh.scalar]at hs
 |rsl ss=>simp[Sh.scalar]at hs
 |dl ss=>simp[Sh.scalar]at hs
 |mp k e=>simp[Sh.scalar]at hs
 |int k=>cases d<;>first|exact trivial|exact h
 |bool=>cases d<;>first|exact trivial|exact h
 |str=>cases d<;>first|exact trivial|exact h
theorem aF.free {g2:Gh} {f:World} {mk mk':Nat->aG}: ∀{cs:LC} {i j:Nat} {d:LV},(∀c,c∈cs->c.sh.scalar=true)->aF w g mk i cs d->aF f g2 mk' j cs d
 | [],_,_,_,_,h=>h
 |c::cs,i,j,_,hs,⟨v,k,e,l,h⟩=>⟨v,k,e,Vh (hs c (by simp)) l,aF.free (λ c m=>hs c (by simp[m])) h⟩
theorem mF.free {g2:Gh} {f:World} {mk mk':Nat->aG}: ∀{ts:List (Bool×LC)} {i j:Nat} {d:LV},(∀t,t∈ts-> ∀c,c∈t.2->c.sh.scalar=true)->mF w g mk i ts d->mF f g2 mk' j ts d
 | [],_,_,_,_,h=>h
 |(ag,cs)::ts,i,j,_,hs,⟨v,k,e,⟨l,m⟩,h⟩=>⟨v,k,e,⟨l,aF.free (λ c p=>hs (ag,cs) (by simp) c p) m⟩,mF.free (λ t q=>hs t (by simp[q])) h⟩
theorem Wn: ∀{rs:List (Bool×List (Sh×Tg))} {cs:LC} {t:Bool×LC},t∈(resT rs cs).1-> ∀c,c∈t.2->c∈cs
 | [],cs,t,h,_,_=>by simp[resT]at h
 |(ag,want)::rs,cs,t,h,c,d=>by
  simp only[resT]at h;rcases aaQ.1 h with rfl|h
  ·exact abq d
  ·exact abD (Wn h c d)
theorem Ws: ∀{want:List (Sh×Tg)} {cs:LC} {c:CV},c∈retag want cs-> ∃d,d∈cs/\c.sh=d.sh
 | [],_,_,h=>by simp[retag]at h
 |_::_,[],_,h=>by simp[retag]at h
 |(sh,tg)::want,e::cs,c,h=>by
  simp only[retag]at h;rcases aaQ.1 h with rfl|h
  ·exact⟨e,by simp,rfl⟩
  ·obtain⟨d,f,g⟩:=Ws h;exact⟨d,by simp[f],g⟩
theorem Q8 {i:Nat} (hG:Good P E.glob (E.sig i) (E.call i)) (h:Rel E C s a w g) {cl:Call} {fo:Operand} (ho:o.op= .call cl) (A:cl.callee= .value fo) {ts:List T} {cvs:LV} {mk:Nat->aG} (N:oI s a w g mk ts cvs) (M:a.eval fo= .func (.func (E.sig i).fn) #[] cvs.toArray)
 (O:(E.sig i).scalar=true) {d:Nat} (R:o.dst=some d) (hd:DOk E d) {us:List Upd} (u:(Nw E s d cl.args.toList ts i).run=some us):
 o.wp P a w (λ a' w'=> ∃g',Rel E C (s.dX us) a' w' g') Q:=by
 unfold Nw at u;rw[O]at u;simp only[cond_true]at u;obtain⟨cs,hl,u⟩:=aT u;split at u
 ·exact(aj u).elim
 ·rename_i x W;obtain⟨r,hr,u⟩:=zK u;obtain rfl:=au u;obtain⟨F',Y,h2,Z,S⟩:=Iu h N _ _ cs hl;obtain⟨a0,G⟩:=hG x r hr;have U:=Wq (O1 Z) W;have hE:EM w (zo F') (E.sig i).params 0 (retag (E.sig i).ins (cellsOf _ x)) (cl.args.toList.map a.eval++cvs):=by rw[U];exact S F' (λ _ _ h=>h) 0
  have I:QN E.glob w (zo F'):=λ gl cs hg=>by
   obtain⟨k1,vs,k2,k3⟩:=h.glob gl cs hg;exact⟨k1,vs,k2.keeps (show Keeps w w g.F F' from Keeps.same Y),k3.zo Y k1⟩
  have hC:=G w (zo F') _ hE I (λ b ow e=>by cases e) (λ b o e=>h2 b o e) (λ b ow cs t f e=>by cases e);have K:(cl.args.toList.map a.eval++cvs).toArray=cl.args.map a.eval++cvs.toArray:=by apply abu.1;simp
  rw[K]at hC;unfold Oper.wp;rw[Rj ho A M a0,Oper.upon_enter];refine hC.mono λ e w' hR=> ?_;obtain⟨v,g0,rfl,B,k,_⟩:=hR;have l: ∀b,b<w.heap.size->w'.heap[b]? =w.heap[b]? :=λ b z=>B.blk b z (λ⟨ow,e⟩=>by cases e);have m:Keeps w w' g.F g.F:=⟨λ _ _ h=>h,λ b o M=>B.keeps.cell b o (Y b o M)⟩;have a2:Fr (λ _=>True) w w' g g:=⟨m,λ b ow _ e=>⟨e,l b (h.base.own b ow e).2,λ _ h=>h⟩⟩
  have p:Base C.w0 C.F0 C.X w' g:=⟨B.os.trans h.base.os,B.tape.trans h.base.tape,B.output.trans h.base.output,aaX h.base.size B.size,λ b z a3=>by
   rw[l b (abn z h.base.size)];exact h.base.blk b z a3,λ b ow e=>⟨(h.base.own b ow e).1,abn (h.base.own b ow e).2 B.size⟩,
   h.base.keeps.trans m,λ b o M=>⟨(h.base.fz b o M).1,abn (h.base.fz b o M).2 B.size⟩,λ b ow cs t f W A=>by
    rw[l b (h.base.own b ow W).2]at A;exact h.base.frz b ow cs t f W A⟩
  have r1:Rel E C s a w' g:=h.world (a2.mono λ _ _=>trivial) p rfl
  have q: ∀t,t∈(resT (E.sig i).res (retag (E.sig i).outs (cellsOf ((E.sig i).outs.map (·.1)) r))).1-> ∀c,c∈t.2->c.sh.scalar=true:=by
   intro t ht c A;have hm:=Wn ht c A;obtain⟨c',h3,h4⟩:=Ws hm;rw[h4];have:c'.sh∈(cellsOf ((E.sig i).outs.map (·.1)) r).map CV.sh:=aaB.2 ⟨c',h3,rfl⟩;rw[uN]at this;obtain⟨y,hy,a5⟩:=aaB.1 this;have D:=O;simp only[Sig.scalar,aae]at D;have:=aaV.1 D.1 y hy;rw[←a5];exact this
  have L:adl w' g (.tm d) (resT (E.sig i).res (retag (E.sig i).outs (cellsOf ((E.sig i).outs.map (·.1)) r))).1 v:=by
   generalize (resT (E.sig i).res (retag (E.sig i).outs (cellsOf ((E.sig i).outs.map (·.1)) r))).1=ts at k q;unfold adl at k ⊢;split at k
   ·rename_i ag cs;exact⟨k.1,aF.free (λ c A=>q (ag,cs) (by simp) c A) k.2⟩
   ·obtain⟨vs,e,ht⟩:=k;exact⟨vs,e,mF.free q ht⟩
  refine⟨g,?_⟩;rw[R];exact r1.Vj hd (Fr.refl _ _ _) p rfl (Wp L)
end
section
variable {P:Program} {E:Env} {C:Ctx} {s s':St} {a a':Act} {w w':World} {g g':Gh} {o:Oper} {Q:Exit->Act->World->Prop}
theorem WM.via {ow ow':aG} (f: ∀b,g.own b=some ow->g'.own b=some ow') (hF:g'.F=g.F) {b:Nat} {d:Bool} {sh:Sh} {x:El sh} {cs:LV} (h:WM w g ow b d sh x cs):WM w g' ow' b d sh x cs:=by
 cases sh with
 |dl es=>exact⟨h.1,jq.imp (g:=g) (g':=g') (by rw[hF];exact Keeps.refl _ _) (λ sh x v _ e=>wO.owner hF (λ z i=>f z (e.nD i)) e) h.2⟩
 |sl es=>show wB w g'.F (.sl es) x cs;rw[hF];exact h
 |rsl es=>show wB w g'.F (.rsl es) x cs;rw[hF];exact h
 |_=>exact h.elim
theorem jZ.via {ow ow':aG} (i: ∀b,g.own b=some ow->g'.own b=some ow') (hF:g'.F=g.F) {c:CV} {v:Value} (h:jZ w g ow c v):jZ w g' ow' c v:=by
 unfold jZ at h ⊢
 have d: ∀f,zq w g ow f c.sh c.x v->zq w g' ow' f c.sh c.x v:=by
  intro f h;rcases h with h|⟨b,k,cur,u,hv,y,z,m,p,hs,A,q⟩
  ·exact .inl h
  ·exact .inr ⟨b,k,cur,u,hv,y,z,i b m,p,hs,A.via i hF,λ o=>by rw[hF];exact q o⟩
 split at h
 ·trivial
 ·rw[hF];exact h
 ·split
  ·rename_i hs;rw[if_pos hs]at h;exact d _ h
  ·rename_i hs;rw[if_neg hs]at h;split
   ·rename_i t;rw[if_pos t]at h;obtain⟨sh,tg,x⟩:=c
    cases sh with
    |mp k e=>
     rcases h with h|⟨b,l,B,hv,m,p,q⟩
     ·exact .inl h
     ·exact .inr ⟨b,l,B,hv,i b m,p,λ o=>by rw[hF];exact q o⟩
    |_=>exact h.elim
   ·rename_i t;rw[if_neg t]at h;rw[hF];exact h
 ·split
  ·rename_i hs;rw[if_pos hs]at h;exact d _ h
  ·rename_i hs;rw[if_neg hs]at h;rw[hF];exact h
theorem aF.via (hF:g'.F=g.F) {mk mk':Nat->aG}: ∀{cs:LC} {i d:Nat} {k:LV},(∀j b,j<cs.length->g.own b=some (mk (i+j))->g'.own b=some (mk' (d+j)))->aF w g mk i cs k->aF w g' mk' d cs k
 | [],_,_,_,_,h=>h
 |c::cs,i,d,_,l,⟨v,m,e,p,h⟩=>⟨v,m,e,p.via (λ b f=>by have:=l 0 b (by simp) (by simpa using f);simpa using this) hF,
  aF.via hF (λ j b q f=>by
   have:=l (j+1) b (by simp;omega) (by rw[show i+(j+1)=i+1+j by omega];exact f)
   rwa [show d+(j+1)=d+1+j by omega]at this) h⟩
theorem mF.via (hF:g'.F=g.F) {mk mk':Nat->aG} (d: ∀j b,g.own b=some (mk j)->g'.own b=some (mk' j)): ∀{ts:List (Bool×LC)} {i:Nat} {f:LV},mF w g mk i ts f->mF w g' mk' i ts f
 | [],_,_,h=>h
 |(ag,cs)::ts,i,_,⟨v,k,e,⟨l,m⟩,h⟩=>⟨v,k,e,⟨l,m.via hF λ j b _ p=>d _ b p⟩,mF.via hF d h⟩
theorem adl.via (hF:g'.F=g.F) {mk mk':Nat->aG} (f: ∀j b,g.own b=some (mk j)->g'.own b=some (mk' j)) {ts:List (Bool×LC)} {v:Value} (h:adl w g mk ts v):adl w g' mk' ts v:=by
 match ts,h with
 | [],⟨d,e,h⟩=>exact⟨d,e,h⟩
 | [(ag,cs)],h=>exact⟨h.1,h.2.via hF λ j b _ i=>f _ b i⟩
 |_::_::_,⟨d,e,h⟩=>exact⟨d,e,h.via hF f⟩
def QG:List PK->Nat->Nat->aG
 | [],_,k=> .hand k
 |p::ps,i,k=>if k<p.cells.length then(match p with| .ptr _=> .cell i k|_=> .tm i k)else QG ps (i+1) (k-p.cells.length)
def IV:List (Option Nat)->Nat->Nat->Option Nat
 | [],_,_=>none
 |b::d,i,n=>if b=some n then some i else IV d (i+1) n
def Ui (d:List (Option Nat)) (i:Nat):Option Nat:=match d[i]? with|some (some n)=>some n|_=>none
theorem QY: ∀{e:List (Option Nat)} {i j n:Nat},(e.filterMap id).Nodup->e[j]? =some (some n)->IV e i n=some (i+j)
 | [],_,_,_,_,h=>by simp at h
 |b::e,i,0,n,d,h=>by
  simp at h;subst h;simp[IV]
 |b::e,i,j+1,n,d,h=>by
  have g:e[j]? =some (some n):=by simpa using h
  have k:b≠some n:=by
   rintro rfl;simp only[List.filterMap_cons,id,List.nodup_cons]at d;exact d.1 (List.mem_filterMap.2 ⟨some n,aaj g,rfl⟩)
  have f:(e.filterMap id).Nodup:=by
   cases b with
   |none=>simpa using d
   |some m=>simp only[List.filterMap_cons,id,List.nodup_cons]at d;exact d.2
  simp only[IV,if_neg k];rw[QY f g];congr 1;omega
theorem Oh: ∀{d:List (Option Nat)} {i n k:Nat},IV d i n=some k->some n∈d
 | [],_,_,_,h=>by simp[IV]at h
 |b::d,i,n,k,h=>by
  simp only[IV]at h;split at h
  ·rename_i e;subst e;simp
  ·exact aaO _ (Oh h)
def callee (ps:List PK) (d:List (Option Nat)) (g:Gh):Gh:=
 ⟨λ i=>match Ui d i with|some n=>g.at_ n|none=>0,λ b=>match g.own b with|some (.hand k)=>some (QG ps 0 k)|some (.box n)=>(IV d 0 n).map .box|_=>none,g.F⟩
theorem YA {g0:Gh} (hF:g0.F=g.F): ∀(ps:List PK) (i k:Nat) (G:List (Option Nat)) (cs:LC) (m:LV) (l:List (LV)),
 (∀b y,g.own b=some (.hand (k+y))->g0.own b=some (QG ps i y))->(∀j n,G[j]? =some (some n)->g0.at_ (i+j)=g.at_ n/\(g.own (g.at_ n)=some (.box n)->g0.own (g.at_ n)=some (.box (i+j)))/\ ∀o,¬g.F (g.at_ n) o)->
 aF w g .hand k cs l.flatten->Tagged cs (ps.flatMap PK.cells)->yI w g ps G m l->EM w g0 ps i cs m
 | [],i,k,[],cs,[],[],_,_,z,t,_=>⟨by simpa [Tagged]using t,rfl⟩
 |p::ps,i,k,b::G,cs,v::m,sg::l,Q,R,z,t,⟨d,I,K⟩=>by
  rw[ace]at z;rw[abo]at t;have U:=z.length;have W:cs.length=p.cells.length+(ps.flatMap PK.cells).length:=by have:=congrArg List.length t;simpa using this
  have Y:aF w g .hand k (cs.take p.cells.length) sg:=by
   have:=z.sub 0 p.cells.length;simp only[aaZ,abA]at this
   rwa [←I,abL,I]at this
  have Z:aF w g .hand (k+p.cells.length) (cs.drop p.cells.length) l.flatten:=by
   have:=z.sub p.cells.length (cs.length-p.cells.length);rw[aaJ (by simp),aaJ (by simp only[abe];omega)]at this
   rwa [←I,abQ,I]at this
  have t1:Tagged (cs.take p.cells.length) p.cells:=by
   simp only[Tagged,acw]at t ⊢;rw[t,abL]
  have t2:Tagged (cs.drop p.cells.length) (ps.flatMap PK.cells):=by
   simp only[Tagged,acv]at t ⊢;rw[t,abQ]
  have A:EM w g0 ps (i+1) (cs.drop p.cells.length) m:=YA hF ps (i+1) (k+p.cells.length) G _ m l (λ b' y e=>by
   have:=Q b' (p.cells.length+y) (by rw[←abK];exact e);simp only[QG]at this;rw[if_neg (by omega)]at this
   rwa [show p.cells.length+y-p.cells.length=y by omega]at this)
   (λ j n e=>by have:=R (j+1) n (by simpa using e);rwa [show i+(j+1)=i+1+j by omega]at this) Z t2 K
  have L:(cs.take p.cells.length).length=p.cells.length:=by simp;omega
  have move: ∀(mk:Nat->aG),(∀j,j<p.cells.length->QG (p::ps) i j=mk j)->aF w g0 mk 0 (cs.take p.cells.length) sg:=by
   intro mk M;refine Y.via hF λ j b q e=> ?_;rw[L]at q;have:=Q b j e;rw[M j q]at this;simpa using this
  cases p with
  |val ag want=>
   cases b with
   |some n=>exact d.elim
   |none=>
    refine⟨v,m,rfl,⟨d.1,?_⟩,A⟩;rw[d.2];exact move (.tm i) λ j q=>by simp only[QG];rw[if_pos q]
  |rptr want=>
   cases b with
   |some n=>exact d.elim
   |none=>
    obtain⟨⟨b,off,e,B⟩,N⟩:=d;refine⟨v,m,rfl,⟨b,off,sg,e,by rw[hF];exact B,U2 t1 N,?_⟩,A⟩;exact move (.tm i) λ j q=>by simp only[QG];rw[if_pos q]
  |fn f=>
   cases b with
   |some n=>exact d.elim
   |none=>exact⟨v,m,rfl,d,A⟩
  |clo f want=>cases b<;>exact d.elim
  |io want=>
   cases b with
   |some n=>exact d.elim
   |none=>
    refine⟨v,m,rfl,⟨d.1,?_⟩,A⟩;rw[d.2];exact move (.tm i) λ j q=>by simp only[QG];rw[if_pos q]
  |ptr want=>
   cases b with
   |none=>exact d.elim
   |some n=>
    obtain⟨hv,C,cur,et,u,O⟩:=d;obtain⟨D,S,e3⟩:=R 0 n rfl;simp only[aaZ]at D S;refine⟨v,m,rfl,⟨by rw[D];exact hv,cur,et,by rw[D];exact u,by rw[D];exact S C,λ o E=>e3 o (by rw[D,hF]at E;exact E),?_⟩,A⟩;simp only[nN];rw[←O];exact move (.cell i) λ j q=>by simp only[QG];rw[if_pos q]
theorem Ko {d:List (Option Nat)} {i n:Nat}:Ui d i=some n ↔ d[i]? =some (some n):=by
 unfold Ui;split
 ·rename_i m h;rw[h];simp
 ·rename_i h;constructor
  ·intro e;cases e
  ·intro e;exact absurd e (h n)
theorem Zh {want:List (Sh×Tg)} (h:qZ want=false) {i:Nat} {sh:Sh} {tg:Tg} (d:want[i]? =some (sh,tg)):tg≠ .dead:=by
 rintro rfl
 have:qZ want=true:=by
  unfold qZ;rw[ab8];exact⟨_,aaj d,rfl⟩
 rw[this]at h;cases h
def sG (new:LC) (b:Bx) (want:List (Sh×Tg)):List (CV×Nat):=bif qZ want then setMany b.cells (iV 1 0 new b.cells want)else(new.zip b.cells).map λ x=>(x.1,x.2.2+1)
theorem qU {new:LC} {b:Bx} {want:List (Sh×Tg)} (e:new.length=want.length) (d:b.cells.length=want.length):(sG new b want).length=want.length:=by
 unfold sG
 cases qZ want with
 |true=>simp only[cond_true,yR,d]
 |false=>simp only[cond_false,aaH,List.length_zip];omega
theorem Gj {new:LC} {b:Bx} {want:List (Sh×Tg)} (q:new.length=want.length) (t:b.cells.length=want.length) {i:Nat} (d:i<want.length):
 (sG new b want)[i]? =some (aeT (want[i]).2 (b.cells[i]'(by omega)) (new[i]'(by omega),(b.cells[i]'(by omega)).2+1)):=by
 have k:new[i]? =some (new[i]'(by omega)):=aac (by omega);have f:b.cells[i]? =some (b.cells[i]'(by omega)):=aac (by omega);have l:want[i]? =some ((want[i]'d).1,(want[i]'d).2):=aac d;unfold sG
 cases m:qZ want with
 |true=>
  have:=Lr (e:=1) (j:=0) (b.cells[i]'(by omega)) l k f;rw[aa0]at this;simp only[cond_true,Cc,f,aaL,this]
 |false=>
  have p:(new.zip b.cells)[i]? =some (new[i]'(by omega),b.cells[i]'(by omega)):=acy.2 ⟨k,f⟩;have g:=Zh m l;simp only[cond_false,aas,p,aaL];congr 1;unfold aeT;split
  ·rename_i h;exact absurd h g
  ·rfl
theorem adA {s0:St} {m:Nat} {b:Bx} {new:LC} {want:List (Sh×Tg)} (d:s0.bx m=some b):
 (s0.dX [bif qZ want then .cl m (iV 1 0 new b.cells want)else .bx m ⟨b.inst,(new.zip b.cells).map λ x=>(x.1,x.2.2+1)⟩])= {s0 with bx:=put s0.bx m (some ⟨b.inst,sG new b want⟩)}:=by
 unfold sG
 cases qZ want with
 |true=>simp only[cond_true,St.dX,acC,acS,Upd.on,d,aaL]
 |false=>rfl
theorem FI {g2 gF:Gh} (hF:gF.F=g2.F) {Kp:Nat->Nat->Prop}
 (z: ∀(n:Nat) (b:Bx) (i:Nat) (c:CV) (v:Nat),Kp n i->s.bx n=some b->b.cells[i]? =some (c,v)-> ∃cur et f u,w'.heap[gF.at_ n]? =some (.cells cur et f)/\cur.toList[i]? =some u/\jZ w' gF (.cell n i) c u):
 ∀(ps:List PK) (i:Nat) (q:List (Option Nat)) (D:LV) (cs:LC) (us:List Upd) (s0:St),oK s ps q cs=some us->adk w' g g2 ps i D cs->
 (∀n,some n∈q->s0.bx n=s.bx n)->(q.filterMap id).Nodup->(∀(j n:Nat) (want:List (Sh×Tg)) (k:Nat) (sh:Sh),q[j]? =some (some n)->ps[j]? =some (.ptr want)->want[k]? =some (sh,.dead)->Kp n k)->
 (∀j n,q[j]? =some (some n)->gF.at_ n=g.at_ (i+j)/\(∀b,g2.own b=some (.box (i+j))->gF.own b=some (.box n))/\ ∀b k,g2.own b=some (.cell (i+j) k)->gF.own b=some (.cell n k))->
 (s0.dX us).tm=s0.tm/\ ∀n,(some n∉q->(s0.dX us).bx n=s0.bx n)/\(some n∈q-> ∃b b',s.bx n=some b/\(s0.dX us).bx n=some b'/\b'.inst=b.inst/\b'.cells.length=b.cells.length/\
  (∀(i:Nat) (c':CV) (Z:Nat),b'.cells[i]? =some (c',Z)->(∃(c:CV) (v:Nat),b.cells[i]? =some (c,v)/\Z=v+1)\/(Kp n i/\b.cells[i]? =some (c',Z)))/\EL w' gF n b')
 | [],i,q,D,cs,us,s0,l,_,_,_,_,_=>by
   cases q with
   |cons b q=>cases l
   |nil=>
    simp only[oK,aag]at l;subst l;exact⟨rfl,λ n=>⟨λ _=>rfl,λ h=>by cases h⟩⟩
 | .ptr want::ps,i,[],D,cs,us,s0,l,_,_,_,_,_=>by cases l
 | .ptr want::ps,i,none::q,D,cs,us,s0,l,_,_,_,_,_=>by cases l
 | .ptr want::ps,i,some m::q,D,cs,us,s0,l,⟨⟨a7,a2⟩,N⟩,y,t,K,M=>by
   simp only[oK]at l;split at l
   ·rename_i b O W a8;simp only[cond_eq_ite]at l;split at l
    ·rename_i C;simp only[aae]at C;obtain⟨C,B⟩:=C;have C:=aao C;have B:=aao B;simp only[←cond_eq_ite]at l;cases l;simp only[List.filterMap_cons,id,List.nodup_cons]at t;have a9:s0.bx m=some b:=by rw[y m (by simp)];exact W
     obtain⟨cur,et,r1,r2,r3,r4⟩:=a2;simp only[nN]at r4;have a3:=adA (s0:=s0) (new:=cs.take want.length) (want:=want) a9;have I: ∀O,s0.dX ((bif qZ want then .cl m (iV 1 0 (cs.take want.length) b.cells want)else .bx m ⟨b.inst,((cs.take want.length).zip b.cells).map λ x=>(x.1,x.2.2+1)⟩)::O)=St.dX {s0 with bx:=put s0.bx m (some ⟨b.inst,sG (cs.take want.length) b want⟩)} O:=λ O=>by rw[←a3];rfl
     have a4:some m∉q:=λ h=>t.1 (List.mem_filterMap.2 ⟨some m,h,rfl⟩)
     obtain⟨Q,E⟩:=FI hF z ps (i+1) q D.tail _ O {s0 with bx:=put s0.bx m (some ⟨b.inst,sG (cs.take want.length) b want⟩)} a8 N
      (λ n p=>by
       have:n≠m:=by rintro rfl;exact a4 p
       show put s0.bx m _ n=_;rw[bM _ _ _ this];exact y n (by simp[p])) t.2 (λ j n d k sh G R S=>K (j+1) n d k sh (by simpa using G) (by simpa using R) S) (λ j n e=>by
      have:=M (j+1) n (by simpa using e)
      rwa [show i+(j+1)=i+1+j by omega]at this)
     refine⟨by rw[I];exact Q,λ n=> ?_⟩;obtain⟨k1,k2⟩:=E n;rw[I];refine⟨λ p=> ?_,λ p=> ?_⟩
     ·have G:n≠m:=by rintro rfl;exact p (by simp)
      rw[k1 (λ h=>p (by simp[h]))];show put s0.bx m _ n=_;rw[bM _ _ _ G]
     ·by_cases Y:some n∈q
      ·exact k2 Y
      ·have G:n=m:=by
        rcases aaQ.1 p with e|e
        ·cases e;rfl
        ·exact absurd e Y
       subst G;have L:(cs.take want.length).length=want.length:=by omega
       obtain⟨q1,q2,q3⟩:=M 0 n rfl;simp only[aaZ]at q1 q2 q3;rw[a7]at r1 r2 r3;have b8:=r4.length;refine⟨b,⟨b.inst,sG (cs.take want.length) b want⟩,W,?_,rfl,?_,λ k c' Z A=> ?_,?_⟩
       ·rw[k1 Y];show put s0.bx n _ n=_;rw[bH]
       ·rw[qU L B,B]
       ·have U:k<want.length:=by
         rcases aaF k want.length with h|h
         ·exact h
         ·rw[aai (by rw[qU L B];exact h)]at A;cases A
        rw[Gj L B U]at A;unfold aeT at A;split at A
        ·rename_i hd;refine .inr ⟨K 0 n want k (want[k]).1 rfl rfl ?_,?_⟩
         ·rw[aac U,←hd]
         ·rw[aac (by omega)];exact A
        ·simp only[aag,aay]at A;exact .inl ⟨(b.cells[k]'(by omega)).1,(b.cells[k]'(by omega)).2,aac (by omega),A.2.symm⟩
       ·refine⟨cur,et,by rw[q1];exact r1,by rw[q1];exact q2 _ r2,λ o a5=>r3 o (by rw[q1,hF]at a5;exact a5),?_⟩;refine aF.of _ _ _ (by simp only[aaH,qU L B];omega) λ k c v A hv=> ?_;simp only[aas,aaK]at A;obtain⟨⟨c',Z⟩,A,rfl⟩:=A
        have U:k<want.length:=by
         rcases aaF k want.length with h|h
         ·exact h
         ·rw[aai (by rw[qU L B];exact h)]at A;cases A
        rw[Gj L B U]at A;rw[aa0];unfold aeT at A;split at A
        ·rename_i hd;obtain⟨b6,b9,f2,u,p1,p2,p3⟩:=z n b k c' Z (K 0 n want k (want[k]).1 rfl rfl (by rw[aac U,←hd])) W (by rw[aac (by omega)];exact A);rw[q1,r1]at p1;cases p1;rw[hv]at p2;cases p2;exact p3
        ·simp only[aag,aay]at A;obtain⟨rfl,_⟩:=A;obtain⟨u,p1,p2⟩:=r4.get _ 0 _ k _ (aac (by omega));rw[hv]at p1;cases p1;rw[aa0]at p2;exact p2.via (λ b l=>q3 b k l) hF
    ·cases l
   ·cases l
 | .val ag want::ps,i,q,D,cs,us,s0,l,N,y,t,K,M=>by
   cases q with
   |nil=>cases l
   |cons b q=>
    cases b with
    |some m=>cases l
    |none=>
     obtain⟨Q,E⟩:=FI hF z ps (i+1) q D.tail cs us s0 l N (λ n p=>y n (by simp[p])) (by simpa using t) (λ j n d k sh G R S=>K (j+1) n d k sh (by simpa using G) (by simpa using R) S) (λ j n e=>by
      have:=M (j+1) n (by simpa using e)
      rwa [show i+(j+1)=i+1+j by omega]at this)
     exact⟨Q,λ n=>⟨λ p=>(E n).1 (λ h=>p (by simp[h])),λ p=>(E n).2 (by simpa using p)⟩⟩
 | .rptr want::ps,i,q,D,cs,us,s0,l,N,y,t,K,M=>by
   cases q with
   |nil=>cases l
   |cons b q=>
    cases b with
    |some m=>cases l
    |none=>
     obtain⟨Q,E⟩:=FI hF z ps (i+1) q D.tail cs us s0 l N (λ n p=>y n (by simp[p])) (by simpa using t) (λ j n d k sh G R S=>K (j+1) n d k sh (by simpa using G) (by simpa using R) S) (λ j n e=>by
      have:=M (j+1) n (by simpa using e)
      rwa [show i+(j+1)=i+1+j by omega]at this)
     exact⟨Q,λ n=>⟨λ p=>(E n).1 (λ h=>p (by simp[h])),λ p=>(E n).2 (by simpa using p)⟩⟩
 | .fn f::ps,i,q,D,cs,us,s0,l,N,y,t,K,M=>by
   cases q with
   |nil=>cases l
   |cons b q=>
    cases b with
    |some m=>cases l
    |none=>
     obtain⟨Q,E⟩:=FI hF z ps (i+1) q D.tail cs us s0 l N (λ n p=>y n (by simp[p])) (by simpa using t) (λ j n d k sh G R S=>K (j+1) n d k sh (by simpa using G) (by simpa using R) S) (λ j n e=>by
      have:=M (j+1) n (by simpa using e)
      rwa [show i+(j+1)=i+1+j by omega]at this)
     exact⟨Q,λ n=>⟨λ p=>(E n).1 (λ h=>p (by simp[h])),λ p=>(E n).2 (by simpa using p)⟩⟩
 | .clo f want::ps,i,q,D,cs,us,s0,l,N,y,t,K,M=>by
   cases q with
   |nil=>cases l
   |cons b q=>
    cases b with
    |some m=>cases l
    |none=>
     obtain⟨Q,E⟩:=FI hF z ps (i+1) q D.tail cs us s0 l N (λ n p=>y n (by simp[p])) (by simpa using t) (λ j n d k sh G R S=>K (j+1) n d k sh (by simpa using G) (by simpa using R) S) (λ j n e=>by
      have:=M (j+1) n (by simpa using e)
      rwa [show i+(j+1)=i+1+j by omega]at this)
     exact⟨Q,λ n=>⟨λ p=>(E n).1 (λ h=>p (by simp[h])),λ p=>(E n).2 (by simpa using p)⟩⟩
 | .io want::ps,i,q,D,cs,us,s0,l,N,y,t,K,M=>by
   cases q with
   |nil=>cases l
   |cons b q=>
    cases b with
    |some m=>cases l
    |none=>
     obtain⟨Q,E⟩:=FI hF z ps (i+1) q D.tail (cs.drop want.length) us s0 l N.2 (λ n p=>y n (by simp[p])) (by simpa using t) (λ j n d k sh G R S=>K (j+1) n d k sh (by simpa using G) (by simpa using R) S) (λ j n e=>by
      have:=M (j+1) n (by simpa using e)
      rwa [show i+(j+1)=i+1+j by omega]at this)
     exact⟨Q,λ n=>⟨λ p=>(E n).1 (λ h=>p (by simp[h])),λ p=>(E n).2 (by simpa using p)⟩⟩
theorem Rel.aic (h:Rel E C s a w g) {N:Nat->Prop} {Kp:Nat->Nat->Prop} (f:Fr (λ o=>(∀i,o≠ .hand i)/\ ∀n,N n->o≠ .box n) w w' g g') (hb:Base C.w0 C.F0 C.X w' g') (z:g'.at_=g.at_) (O:s'.tm=s.tm)
 (S: ∀(n i:Nat) (u:Value),N n->Kp n i->(aC a w g (.box n))[i]? =some u->(aC a w' g' (.box n))[i]? =some u)
 (A: ∀n,(¬N n->s'.bx n=s.bx n)/\(N n-> ∃b D,s.bx n=some b/\s'.bx n=some D/\D.inst=b.inst/\D.cells.length=b.cells.length/\
  (∀(i:Nat) (c':CV) (v':Nat),D.cells[i]? =some (c',v')->(∃(c:CV) (v:Nat),b.cells[i]? =some (c,v)/\v'=v+1)\/(Kp n i/\b.cells[i]? =some (c',v')))/\EL w' g' n D)):Rel E C s' a w' g':=by
 refine h.gen f hb (λ r=> ?_) rfl rfl (λ n=> .inl ⟨λ i=>⟨λ j=>by simp,λ m _=>by simp⟩,by rw[O],rfl⟩) (λ n b hn=> ?_)
 ·cases r with
  |tmp n=>exact EN.same (by simp only[rH,O]) (by simp only[aB,O]) (λ k e=>by cases e) (λ _=>rfl) (λ p es l d t b len k hv=>h.wV f ⟨λ i=>jE _ _ _,λ m _=>by rw[d];simp[dQ]⟩ t (by rw[d];exact hv))
  |box n=>
   by_cases G:N n
   ·obtain⟨b,D,I,Q,U,h4,h5,h6⟩:=(A n).2 G
    have K: ∀(p:Pl) (m:Nat) q,p.root= .box n->Old s p->bf s' p m=some q-> ∀i,i<p.vers.length->Kp n (p.cell+i)/\b.cells[p.cell+i]? =D.cells[p.cell+i]? :=by
     intro p m q d y t i hi;rw[bQ]at t;obtain⟨cells,e,q1,q2,q3⟩:=t;rw[d]at e;simp only[aB,Q,aag,aay]at e;obtain⟨e1,rfl⟩:=e;have L:p.vers[i]? =some (p.vers[i]'hi):=aac hi;have:=q2 i _ L;simp only[aaK]at this;obtain⟨⟨c',v'⟩,M,R⟩:=this;rcases h5 _ _ _ M with⟨c0,v0,k3,k4⟩|⟨k3,k4⟩
     ·have:=y.vers n b d I (by rw[←e1,U]) i _ c0 v0 L k3;simp only at R;omega
     ·exact⟨k3,k4.trans M.symm⟩
    have pl: ∀(p:Pl) (m:Nat) q,p.root= .box n->Old s p->p.vers.length=m->bf s' p m=some q->bf s p m=some q:=by
     intro p m q d y hv t;have B:=K p m q d y t;rw[bQ]at t ⊢;obtain⟨cells,e,q1,q2,q3⟩:=t;rw[d]at e ⊢;simp only[aB,Q,aag,aay]at e;obtain⟨e1,rfl⟩:=e;refine⟨b.cells,by simp only[aB,I];rw[←e1,U],by omega,λ i x L=> ?_,?_⟩
     ·have hi:i<p.vers.length:=by
       rcases aaF i p.vers.length with h|h
       ·exact h
       ·simp[aai h]at L
      rw[(B i hi).2];exact q2 i x L
     ·rw[q3];congr 1;apply aaT;intro i;simp only[aam,aar];split
      ·exact(B i (by omega)).2.symm
      ·rfl
    refine⟨λ p d y=>⟨?_,λ k b1 e M R i x c v L hv=> ?_⟩,λ p m q d y hv t=>⟨q,pl p m q d y hv t,rfl,?_⟩,λ k b1 p e M d y R=> ?_,λ p es l d y hv t=>⟨l,pl p 1 _ d y hv t,λ b0 len k a8=> ?_⟩⟩
    ·have:=y.inst;rw[d]at this ⊢;simp only[rH,I,Q]at this ⊢;omega
    ·rw[d]at e;cases e;rw[Q]at M;cases M;rcases h5 _ _ _ hv with⟨c0,v0,q1,q2⟩|⟨_,q1⟩
     ·have:=y.vers n b d I (by rw[R,U]) i x c0 v0 L q1;omega
     ·exact y.vers n b d I (by rw[R,U]) i x c v L q1
    ·have B:=K p m q d y t;have W:=pl p m q d y hv t;rw[bQ]at W;obtain⟨cells,e,q1,_,_⟩:=W;rw[d]at e;simp only[aB,I,aag,aay]at e;obtain⟨_,rfl⟩:=e;obtain⟨cur,et,r1,_,_,r4⟩:=h.bx n b I
     have c1:(aC a w g (.box n)).length=b.cells.length:=by
      have:=r4.length;simp only[aC,r1];simpa using this
     apply aaT;intro i;simp only[aam,aar];split
     ·have Y:p.cell+i<(aC a w g (.box n)).length:=by omega
      have:=S n (p.cell+i) _ G (B i (by omega)).1 (aac Y);rw[this,aac Y]
     ·rfl
    ·cases e;rw[Q]at M;cases M;exact⟨b,I,by rw[←U];exact R,by rw[z]⟩
    ·exact h.wV f ⟨λ i=>jE _ _ _,λ m _=>by rw[d];simp[dQ]⟩ (pl p 1 _ d y hv t) (by rw[d];exact a8)
   ·have hs:=(A n).1 G;refine EN.same (by simp only[rH,hs]) (by simp only[aB,hs]) (λ k e=>by cases e;exact⟨hs,λ _=>by rw[z]⟩) (λ a9=> ?_) (λ p es l d t b len k hv=>h.wV f ⟨λ i=>jE _ _ _,λ m Z=>by rw[d];simp[dQ]⟩ t (by rw[d];exact hv));exact h.J4 f ⟨λ i=>by simp,λ m Z=>by rintro e;cases e;exact G Z⟩ (by rw[z]) a9
 ·by_cases G:N n
  ·obtain⟨b0,D,_,Q,_,_,_,h6⟩:=(A n).2 G;rw[Q]at hn;cases hn;exact .inr h6
  ·rw[(A n).1 G]at hn;exact .inl ⟨hn,λ i=>⟨λ j=>by simp,λ m Z=>by simp⟩,⟨λ j=>by simp,λ m Z=>by rintro e;cases e;exact G Z⟩,by rw[z]⟩
end
section
variable {P:Program} {E:Env} {C:Ctx} {s s':St} {a a':Act} {w w':World} {g g':Gh} {o:Oper} {Q:Exit->Act->World->Prop}
theorem yI.boxes: ∀{ps:List PK} {f:List (Option Nat)} {i:LV} {d:List (LV)},yI w g ps f i d-> ∀n,some n∈f->g.own (g.at_ n)=some (.box n)
 | [],[],[],[],_,n,e=>by cases e
 |p::ps,b::f,v::i,sg::d,⟨k,_,l⟩,n,e=>by
  rcases aaQ.1 e with rfl|e
  ·cases p with
   |ptr want=>exact k.2.1
   |_=>exact k.elim
  ·exact yI.boxes l n e
theorem Uy {g2:Gh}: ∀(ps:List PK) (i:Nat) (k:List Operand) (m:LV) (cs:LC),m=k.map a.eval->adk w' g g2 ps i m cs-> ∀x d,(x,d)∈XW ps k cs-> ∃j,EO w' g2 (.tm j) 0 false d (a.eval x)
 | [],_,k,_,_,_,_,x,d,l=>by cases k<;>simp[XW]at l
 |p::_,_,[],_,_,_,_,x,d,l=>by cases p<;>simp[XW]at l
 | .val ag want::ps,i,y::k,m,cs,e,q,x,d,l=>Uy ps (i+1) k m.tail cs (by rw[e];rfl) q x d l
 | .rptr want::ps,i,y::k,m,cs,e,q,x,d,l=>Uy ps (i+1) k m.tail cs (by rw[e];rfl) q x d l
 | .fn f::ps,i,y::k,m,cs,e,q,x,d,l=>Uy ps (i+1) k m.tail cs (by rw[e];rfl) q x d l
 | .clo f _::ps,i,y::k,m,cs,e,q,x,d,l=>Uy ps (i+1) k m.tail cs (by rw[e];rfl) q x d l
 | .ptr want::ps,i,y::k,m,cs,e,q,x,d,l=>Uy ps (i+1) k m.tail _ (by rw[e];rfl) q.2 x d l
 | .io want::ps,i,y::k,m,cs,e,q,x,d,l=>by
   obtain⟨⟨v,hv,u⟩,q⟩:=q;simp only[XW]at l;rcases aaQ.1 l with t|t
   ·simp only[aay]at t;obtain⟨rfl,rfl⟩:=t;rw[e]at hv;simp only[abm,List.head?_cons,aag]at hv;subst hv;exact⟨i,u⟩
   ·exact Uy ps (i+1) k m.tail _ (by rw[e];rfl) q x d t
theorem pre_eq {m l:List Int} (h:pre m l=true):l.take m.length=m:=of_decide_eq_true h
theorem ah8 {m l:List Int} (h:pre m l=true):m.length<=l.length:=by
 have:=congrArg List.length (pre_eq h);simp only[aaE]at this;omega
theorem J7.ahead {α:Type} {n:Nat} {R:α->LV->Prop} {L:List α->LV->Prop} (h:J7 n R L) {x m:List α} {cs:LV} (d:m.length<=x.length) (e:x.take m.length=m) (f:L x (cs.take (x.length*n))):L m (cs.take (m.length*n)):=by
 have:=h.take x _ m.length f
 rwa [e,ab3,abP (aaA _ d)]at this
theorem wO.ahead {ow:aG} {c q:CV} {b l k:Nat} (f:c.sh=q.sh) (d:ac1 c q=true) (h:wO w g ow false c.sh c.x (.slice (some ⟨b,0,none⟩) l k)):wO w g ow false q.sh q.x (.slice (some ⟨b,0,none⟩) (aQ q.sh q.x) k):=by
 unfold ac1 at d;split at d
 ·rename_i t t1 i u D p;obtain rfl:t=u:=by simpa using f
  have e:=ah8 (m:=p) (l:=i) d;have d:=pre_eq (m:=p) (l:=i) d;rcases h with⟨hv,_⟩|⟨E,G,cur,v,hv,y,z,A,B,hs,C,hF⟩
  ·cases hv
  ·cases hv;refine .inr ⟨b,k,cur,v,rfl,aaX e y,z,A,B,hs,?_,λ o=>by simpa using hF o⟩;exact(jX (w:=w) (F:=g.F) [.int t]).ahead (x:=i) (m:=p) e d C
 ·cases d
theorem agj (h:Rel E C s a w g) {p:Pl} {sh:Sh} {l:List (Option (ElA [sh]))} {i:Nat} {d:Nat} (hd:Ny s p=some (⟨.dl [sh],.own,l⟩,i,0)) (a0:sh.qH=true) {y:El sh} {v:Value} (G:wO w g (.hand 0) false sh y v)
 (a1:isAgg v=false) {mk:Nat->aG} (hv:TV s a w g mk (.rowr p false 1) v) {us:List Upd} (hu:jU s p [⟨.dl [sh],.own,List.set l i (some y)⟩] false=some us):
 ∃Y:Gh,Rel E C (s.dX us) a w Y/\Y.F=g.F/\Y.at_=g.at_/\ ∀k b,g.own b=some (.tm d k)->Y.own b=some (.tm d k):=by
 obtain⟨M,es,l0,e0,Z⟩:=yS hd;cases e0;obtain⟨_,_,i',j',m,N⟩:=hv;rw[M]at m;cases m;obtain⟨b,len,k,cur,et,f,m1,m2,m3,b2,I⟩:=N [sh] l Z
 have hi:i<l.length:=by
  obtain⟨u,q1,q2,_⟩:=qA h Z;rw[m1]at q1;cases q1;simp only[jZ,Sh.qO,if_true]at q2;rcases q2 with⟨e,_⟩|⟨_,_,_,_,e,_⟩
  ·cases e
  ·simp only[Value.slice.injEq]at e;obtain⟨_,e,_⟩:=e;rw[e]at m2;exact m2
 obtain⟨b1,k1,b3,c0,e1,e2,a3,hk,K,t,O,Q,hF,R⟩:=h.KD Z hi;rw[m1]at e1;cases e1;rw[t]at m3;cases m3;simp only[aaY,abY,aaZ]at I O Q;rw[aI a1]at I
 have a4:(cur.toList.take l.length)[i]? =some v:=by
  rw[aam,if_pos hi];have:=congrArg (λ l=>l[0]?) I;simp only[aam,aar,aaZ]at this;simpa using this.symm
 let ρ:aG->aG:=λ o=>if o= .hand 0 then dQ p.root p.cell else o
 have S: ∀o,o≠ .hand 0->ρ o=o:=λ o K=>by simp only[ρ,if_neg K]
 have U:ρ (.hand 0)=dQ p.root p.cell:=by simp only[ρ,if_pos rfl]
 have B:dQ p.root p.cell≠ .hand 0:=jE _ _ _;have A: ∀z ow,g.own z=some ow->ow≠ .hand 0->(g.ren ρ).own z=some ow:=λ z ow e hn=>by simp only[Gh.ren,e,aaL,S ow hn]
 have W:(cur.toList.take l.length).set i v=cur.toList.take l.length:=by
  apply aaT;intro q;rw[aaU];split
  ·rename_i L;subst L;split
   ·exact a4.symm
   ·rename_i hn;rw[aai (by omega)]
  ·rfl
 refine⟨g.ren ρ,?_,rfl,rfl,λ k b e=>A b _ e (by simp)⟩;refine kK h (ds:=[⟨.dl [sh],.own,List.set l i (some y)⟩]) Z hu rfl (Fr.ren w g λ o K=>S o (K.2 0)) (h.base.ren ρ) rfl ?_ (λ q c3 l' L=> ?_)
 ·show aF w (g.ren ρ) _ _ _ (((aC a w g p.root).drop p.cell).take 1);rw[e2];refine⟨_,[],rfl,?_,rfl⟩;simp only[jZ,Sh.qO,if_true];have D:(List.set l i (some y)).length=l.length:=aa5;refine .inr ⟨b,k,cur,et,by simp only[aQ];rw[D],by simp only[aQ];rw[D];exact a3,hk,A b _ K B,t,by simpa [Sh.n]using O,⟨⟨rfl,by simp only[aQ,Sh.n];rw[D];exact R⟩,?_⟩,λ o=>⟨λ hf=>(hF o hf).elim,λ hf=>by cases hf.1⟩⟩;simp only[aQ,Sh.n,aaY,abY];rw[D]
  have:=Q.set1 (w':=w) (g':=g.ren ρ) a0 hi G B (λ e=>by have:=G.nD e;rw[K]at this;exact B (aak this)) (Keeps.refl _ _)
   (λ z hz=>⟨by simp only[Gh.ren,G.nD hz,aaL,U],rfl,λ _=>acd⟩) (λ z _ hz=>⟨A z _ hz B,rfl,λ _=>acd⟩)
  rwa [W]at this
 ·have a7:q=0:=by
   rcases ab6 q with h|h
   ·exact h
   ·rw[aai (by simp;omega)]at L;cases L
  subst a7;simp only[aaN,aag]at L;cases L;exact⟨l,rfl,λ _ _ _ _=>rfl⟩
theorem aem {g2:Gh} {d:Nat} {l:List (Operand×LC)} {vs:List Upd} (f:(Xr E s d l).run=some vs) (hl: ∀x a2,(x,a2)∈l-> ∃j,EO w' g2 (.tm j) 0 false a2 (a.eval x)):
 ∃io:Option (Nat×aG),∀gF:Gh,gF.F=g2.F->gF.at_=g.at_->Rel E C s a w' gF->(∀j ow,io=some (j,ow)-> ∀b,g2.own b=some (.tm j 0)->gF.own b=some ow)->
  ∃I:Gh,Rel E C (s.dX vs) a w' I/\I.F=gF.F/\I.at_=gF.at_/\ ∀k b,gF.own b=some (.tm d k)->I.own b=some (.tm d k):=by
 unfold Xr at f;split at f
 ·obtain rfl:=au f;exact⟨none,λ gF _ _ h _=>⟨gF,h,rfl,rfl,λ _ _ e=>e⟩⟩
 ·rename_i x c;obtain⟨j,Q,a3⟩:=hl x [c] (by simp)
  have via: ∀{gF:Gh} {mk:Nat->aG} {k:Nat},gF.F=g2.F->(∀b,g2.own b=some (.tm j 0)->gF.own b=some (mk k))->aF w' gF mk k [c] (a.eval x).cells.toList:=λ hF G=>
   a3.via hF λ i b hi e=>by
    obtain rfl:i=0:=by simpa using hi
    exact G b (by simpa using e)
  have a4: ∀(i:Nat) (es:List Sh) (l':List (Option (ElA es))),c.sh.qH=true->[c][i]? ≠some (⟨.dl es,.own,l'⟩:CV):=by
   intro i es l' z e;have:=aaj e;rw[←aah.1 this]at z;simp[Sh.qH]at z
  unfold U4 at f;split at f
  ·obtain rfl:=au f;exact⟨none,λ gF _ _ h _=>⟨gF,h,rfl,rfl,λ _ _ e=>e⟩⟩
  ·rename_i q W;split at f
   ·rename_i n;obtain⟨t,f⟩:=bg f;obtain rfl:=au f
    ·simp only[aae]at t;obtain⟨A,z⟩:=t;have A:=aY7 A;have K:(s.tm n).1= .val false [q]:=W;refine⟨some (j,.tm n 0),λ gF hF _ h G=>⟨gF,?_,rfl,rfl,λ _ _ e=>e⟩⟩;refine h.KZ (Fr.refl _ _ _) h.base rfl (λ d2 d3 e=> ?_) ⟨Q,via hF (G j _ rfl)⟩;cases e;exact⟨false,[q],K,by simp[A],λ i es l' hi=>absurd hi (a4 i es l' z)⟩
   ·exact(aj f).elim
  ·rename_i p W;split at f
   ·rename_i q a5 hc;obtain⟨t,f⟩:=bg f;have f:=Gt f
    ·simp only[aae]at t;obtain⟨A,z⟩:=t;have A:=aY7 A;refine⟨some (j,dQ p.root p.cell),λ gF hF _ h G=>⟨gF,?_,rfl,rfl,λ _ _ e=>e⟩⟩;obtain⟨_,_,_,hv⟩:=aK h W (by simp);obtain⟨_,Y⟩:=hv _ hc;refine kK h (ds:=[c]) hc f (by simp[A]) (Fr.refl _ _ _) h.base rfl ?_ (CB.of λ d hd _=> .inl (by rw[aah.1 hd];exact z));show aF w' gF (dQ p.root) p.cell [c] (((aC a w' gF p.root).drop p.cell).take 1);rw[←Y];exact via hF (G j _ rfl)
   ·exact(aj f).elim
  ·rename_i p W;split at f
   ·rename_i sh l i jj hd;have t:=(bg f).1
    replace f:=(bg f).2
    simp only[aae]at t;obtain⟨⟨hj,z⟩,B⟩:=t;obtain rfl:=aao hj;have B:c.tg= .own:=by unfold Tg.GK at B;split at B<;>simp_all
    split at f
    ·rename_i y hy;have hu:=Gt f;obtain⟨e,rfl⟩:=lg hy;obtain⟨d6,ct,cx⟩:=c;simp only at e B;subst e B;refine⟨some (j,.hand 0),λ gF hF _ h G=> ?_⟩;have k1:=via (gF:=gF) (mk:=λ _=> .hand 0) (k:=0) hF (G j _ rfl);rw[aI Q]at k1;obtain⟨v,ws,ev,D,_⟩:=k1;obtain rfl:a.eval x=v:=by simpa using(abJ ev).1
     unfold jZ at D;simp only[if_pos (fZ z)]at D;exact agj h hd z ((o8 z).1 D) Q (aK h W (by simp)) hu
    ·exact(aj f).elim
   ·exact(aj f).elim
  ·rename_i p q c0 W;split at f
   ·rename_i n e a5 hc;obtain⟨t,f⟩:=bg f;simp only[aae,abw]at t;obtain⟨⟨⟨L,A⟩,B⟩,R⟩:=t;have L:=aY7 L;have A:=aY7 A;have B:c.tg= .own:=by unfold Tg.GK at B;split at B<;>simp_all
    have R:n≠d:=λ e=>by rw[e,acF]at R;cases R
    split at f
    ·rename_i us hu;obtain⟨b6,f⟩:=lG f;obtain rfl:=au f;have K:(s.tm n).1= .ext p q c0:=W
     have M: ∀m,p.root= .tmp m->m≠n:=by
      rintro m hm rfl;obtain⟨cells,S,_⟩:=bQ.1 hc;rw[hm]at S;simp only[aB]at S;have e1:s.tm m=(.ext p q c0,(s.tm m).2):=by rw[←K]
      rw[e1]at S;cases S
     have a8:s.dX [.keep n .dead]= {s with tm:=put s.tm n (.dead,(s.tm n).2)}:=rfl
     have b8:jU (s.dX [.keep n .dead]) p [q] false=some us:=by
      rw[←hu,a8];unfold jU
      cases hr:p.root with
      |box m=>rfl
      |tmp m=>simp only[];rw[bM _ _ _ (M m hr)]
     have c1:bf (s.dX [.keep n .dead]) p 1=some [e]:=by
      rw[←hc,a8];unfold bf
      cases hr:p.root with
      |box m=>rfl
      |tmp m=>simp only[aB];rw[bM _ _ _ (M m hr)]
     have fin: ∀{I:Gh} {u:Value},Rel E C (s.dX [.keep n .dead]) a w' I->(aC a w' I p.root)[p.cell]? =some u->q.sh.qH=true->q.tg= .own->wO w' I (dQ p.root p.cell) false q.sh q.x u->Rel E C (s.dX (.keep n .dead::us)) a w' I:=by
      intro I u r hv z c2 G;refine kK r (ds:=[q]) c1 b8 (by simp[L]) (Fr.refl _ _ _) r.base rfl ?_ (CB.of λ d hd _=> .inl (by rw[aah.1 hd];exact z));refine⟨u,[],?_,?_,rfl⟩
      ·have:p.cell<(aC a w' I p.root).length:=by
        rcases aaF p.cell (aC a w' I p.root).length with h|h
        ·exact h
        ·simp[aai h]at hv
       rw[aaI this];rw[aac this]at hv;simp[aak hv]
      ·unfold jZ;simp only[c2,if_pos (fZ z)];exact(o8 z).2 G
     by_cases N: ∃b k l,(aC a w' g p.root)[p.cell]? =some (.slice (some ⟨b,0,none⟩) (aQ q.sh q.x) k)/\a.eval (.tmp n)= .slice (some ⟨b,0,none⟩) l k
     ·obtain⟨b,k,l,c3,c4⟩:=N;refine⟨some (j,dQ p.root p.cell),λ gF hF Z h G=>⟨gF,?_,rfl,rfl,λ _ _ e=>e⟩⟩;have ht:=h.tm n;rw[K]at ht;obtain⟨_,_,_,_,_,h5,h6,h7,h8⟩:=ht;have z:=PG h5;have r1:Rel E C (s.dX [.keep n .dead]) a w' gF:=h.KZ (Fr.refl _ _ _) h.base rfl (λ _ _ e=>by cases e) trivial
      have a0:aC a w' gF p.root=aC a w' g p.root:=by
       cases p.root with
       |tmp m=>rfl
       |box m=>simp only[aC,Z]
      refine fin r1 (by rw[a0];exact c3) z h6 ?_;have k1:=via (gF:=gF) (mk:=λ _=>dQ p.root p.cell) (k:=0) hF (G j _ rfl);rw[aI Q]at k1;obtain⟨v,ws,ev,D,_⟩:=k1;obtain rfl:a.eval (.tmp n)=v:=by simpa using(abJ ev).1
      have U:c.sh.qH=true:=by rw[A];exact z
      unfold jZ at D;simp only[B,if_pos (fZ U)]at D;have D:=(o8 U).1 D;rw[c4]at D;exact D.ahead A b6
     ·refine⟨none,λ gF hF Z h G=> ?_⟩;have ht:=h.tm n;rw[K]at ht;obtain⟨_,_,_,_,_,h5,h6,h7,h8⟩:=ht;have z:=PG h5;obtain⟨u,b0,O⟩:=h8 e hc
      have a0:aC a w' gF p.root=aC a w' g p.root:=by
       cases p.root with
       |tmp m=>rfl
       |box m=>simp only[aC,Z]
      have O:wO w' gF (.tm n 1) false q.sh q.x u:=by
       rcases O with⟨b,k,l,e1,e2⟩|O
       ·exact absurd ⟨b,k,l,by rw[←a0,b0,e1],e2⟩ N
       ·exact O
      let ρ:aG->aG:=λ o=>if o= .tm n 1 then dQ p.root p.cell else o
      have b1: ∀o,o≠ .tm n 1->ρ o=o:=λ o G=>by simp only[ρ,if_neg G]
      have b2:ρ (.tm n 1)=dQ p.root p.cell:=by simp only[ρ,if_pos rfl]
      have r1:Rel E C (s.dX [.keep n .dead]) a w' (gF.ren ρ):=h.KZ (Fr.ren w' gF λ o G=>b1 o (G.1 1)) (h.base.ren ρ) rfl (λ _ _ e=>by cases e) trivial;refine⟨gF.ren ρ,fin r1 (u:=u) ?_ z h6 ?_,rfl,rfl,λ k b e=> ?_⟩
      ·rw[←b0];cases p.root<;>rfl
      ·have:=O.ren (ρ:=ρ)
       rwa [b2]at this
      ·simp only[Gh.ren,e,aaL];rw[b1 _ (by simp only[ne_eq,aG.tm.injEq,not_and];exact λ e=>absurd e.symm R)]
    ·exact(aj f).elim
   ·exact(aj f).elim
  ·exact(aj f).elim
 ·exact(aj f).elim
def YQ (io:Option (Nat×aG)) (i k:Nat):Option aG:=match io with|some (j,ow)=>if i=j/\k=0 then some ow else none|none=>none
open Classical in
noncomputable def behind (w:World) (g g0 g2:Gh) (e:List (Option Nat)) (d:Nat) (io:Option (Nat×aG)):Gh:=
 ⟨g.at_,λ b=>if(∃ow,g0.own b=some ow)\/w.heap.size<=b then(match g2.own b with
  |some (.hand k)=>some (.tm d k)
  |some (.cell i j)=>(Ui e i).map λ n=> .cell n j
  |some (.box i)=>(Ui e i).map .box
  |some (.tm i k)=>YQ io i k
  |_=>none)else g.own b,g2.F⟩
theorem Oi {i:Nat} (hG:Good P E.glob (E.sig i) (E.call i)) (h:Rel E C s a w g) {cl:Call} {fo:Operand} (ho:o.op= .call cl) (S:cl.callee= .value fo) (hf:a.eval fo= .func (.func (E.sig i).fn) #[] #[])
 (c9:(E.sig i).scalar=false) {d:Nat} (b5:o.dst=some d) (hd:DOk E d) {us:List Upd} (G:(Nw E s d cl.args.toList [] i).run=some us):
 o.wp P a w (λ a' w'=> ∃g',Rel E C (s.dX us) a' w' g') Q:=by
 unfold Nw at G;rw[c9]at G;simp only[cond_false,noT,abt]at G;obtain⟨⟨cs,U,K⟩,hl,G⟩:=aT G;simp only[]at G;split at G
 ·exact(aj G).elim
 ·rename_i x W;obtain⟨r,hr,G⟩:=zK G;split at G
  ·exact(aj G).elim
  ·rename_i b6 a3;obtain⟨vs,b7,G⟩:=aT G;obtain rfl:=au G;obtain⟨e8,g6,ds,I,d1,e1,L,e3,p,R,a1,g7,g8,b8,b9,c0,a4⟩:=Ox _ _ [] s g [] [] [] cs U K h rfl (by simp) hl;simp only[abT]at e1 L e3 R;subst e1 L e3;obtain⟨d2,a5⟩:=hG x r hr;have c1:=Wq (O1 b9) W
   have d3: ∀n,some n∈K-> ∀o,¬I.F (I.at_ n) o:=λ n hn o=>by
    obtain⟨b,A⟩:=acE.1 (a4 n hn);obtain⟨_,_,_,_,h3,_⟩:=p.bx n b A;exact h3 o
   let g0:=callee (E.sig i).params K I
   have f1:=b8.boxes
   have hE:EM w g0 (E.sig i).params 0 (retag (E.sig i).ins (cellsOf _ x)) (cl.args.toList.map a.eval):=by
    rw[c1];refine YA (g:=I) (g0:=g0) rfl _ 0 0 K cs _ d1 (λ b k' e=> ?_) (λ j n e=> ?_) R b9 b8
    ·rw[aa0]at e;simp only[g0,callee,e]
    ·have hm:some n∈K:=aaj e;refine⟨?_,λ L=> ?_,d3 n hm⟩
     ·simp only[g0,callee,aa0,Ko.2 e]
     ·simp only[g0,callee,L,QY c0 e,aaL]
   have a6:QN E.glob w g0:=λ gl cs hg=>by
    obtain⟨k1,vs,k2,k3⟩:=p.glob gl cs hg;exact⟨k1,vs,k2,aF.vN (g':=g0) (show Keeps w w I.F I.F from Keeps.refl _ _) cs 0 0 vs k1 k3⟩
   have y: ∀b ow,g0.own b=some ow-> ∃ow',I.own b=some ow'/\((∃k,ow'= .hand k)\/ ∃n,some n∈K/\ow'= .box n):=by
    intro b ow e;simp only[g0,callee]at e;split at e
    ·rename_i k hk;exact⟨_,hk,.inl ⟨k,rfl⟩⟩
    ·rename_i n hn;obtain⟨q,hq,_⟩:=aaK.1 e;exact⟨_,hn,.inr ⟨n,Oh hq,rfl⟩⟩
    ·cases e
   have hC:=a5 w g0 _ hE a6 (λ b ow e=>by
    obtain⟨ow',Z,_⟩:=y b ow e;exact(p.base.own b ow' Z).2) (λ b o e=>(p.base.fz b o e).2) (λ b ow cs t f e S=>by
    obtain⟨ow',Z,_⟩:=y b ow e;exact p.base.frz b ow' cs t f Z S)
   have a7:(cl.args.toList.map a.eval).toArray=cl.args.map a.eval++ #[]:=by apply abu.1;simp
   rw[a7]at hC;unfold Oper.wp;rw[Rj ho S hf d2,Oper.upon_enter];refine hC.mono λ e w' hR=> ?_;obtain⟨v,g2,rfl,A,c5,a0,d4⟩:=hR;obtain⟨io,d5⟩:=aem (C:=C) (a:=a) (w':=w') (g:=I) (g2:=g2) b7 (Uy (g:=g0) _ 0 _ _ _ rfl a0)
   let gF:=behind w I g0 g2 K d io
   have Y: ∀b,b<w.heap.size->(¬ ∃ow,g0.own b=some ow)->gF.own b=I.own b/\w'.heap[b]? =w.heap[b]? /\ ∀o,gF.F b o->I.F b o:=by
    intro b B D;refine⟨?_,A.blk b B D,λ o a8=> ?_⟩
    ·simp only[gF,behind];rw[if_neg (λ R=>R.elim (λ h=>D h) (λ h=>by omega))]
    ·rcases(A.fz b o a8).1 with h|h|h
     ·exact h
     ·exact absurd h D
     ·omega
   have z: ∀b ow,g2.own b=some ow->gF.own b=(match ow with
    | .hand k=>some (.tm d k)
    | .cell i j=>(Ui K i).map λ n=> .cell n j
    | .box i=>(Ui K i).map .box
    | .tm i k=>YQ io i k):=by
    intro b ow e;have:=(A.own b ow e).1;simp only[gF,behind];rw[if_pos this,e];cases ow<;>rfl
   have c6:Fr (λ o=>(∀i,o≠ .hand i)/\ ∀n,some n∈K->o≠ .box n) w w' I gF:=⟨A.keeps,λ b ow k e=>by
    have D: ¬ ∃ow,g0.own b=some ow:=by
     rintro⟨M,L⟩;obtain⟨ow',Z,d6⟩:=y b M L;rw[e]at Z;cases Z;rcases d6 with⟨k',rfl⟩|⟨n,hn,rfl⟩
     ·exact k.1 k' rfl
     ·exact k.2 n hn rfl
    obtain⟨q1,q2,q3⟩:=Y b (p.base.own b ow e).2 D;exact⟨q1.trans e,q2,q3⟩⟩
   have hX: ∀b,(∃ow,g0.own b=some ow)->(C.X b\/C.w0.heap.size<=b)/\b<w.heap.size:=by
    rintro b ⟨ow,e⟩;obtain⟨ow',Z,_⟩:=y b ow e;exact p.base.own b ow' Z
   have a9:Base C.w0 C.F0 C.X w' gF:=⟨A.os.trans p.base.os,A.tape.trans p.base.tape,A.output.trans p.base.output,aaX p.base.size A.size,λ b B D=>by
    have b0:=abn B p.base.size;rw[A.blk b b0 (λ b1=>(hX b b1).1.elim (λ h=>D h) (λ h=>by omega))];exact p.base.blk b B D,λ b ow e=>by
    by_cases l:(∃ow,g0.own b=some ow)\/w.heap.size<=b
    ·simp only[gF,behind]at e;rw[if_pos l]at e
     have b0:b<w'.heap.size:=by
      cases h2:g2.own b with
      |none=>rw[h2]at e;cases e
      |some M=>exact(A.own b M h2).2
     refine⟨?_,b0⟩;rcases l with l|l
     ·exact(hX b l).1
     ·exact .inr (aaX p.base.size l)
    ·simp only[gF,behind]at e;rw[if_neg l]at e;obtain⟨q1,q2⟩:=p.base.own b ow e;exact⟨q1,abn q2 A.size⟩,
    p.base.keeps.trans A.keeps,λ b o a8=>by
     obtain⟨q1,q2⟩:=A.fz b o a8;refine⟨?_,q2⟩;rcases q1 with q1|q1|q1
     ·exact(p.base.fz b o q1).1
     ·exact .inr (hX b q1).1
     ·exact .inr (.inr (aaX p.base.size q1)),λ b ow cs t f W S=>by
     by_cases l:(∃ow,g0.own b=some ow)\/w.heap.size<=b
     ·simp only[gF,behind]at W;rw[if_pos l]at W
      cases h2:g2.own b with
      |none=>rw[h2]at W;cases W
      |some M=>exact A.frz b M cs t f h2 S
     ·simp only[gF,behind]at W;rw[if_neg l]at W;rw[A.blk b (by omega) (λ b1=>l (.inl b1))]at S;exact p.base.frz b ow cs t f W S⟩
   let Kp:Nat->Nat->Prop:=λ n k=> ∃(j:Nat) (want:List (Sh×Tg)) (sh:Sh),K[j]? =some (some n)/\(E.sig i).params[j]? =some (.ptr want)/\want[k]? =some (sh,.dead)
   have O: ∀n k u,Kp n k->VB w I n k=some u->VB w' gF n k=some u:=by
    rintro n k u ⟨j,want,sh,k1,k2,k3⟩ hu;have a2:g0.at_ j=I.at_ n:=by simp only[g0,callee,Ko.2 k1]
    have:=d4 j want k sh u k2 k3 (by simp only[VB,a2];exact hu);simp only[VB,a2]at this;exact this
   obtain⟨t1,t2⟩:=FI (s:=s.dX U) (gF:=gF) (g2:=g2) (g:=g0) rfl (Kp:=Kp) (λ n b k c v hK d9 S=>by
    obtain⟨cur,et,q1,q2,q3,q4⟩:=p.bx n b d9;obtain⟨u,p1,p2⟩:=q4.get _ 0 _ k c (by rw[aas,S];rfl);rw[aa0]at p2;have:=O n k u hK (by simp only[VB,q1];exact p1);simp only[VB]at this;split at this
    ·rename_i c8 e0 f' R;exact⟨c8,e0,f',u,R,this,p2.fr c6 ⟨λ i=>by simp,λ m _=>by simp⟩⟩
    ·cases this) (E.sig i).params 0 K _ _ b6 (s.dX U) a3 a0 (λ _ _=>rfl) c0 (λ j n want k sh k1 k2 k3=>⟨j,want,sh,k1,k2,k3⟩) (λ j n e=>by
    have B:=Ko.2 e;refine⟨?_,λ b L=> ?_,λ b k L=> ?_⟩
    ·simp only[gF,behind,g0,callee,aa0,B]
    ·rw[z b _ L];simp only[aa0,B,aaL]
    ·rw[z b _ L];simp only[aa0,B,aaL])
   have r2:Rel E C ((s.dX U).dX b6) a w' gF:=p.aic (N:=λ n=>some n∈K) (Kp:=Kp) c6 a9 rfl t1 (λ n k u _ hK hu=>by
    have e4:VB w I n k=some u:=by
     simp only[aC]at hu;simp only[VB];split at hu
     ·rename_i R;simp only[R];exact hu
     ·simp at hu
    have:=O n k u hK e4;simp only[VB]at this;simp only[aC];split at this
    ·rename_i R;simp only[R];exact this
    ·cases this) t2
   have b2:adl w' gF (.tm d) (resT (E.sig i).res (retag (E.sig i).outs (cellsOf ((E.sig i).outs.map (·.1)) r))).1 v:=
    adl.via (g:=g2) (g':=gF) (mk:= .hand) rfl (λ j b e=>by rw[z b _ e]) c5
   obtain⟨gG,r3,e5,_,e6⟩:=d5 gF rfl rfl r2 λ j ow e b L=>by
    rw[z b _ L];simp[YQ,e]
   refine⟨gG,?_⟩;rw[b5,eH,eH,eH];exact r3.Vj hd (Fr.refl _ _ _) r3.base rfl (Wp (b2.via (g:=gF) (g':=gG) e5 λ k b e=>e6 k b e))
def QL (P:Program) (E:Env):Prop:=xU P E.ty/\ ∀i,Good P E.glob (E.sig i) (E.call i)
theorem af8 (u:QL P E) {cl:Call} {v:Operand} (p:o.op= .call cl) (q:cl.callee= .value v):rY P E C o:=by
 intro s a w g us d Q h e y i;simp only[plan,p,e,q]at i;split at i
 ·rename_i f A;obtain⟨m,i⟩:=bg i;have m:=aao m;have hv:a.eval v= .func (.func f) #[] #[]:=aK h A (by simp);rw[←m]at hv
  cases l:(E.sig (E.spec d)).scalar with
  |true=>exact Q8 (u.2 _) h p q (ts:=[]) (cvs:=[]) (mk:= .hand) rfl hv l e y i
  |false=>exact Oi (u.2 _) h p q hv l e y i
 ·rename_i f ts A;obtain⟨m,i⟩:=bg i;have m:=aao m;obtain⟨z,hv,k⟩: ∃z:LV,a.eval v= .func (.func f) #[] z.toArray/\oI s a w g (V9 v) ts z:=aK h A (by simp);rw[←m]at hv
  cases l:(E.sig (E.spec d)).scalar with
  |true=>exact Q8 (u.2 _) h p q k hv l e y i
  |false=>
   match ts,k,i with
   | [],k,i=>
     have B:z= []:=k;subst B;exact Oi (u.2 _) h p q hv l e y i
   |t::ts,_,i=>
    exfalso;unfold Nw at i;rw[l]at i;exact aj i
 ·exact(aj i).elim
end
section
variable {P:Program} {E:Env} {C:Ctx} {s s':St} {a a':Act} {w w':World} {g g':Gh} {o:Oper} {Q:Exit->Act->World->Prop}
theorem rY.fin (h:rY P E C o) (k: ∀t x y,o.op≠ .store t x y) (l: ∀t m x v,o.op≠ .mapUpdate t m x v) (p: ∀c,o.op= .call c->c.callee≠ .builtin .clear):adt P E C o:=by
 intro s a w g us Q u e f
 cases q:o.dst with
 |none=>
  exfalso;unfold plan at f;split at f
  ·rename_i t x y i;exact k t x y i
  ·rw[q]at f;simp only[]at f;split at f
   ·rename_i c i;split at f
    ·rename_i z _ _;exact p c i z
    ·exact aj f
   ·rename_i t m x v i;exact l t m x v i
   ·exact aj f
 |some d=>
  refine h u q ?_ f;simp only[KE,q,aae,abw]at e;exact⟨e.1,(Nat.blt_eq ..).mp e.2⟩
theorem agh (A:QL P E):adt P E C o:=by
 intro s a w g us Q h l p;have U:=p
 cases k:o.op with
 |store t x y=>exact aej A.1 k h l p
 |move x=>exact rY.fin (C:=C) (agb k) (by simp[k]) (by simp[k]) (by simp[k]) h l p
 |assign x=>exact rY.fin (C:=C) (Zl k) (by simp[k]) (by simp[k]) (by simp[k]) h l p
 |pick c x y=>exact rY.fin (C:=C) (agc k) (by simp[k]) (by simp[k]) (by simp[k]) h l p
 |alloc t=>exact rY.fin (C:=C) (aec A.1 k) (by simp[k]) (by simp[k]) (by simp[k]) h l p
 |box t x=>exact rY.fin (C:=C) (ah5 A.1 k) (by simp[k]) (by simp[k]) (by simp[k]) h l p
 |build t ps=>exact rY.fin (C:=C) (aee A.1 k) (by simp[k]) (by simp[k]) (by simp[k]) h l p
 |buildSlice t n ps=>exact rY.fin (C:=C) (Qc A.1 k) (by simp[k]) (by simp[k]) (by simp[k]) h l p
 |load t x=>exact rY.fin (C:=C) (aga A.1 k) (by simp[k]) (by simp[k]) (by simp[k]) h l p
 |nilCheck x=>exact rY.fin (C:=C) (UY k) (by simp[k]) (by simp[k]) (by simp[k]) h l p
 |makeInterface t x=>exact rY.fin (C:=C) (JB A.1 k) (by simp[k]) (by simp[k]) (by simp[k]) h l p
 |makeFunc f xs ys=>exact rY.fin (C:=C) (UW k) (by simp[k]) (by simp[k]) (by simp[k]) h l p
 |binOp W t x y u=>exact rY.fin (C:=C) (aed A.1 k) (by simp[k]) (by simp[k]) (by simp[k]) h l p
 |unOp W t x=>exact rY.fin (C:=C) (agd k) (by simp[k]) (by simp[k]) (by simp[k]) h l p
 |convert u t x=>exact rY.fin (C:=C) (Xn A.1 k) (by simp[k]) (by simp[k]) (by simp[k]) h l p
 |makeMap t r=>exact rY.fin (C:=C) (Xp A.1 k) (by simp[k]) (by simp[k]) (by simp[k]) h l p
 |lookup t m x ok=>exact rY.fin (C:=C) (Zn A.1 k) (by simp[k]) (by simp[k]) (by simp[k]) h l p
 |mapUpdate t m x v=>
  simp only[plan,k]at p
  cases q:o.dst with
  |none=>rw[q]at p;exact Sr A.1 k q h p
  |some d=>rw[q]at p;exact(aj p).elim
 |makeSlice t x y=>exact rY.fin (C:=C) (Sl A.1 k) (by simp[k]) (by simp[k]) (by simp[k]) h l p
 |slice t x lo hi mx=>exact rY.fin (C:=C) (aei A.1 k) (by simp[k]) (by simp[k]) (by simp[k]) h l p
 |fieldAddr t x f=>exact rY.fin (C:=C) (Si A.1 k) (by simp[k]) (by simp[k]) (by simp[k]) h l p
 |indexAddr t x i=>exact rY.fin (C:=C) (Sj A.1 k) (by simp[k]) (by simp[k]) (by simp[k]) h l p
 |index t x i=>exact rY.fin (C:=C) (aeh A.1 k) (by simp[k]) (by simp[k]) (by simp[k]) h l p
 |field t x f=>exact rY.fin (C:=C) (aeg A.1 k) (by simp[k]) (by simp[k]) (by simp[k]) h l p
 |extract x i=>exact rY.fin (C:=C) (Xo k) (by simp[k]) (by simp[k]) (by simp[k]) h l p
 |call cl=>
  have G: ∀t x y,o.op≠ .store t x y:=by simp[k]
  have I: ∀t m x v,o.op≠ .mapUpdate t m x v:=by simp[k]
  cases B:cl.callee with
  |value fo=>exact rY.fin (C:=C) (af8 A k B) G I (λ c e=>by rw[k]at e;cases e;rw[B];simp) h l p
  |invoke r m=>
   exfalso;simp only[plan,k,B]at p;cases q:o.dst<;>rw[q]at p<;>exact aj p
  |builtin b=>
   have K:b= .len->adt P E C o:=by
    rintro rfl
    match D:cl.args.toList with
    | [x]=>intro s a w g us Q h l p;exact rY.fin (C:=C) (ah6 A.1 k B D) G I (λ c e=>by rw[k]at e;cases e;rw[B];simp) h l p
    | []=>
      intro s a w g us Q h l p;exfalso;simp only[plan,k,B,D]at p;cases q:o.dst<;>rw[q]at p<;>exact aj p
    | [x,y]=>
      intro s a w g us Q h l p;exfalso;simp only[plan,k,B,D]at p
      cases q:o.dst with
      |none=>rw[q]at p;exact aj p
      |some d=>
       rw[q]at p;simp only[]at p;split at p
       ·simp only[V4]at p;exact aj p
       ·exact aj p
    |x::y::z::r=>
     intro s a w g us Q h l p;exfalso;simp only[plan,k,B,D]at p;cases q:o.dst<;>rw[q]at p<;>exact aj p
   by_cases M:b= .len
   ·exact K M h l p
   ·match D:cl.args.toList with
    | [x,y]=>
      by_cases O:b= .append
      ·subst O;exact rY.fin (C:=C) (Zk A.1 k B D) G I (λ c e=>by rw[k]at e;cases e;rw[B];simp) h l p
      ·by_cases R:b= .copy
       ·subst R;exact rY.fin (C:=C) (af9 A.1 k B D) G I (λ c e=>by rw[k]at e;cases e;rw[B];simp) h l p
       by_cases N:b= .min\/b= .max
       ·exact rY.fin (C:=C) (Zo k B N D) G I (λ c e=>by rw[k]at e;cases e;rw[B];rcases N with rfl|rfl<;>simp) h l p
       ·exfalso;simp only[plan,k,B,D]at p
        cases q:o.dst with
        |none=>rw[q]at p;exact aj p
        |some d=>
         rw[q]at p;cases b<;>simp only[reduceCtorEq,not_true_eq_false,or_false,or_true,not_false_eq_true]at M O N R<;>simp only[]at p<;>(split at p)<;>first|exact aj p|(simp only[V4]at p;exact aj p)
    | []=>
      exfalso;simp only[plan,k,B,D]at p
      cases q:o.dst with
      |none=>rw[q]at p;exact aj p
      |some d=>rw[q]at p;cases b<;>exact aj p
    | [x]=>
      by_cases L:o.dst=none/\b= .clear/\ ∃t,cl.argTypes.toList= [t]
      ·obtain⟨q,rfl,t,S⟩:=L;simp only[plan,k,B,D,q,S]at p;exact aef A.1 k B D S q h p
      exfalso;simp only[plan,k,B,D]at p
      cases q:o.dst with
      |none=>
       rw[q]at p;simp only[]at p;split at p
       ·rename_i x' Y Z e2 e3;cases Z;exact L ⟨q,rfl,Y,e3⟩
       ·exact aj p
      |some d=>rw[q]at p;cases b<;>first|exact absurd rfl M|exact aj p
    |x::y::z::r=>
     exfalso;simp only[plan,k,B,D]at p
     cases q:o.dst with
     |none=>rw[q]at p;exact aj p
     |some d=>rw[q]at p;cases b<;>exact aj p
 |_=>
  exfalso;simp only[plan,k]at p;cases q:o.dst<;>rw[q]at p<;>exact aj p
end
section
variable {P:Program} {E:Env} {C:Ctx} {s s':St} {o:Oper} {W:Loc->Prop}
def Uc (x y:T×Nat):Prop:=x=y\/(x.2=y.2/\KU x.1 y.1=true)
theorem rG {t u:T}:KU t u=true ↔ ∃ag cs d,t= .val ag cs/\u= .val ag d/\bJ cs=false/\bJ d=false/\cs.length=d.length:=by
 constructor
 ·intro h;unfold KU at h;split at h
  ·rename_i ag cs i d;simp only[aae,abw,beq_iff_eq]at h;obtain⟨⟨⟨rfl,e⟩,f⟩,g⟩:=h;exact⟨ag,cs,d,rfl,rfl,e,f,aao g⟩
  ·cases h
 ·rintro⟨ag,cs,d,rfl,rfl,e,f,g⟩;simp[KU,e,f,g]
theorem Uc.refl (x:T×Nat):Uc x x:= .inl rfl
theorem Uc.symm {x y:T×Nat} (h:Uc x y):Uc y x:=by
 rcases h with rfl|⟨e,f⟩
 ·exact .inl rfl
 ·obtain⟨ag,cs,d,g,i,k,l,m⟩:=rG.1 f;exact .inr ⟨e.symm,rG.2 ⟨ag,d,cs,i,g,l,k,m.symm⟩⟩
theorem Uc.trans {x y z:T×Nat} (h:Uc x y) (k:Uc y z):Uc x z:=by
 rcases h with rfl|⟨e,f⟩
 ·exact k
 rcases k with rfl|⟨i,l⟩
 ·exact .inr ⟨e,f⟩
 obtain⟨ag,cs,m,p,q,t,D,u⟩:=rG.1 f;obtain⟨v,ds,d,g,A,E,B,C⟩:=rG.1 l;rw[q]at g;cases g;exact .inr ⟨e.trans i,rG.2 ⟨ag,cs,d,p,A,t,B,u.trans C⟩⟩
def bxI (s:St) (n:Nat):Option (Nat×Nat):=(s.bx n).map λ b=>(b.inst,b.cells.length)
def bxC (s:St) (n i:Nat):Option (CV×Nat):=(s.bx n).bind λ b=>b.cells[i]?
theorem Yh (s:St) (k:Nat) (l:List (Nat×CV×Nat)) (n:Nat):bxI ((Upd.cl k l).on s) n=bxI s n:=by
 unfold bxI;simp only[Upd.on,put]
 cases d:Nat.beq n k with
 |false=>rfl
 |true=>
  have:=aao d;subst this;simp only[cond_true]
  cases s.bx n with
  |none=>rfl
  |some b=>simp[yR]
theorem Yg (s:St) (k:Nat) (l:List (Nat×CV×Nat)) (n i:Nat):bxC ((Upd.cl k l).on s) n i=if n=k then(bxC s n i).map (over l i)else bxC s n i:=by
 unfold bxC;simp only[Upd.on,put]
 cases d:Nat.beq n k with
 |false=>
  have:n≠k:=λ e=>by rw[e,acF]at d;cases d
  simp[this]
 |true=>
  have:=aao d;subst this;simp only[cond_true,if_true]
  cases s.bx n with
  |none=>rfl
  |some b=>simp[Cc]
theorem aeW {s s':St} {n:Nat} (e:bxI s n=bxI s' n) (f: ∀i,bxC s n i=bxC s' n i):s.bx n=s'.bx n:=by
 unfold bxI at e;unfold bxC at f
 cases g:s.bx n with
 |none=>
  cases d:s'.bx n with
  |none=>rfl
  |some k=>rw[g,d]at e;cases e
 |some b=>
  cases d:s'.bx n with
  |none=>rw[g,d]at e;cases e
  |some k=>
   rw[g,d]at e;simp only[g,d,aan]at f;simp only[aaL,aag,aay]at e;obtain⟨i,cs⟩:=b;obtain⟨m,l⟩:=k;simp only at e f;rw[e.1,aaT f]
structure Agree (W:Loc->Prop) (s s':St):Prop where
 tm: ∀n,W (.tm n)->s.tm n=s'.tm n
 bx: ∀n,W (.bx n)->s.bx n=s'.bx n
 id: ∀n,W (.id n)->Uc (s.tm n) (s'.tm n)
 bi: ∀n,W (.bi n)->bxI s n=bxI s' n
 bc: ∀n i,W (.bc n i)->bxC s n i=bxC s' n i
theorem Uc.ver {x y:T×Nat} (h:Uc x y):x.2=y.2:=by
 rcases h with rfl|⟨h,_⟩
 ·rfl
 ·exact h
theorem Agree.dX (h:Agree W s s'): ∀us:List Upd,Agree W (s.dX us) (s'.dX us):=by
 intro us
 induction us generalizing s s' with
 |nil=>exact h
 |cons u us f=>
  refine f (s:=u.on s) (s':=u.on s') ?_
  cases u with
  |tm k t=>
   refine⟨λ n d=> ?_,h.bx,λ n d=> ?_,h.bi,h.bc⟩
   ·simp only[Upd.on,put]
    cases e:Nat.beq n k with
    |false=>exact h.tm n d
    |true=>have:=aao e;subst this;simp only[cond_true];rw[h.tm n d]
   ·simp only[Upd.on,put]
    cases e:Nat.beq n k with
    |false=>exact h.id n d
    |true=>have:=aao e;subst this;simp only[cond_true];rw[(h.id n d).ver];exact .inl rfl
  |keep k t=>
   refine⟨λ n d=> ?_,h.bx,λ n d=> ?_,h.bi,h.bc⟩
   ·simp only[Upd.on,put]
    cases e:Nat.beq n k with
    |false=>exact h.tm n d
    |true=>have:=aao e;subst this;simp only[cond_true];rw[h.tm n d]
   ·simp only[Upd.on,put]
    cases e:Nat.beq n k with
    |false=>exact h.id n d
    |true=>have:=aao e;subst this;simp only[cond_true];rw[(h.id n d).ver];exact .inl rfl
  |bx k b=>
   refine⟨h.tm,λ n d=> ?_,h.id,λ n d=> ?_,λ n i d=> ?_⟩
   ·simp only[Upd.on,put]
    cases e:Nat.beq n k with
    |false=>exact h.bx n d
    |true=>rfl
   ·have:=h.bi n d;unfold bxI at this ⊢;simp only[Upd.on,put]
    cases e:Nat.beq n k with
    |false=>exact this
    |true=>rfl
   ·have:=h.bc n i d;unfold bxC at this ⊢;simp only[Upd.on,put]
    cases e:Nat.beq n k with
    |false=>exact this
    |true=>rfl
  |cl k l=>
   refine⟨h.tm,λ n d=> ?_,h.id,λ n d=>by rw[Yh,Yh];exact h.bi n d,λ n i d=>by rw[Yg,Yg,h.bc n i d]⟩;simp only[Upd.on,put]
   cases e:Nat.beq n k with
   |false=>exact h.bx n d
   |true=>have:=aao e;subst this;simp only[cond_true];rw[h.bx n d]
def xR (W:Loc->Prop) (s:St) (x:Operand):Prop:= ∀L,L∈rC s x->W L
def Upd.mild (W:Loc->Prop):Upd->Prop
 | .keep _ t=> ∀L,L∈t.uF->W L
 | .bx _ _=>True
 | .cl _ _=>True
 | .tm _ _=>False
theorem LG {n:Nat} {t:T} (h:t.uF= []):(Upd.keep n t).mild W:=λ L d=>by rw[h]at d;cases d
theorem xR.dX {x:Operand}: ∀(us:List Upd) (s:St),(∀u,u∈us->u.mild W)->xR W s x->xR W (s.dX us) x
 | [],_,_,h=>h
 |u::us,s,e,h=>by
  refine xR.dX us (u.on s) (λ v hv=>e v (by simp[hv])) ?_;have f:=e u (by simp)
  cases x with
  |tmp t=>
   intro L d
   cases u with
   |tm k i=>exact f.elim
   |bx k b=>exact h L d
   |cl k l=>exact h L d
   |keep k i=>
    simp only[rC,Upd.on,put]at d
    cases g:Nat.beq t k with
    |false=>rw[g]at d;exact h L d
    |true=>
     rw[g]at d;simp only[cond_true,aaQ]at d;rcases d with rfl|d
     ·exact h _ (by simp[rC])
     ·exact f L d
  |_=>intro L d;simp[rC]at d
theorem fD (h:Agree W s s') {x:Operand} (d:xR W s x):at_ E s x=at_ E s' x:=by
 cases x with
 |tmp n=>simp only[at_];rw[h.tm n (d _ (by simp[rC]))]
 |_=>rfl
theorem fA {x:Operand} {p:Pl} (d:xR W s x) (h:p.root.loc∈(at_ E s x).uF):W p.root.loc:=by
 cases x with
 |tmp n=>exact d _ (by simp only[rC];exact aaO _ h)
 |const v=>
  exfalso;simp only[at_]at h;unfold Om at h;split at h<;>simp[T.uF,T.loc]at h
 |global g=>
  exfalso;simp only[at_]at h;split at h<;>simp[T.uF,T.loc]at h
 |func f=>simp[at_,T.uF,T.loc]at h
theorem xC (h:Agree W s s') {r:Root} (d:W r.loc):aB s r=aB s' r:=by
 cases r with
 |tmp n=>simp only[aB];rw[h.tm n d]
 |box n=>simp only[aB];rw[h.bx n d]
theorem jC (h:Agree W s s') {p:Pl} (d:W p.root.loc) (n:Nat):bf s p n=bf s' p n:=by
 unfold bf;rw[xC h d]
theorem ji (h:Agree W s s') {p:Pl} (d:W p.root.loc) (ds:LC) (f:Bool):jU s p ds f=jU s' p ds f:=by
 unfold jU
 cases e:p.root with
 |tmp n=>rw[e]at d;simp only[];rw[h.tm n d]
 |box n=>rw[e]at d;simp only[];rw[h.bx n d]
theorem I9 (h:Agree W s s') {p:Pl} (d:W p.root.loc):CJ s p=CJ s' p:=by
 unfold CJ;rw[xC h d,jC h d]
theorem SE (h:Agree W s s') {p:Pl} (d:W p.root.loc) (n:Nat):DT s p n=DT s' p n:=by
 unfold DT;rw[xC h d]
theorem gu (h:Agree W s s') {p:Pl} (d:W p.root.loc) (n:Nat):content s p n=content s' p n:=by
 unfold content;rw[jC h d,jC h d]
theorem FK (h:Agree W s s') {p:Pl} (d:W p.root.loc) (ds:LC) (f:Bool):Nz s p ds f=Nz s' p ds f:=by
 funext us;unfold Nz
 cases e:p.root with
 |tmp n=>rfl
 |box n=>rw[e]at d;simp only[zA,h.bx n d]
theorem QJ (h:Agree W s s') {p:Pl} (d:W p.root.loc) (ds:LC):Nu s p ds=Nu s' p ds:=by
 have e: ∀(ds:LC) (f:Bool),jU s p ds f=jU s' p ds f:=ji h d;have g:=FK h d ds true;unfold Nu;rw[jC h d,jC h d];simp only[e,g]
theorem uy (h:Agree W s s') {p:Pl} (d:W p.root.loc):Ny s p=Ny s' p:=by
 unfold Ny;rw[jC h d]
theorem TY (h:Agree W s s') {p:Pl} (d:W p.root.loc) (k q:Nat) (ds:LC):O6 s p k q ds=O6 s' p k q ds:=by
 have e: ∀(ds:LC) (f:Bool),jU s p ds f=jU s' p ds f:=ji h d;unfold O6;rw[uy h d];simp only[e]
theorem NU (h:Agree W s s') {p:Pl} (d:W p.root.loc) (n:Nat) (t:List Sh):JZ s p n t=JZ s' p n t:=by
 unfold JZ;rw[jC h d]
theorem IZ (h:Agree W s s') {p:Pl} (d:W p.root.loc) (cs:LC):DK s p cs=DK s' p cs:=by
 unfold DK;rw[ji h d,FK h d]
theorem wQ {p:Pl} {ds:LC} {f:Bool} {us:List Upd} (h:jU s p ds f=some us): ∀u,u∈us->u.mild W:=by
 unfold jU at h;split at h
 ·split at h
  ·cases f with
   |true=>simp at h
   |false=>
    simp only[cond_eq_ite,abb,if_false]at h;split at h
    ·cases h;intro u d;simp only[aah]at d;subst d;exact LG rfl
    ·cases h
  ·cases h
 ·split at h
  ·simp only[cond_eq_ite]at h;split at h
   ·cases h;intro u d;simp only[aah]at d;subst d;exact trivial
   ·cases h
  ·cases h
theorem Ot {p:Pl} {ds:LC} {f:Bool} {us:List Upd} (h: ∀u,u∈us->u.mild W): ∀u,u∈Nz s p ds f us->u.mild W:=by
 unfold Nz;split
 ·intro u d;rw[aah.1 d];trivial
 ·exact h
theorem Lc {p:Pl} {cs:LC} {us:List Upd} (h:DK s p cs=some us): ∀u,u∈us->u.mild W:=by
 unfold DK at h;simp only[cond_eq_ite]at h;split at h
 ·cases h;intro u d;cases d
 ·split at h
  ·obtain⟨e,f,rfl⟩:=aaK.1 h;exact Ot (wQ f)
  ·cases h
theorem bind_congr {α β:Type} {d e:Dyn α} {q f:α->Dyn β} (h:d.run=e.run) (g: ∀a,d.run=some a->(q a).run=(f a).run):(d.bind q).run=(e.bind f).run:=by
 rw[Dyn.run_bind,Dyn.run_bind,←h]
 cases i:d.run with
 |none=>rfl
 |some a=>exact g a i
theorem uK (h:Agree W s s') {x:Operand} (g:xR W s x) (f:List Sh):Ei E s x f=Ei E s' x f:=by
 unfold Ei;rw[←fD (E:=E) h g]
 cases e:at_ E s x with
 |ref p ag n=>
  have d:W p.root.loc:=fA (E:=E) g (by rw[e];simp[T.uF,T.loc]);simp only[];rw[gu h d];simp only[IZ h d]
 |rsub p z lo i=>
  have d:W p.root.loc:=fA (E:=E) g (by rw[e];simp[T.uF,T.loc]);simp only[];rw[gu h d];simp only[IZ h d]
 |rowr p ag n=>
  have d:W p.root.loc:=fA (E:=E) g (by rw[e];simp[T.uF,T.loc]);simp only[];rw[uy h d];simp only[ji h d]
 |_=>rfl
theorem zn {x:Operand} {g:List Sh} {ag:Bool} {cs:LC} {us:List Upd} (h:(Ei E s x g).run=some (ag,cs,us)): ∀u,u∈us->u.mild W:=by
 unfold Ei at h;have none: ∀u:Upd,u∈([]:List Upd)->u.mild W:=λ u f=>by cases f
 split at h
 ·simp only[cond_eq_ite]at h;split at h
  ·have:=au h;simp only[aay]at this;obtain⟨_,_,rfl⟩:=this;exact none
  ·split at h
   ·have:=au h;simp only[aay]at this;obtain⟨_,_,rfl⟩:=this;intro u f;simp only[aah]at f;subst f;exact LG rfl
   ·exact(aj h).elim
 ·obtain⟨d,_,h⟩:=aT h;split at h
  ·rename_i i e;have:=au h;simp only[aay]at this;obtain⟨_,_,rfl⟩:=this;exact Lc e
  ·exact(aj h).elim
 ·obtain⟨d,_,h⟩:=aT h;split at h
  ·split at h
   ·rename_i e;have:=au h;simp only[aay]at this;obtain⟨_,_,rfl⟩:=this;exact Lc e
   ·exact(aj h).elim
  ·exact(aj h).elim
 ·split at h
  ·obtain⟨_,h⟩:=bg h;have:=au h;simp only[aay]at this;obtain⟨_,_,rfl⟩:=this;exact none
  ·exact(aj h).elim
 ·split at h
  ·obtain⟨d,_,h⟩:=aT h;split at h
   ·split at h
    ·rename_i i e;have:=au h;simp only[aay]at this;obtain⟨_,_,rfl⟩:=this;exact wQ e
    ·exact(aj h).elim
   ·exact(aj h).elim
  ·exact(aj h).elim
 ·exact(aj h).elim
theorem zT (h:Agree W s s') {x:Operand} (e:xR W s x):JC E s x=JC E s' x:=by
 unfold JC;rw[←fD (E:=E) h e]
 cases d:at_ E s x with
 |ref p ag n=>
  have f:W p.root.loc:=fA (E:=E) e (by rw[d];simp[T.uF,T.loc]);cases ag
  ·simp only[];rw[gu h f]
  ·rfl
 |rsub p z lo g=>
  have f:W p.root.loc:=fA (E:=E) e (by rw[d];simp[T.uF,T.loc]);simp only[];rw[gu h f]
 |val ag cs=>cases ag<;>rfl
 |_=>rfl
theorem nO (h:Agree W s s') {x:Operand} (d:xR W s x):tq E s x=tq E s' x:=by
 unfold tq;rw[←fD (E:=E) h d]
theorem NJ (h:Agree W s s') {x:Operand} (d:xR W s x):wH E s x=wH E s' x:=by
 unfold wH;rw[←fD (E:=E) h d]
theorem Dx (fields:List (Nat×Nat)) (cells:List Sh): ∀(ps:List (Nat×Operand)) (s s':St) (cs:LC) (us:List Upd),Agree W s s'->(∀p,p∈ps->xR W s p.2)->(vw E fields cells ps s cs us).run=(vw E fields cells ps s' cs us).run
 | [],_,_,_,_,_,_=>rfl
 |(i,x)::ps,s,s',cs,us,h,d=>by
  simp only[vw]
  cases fields[i]? with
  |none=>rfl
  |some on=>
   obtain⟨off,n⟩:=on;refine bind_congr (by rw[uK h (d (i,x) (by simp))]) λ r f=> ?_;obtain⟨ag,ds,e⟩:=r;simp only[];cases(Nat.beq ds.length n&&H6 ds ((cs.drop off).take n))with
   |false=>rfl
   |true=>exact Dx fields cells ps _ _ _ _ (h.dX e) λ p g=>(d p (by simp[g])).dX e s (zn f)
theorem Ol (h:Agree W s s'): ∀(d:List Operand),(∀x,x∈d->xR W s x)->adD E s d=adD E s' d
 | [],_=>rfl
 |x::d,e=>by
  simp only[adD];rw[←fD (E:=E) h (e x (by simp)),Ol h d λ y f=>e y (by simp[f])]
end
section
variable {P:Program} {E:Env} {C:Ctx} {s s':St} {o:Oper} {W:Loc->Prop}
theorem Rz (h:Agree W s s') {p:Pl} (d:W p.root.loc) (cs:LC) (want:List (Sh×Tg)):KR s p cs want=KR s' p cs want:=by
 unfold KR;simp only[ji h d,FK h d]
theorem FQ (h:Agree W s s') {x:Operand} (f:xR W s x) (y:Operand) (ag:Bool) (want:List (Sh×Tg)):KT s (at_ E s x) y ag want=KT s' (at_ E s x) y ag want:=by
 unfold KT
 cases e:at_ E s x with
 |ref p ag n=>
  have d:W p.root.loc:=fA (E:=E) f (by rw[e];simp[T.uF,T.loc]);simp only[];rw[gu h d];simp only[Rz h d]
 |rsub p z lo g=>
  have d:W p.root.loc:=fA (E:=E) f (by rw[e];simp[T.uF,T.loc]);simp only[];rw[gu h d];simp only[ji h d]
 |rowr p ag n=>
  have d:W p.root.loc:=fA (E:=E) f (by rw[e];simp[T.uF,T.loc]);simp only[];rw[uy h d];simp only[ji h d]
 |_=>rfl
theorem zQ: ∀u:Upd,u∈([]:List Upd)->u.mild W:=λ u d=>by cases d
theorem Ut {p:Pl} {cs ds:LC} {want:List (Sh×Tg)} {us:List Upd} (h:(KR s p cs want).run=some (ds,us)): ∀u,u∈us->u.mild W:=by
 unfold KR at h;split at h
 ·exact(aj h).elim
 ·simp only[cond_eq_ite]at h;split at h
  ·have:=au h;simp only[aay]at this;obtain⟨_,rfl⟩:=this;exact zQ
  ·split at h
   ·split at h
    ·rename_i d;have:=au h;simp only[aay]at this;obtain⟨_,rfl⟩:=this;exact Ot (wQ d)
    ·exact(aj h).elim
   ·exact(aj h).elim
theorem zi {x:Operand} (e:xR W s x): ∀L,L∈(at_ E s x).uF->W L:=by
 intro L d
 cases x with
 |tmp n=>exact e _ (by simp only[rC];exact aaO _ d)
 |const v=>
  exfalso;simp only[at_]at d;unfold Om at d;split at d<;>simp[T.uF,T.loc]at d
 |global g=>
  exfalso;simp only[at_]at d;split at d<;>simp[T.uF,T.loc]at d
 |func f=>simp[at_,T.uF,T.loc]at d
theorem Iq {t:T} (f: ∀L,L∈t.uF->W L) {y:Operand} {ag:Bool} {want:List (Sh×Tg)} {ds:LC} {us:List Upd} (h:(KT s t y ag want).run=some (ds,us)): ∀u,u∈us->u.mild W:=by
 unfold KT at h;split at h
 ·obtain⟨_,h⟩:=bg h;split at h
  ·exact(aj h).elim
  ·simp only[cond_eq_ite]at h;split at h
   ·have:=au h;simp only[aay]at this;obtain⟨_,rfl⟩:=this;exact zQ
   ·split at h
    ·have:=au h;simp only[aay]at this;obtain⟨_,rfl⟩:=this;intro u d;simp only[aah]at d;subst d;exact LG rfl
    ·exact(aj h).elim
 ·obtain⟨_,h⟩:=bg h;obtain⟨cs,_,h⟩:=aT h;exact Ut h
 ·simp only[cond_eq_ite]at h;split at h
  ·exact(aj h).elim
  ·obtain⟨cs,_,h⟩:=aT h;split at h
   ·split at h
    ·exact(aj h).elim
    ·split at h
     ·exact(aj h).elim
     ·split at h
      ·split at h
       ·split at h
        ·rename_i e;have:=au h;simp only[aay]at this;obtain⟨_,rfl⟩:=this;exact wQ e
        ·exact(aj h).elim
       ·exact(aj h).elim
      ·exact(aj h).elim
   ·exact(aj h).elim
 ·simp only[cond_eq_ite]at h;split at h
  ·exact(aj h).elim
  ·obtain⟨cs,_,h⟩:=aT h;have:=au h;simp only[aay]at this;obtain⟨_,rfl⟩:=this;exact zQ
 ·simp only[cond_eq_ite]at h;split at h
  ·exact(aj h).elim
  ·split at h
   ·obtain⟨cs,_,h⟩:=aT h;split at h
    ·split at h
     ·rename_i e;have:=au h;simp only[aay]at this;obtain⟨_,rfl⟩:=this;exact wQ e
     ·exact(aj h).elim
    ·exact(aj h).elim
   ·exact(aj h).elim
 ·split at h
  ·obtain⟨_,h⟩:=bg h;have:=au h;simp only[aay]at this;obtain⟨_,rfl⟩:=this;intro u d;simp only[aah]at d;subst d;exact f
  ·exact(aj h).elim
 ·exact(aj h).elim
theorem Fe (ag:Bool) (want:List (Sh×Tg)): ∀(ps:List (Nat×Operand)) (k:Nat) (s s':St) (rows:List (LC)) (us:List Upd),Agree W s s'->(∀p,p∈ps->xR W s p.2)->(yC E ag want ps k s rows us).run=(yC E ag want ps k s' rows us).run
 | [],_,_,_,_,_,_,_=>rfl
 |(i,x)::ps,k,s,s',rows,us,h,e=>by
  simp only[yC]
  cases Nat.beq i k with
  |false=>rfl
  |true=>
   have d:=e (i,x) (by simp);refine bind_congr (by rw[←fD (E:=E) h d,FQ h d]) λ r f=> ?_;exact Fe ag want ps _ _ _ _ _ (h.dX r.2) λ p g=>(e p (by simp[g])).dX r.2 s (Iq (zi (E:=E) d) (ds:=r.1) (us:=r.2) f)
theorem Uu (h:Agree W s s') {x:Operand} (d:xR W s x) (i:List (Option Nat)) (pk:PK):RD s i pk (at_ E s x) x=RD s' i pk (at_ E s' x) x:=by
 rw[←fD (E:=E) h d];unfold RD
 cases pk with
 |val ag want=>simp only[];rw[FQ h d]
 |io want=>simp only[];rw[FQ h d]
 |ptr want=>
  simp only[]
  cases f:at_ E s x with
  |addr p=>
   have e:W p.root.loc:=fA (E:=E) d (by rw[f];simp[T.uF,T.loc]);simp only[];rw[jC h e]
   cases k:p.root with
   |tmp n=>rfl
   |box n=>
    rw[k]at e;have l:s.bx n=s'.bx n:=h.bx n e;have g:W p.root.loc:=by rw[k];exact e
    cases p.sub with
    |some m=>rfl
    |none=>
     cases bf s' p want.length with
     |none=>rfl
     |some cs=>simp only[l,zA,ji h g]
  |_=>rfl
 |_=>rfl
theorem FP {x:Operand} {l:List (Option Nat)} {pk:PK} {ds:LC} {us:List Upd} {b:Option Nat} (i:xR W s x) (h:(RD s l pk (at_ E s x) x).run=some (ds,us,b)):(∀u,u∈us->u.mild W)/\ ∀n,b=some n->W (.bx n):=by
 unfold RD at h
 cases pk with
 |val ag want=>
  simp only[]at h;obtain⟨r,d,h⟩:=aT h;have:=au h;simp only[aay]at this;obtain⟨_,rfl,rfl⟩:=this;exact⟨Iq (zi (E:=E) i) (ds:=r.1) (us:=r.2) d,λ n e=>by cases e⟩
 |rptr want=>
  simp only[]at h;obtain⟨r,d,h⟩:=aT h;have:=au h;simp only[aay]at this;obtain⟨_,rfl,rfl⟩:=this;exact⟨zQ,λ n e=>by cases e⟩
 |io want=>
  simp only[]at h;obtain⟨r,d,h⟩:=aT h;have:=au h;simp only[aay]at this;obtain⟨_,rfl,rfl⟩:=this;exact⟨Iq (zi (E:=E) i) (ds:=r.1) (us:=r.2) d,λ n e=>by cases e⟩
 |clo f want=>exact(aj h).elim
 |fn f=>
  simp only[]at h;split at h
  ·obtain⟨_,h⟩:=bg h;have:=au h;simp only[aay]at this;obtain⟨_,rfl,rfl⟩:=this;exact⟨zQ,λ n e=>by cases e⟩
  ·exact(aj h).elim
 |ptr want=>
  simp only[]at h;split at h
  ·rename_i p k;have d:W p.root.loc:=fA (E:=E) i (by rw[k];simp[T.uF,T.loc]);split at h
   ·rename_i n cs q _ _;obtain⟨_,h⟩:=bg h;split at h
    ·rename_i t;have:=au h;simp only[aay]at this;obtain⟨_,rfl,rfl⟩:=this;refine⟨?_,λ m e=> ?_⟩
     ·cases qZ want with
      |false=>exact wQ t
      |true=>intro u g;simp only[cond_true,aah]at g;subst g;exact trivial
     cases e;rw[q]at d;exact d
    ·exact(aj h).elim
   ·exact(aj h).elim
  ·exact(aj h).elim
theorem GH: ∀(ps:List PK) (d:List Operand) (e:List (Option Nat)) (s s':St) (cs:LC) (us:List Upd),Agree W s s'->(∀x,x∈d->xR W s x)->(xu E ps d e s cs us).run=(xu E ps d e s' cs us).run
 | [],[],_,_,_,_,_,_,_=>rfl
 | [],_::_,_,_,_,_,_,_,_=>rfl
 |_::_,[],_,_,_,_,_,_,_=>rfl
 |p::ps,x::d,e,s,s',cs,us,h,f=>by
  simp only[xu];refine bind_congr (by rw[Uu h (f x (by simp))]) λ r g=> ?_;exact GH ps d _ _ _ _ _ (h.dX r.2.1) λ y i=>(f y (by simp[i])).dX r.2.1 s (FP (ds:=r.1) (us:=r.2.1) (b:=r.2.2) (f x (by simp)) g).1
theorem Gz: ∀(ps:List PK) (i:List Operand) (k:List (Option Nat)) (s:St) (cs:LC) (us:List Upd) (e:LC) (f:List Upd) (d:List (Option Nat)),(∀x,x∈i->xR W s x)->(∀n,some n∈k->W (.bx n))->
 (xu E ps i k s cs us).run=some (e,f,d)-> ∀n,some n∈d->W (.bx n)
 | [],[],k,s,cs,us,e,f,d,_,l,h=>by
   have:=au h;simp only[aay]at this;obtain⟨_,_,rfl⟩:=this;exact l
 | [],_::_,_,_,_,_,_,_,_,_,_,h=>(aj h).elim
 |_::_,[],_,_,_,_,_,_,_,_,_,h=>(aj h).elim
 |p::ps,x::i,k,s,cs,us,e,f,d,m,l,h=>by
  simp only[xu]at h;obtain⟨r,q,h⟩:=aT h;obtain⟨t,u⟩:=FP (ds:=r.1) (us:=r.2.1) (b:=r.2.2) (m x (by simp)) q;refine Gz ps i _ _ _ _ e f d (λ y v=>(m y (by simp[v])).dX r.2.1 s t) (λ n g=> ?_) h;rcases aap.1 g with g|g
  ·exact l n g
  ·simp only[aah]at g;exact u n g.symm
theorem FU (h:Agree W s s') {t:T} (d: ∀L,L∈t.loc->W L) (want:List (Sh×Tg)):RP s t want=RP s' t want:=by
 unfold RP
 cases t with
 |addr p=>
  have e:W p.root.loc:=d _ (by simp[T.loc]);simp only[];rw[gu h e]
 |_=>rfl
theorem ad7 (t:T) {L:Loc} (h:L∈t.loc):L∈t.uF:=by
 cases t with
 |clo f ts=>simp[T.loc]at h
 |_=>exact h
theorem UJ (h:Agree W s s') {x:Operand} (e:xR W s x) (pk:PK):Xj E s pk x=Xj E s' pk x:=by
 unfold Xj;rw[←fD (E:=E) h e]
 cases pk with
 |val l want=>
  cases d:at_ E s x with
  |ref p ag n=>
   have i:W p.root.loc:=fA (E:=E) e (by rw[d];simp[T.uF,T.loc]);simp only[];rw[gu h i]
  |rsub p z lo m=>
   have i:W p.root.loc:=fA (E:=E) e (by rw[d];simp[T.uF,T.loc]);simp only[];rw[gu h i]
  |_=>rfl
 |rptr want=>
  exact FU h (λ L k=>zi (E:=E) e L (ad7 _ k)) want
 |clo f want=>
  cases d:at_ E s x with
  |clo g ts=>
   match ts,d with
   | [t],d=>simp only[];rw[FU h (λ L k=>zi (E:=E) e L (by rw[d];simp[T.uF,k])) want]
   | [],_=>rfl
   |_::_::_,_=>rfl
  |_=>rfl
 |_=>rfl
theorem zN (h:Agree W s s'): ∀(ps:List PK) (d:List Operand) (ts:List T),(∀x,x∈d->xR W s x)->(∀t,t∈ts-> ∀L,L∈t.loc->W L)->yP E s ps d ts=yP E s' ps d ts
 | [],[],[],_,_=>rfl
 | [],[],_::_,_,_=>rfl
 | [],_::_,_,_,_=>rfl
 |p::_,[],[],_,_=>by cases p<;>rfl
 |p::ps,x::d,ts,e,f=>by
  simp only[yP];rw[UJ h (e x (by simp)),zN h ps d ts (λ y g=>e y (by simp[g])) f]
 | .rptr want::ps,[],t::ts,e,f=>by
   simp only[yP];rw[FU h (f t (by simp)),zN h ps [] ts e (λ i k=>f i (by simp[k]))]
 | .val _ _::_,[],_::_,_,_=>rfl
 | .ptr _::_,[],_::_,_,_=>rfl
 | .fn _::_,[],_::_,_,_=>rfl
 | .clo _ _::_,[],_::_,_,_=>rfl
 | .io _::_,[],_::_,_,_=>rfl
theorem lK (h:Agree W s s'): ∀(ps:List PK) (d:List (Option Nat)) (cs:LC),(∀n,some n∈d->W (.bx n))->oK s ps d cs=oK s' ps d cs
 | [],[],_,_=>rfl
 | [],_::_,_,_=>rfl
 | .ptr _::_,[],_,_=>rfl
 | .ptr _::_,none::_,_,_=>rfl
 | .ptr want::ps,some n::d,cs,e=>by
   simp only[oK];rw[h.bx n (e n (by simp)),lK h ps d _ λ m f=>e m (by simp[f])]
 | .val _ _::ps,[],_,_=>rfl
 | .val _ _::ps,some _::_,_,_=>rfl
 | .val _ _::ps,none::d,cs,e=>by simp only[oK];exact lK h ps d _ λ m f=>e m (by simp[f])
 | .rptr _::ps,[],_,_=>rfl
 | .rptr _::ps,some _::_,_,_=>rfl
 | .rptr _::ps,none::d,cs,e=>by simp only[oK];exact lK h ps d _ λ m f=>e m (by simp[f])
 | .fn _::ps,[],_,_=>rfl
 | .fn _::ps,some _::_,_,_=>rfl
 | .fn _::ps,none::d,cs,e=>by simp only[oK];exact lK h ps d _ λ m f=>e m (by simp[f])
 | .clo _ _::ps,[],_,_=>rfl
 | .clo _ _::ps,some _::_,_,_=>rfl
 | .clo _ _::ps,none::d,cs,e=>by simp only[oK];exact lK h ps d _ λ m f=>e m (by simp[f])
 | .io _::ps,[],_,_=>rfl
 | .io _::ps,some _::_,_,_=>rfl
 | .io _::ps,none::d,cs,e=>by simp only[oK];exact lK h ps d _ λ m f=>e m (by simp[f])
theorem oV: ∀(ps:List PK) (d:List (Option Nat)) (cs:LC) (us:List Upd),oK s ps d cs=some us-> ∀u,u∈us->u.mild W
 | [],[],_,us,h=>by simp only[oK,aag]at h;subst h;exact zQ
 | [],_::_,_,_,h=>by cases h
 | .ptr _::_,[],_,_,h=>by cases h
 | .ptr _::_,none::_,_,_,h=>by cases h
 | .ptr want::ps,some n::d,cs,us,h=>by
   simp only[oK]at h;split at h
   ·rename_i b e i f;simp only[cond_eq_ite]at h;split at h
    ·cases h;intro u g;rcases aaQ.1 g with rfl|g
     ·cases qZ want<;>exact trivial
     ·exact oV ps d _ e f u g
    ·cases h
   ·cases h
 | .val _ _::ps,[],_,_,h=>by cases h
 | .val _ _::ps,some _::_,_,_,h=>by cases h
 | .val _ _::ps,none::d,cs,us,h=>oV ps d cs us h
 | .rptr _::ps,[],_,_,h=>by cases h
 | .rptr _::ps,some _::_,_,_,h=>by cases h
 | .rptr _::ps,none::d,cs,us,h=>oV ps d cs us h
 | .fn _::ps,[],_,_,h=>by cases h
 | .fn _::ps,some _::_,_,_,h=>by cases h
 | .fn _::ps,none::d,cs,us,h=>oV ps d cs us h
 | .clo _ _::ps,[],_,_,h=>by cases h
 | .clo _ _::ps,some _::_,_,_,h=>by cases h
 | .clo _ _::ps,none::d,cs,us,h=>oV ps d cs us h
 | .io _::ps,[],_,_,h=>by cases h
 | .io _::ps,some _::_,_,_,h=>by cases h
 | .io want::ps,none::d,cs,us,h=>oV ps d _ us h
theorem IY: ∀(ps:List PK) (i:List Operand) (k:List (Option Nat)) (s:St) (cs:LC) (us:List Upd) (e:LC) (d:List Upd) (f:List (Option Nat)),(∀x,x∈i->xR W s x)->(∀u,u∈us->u.mild W)->
 (xu E ps i k s cs us).run=some (e,d,f)-> ∀u,u∈d->u.mild W
 | [],[],k,s,cs,us,e,d,f,_,l,h=>by
   have:=au h;simp only[aay]at this;obtain⟨_,rfl,_⟩:=this;exact l
 | [],_::_,_,_,_,_,_,_,_,_,_,h=>(aj h).elim
 |_::_,[],_,_,_,_,_,_,_,_,_,h=>(aj h).elim
 |p::ps,x::i,k,s,cs,us,e,d,f,m,l,h=>by
  simp only[xu]at h;obtain⟨r,t,h⟩:=aT h;obtain⟨q,z⟩:=FP (ds:=r.1) (us:=r.2.1) (b:=r.2.2) (m x (by simp)) t;refine IY ps i _ _ _ _ e d f (λ y v=>(m y (by simp[v])).dX r.2.1 s q) (λ u g=> ?_) h;rcases aap.1 g with g|g
  ·exact l u g
  ·exact q u g
theorem zL: ∀(ps:List PK) (d:List Operand) (cs:LC) (x:Operand) (c:LC),(x,c)∈XW ps d cs->x∈d
 | [],d,_,_,_,h=>by cases d<;>simp[XW]at h
 |p::_,[],_,_,_,h=>by cases p<;>simp[XW]at h
 | .val _ _::ps,y::d,cs,x,c,h=>aaO _ (zL ps d cs x c h)
 | .rptr _::ps,y::d,cs,x,c,h=>aaO _ (zL ps d cs x c h)
 | .fn _::ps,y::d,cs,x,c,h=>aaO _ (zL ps d cs x c h)
 | .clo _ _::ps,y::d,cs,x,c,h=>aaO _ (zL ps d cs x c h)
 | .ptr _::ps,y::d,cs,x,c,h=>aaO _ (zL ps d _ x c h)
 | .io _::ps,y::d,cs,x,c,h=>by
   simp only[XW]at h;rcases aaQ.1 h with h|h
   ·simp only[aay]at h;rw[h.1];simp
   ·exact aaO _ (zL ps d _ x c h)
theorem U5 (h:Agree W s s') (d:Nat) {l:List (Operand×LC)} (i: ∀x c,(x,c)∈l->xR W s x):Xr E s d l=Xr E s' d l:=by
 unfold Xr;split
 ·rfl
 ·rename_i x c;have g:=i x [c] (by simp);unfold U4;rw[←fD (E:=E) h g]
  cases f:at_ E s x with
  |ref p ag n=>
   have e:W p.root.loc:=fA (E:=E) g (by rw[f];simp[T.uF,T.loc])
   match ag,n with
   |true,_=>rfl
   |false,0=>rfl
   |false,1=>simp only[jC h e,ji h e]
   |false,_+2=>rfl
  |rowr p ag n=>
   have e:W p.root.loc:=fA (E:=E) g (by rw[f];simp[T.uF,T.loc])
   match ag,n with
   |true,_=>rfl
   |false,0=>rfl
   |false,1=>simp only[uy h e,ji h e]
   |false,_+2=>rfl
  |ext p q c=>
   have e:W p.root.loc:=fA (E:=E) g (by rw[f];simp[T.uF,T.loc]);simp only[jC h e,ji h e]
  |val ag cs=>
   match ag,cs with
   |true,_=>rfl
   |false,[]=>rfl
   |false,[_]=>rfl
   |false,_::_::_=>rfl
  |_=>rfl
 ·rfl
theorem W9 (h:Agree W s s') {x:Operand} (e:xR W s x) (d:Nat) (q r:CV):ahx E s x d q r=ahx E s' x d q r:=by
 unfold ahx;rw[fD (E:=E) h e]
theorem Kt (h:Agree W s s') (d:Nat) (e:List Operand) (ts:List T) (i:Nat) (f: ∀x,x∈e->xR W s x) (p: ∀t,t∈ts-> ∀L,L∈t.loc->W L):(Nw E s d e ts i).run=(Nw E s' d e ts i).run:=by
 unfold Nw
 cases(E.sig i).scalar with
 |true=>simp only[cond_true];rw[zN h _ _ _ f p]
 |false=>
  simp only[cond_false]
  cases noT ts with
  |false=>rfl
  |true=>
  simp only[abt,cond_false];refine bind_congr (GH _ _ _ _ _ _ _ h f) λ r l=> ?_;have m:=Gz (W:=W) (E.sig i).params e [] s [] [] r.1 r.2.1 r.2.2 f (λ n u=>by cases u) l
  cases iq ((E.sig i).ins.map (·.1)) r.1 with
  |none=>rfl
  |some a=>
   simp only[Dyn.run];congr 1;funext q;have v:=IY (W:=W) (E.sig i).params e [] s [] [] r.1 r.2.1 r.2.2 f zQ l;simp only[lK (h.dX r.2.1) _ _ _ m];split
   ·rfl
   ·rename_i us g;rw[U5 ((h.dX r.2.1).dX us) d λ x c k=>((f x (zL _ _ _ x c k)).dX r.2.1 s v).dX us _ ?_];rw[←lK (h.dX r.2.1) _ _ _ m]at g;exact oV _ _ _ us g
theorem ET (h:Agree W s s') {p:Pl} (f:W p.root.loc) (d:Nat) (t u:TypeId) (e:CV) (lo:Nat) (g:Option Nat):xX E s d t u e p lo g=xX E s' d t u e p lo g:=by
 unfold xX;rw[gu h f];simp only[ji h f]
theorem RG (h:Agree W s s') {x:Operand} (f:xR W s x) (t:TypeId) (i:Int):RF E s t x i=RF E s' t x i:=by
 unfold RF;rw[←fD (E:=E) h f]
 cases d:at_ E s x with
 |ref p ag n=>
  have g:W p.root.loc:=fA (E:=E) f (by rw[d];simp[T.uF,T.loc]);cases ag
  ·simp only[];rw[gu h g]
  ·rfl
 |val ag cs=>
  match ag,cs with
  |true,_=>rfl
  |false,[]=>rfl
  |false,_::_::_=>rfl
  |false,[c]=>
   cases x with
   |tmp n=>
    have e:=h.tm n (f _ (by simp[rC]));simp only[e]
   |_=>rfl
 |rowr p ag n=>
  have g:W p.root.loc:=fA (E:=E) f (by rw[d];simp[T.uF,T.loc]);cases ag
  ·simp only[];rw[uy h g]
  ·rfl
 |rsub p z lo k=>
  have g:W p.root.loc:=fA (E:=E) f (by rw[d];simp[T.uF,T.loc]);simp only[];rw[gu h g]
 |_=>rfl
theorem SN (h:Agree W s s') {p:Pl} (d:W p.root.loc) (c:CV) (i j:Nat) (ds:LC):OT s p c i j ds=OT s' p c i j ds:=by
 unfold OT
 cases e:p.root with
 |tmp n=>
  rw[e]at d;simp only[h.tm n d]
 |box n=>rfl
theorem Iw (h:Agree W s s') {x:Operand} (e:xR W s x):Zd E s x=Zd E s' x:=by
 unfold Zd;rw[←fD (E:=E) h e]
 cases d:at_ E s x with
 |ref p ag n=>
  have f:W p.root.loc:=fA (E:=E) e (by rw[d];simp[T.uF,T.loc]);have g:=jC h f 1
  cases ag with
  |true=>rfl
  |false=>match n with
   |1=>simp only[];rw[g]
   |0=>rfl
   |n+2=>rfl
 |_=>rfl
theorem Ze {x:Operand} (e:xR W s x) {p:Pl} {c:CV} (h:Zd E s x=some (p,c)):W p.root.loc:=by
 unfold Zd at h;split at h
 ·rename_i q d;split at h
  ·cases h;exact fA (E:=E) e (by rw[d];simp[T.uF,T.loc])
  ·cases h
 ·cases h
theorem DR (h:Agree W s s') {x:Operand} (d:xR W s x) (k:Sh):EY E s x k=EY E s' x k:=by
 unfold EY;rw[←fD (E:=E) h d]
theorem UK (h:Agree W s s') {m x:Operand} (e:xR W s m) (f:xR W s x) (d:Nat) (t:TypeId) (ok:Bool):Za E s d t m x ok=Za E s' d t m x ok:=by
 unfold Za;rw[←Iw (E:=E) h e];simp only[←DR (E:=E) h f]
theorem U6 (h:Agree W s s') {m x v:Operand} (f:xR W s m) (g:xR W s x) (hv:xR W s v) (t:TypeId):Xt E s t m x v=Xt E s' t m x v:=by
 unfold Xt;rw[←Iw (E:=E) h f];simp only[←DR (E:=E) h g,←DR (E:=E) h hv]
 cases d:Zd E s m with
 |none=>rfl
 |some pc=>
  obtain⟨p,⟨sh,tg,l⟩⟩:=pc;have i:=Ze (E:=E) f d
  cases sh with
  |mp k e=>
   cases tg with
   |own=>
    have q: ∀(y:El k) (z:El e),(λ l:List (El k×El e)=>Dyn.of (jU s p [⟨.mp k e,.own,some (Ie (keq k) y z l)⟩] false))=λ l=>Dyn.of (jU s' p [⟨.mp k e,.own,some (Ie (keq k) y z l)⟩] false):=λ y z=>funext λ l=>by rw[ji h i]
    show(bif af5 E t k e then _ else _)=(bif af5 E t k e then _ else _)
    cases af5 E t k e with
    |false=>rfl
    |true=>
     simp only[cond_true]
     cases EY E s x k with
     |none=>rfl
     |some y=>cases EY E s v e with
      |none=>rfl
      |some z=>exact congrArg (Dyn.idx l) (q y z)
   |_=>rfl
  |_=>rfl
theorem UO (h:Agree W s s') {x:Operand} (f:xR W s x) (d:Nat) (e:BinOp):Zg E s d e x=Zg E s' d e x:=by
 unfold Zg;rw[←Iw (E:=E) h f]
theorem Q7 (h:Agree W s s') {x:Operand} (e:xR W s x) (d:Nat):Q5 E s d x=Q5 E s' d x:=by
 unfold Q5;rw[←zT h e]
theorem Q9 (h:Agree W s s') {x:Operand} (e:xR W s x) (t:TypeId):Oj E s t x=Oj E s' t x:=by
 unfold Oj;rw[←fD (E:=E) h e]
 cases d:at_ E s x with
 |rsub p z lo g=>
  have f:W p.root.loc:=fA (E:=E) e (by rw[d];simp[T.uF,T.loc]);simp only[];rw[gu h f];simp only[ji h f]
 |_=>rfl
theorem TI (h:Agree W s s') {x:Operand} (e:xR W s x) (t:TypeId) (lo f:Option Int):sliceT E s t x lo f=sliceT E s' t x lo f:=by
 unfold sliceT;rw[←fD (E:=E) h e]
 cases d:at_ E s x with
 |ref p ag n=>
  have g:W p.root.loc:=fA (E:=E) e (by rw[d];simp[T.uF,T.loc])
  match ag,n with
  |true,_=>rfl
  |false,0=>rfl
  |false,1=>simp only[gu h g]
  |false,_+2=>rfl
 |val ag cs=>
  match ag,cs with
  |true,_=>rfl
  |false,[]=>rfl
  |false,⟨sh,tg,y⟩::_::_=>cases sh<;>cases tg<;>rfl
  |false,[⟨sh,tg,y⟩]=>cases sh<;>cases tg<;>rfl
 |_=>rfl
theorem I5 (h:Agree W s s') (x:Option Operand) (d: ∀y,x=some y->xR W s y):LM E s x=LM E s' x:=by
 cases x with
 |none=>rfl
 |some y=>simp only[LM];rw[nO h (d y rfl)]
theorem UL (h:Agree W s s') {x:Operand} (f:xR W s x) (d:List Sh):NI E s x d=NI E s' x d:=by
 unfold NI;rw[←fD (E:=E) h f]
 cases x with
 |tmp n=>
  have e:=h.tm n (f _ (by simp[rC]));cases at_ E s (.tmp n)with
  |val ag cs=>simp only[e]
  |_=>rfl
 |_=>rfl
theorem af2 {n d:Nat} (h:Uc (s.tm n) (s'.tm n)) (f:List Sh):
 (match NI E s (.tmp n) f with
  |some t=>Dyn.ret [.tm d t]
  |none=>match at_ E s (.tmp n),Operand.tmp n with
   | .tup ts,.tmp n=> .ret [.keep n .dead,.tm d (.tup ts)]
   |_,_=> .fail:Dyn (List Upd))=
 (match NI E s' (.tmp n) f with
  |some t=>Dyn.ret [.tm d t]
  |none=>match at_ E s' (.tmp n),Operand.tmp n with
   | .tup ts,.tmp n=> .ret [.keep n .dead,.tm d (.tup ts)]
   |_,_=> .fail:Dyn (List Upd)):=by
 rcases h with e|⟨q,u⟩
 ·have i:at_ E s (.tmp n)=at_ E s' (.tmp n):=congrArg Prod.fst e;have k:(s.tm n).2=(s'.tm n).2:=congrArg Prod.snd e;unfold NI;rw[i];cases at_ E s' (.tmp n)with
  |val ag cs=>simp only[k]
  |_=>rfl
 ·obtain⟨ag,cs,g,i,k,v,y,p⟩:=rG.1 u;have l:at_ E s (.tmp n)= .val ag cs:=i;have m:at_ E s' (.tmp n)= .val ag g:=k;unfold NI;rw[l,m];simp only[v,y,cond_false,q,p]
  have:cs.map (λ _=>(s'.tm n).2)=g.map (λ _=>(s'.tm n).2):=by
   rw[List.map_const',List.map_const',p]
  rw[this]
theorem LH (h:Agree W s s') {d:Nat} (e:W (.bx d)) (cs:LC):UN s d cs=UN s' d cs:=by
 unfold UN;rw[h.bx d e]
theorem SC {f d:St} (h:Agree W s s') (i:Agree W f d) {y:Operand} (k:xR W s y) (g:xR W f y) (e:List Sh):SB E s f y e=SB E s' d y e:=by
 unfold SB;rw[←fD (E:=E) h k,zT i g]
theorem G5 (h:Agree W s s') {p:Pl} {n k:Nat} (u:p.root= .box n) (t:W (.bi n)) (v: ∀i,i<max k p.vers.length->W (.bc n (p.cell+i))):bf s p k=bf s' p k/\DT s p k=DT s' p k:=by
 have e:=h.bi n t;have g: ∀i,i<max k p.vers.length->bxC s n (p.cell+i)=bxC s' n (p.cell+i):=λ i y=>h.bc n _ (v i y);unfold bxI at e;unfold bxC at g;unfold bf DT;simp only[u,aB]
 cases l:s.bx n with
 |none=>
  cases d:s'.bx n with
  |none=>exact⟨rfl,rfl⟩
  |some m=>rw[l,d]at e;cases e
 |some b=>
  cases d:s'.bx n with
  |none=>rw[l,d]at e;cases e
  |some m=>
   rw[l,d]at e;simp only[aaL,aag,aay]at e;simp only[l,d,aan]at g
   have z:(b.cells.drop p.cell).take k=(m.cells.drop p.cell).take k:=by
    apply aaT;intro i;simp only[aam,aar];split
    ·exact g i (by omega)
    ·rfl
   have hv:FD p.vers ((b.cells.drop p.cell).map (·.2))=FD p.vers ((m.cells.drop p.cell).map (·.2)):=by
    rw[Bool.eq_iff_iff,EK,EK]
    have: ∀(i x:Nat),p.vers[i]? =some x->((b.cells.drop p.cell).map (·.2))[i]? =((m.cells.drop p.cell).map (·.2))[i]? :=by
     intro i x f
     have t:i<p.vers.length:=by
      rcases aaF i p.vers.length with h|h
      ·exact h
      ·simp[aai h]at f
     simp only[aas,aar];rw[g i (by omega)]
    constructor
    ·intro q i x f;rw[←this i x f];exact q i x f
    ·intro q i x f;rw[this i x f];exact q i x f
   simp only[e.1,e.2,hv,z,and_self]
theorem OI (h:Agree W s s') {p:Pl} {n:Nat} (i:p.root= .box n) (f:p.sub=none) (k:W (.bi n)):CJ s p=CJ s' p:=by
 have e:=h.bi n k;unfold bxI at e;unfold CJ;simp only[i,f,aB]
 cases g:s.bx n with
 |none=>
  cases d:s'.bx n with
  |none=>rfl
  |some l=>rw[g,d]at e;cases e
 |some b=>
  cases d:s'.bx n with
  |none=>rw[g,d]at e;cases e
  |some l=>
   rw[g,d]at e;simp only[aaL,aag,aay]at e;simp only[e.1]
theorem ady {t k:Nat} (hs: ∀L,L∈En s t k->W L):xR W s (.tmp t)\/ ∃p n,(s.tm t).1= .addr p/\p.root= .box n/\p.sub=none/\W (.tm t)/\W (.bi n)/\ ∀i,i<max k p.vers.length->W (.bc n (p.cell+i)):=by
 unfold En at hs;split at hs
 ·rename_i p f;split at hs
  ·rename_i n g d
   exact .inr ⟨p,n,f,g,d,hs _ (by simp),hs _ (by simp),λ i l=>hs _ (by
    refine aaO _ (aaO _ (aaB.2 ⟨i,ab2.2 l,rfl⟩)))⟩
  ·exact .inl λ L e=>hs L (by simp only[rC,f]at e;exact e)
 ·exact .inl λ L e=>hs L (by simp only[rC]at e;exact e)
theorem FW (h:Agree W s s') (hs: ∀L,L∈wJ E s o->W L) (a5: ¬∃ n,o.op= .move (.tmp n)) (g: ∀x,x∈o.op.operands->xR W s x):(plan E o s).run=(plan E o s').run:=by
 have box: ∀d,o.dst=some d->(∃t,o.op= .alloc t)\/(∃t x,o.op= .box t x)->W (.bx d):=λ d M q=>hs _ (by
  unfold wJ;refine aa6 _ ?_;rcases q with⟨t,q⟩|⟨t,x,q⟩<;>simp[q,M])
 unfold plan
 cases q:o.op with
 |store t a x=>
  rw[q]at g;have D:=g a (by simp[Op.operands]);have l:=g x (by simp[Op.operands]);simp only[]
  cases o.dst with
  |some d=>rfl
  |none=>
   simp only[];refine bind_congr (by rw[uK h l]) λ r A=> ?_;obtain⟨ag,cs,us⟩:=r;simp only[];have hm:=zn (W:=W) A;have G:=D.dX us s hm;have K:=h.dX us;rw[←fD (E:=E) K G]
   cases B:at_ E (s.dX us) a with
   |addr p=>
    have A:W p.root.loc:=fA (E:=E) G (by rw[B];simp[T.uF,T.loc]);simp only[];simp only[QJ K A,NU K A,uy K A,SN K A]
   |addr2 p k j=>
    have A:W p.root.loc:=fA (E:=E) G (by rw[B];simp[T.uF,T.loc]);simp only[];rw[TY K A]
   |_=>rfl
 |move x=>
  rw[q]at g;have l:=g x (by simp[Op.operands]);simp only[]
  cases o.dst with
  |none=>rfl
  |some d=>
   simp only[];rw[UL h l,←fD (E:=E) h l]
 |assign x=>
  rw[q]at g;have l:=g x (by simp[Op.operands]);simp only[]
  cases o.dst with
  |none=>rfl
  |some d=>
   simp only[];rw[uK h l,←fD (E:=E) h l]
 |pick c x y=>
  rw[q]at g;have sc:=g c (by simp[Op.operands]);have l:=g x (by simp[Op.operands]);have C:=g y (by simp[Op.operands]);simp only[]
  cases o.dst with
  |none=>rfl
  |some d=>
   simp only[];rw[NJ h sc,←fD (E:=E) h l,←fD (E:=E) h C]
 |alloc t=>
  simp only[]
  cases M:o.dst with
  |none=>rfl
  |some d=>
   simp only[]
   cases E.ty t with
   |none=>rfl
   |some i=>simp only[];rw[LH h (box d M (.inl ⟨t,q⟩))]
 |box t x=>
  rw[q]at g;have l:=g x (by simp[Op.operands]);simp only[]
  cases M:o.dst with
  |none=>rfl
  |some d=>
   simp only[];refine bind_congr (by rw[uK h l]) λ r A=> ?_;obtain⟨ag,cs,us⟩:=r;simp only[];rw[LH (h.dX us) (box d M (.inr ⟨t,x,q⟩))]
 |build t ps=>
  rw[q]at g;simp only[]
  cases o.dst with
  |none=>rfl
  |some d=>
   simp only[]
   cases E.ty t with
   |none=>rfl
   |some i=>
    simp only[]
    exact bind_congr (Dx _ _ _ _ _ _ _ h λ p R=>g p.2 (by
     simp only[Op.operands,List.mem_toArray,aaB];exact⟨p,R,rfl⟩)) λ r A=>rfl
 |buildSlice t n ps=>
  rw[q]at g;simp only[]
  cases o.dst with
  |none=>rfl
  |some d=>
   simp only[];split
   ·exact bind_congr (Fe _ _ _ _ _ _ _ _ h λ p R=>g p.2 (by
     simp only[Op.operands,List.mem_toArray,aaB];exact⟨p,R,rfl⟩)) λ r A=>rfl
   ·rfl
 |load t x=>
  rw[q]at g;have l:=g x (by simp[Op.operands]);simp only[]
  cases o.dst with
  |none=>rfl
  |some d=>
   simp only[];rw[←fD (E:=E) h l]
   cases B:at_ E s x with
   |addr p=>
    have A:W p.root.loc:=fA (E:=E) l (by rw[B];simp[T.uF,T.loc])
    cases E.ty t with
    |none=>rfl
    |some i=>simp only[];rw[uy h A,gu h A];simp only[SE h A,ji h A]
   |paddr cs off=>cases E.ty t<;>rfl
   |_=>rfl
 |nilCheck x=>
  rw[q]at g;have l:=g x (by simp[Op.operands]);simp only[]
  cases o.dst with
  |none=>rfl
  |some d=>
   simp only[];rw[←fD (E:=E) h l]
   cases B:at_ E s x with
   |addr p=>
    have A:W p.root.loc:=fA (E:=E) l (by rw[B];simp[T.uF,T.loc]);simp only[];rw[I9 h A]
   |_=>rfl
 |makeFunc f xs ys=>
  rw[q]at g;simp only[]
  cases o.dst with
  |none=>rfl
  |some d=>
   have S:=Ol (E:=E) h ys.toList λ y N=>g y (by simp only[Op.operands,Array.mem_append];exact .inr (by simpa using N))
   cases f with
   |func k=>simp only[S]
   |_=>rfl
 |binOp op t x y u=>
  rw[q]at g;have l:=g x (by simp[Op.operands]);have C:=g y (by simp[Op.operands]);simp only[]
  cases o.dst with
  |none=>rfl
  |some d=>simp only[];rw[←fD (E:=E) h l,←fD (E:=E) h C,UO h l]
 |unOp op t x=>
  rw[q]at g;have l:=g x (by simp[Op.operands]);simp only[]
  cases o.dst with
  |none=>rfl
  |some d=>simp only[];rw[←fD (E:=E) h l]
 |convert u t x=>
  rw[q]at g;have l:=g x (by simp[Op.operands]);simp only[]
  cases o.dst with
  |none=>rfl
  |some d=>simp only[];rw[←fD (E:=E) h l,Q7 h l]
 |makeMap t r=>cases r<;>rfl
 |lookup t m x ok=>
  rw[q]at g;have U:=g m (by simp[Op.operands]);have l:=g x (by simp[Op.operands]);simp only[]
  cases o.dst with
  |none=>rfl
  |some d=>simp only[];rw[UK h U l]
 |mapUpdate t m x v=>
  rw[q]at g;have U:=g m (by simp[Op.operands]);have l:=g x (by simp[Op.operands]);have sv:=g v (by simp[Op.operands]);simp only[]
  cases o.dst with
  |none=>simp only[];rw[U6 h U l sv]
  |some d=>rfl
 |makeSlice t x y=>
  rw[q]at g;have l:=g x (by simp[Op.operands]);have C:=g y (by simp[Op.operands]);simp only[]
  cases o.dst with
  |none=>rfl
  |some d=>simp only[];rw[nO h l,nO h C]
 |slice t x lo hi mx=>
  rw[q]at g;have l:=g x (by simp[Op.operands]);have Y:=I5 (E:=E) h lo λ y N=>g y (by simp[Op.operands,N]);have Z:=I5 (E:=E) h hi λ y N=>g y (by simp[Op.operands,N]);simp only[]
  cases o.dst with
  |none=>rfl
  |some d=>
   simp only[];rw[Y,Z];simp only[TI h l]
 |fieldAddr t x f=>
  rw[q]at g;have l:=g x (by simp[Op.operands]);simp only[]
  cases o.dst with
  |none=>rfl
  |some d=>
   simp only[];rw[←fD (E:=E) h l]
   cases E.ty t with
   |none=>rfl
   |some i=>
    simp only[]
    cases B:at_ E s x with
    |addr p=>
     have A:W p.root.loc:=fA (E:=E) l (by rw[B];simp[T.uF,T.loc])
     cases i.fields[f]? with
     |none=>rfl
     |some on=>simp only[];rw[I9 h A]
    |_=>cases i.fields[f]? <;>rfl
 |indexAddr t x i=>
  rw[q]at g;have l:=g x (by simp[Op.operands]);have si:=g i (by simp[Op.operands]);simp only[]
  cases o.dst with
  |none=>rfl
  |some d=>
   simp only[];rw[nO h si];simp only[RG h l]
 |index t x i=>
  rw[q]at g;have l:=g x (by simp[Op.operands]);have si:=g i (by simp[Op.operands]);simp only[]
  cases o.dst with
  |none=>rfl
  |some d=>simp only[];rw[←fD (E:=E) h l,nO h si]
 |field t x f=>
  rw[q]at g;have l:=g x (by simp[Op.operands]);simp only[]
  cases o.dst with
  |none=>rfl
  |some d=>simp only[];rw[←fD (E:=E) h l]
 |extract x i=>
  rw[q]at g;have l:=g x (by simp[Op.operands]);simp only[]
  cases o.dst with
  |none=>rfl
  |some d=>simp only[];rw[←fD (E:=E) h l]
 |call c=>
  rw[q]at g
  have D: ∀x,x∈c.args.toList->xR W s x:=λ x Q=>g x (by
   simp only[Op.operands,Call.operands,Array.mem_append];exact .inr (by simpa using Q))
  simp only[]
  cases o.dst with
  |none=>
   simp only[];split
   ·rename_i x t e1 e2 e3;rw[Q9 h (D x (by rw[e2];simp))]
   ·rfl
  |some d=>
   simp only[]
   cases S:c.callee with
   |value f=>
    have sf:=g f (by simp[Op.operands,Call.operands,S]);simp only[];rw[←fD (E:=E) h sf]
    cases hf:at_ E s f with
    |fn k=>
     simp only[]
     cases Nat.beq (E.sig (E.spec d)).fn k with
     |false=>rfl
     |true=>exact Kt h d _ _ _ D (λ t ht=>by cases ht)
    |clo k ts=>
     simp only[]
     cases Nat.beq (E.sig (E.spec d)).fn k with
     |false=>rfl
     |true=>exact Kt h d _ _ _ D (λ t ht L hL=>zi (E:=E) sf L (by rw[hf];exact acp.2 ⟨t,ht,hL⟩))
    |_=>rfl
   |invoke r m=>rfl
   |builtin b=>
    match Q:c.args.toList with
    | []=>cases b<;>rfl
    | [x]=>
      rw[Q]at D;have l:=D x (by simp);cases b<;>first|rfl|(simp only[];rw[zT h l])
    | [x,y]=>
      rw[Q]at D;have l:=D x (by simp);have C:=D y (by simp);by_cases hb:b= .append
      ·subst hb;simp only[];refine bind_congr (by rw[uK h l]) λ r A=> ?_;obtain⟨ag,cs,us⟩:=r;simp only[];rw[SC h (h.dX us) C (C.dX us s (zn A)),uK (h.dX us) (C.dX us s (zn A)) []];simp only[W9 (h.dX us) (l.dX us s (zn A))]
      ·by_cases O:b= .copy
       ·subst O;simp only[];refine bind_congr (by rw[zT h C]) λ ds b4=> ?_;rw[←fD (E:=E) h l];split
        ·rename_i e t u p z lo hi B I;exact congrArg Dyn.run (ET h (fA (E:=E) l (by rw[I];simp[T.uF,T.loc])) _ _ _ _ _ _)
        ·rename_i e t u p B I;exact congrArg Dyn.run (ET h (fA (E:=E) l (by rw[I];simp[T.uF,T.loc])) _ _ _ _ _ _)
        ·rfl
       cases b<;>first|exact absurd rfl hb|exact absurd rfl O|(simp only[];rw[nO h l,nO h C])
    |x::y::z::r=>cases b<;>rfl
 |_=>rfl
theorem Y7 (h:Agree W s s') (hs: ∀L,L∈wJ E s o->W L) (y: ¬∃ n,o.op= .move (.tmp n)) {t:Nat} (l:Y6 o.op=some t) (e: ∀L,L∈UH s t->W L):(plan E o s).run=(plan E o s').run:=by
 unfold Y6 at l;split at l
 ·rename_i c A;split at l
  ·rename_i B C;cases l
   have plain:xR W s (.tmp t)->(plan E o s).run=(plan E o s').run:=λ m=>FW h hs y λ x f=>by
    rw[A]at f
    have:x= .tmp t:=by
     simp only[Op.operands,Call.operands,B]at f;have:x∈c.args.toList:=by simpa using f
     rw[C]at this;simpa using this
    rw[this];exact m
   unfold UH at e;split at e
   ·rename_i p ag k g;split at e
    ·rename_i n D q;have G:W (.tm t):=e _ (by simp);obtain⟨q1,_⟩:=G5 (k:=k) h D (e _ (by simp)) λ i I=>e _ (aaO _ (aaO _ (aaB.2 ⟨i,ab2.2 I,rfl⟩)));have u:(s'.tm t).1= .ref p ag k:=by rw[←h.tm t G];exact g
     have z:JC E s (.tmp t)=JC E s' (.tmp t):=by
      unfold JC content;simp only[at_,g,u];cases ag<;>simp only[q,q1]
     unfold plan;simp only[A,B,C]
     cases o.dst with
     |none=>rfl
     |some d=>simp only[z]
    ·exact plain λ L v=>e L (by simp only[rC,g]at v;exact v)
   ·exact plain λ L v=>e L (by simp only[rC]at v;exact v)
  ·cases l
 ·cases l
theorem OJ (h:Agree W s s') (hs: ∀L,L∈wJ E s o->W L):(plan E o s).run=(plan E o s').run:=by
 by_cases m: ∃n,o.op= .move (.tmp n)
 ·obtain⟨n,l⟩:=m;have K:Uc (s.tm n) (s'.tm n):=h.id n (hs _ (by simp[wJ,RZ,Y6,UR,l]));unfold plan;simp only[l]
  cases o.dst with
  |none=>rfl
  |some d=>simp only[];exact congrArg Dyn.run (af2 K _)
 have g: ∀L,L∈RZ E s o.op->W L:=λ L M=>hs L (aaG _ M)
 have adr: ∀(t k:Nat),o.op.operands= #[.tmp t]->(∀L,L∈En s t k->W L)->(∀p n,(s.tm t).1= .addr p->p.root= .box n->p.sub=none->W (.tm t)->W (.bi n)->(∀i,i<max k p.vers.length->W (.bc n (p.cell+i)))->(plan E o s).run=(plan E o s').run)->(plan E o s).run=(plan E o s').run:=by
  intro t k N O C;rcases ady O with G|⟨p,n,v,z,y,A,B,D⟩
  ·exact FW h hs m λ x C=>by
    rw[N]at C;have:x= .tmp t:=by simpa using C
    rw[this];exact G
  ·exact C p n v z y A B D
 have gen:RZ E s o.op=o.op.operands.toList.flatMap (rC s)->(plan E o s).run=(plan E o s').run:=λ e=>FW h hs m λ x C L M=>g L (by
  rw[e];exact acp.2 ⟨x,by simpa using C,M⟩)
 unfold RZ at g gen
 cases q:Y6 o.op with
 |some t=>
  rw[q]at g;exact Y7 h hs m q g
 |none=>
 rw[q]at g gen;simp only[]at g gen;unfold UR at g gen;split at g
 ·rename_i n l;exact absurd ⟨n,l⟩ m
 ·rename_i ty t l;refine adr t _ (by rw[l];rfl) g λ p n v z y A B D=> ?_;have I:=h.tm t A;have u:(s'.tm t).1= .addr p:=by rw[←I];exact v
  unfold plan;simp only[l]
  cases o.dst with
  |none=>rfl
  |some d=>
   simp only[at_,v,u]
   cases Q:E.ty ty with
   |none=>rfl
   |some i=>
    simp only[];have R:(ig E ty).length=i.cells.length:=by simp only[ig,Q]
    rw[R]at D;obtain⟨q1,q2⟩:=G5 h z B D;have S:Ny s p=none:=by unfold Ny;simp only[y]
    have U:Ny s' p=none:=by unfold Ny;simp only[y]
    have Y:content s p i.cells.length=content s' p i.cells.length:=by unfold content;simp only[y,q1]
    simp only[S,U,Y,q2]
 ·rename_i t l;refine adr t _ (by rw[l];rfl) g λ p n v z y A B D=> ?_;have I:=h.tm t A;have u:(s'.tm t).1= .addr p:=by rw[←I];exact v
  unfold plan;simp only[l]
  cases o.dst with
  |none=>rfl
  |some d=>simp only[at_,v,u,OI h z y B]
 ·rename_i ty t f l;refine adr t _ (by rw[l];rfl) g λ p n v z y A B D=> ?_;have I:=h.tm t A;have u:(s'.tm t).1= .addr p:=by rw[←I];exact v
  unfold plan;simp only[l]
  cases o.dst with
  |none=>rfl
  |some d=>
   simp only[at_,v,u]
   cases E.ty ty with
   |none=>rfl
   |some i=>
    simp only[]
    cases i.fields[f]? with
    |none=>rfl
    |some off=>simp only[OI h z y B]
 ·rename_i Z k2 k3 k4;refine gen ?_;split
  ·rename_i n l;exact absurd l (Z n)
  ·rename_i ty t l;exact absurd l (k2 ty t)
  ·rename_i t l;exact absurd l (k3 t)
  ·rename_i ty t f l;exact absurd l (k4 ty t f)
  ·rfl
end
section
variable {P:Program} {E:Env} {C:Ctx} {s s':St} {a a':Act} {w w':World} {g g':Gh} {o:Oper} {Q:Exit->Act->World->Prop}
def Loc.cov (M L:Loc):Prop:=M=L\/ ∃n,M= .bx n/\(L= .bi n\/ ∃i,L= .bc n i)
def Cov (d:List Loc) (L:Loc):Prop:= ∃M,M∈d/\M.cov L
theorem Cov.of {d:List Loc} {L:Loc} (h:L∈d):Cov d L:=⟨L,h,.inl rfl⟩
def aeO (E:Env) (all:List Oper) (o:Oper) (s:St) (us:List Upd):Prop:=
 KE E o=true/\match o.guard with
  |none=>(plan E o s).run=some us
  |some (i,want)=> ∃d x,WX all i=some d/\DI s (some d)=some x/\((x=some want/\(plan E o s).run=some us)\/(x≠some want/\us=vS o))
def Reads (E:Env) (all:List Oper) (o:Oper) (s:St) (us:List Upd) (r:List Loc):Prop:=
 (∀n t,.keep n t∈us-> .id n∈r)/\match o.guard with
  |none=> ∀L,L∈wJ E s o->L∈r
  |some (i,want)=> ∃d,WX all i=some d/\ .tm d∈r/\(DI s (some d)=some (some want)-> ∀L,L∈wJ E s o->L∈r)
theorem PV {W:Loc->Prop} (h:Agree W s s') {d:Nat} (e:W (.tm d)):DI s (some d)=DI s' (some d):=by
 simp only[DI,h.tm d e]
theorem WQ {all:List Oper} {us:List Upd} {r:List Loc} (h:Agree (Cov r) s s') (q:aeO E all o s us) (e:Reads E all o s us r):aeO E all o s' us:=by
 obtain⟨t,f⟩:=q;refine⟨t,?_⟩
 replace e:=e.2
 cases l:o.guard with
 |none=>
  rw[l]at f e;simp only at f e ⊢;rw[←OJ h λ L k=>Cov.of (e L k)];exact f
 |some u=>
  obtain⟨i,want⟩:=u;rw[l]at f e;simp only at f e ⊢;obtain⟨d,x,m,p,g⟩:=f;obtain⟨v,q1,q2,q3⟩:=e;rw[m]at q1;cases q1;refine⟨d,x,m,by rw[←PV h (Cov.of q2)];exact p,?_⟩;rcases g with⟨rfl,g⟩|g
  ·exact .inl ⟨rfl,by rw[←OJ h λ L k=>Cov.of (q3 p L k)];exact g⟩
  ·exact .inr g
theorem agx (h:Rel E C s a w g) (e:KE E o=true): ∃g',Rel E C (s.dX (vS o)) (a.put o.dst undef) w g':=by
 unfold vS
 cases f:o.dst with
 |none=>exact⟨g,h⟩
 |some d=>
  simp only[KE,f]at e;simp only[aae,abw]at e;exact⟨g,h.Qw (mk:= .hand) ⟨e.1,(Nat.blt_eq ..).mp e.2⟩ rfl (show undef=undef from rfl)⟩
theorem YI (h:Rel E C s a w g) {e:Array Oper} {i d:Nat} {x:Option Bool} (k:WX e.toList i=some d) (l:DI s (some d)=some x):yielded e a.tmps i=x:=by
 have y:(e[i]?).bind (·.dst)=some d:=by
  unfold WX at k;simp only[aaW]at k
  cases t:e[i]? with
  |none=>rw[t]at k;cases k
  |some o=>rw[t]at k;exact k
 have m:=h.tm d;unfold DI at l;simp only at l;unfold yielded;rw[y];simp only[aan];have f:a.eval (.tmp d)=(a.tmps[d]?).getD undef:=by simp[Act.eval,abg]
 rw[f]at m;split at l
 ·rename_i b q;cases l;rw[q]at m;obtain⟨u,_,z,A⟩:=EO.one m;have:(a.tmps[d]?).getD undef= .bool b:=by rw[←A rfl];exact z
  cases p:a.tmps[d]? with
  |none=>rw[p]at this;cases this
  |some v=>rw[p]at this;simp only[aby]at this;rw[this]
 ·rename_i q;cases l;rw[q]at m;have:(a.tmps[d]?).getD undef=undef:=m
  cases p:a.tmps[d]? with
  |none=>rfl
  |some v=>
   rw[p]at this;simp only[aby]at this;subst this;rfl
 ·cases l
theorem X4 (v:QL P E) (h:Rel E C s a w g) {e:Array Oper} {i:Nat} (y:e[i]? =some o) {us:List Upd} (z:aeO E e.toList o s us) {K:Act->World->Prop} (q: ∀a' w' g',Rel E C (s.dX us) a' w' g'->K a' w'):wpOp P e Q i K a w:=by
 obtain⟨t,k⟩:=z;unfold wpOp;rw[y];simp only[];have run:(plan E o s).run=some us->o.wp P a w K Q:=λ A=>Oper.wp_mono (λ a' w' ⟨g',m⟩=>q a' w' g' m) (agh v h t A)
 have skip:us=vS o->K (a.put o.dst undef) w:=λ B=>by
  obtain⟨g',m⟩:=agx h t;subst B;exact q _ _ g' m
 cases l:o.guard with
 |none=>
  rw[l]at k;have:Region.wanted o (yielded e a.tmps)=true:=by simp[Region.wanted,l]
  rw[if_pos this];exact .inl (run k)
 |some D=>
  obtain⟨j,want⟩:=D;rw[l]at k;obtain⟨d,x,G,I,f⟩:=k;have L:=YI h G I;have u:Region.wanted o (yielded e a.tmps)=(x==some want):=by simp only[Region.wanted,l,L]
  rcases f with⟨rfl,f⟩|⟨p,f⟩
  ·rw[if_pos (by rw[u];simp)];exact .inl (run f)
  ·rw[if_neg (by rw[u];simpa using p)];exact skip f
theorem TU {ρ:Type} {d:Option Tmp} {k:St->Option ρ} {r:ρ} (h:splitAt s d k=some r):k s=some r:=by
 unfold splitAt at h
 have same: ∀(n:Nat) (t:T) (v:Nat),s.tm n=(t,v)->({s with tm:=put s.tm n (t,v)}:St)=s:=by
  intro n t v e
  have:put s.tm n (t,v)=s.tm:=by
   funext m;by_cases f:m=n
   ·subst f;rw[bH,e]
   ·rw[bM _ _ _ f]
  rw[this]
 cases d with
 |none=>exact h
 |some d=>
  simp only at h;split at h
  ·rename_i b v g
   cases b with
   |true=>simp only[cond_true]at h;rw[same d _ v g]at h;exact h
   |false=>simp only[cond_false]at h;rw[same d _ v g]at h;exact h
  ·exact h
def J8 (E:Env) (d:Bool) (all:List Oper) (i:List (List Nat)):List Oper->Nat->List Em->St->List Em->(Nat->St)->(Nat->List Upd)->Prop
 | [],j,g,s,e,S,U=>e=g/\S j=s
 |o::os,j,g,s,e,S,U=>S j=s/\aeO E all o s (U j)/\ ∃f,Reads E all o s (U j) f.r/\f.w=Dh s (U j)/\(d=true->ordered (i.getD j []) f g 0=true)/\J8 E d all i os (j+1) (g++[f]) (s.dX (U j)) e S U
theorem J8.congr {E:Env} {e:Bool} {all:List Oper} {u:List (List Nat)}: ∀{os:List Oper} {j:Nat} {k:List Em} {s:St} {d:List Em} {S l:Nat->St} {U m:Nat->List Upd},(∀i,j<=i->l i=S i)->(∀i,j<=i->m i=U i)->
 J8 E e all u os j k s d S U->J8 E e all u os j k s d l m
 | [],j,k,s,d,S,l,U,m,p,g,⟨q,t⟩=>⟨q,by rw[p j (aav _)];exact t⟩
 |o::os,j,k,s,d,S,l,U,m,p,g,⟨q,t,f,v,y,z,A⟩=>by
  refine⟨by rw[p j (aav _)];exact q,by rw[g j (aav _)];exact t,f,by rw[g j (aav _)];exact v,by rw[g j (aav _)];exact y,z,?_⟩;rw[g j (aav _)];exact A.congr (λ i B=>p i (by omega)) (λ i B=>g i (by omega))
theorem VU {L:List Loc} {us:List Upd} (n:Nat) (t:T) (h: .keep n t∈us): .id n∈L++UC us:=
 aa6 _ (acp.2 ⟨_,h,by simp⟩)
theorem TF {r:List Loc} (n:Nat) (t:T) (h: .keep n t∈vS o): .id n∈r:=by
 unfold vS at h;split at h<;>simp at h
theorem Jj {g:Bool} {all:List Oper} {A:List (List Nat)} {ρ:Type} {k:St->Option ρ} {r:ρ}: ∀(os:List Oper) (j:Nat) (q:List Em) (s:St),Ji E g all A os j q s k=some r->
 ∃u S U,J8 E g all A os j q s u S U/\k (S (j+os.length))=some r
 | [],j,q,s,h=>⟨q,λ _=>s,λ _=>[],⟨rfl,rfl⟩,h⟩
 |o::os,j,q,s,h=>by
  simp only[Ji]at h
  have step: ∀(us:List Upd) (f:Em),aeO E all o s us->Reads E all o s us f.r->f.w=Dh s us->
   (bif KE E o&&(!g||ordered (A.getD j []) f q 0)then
    bif guards all j then splitAt (s.dX us) o.dst (λ s'=>Ji E g all A os (j+1) (q++[f]) s' k)
    else Ji E g all A os (j+1) (q++[f]) (s.dX us) k else none)=some r->
   ∃u S U,J8 E g all A (o::os) j q s u S U/\k (S (j+(o::os).length))=some r:=by
   intro us f N O Q p;simp only[cond_eq_ite]at p;split at p
   ·rename_i C;simp only[aae]at C
    have D:Ji E g all A os (j+1) (q++[f]) (s.dX us) k=some r:=by
     split at p
     ·exact TU p
     ·exact p
    obtain⟨u,S,U,hs,R⟩:=Jj os (j+1) (q++[f]) (s.dX us) D;refine⟨u,λ i=>if i=j then s else S i,λ i=>if i=j then us else U i,⟨by simp,by simp only[if_true];exact N,f,by simp only[if_true];exact O,by simp only[if_true];exact Q,λ G=> ?_,?_⟩,?_⟩
    ·have:=C.2;rw[G]at this;simpa using this
    ·simp only[if_true];exact hs.congr (λ i W=>by rw[if_neg (by omega)]) (λ i W=>by rw[if_neg (by omega)])
    ·simp only[abl];rw[if_neg (by omega),show j+(os.length+1)=j+1+os.length by omega];exact R
   ·cases p
  have M: ∀{X:Option ρ},(bif KE E o&&X.isSome then X else none)=some r->KE E o=true:=by
   intro X B;simp only[cond_eq_ite,aae]at B;split at B
   ·rename_i C;exact C.1
   ·cases B
  have l: ∀{b:Bool} {X:Option ρ},(bif KE E o&&b then X else none)=some r->KE E o=true:=by
   intro b X B;simp only[cond_eq_ite,aae]at B;split at B
   ·rename_i C;exact C.1
   ·cases B
  split at h
  ·rename_i v;rw[Dyn.U8]at h;obtain⟨us,I,p⟩:=aa4.1 h;exact step us _ ⟨l p,by rw[v];exact I⟩ ⟨VU,by rw[v];exact λ L K=>aaG _ K⟩ rfl p
  ·rename_i i want v;split at h
   ·rename_i b d m y;rw[y]at m;simp only[cond_eq_ite]at h;split at h
    ·rename_i z;have z:b=want:=by simpa using z
     subst z;rw[Dyn.U8]at h;obtain⟨us,I,p⟩:=aa4.1 h;simp only[←cond_eq_ite]at p;exact step us _ ⟨l p,by rw[v];exact⟨d,_,y,m,.inl ⟨rfl,I⟩⟩⟩ ⟨λ n t Y=>aaO _ (VU n t Y),by rw[v];exact⟨d,y,by simp,λ _ L K=>aaO _ (aaG _ K)⟩⟩ rfl p
    ·rename_i z;have z:b≠want:=by simpa using z
     simp only[←cond_eq_ite]at h;exact step (vS o) _ ⟨l h,by rw[v];exact⟨d,_,y,m,.inr ⟨by simpa using z,rfl⟩⟩⟩ ⟨TF,by rw[v];exact⟨d,y,by simp,λ e=>by rw[m]at e;simp only[aag]at e;exact absurd e z⟩⟩ rfl h
   ·rename_i d m y;rw[y]at m;exact step (vS o) _ ⟨l h,by rw[v];exact⟨d,_,y,m,.inr ⟨by simp,rfl⟩⟩⟩ ⟨TF,by rw[v];exact⟨d,y,by simp,λ e=>by rw[m]at e;simp at e⟩⟩ rfl h
   ·cases h
end
section
variable {P:Program} {E:Env} {C:Ctx} {s s':St} {a a':Act} {w w':World} {g g':Gh} {o:Oper} {Q:Exit->Act->World->Prop}
theorem Loc.TD (L:Loc):L.same L=true:=by cases L<;>simp[Loc.same]
theorem Vg {M N L:Loc} (e:M.cov L) (d:N.cov L):M.same N=true:=by
 rcases e with rfl|⟨n,rfl,rfl|⟨i,rfl⟩⟩
 ·rcases d with rfl|⟨m,rfl,rfl|⟨j,rfl⟩⟩
  ·exact Loc.TD _
  ·simp[Loc.same]
  ·simp[Loc.same]
 ·rcases d with rfl|⟨m,rfl,h|⟨j,h⟩⟩
  ·simp[Loc.same]
  ·cases h;simp[Loc.same]
  ·cases h
 ·rcases d with rfl|⟨m,rfl,h|⟨j,h⟩⟩
  ·simp[Loc.same]
  ·cases h
  ·cases h;simp[Loc.same]
theorem JU {L:Loc} {d e:List Loc} (f:Cov d L) (g:Cov e L):meets d e=true:=by
 obtain⟨M,i,k⟩:=f;obtain⟨N,l,m⟩:=g;unfold meets;rw[ab8];exact⟨M,i,ab8.2 ⟨N,l,Vg k m⟩⟩
theorem Cov.left {L:Loc} {d e:List Loc} (h:Cov d L):Cov (d++e) L:=let⟨M,f,g⟩:=h; ⟨M,aaG _ f,g⟩
theorem Cov.right {L:Loc} {e d:List Loc} (h:Cov d L):Cov (e++d) L:=let⟨M,f,g⟩:=h; ⟨M,aa6 _ f,g⟩
def Loc.atom:Loc->Prop| .bx _=>False|_=>True
def rE (L:Loc) (s s':St):Prop:=Agree (· =L) s s'
theorem rE.refl (L:Loc) (s:St):rE L s s:=⟨λ _ _=>rfl,λ _ _=>rfl,λ _ _=> .inl rfl,λ _ _=>rfl,λ _ _ _=>rfl⟩
theorem rE.symm {L:Loc} (h:rE L s s'):rE L s' s:=⟨λ n e=>(h.tm n e).symm,λ n e=>(h.bx n e).symm,λ n e=>(h.id n e).symm,λ n e=>(h.bi n e).symm,λ n i e=>(h.bc n i e).symm⟩
theorem rE.trans {L:Loc} {d f s3:St} (h:rE L d f) (k:rE L f s3):rE L d s3:=⟨λ n e=>(h.tm n e).trans (k.tm n e),λ n e=>(h.bx n e).trans (k.bx n e),λ n e=>(h.id n e).trans (k.id n e),λ n e=>(h.bi n e).trans (k.bi n e),λ n i e=>(h.bc n i e).trans (k.bc n i e)⟩
def su (s s':St) (us:List Upd):Prop:= ∀n t,.keep n t∈us->Uc (s.tm n) (s'.tm n)
theorem su.refl (s:St) (us:List Upd):su s s us:=λ _ _ _=> .inl rfl
theorem Ns {L:Loc} (q:L.atom): ∀{us:List Upd} {s s':St},su s s' us-> ¬Cov (Dh s us) L->rE L (s'.dX us) s'
 | [],s,s',_,_=>rE.refl L s'
 |u::us,s,s',z,h=>by
  have h: ¬Cov (u.uF s) L/\ ¬Cov (Dh (u.on s) us) L:=⟨λ m=>h m.left,λ m=>h m.right⟩
  have v:su (u.on s) (u.on s') us:=by
   intro n t A;have f:=z n t (by simp[A])
   cases u with
   |bx k b=>exact f
   |cl k l=>exact f
   |tm k B=>
    simp only[Upd.on];by_cases d:n=k
    ·subst d;rw[bH,bH,f.ver];exact .inl rfl
    ·rw[bM _ _ _ d,bM _ _ _ d];exact f
   |keep k B=>
    simp only[Upd.on];by_cases d:n=k
    ·subst d;rw[bH,bH,f.ver];exact .inl rfl
    ·rw[bM _ _ _ d,bM _ _ _ d];exact f
  refine(Ns q (us:=us) (s:=u.on s) (s':=u.on s') v h.2).trans ?_;have p:=h.1
  cases u with
  |tm k t=>
   refine⟨λ n e=> ?_,λ n _=>rfl,λ n e=> ?_,λ n _=>rfl,λ n i _=>rfl⟩
   ·have:n≠k:=by intro g;subst g;exact p (Cov.of (by simp[Upd.uF,e]))
    simp only[Upd.on];rw[bM _ _ _ this]
   ·have:n≠k:=by intro g;subst g;exact p (Cov.of (by simp[Upd.uF,e]))
    simp only[Upd.on];rw[bM _ _ _ this];exact .inl rfl
  |keep k t=>
   refine⟨λ n e=> ?_,λ n _=>rfl,λ n e=> ?_,λ n _=>rfl,λ n i _=>rfl⟩
   ·have:n≠k:=by
     intro g;subst g;refine p (Cov.of ?_);unfold Upd.uF;simp only[cond_eq_ite];split<;>simp[e]
    simp only[Upd.on];rw[bM _ _ _ this]
   ·by_cases d:n=k
    ·subst d
     have hs:KU (s.tm n).1 t=true:=by
      cases C:KU (s.tm n).1 t with
      |true=>rfl
      |false=>exact absurd (Cov.of (by simp only[Upd.uF];rw[C];simp[e])) p
     have f:=z n t (by simp);simp only[Upd.on];rw[bH]
     have D:Uc (t,(s'.tm n).2) (s.tm n):= .inr ⟨f.ver.symm,by
      obtain⟨ag,cs,y,E,G,I,K,M⟩:=rG.1 hs;exact rG.2 ⟨ag,y,cs,G,E,K,I,M.symm⟩⟩
     exact D.trans f
    ·simp only[Upd.on];rw[bM _ _ _ d];exact .inl rfl
  |bx k b=>
   have d: ∀n,n=k-> ¬(Loc.bx k).cov L:=λ n _ m=>p ⟨.bx k,by simp[Upd.uF],m⟩;refine⟨λ n _=>rfl,λ n e=> ?_,λ n _=> .inl rfl,λ n e=> ?_,λ n i e=> ?_⟩
   ·rw[←e]at q;exact q.elim
   ·have:n≠k:=by intro g;subst g;exact d n rfl (.inr ⟨n,rfl,.inl e.symm⟩)
    unfold bxI;simp only[Upd.on];rw[bM _ _ _ this]
   ·have:n≠k:=by intro g;subst g;exact d n rfl (.inr ⟨n,rfl,.inr ⟨i,e.symm⟩⟩)
    unfold bxC;simp only[Upd.on];rw[bM _ _ _ this]
  |cl k l=>
   refine⟨λ n _=>rfl,λ n e=> ?_,λ n _=> .inl rfl,λ n e=>Yh _ _ _ _,λ n i e=> ?_⟩
   ·rw[←e]at q;exact q.elim
   ·rw[Yg];split
    ·rename_i d;subst d;have: ∀c,c∈l->c.1≠i:=λ c m N=>p (Cov.of (by rw[←e];exact aaB.2 ⟨c,m,by rw[N]⟩))
     cases bxC s' n i with
     |none=>rfl
     |some x=>simp[Qd l i x this]
    ·rfl
theorem St.ahy {s s':St} (h: ∀L,L.atom->rE L s s'):s=s':=by
 have d:s.tm=s'.tm:=funext λ n=>(h (.tm n) trivial).tm n rfl;have e:s.bx=s'.bx:=funext λ n=>aeW ((h (.bi n) trivial).bi n rfl) λ i=>(h (.bc n i) trivial).bc n i rfl;cases s;cases s';simp only at d e;subst d e;rfl
def mg (U:Nat->List Upd) (s:St) (L:Nat->Bool):Nat->St
 |0=>s
 |n+1=>bif L n then(mg U s L n).dX (U n)else mg U s L n
def IU (S:Nat->St) (U:Nat->List Upd) (s:St) (L:Nat->Bool) (n:Nat):Prop:= ∀j,j<n->L j=true->su (S j) (mg U s L j) (U j)
theorem IU.one {S:Nat->St} {U:Nat->List Upd} {L:Nat->Bool} {l:Loc} (d:l.atom) {n m:Nat} (h:IU S U s L n) (e:m<n) (f: ¬Cov (Dh (S m) (U m)) l):rE l (mg U s L (m+1)) (mg U s L m):=by
 simp only[mg]
 cases g:L m with
 |true=>exact Ns d (h m e g) f
 |false=>exact rE.refl _ _
theorem yY {s:St} {S:Nat->St} {U:Nat->List Upd} {L L':Nat->Bool} {l:Loc} (d:l.atom): ∀{n:Nat},IU S U s L n->IU S U s L' n->(∀j,j<n->Cov (Dh (S j) (U j)) l->L j=L' j)->rE l (mg U s L n) (mg U s L' n)
 |0,_,_,_=>rE.refl _ _
 |n+1,i,k,h=>by
  have f:=yY d (s:=s) (S:=S) (U:=U) (L:=L) (L':=L') (l:=l) (n:=n) (λ j m=>i j (by omega)) (λ j m=>k j (by omega)) λ j m=>h j (by omega);by_cases g:Cov (Dh (S n) (U n)) l
  ·have e:=h n (by omega) g;simp only[mg,e]
   cases L' n with
   |true=>exact Agree.dX f _
   |false=>exact f
  ·exact((i.one d (by omega) g).trans f).trans (k.one d (by omega) g).symm
theorem Rn {S:Nat->St} {U:Nat->List Upd} {L L':Nat->Bool} {i:Nat}: ∀{n:Nat},i<n->L i=false->(∀j,L' j=(L j||Nat.beq j i))->IU S U s L n->IU S U s L' n->su (S i) (mg U s L n) (U i)->
 (∀j,i<j->L j=true-> ∀l,Cov (Dh (S j) (U j)) l-> ¬Cov (Dh (S i) (U i)) l)->mg U s L' n=(mg U s L n).dX (U i):=by
 intro n I K d v e y M;refine St.ahy λ l g=> ?_;by_cases z:Cov (Dh (S i) (U i)) l
 ·
  have key: ∀m,m<=n->i<m->rE l (mg U s L' m) ((mg U s L i).dX (U i))/\rE l (mg U s L m) (mg U s L i):=by
   intro m
   induction m with
   |zero=>intro _ h;omega
   |succ m N=>
    intro O h;by_cases k:m=i
    ·subst k;have A:L' m=true:=by rw[d m];simp
     have B:mg U s L' (m+1)=(mg U s L' m).dX (U m):=by simp only[mg,A,cond_true]
     have C:mg U s L (m+1)=mg U s L m:=by simp only[mg,K,cond_false]
     rw[B,C];refine⟨Agree.dX (yY g (S:=S) (λ j D=>e j (by omega)) (λ j D=>v j (by omega)) λ j D _=> ?_) _,rE.refl _ _⟩;rw[d j];have:Nat.beq j m=false:=by rw[←ab7];intro p;have:=aao p;omega
     simp[this]
    ·have q:i<m:=by omega
     obtain⟨t,u⟩:=N (by omega) q
     have A:L' m=L m:=by
      rw[d m];have:Nat.beq m i=false:=by rw[←ab7];intro p;exact k (aao p)
      simp[this]
     cases f:L m with
     |false=>
      have B:mg U s L' (m+1)=mg U s L' m:=by simp only[mg,A,f,cond_false]
      have C:mg U s L (m+1)=mg U s L m:=by simp only[mg,f,cond_false]
      rw[B,C];exact⟨t,u⟩
     |true=>
      have G: ¬Cov (Dh (S m) (U m)) l:=λ E=>M m q f l E z;exact⟨(e.one g (by omega) G).trans t,(v.one g (by omega) G).trans u⟩
  obtain⟨t,u⟩:=key n (aav _) I;exact t.trans (Agree.dX u.symm _)
 ·refine(yY g (S:=S) (L':=L) e v λ j D E=> ?_).trans (Ns g y z).symm;rw[d j];have:Nat.beq j i=false:=by rw[←ab7];intro p;have:=aao p;subst this;exact z E
  simp[this]
structure Pg (E:Env) (all:List Oper) (ah:List (List Nat)) (N:Nat) (S:Nat->St) (U:Nat->List Upd) (F:Nat->Em):Prop where
 next: ∀i,i<N->S (i+1)=(S i).dX (U i)
 acts: ∀i o,i<N->all[i]? =some o->aeO E all o (S i) (U i)
 reads: ∀i o,i<N->all[i]? =some o->Reads E all o (S i) (U i) (F i).r
 writes: ∀i,i<N->(F i).w=Dh (S i) (U i)
 ahead: ∀i k,i<N->k<i->Em.clash (F k) (F i)=true->k∈ah.getD i []
theorem LP {ahead:List Nat} {f:Em}: ∀{l:List Em} {i:Nat},ordered ahead f l i=true-> ∀k g,l[k]? =some g->Em.clash g f=true->i+k∈ahead
 | [],_,_,k,g,d,_=>by simp at d
 |x::t,i,h,k,g,d,m=>by
  simp only[ordered,aae]at h
  cases k with
  |zero=>
   simp only[aaN,aag]at d;subst d;have e:=h.1;rw[m]at e;simp only[abt,Bool.false_or,ab8]at e;obtain⟨y,p,q⟩:=e;have:=aao q;subst this;exact p
  |succ k=>
   have:=LP h.2 k g (by simpa using d) m;rw[show i+(k+1)=i+1+k by omega];exact this
theorem WG {e:Bool} {all:List Oper} {D:List (List Nat)}: ∀(os:List Oper) (j:Nat) (p:List Em) (s:St) (d:List Em) (S:Nat->St) (U:Nat->List Upd) (F0:Nat->Em),J8 E e all D os j p s d S U->
 (∀i,os[i]? =all[j+i]?)->p.length=j->(∀k,k<j->p[k]? =some (F0 k))->
 ∃F:Nat->Em,(∀k,k<j->F k=F0 k)/\S j=s/\(∀i,j<=i->i<j+os.length->S (i+1)=(S i).dX (U i)/\(∀o,all[i]? =some o->aeO E all o (S i) (U i)/\Reads E all o (S i) (U i) (F i).r)/\(F i).w=Dh (S i) (U i)/\(e=true-> ∀k,k<i->Em.clash (F k) (F i)=true->k∈D.getD i []))
 | [],j,p,s,d,S,U,F0,h,_,_,_=>⟨F0,λ _ _=>rfl,h.2,λ i q A=>by simp at A;omega⟩
 |o::os,j,p,s,d,S,U,F0,⟨q,A,f,I,K,L,M⟩,g,l,t=>by
  obtain⟨F,q1,q2,q3⟩:=WG os (j+1) (p++[f]) (s.dX (U j)) d S U (λ k=>if k=j then f else F0 k) M
   (λ i=>by have:=g (i+1);rw[show j+1+i=j+(i+1) by omega,←this];simp) (by simp[l]) (λ k z=>by
    by_cases u:k=j
    ·subst u;simp[l]
    ·rw[if_neg u,aaw (by omega)];exact t k (by omega))
  have m:F j=f:=by rw[q1 j (by omega)];simp
  have v: ∀k,k<j->F k=F0 k:=λ k z=>by rw[q1 k (by omega)];simp[show k≠j by omega]
  refine⟨F,v,q,λ i N B=> ?_⟩;by_cases C:i=j
  ·subst C;have O:all[i]? =some o:=by have:=g 0;simpa using this.symm
   refine⟨by rw[q2,q],λ o' y=> ?_,by rw[m,q];exact K,λ Q k z G=> ?_⟩
   ·rw[O]at y;cases y;rw[q,m];exact⟨A,I⟩
   ·rw[m,v k z]at G;have:=LP (L Q) k _ (t k z) G;simpa using this
  ·exact q3 i (by omega) (by simp at B ⊢;omega)
def Closed (d:List Oper) (L:Nat->Bool):Prop:= ∀i o,d[i]? =some o->L i=true-> ∀e,e∈o.after.toList->Region.binds .any e=true->L e.on=true
theorem Pm {l:List Oper} {L:Nat->Bool} (t:Closed l L) {f:List (List Nat)} (d: ∀i k,k∈f.getD i []->L i=true->L k=true): ∀{es:List Edge} {k:Nat},k∈yJ f es->(∀e,e∈es->Region.binds .any e=true->L e.on=true)->L k=true
 | [],_,h,_=>by simp[yJ]at h
 |e::es,k,h,m=>by
  simp only[yJ,cond_eq_ite]at h;split at h
  ·rename_i u;have g:=m e (by simp) u;simp only[aaQ,aap]at h;rcases h with rfl|h|h
   ·exact g
   ·exact d _ _ h g
   ·exact Pm t d h λ p q=>m p (by simp[q])
  ·exact Pm t d h λ p q=>m p (by simp[q])
theorem QV {g:List Oper} {L:Nat->Bool} (m:Closed g L): ∀(os:List Oper) (d:List (List Nat)),(∀i,os[i]? =g[d.length+i]?)->(∀i k,k∈d.getD i []->L i=true->L k=true)->
 ∀i k,k∈(Oe os d).getD i []->L i=true->L k=true
 | [],d,_,h=>h
 |o::os,d,f,h=>by
  refine QV m os _ (λ i=> ?_) λ i k l q=> ?_
  ·have:=f (i+1);simp only[aaq,abl,aci];rw[show d.length+(0+1)+i=d.length+(i+1) by omega,←this];simp
  ·have t:g[d.length]? =some o:=by have:=f 0;simpa using this.symm
   rcases acg i d.length with p|heq|u
   ·have:(d++[yJ d o.after.toList]).getD i []=d.getD i []:=by
     simp[abd,aaw p]
    rw[this]at l;exact h i k l q
   ·subst heq
    have:(d++[yJ d o.after.toList]).getD d.length []=yJ d o.after.toList:=by
     simp[abd]
    rw[this]at l;exact Pm m h l λ e v y=>m _ o t q e v y
   ·have:(d++[yJ d o.after.toList]).getD i []= []:=by
     rw[abd,aai (by simp;omega)];rfl
    rw[this]at l;cases l
theorem KF: ∀{os:List Oper} {j:Nat},Ii os j=true-> ∀i o,os[i]? =some o-> ∀e,e∈o.after.toList->Region.binds .any e=true->e.on<j+i
 | [],_,_,i,o,h,_,_,_=>by simp at h
 |x::k,j,h,i,o,d,e,f,g=>by
  simp only[Ii,aae,aaV]at h
  cases i with
  |zero=>
   simp only[aaN,aag]at d;subst d;have:=h.1 e f;rw[g]at this;have:=(Nat.blt_eq ..).mp (by simpa using this);omega
  |succ i=>
   have:=KF h.2 i o (by simpa using d) e f g;omega
def kN (d:Array Bool):Nat->Bool:=λ i=>d.getD i false
theorem MF {f:Array Oper} {d:Array Bool} (v:d.size=f.size) {i:Nat}:i∈Region.ready .any f d ↔ ∃o,f[i]? =some o/\kN d i=false/\ ∀e,e∈o.after.toList->Region.binds .any e=true->kN d e.on=true:=by
 unfold Region.ready kN;simp only[List.mem_filter,ab2,aae,abw];constructor
 ·rintro⟨y,g,k⟩;have u:f[i]? =some f[i]:=aa7 y;rw[u]at k;simp only[aaL,aby,Array.all_eq_true_iff_forall_mem,abX,abw]at k;refine⟨_,u,?_,λ e l m=> ?_⟩
  ·have p:i<d.size:=by omega
   simp only[abg,aa7 p,aby]at g ⊢;exact g
  ·rcases k e (by simpa using l)with h|h
   ·rw[m]at h;cases h
   ·exact h
 ·rintro⟨o,q,g,k⟩
  have t:i<f.size:=by
   rw[abz]at q;exact q.1
  refine⟨t,?_,?_⟩
  ·have p:i<d.size:=by omega
   simp only[abg,aa7 p,aby]at g ⊢;exact g
  ·rw[q];simp only[aaL,aby,Array.all_eq_true_iff_forall_mem,abX,abw];intro e l
   cases m:Region.binds .any e with
   |false=>exact .inl rfl
   |true=>exact .inr (k e (by simpa using l) m)
theorem WR {f:Array Oper} {d:Array Bool} (g:d.size=f.size) (l:Ii f.toList 0=true) (m:Region.ready .any f d= []): ∀i,i<f.size->kN d i=true:=by
 intro i
 induction i using Nat.strongRecOn with
 |_ i p=>
  intro q;rw[←Bool.not_eq_false];intro t;have u:f[i]? =some f[i]:=aa7 q
  have:i∈Region.ready .any f d:=(MF g).2 ⟨_,u,t,λ e k v=>by
   have:=KF l i f[i] (by simp) e k v;exact p e.on (by omega) (by omega)⟩
  rw[m]at this;cases this
theorem yX {E:Env} {all:List Oper} {e:List (List Nat)} {N:Nat} {S:Nat->St} {U:Nat->List Upd} {F:Nat->Em} (h:Pg E all e N S U F) {L:Nat->Bool}: ∀n,n<=N->(∀j,j<n->L j=true)->mg U (S 0) L n=S n
 |0,_,_=>rfl
 |n+1,f,d=>by
  simp only[mg,d n (by omega),cond_true];rw[yX h n (by omega) λ j g=>d j (by omega),h.next n (by omega)]
theorem Un {E:Env} {all:List Oper} {q:List (List Nat)} {N:Nat} {S:Nat->St} {U:Nat->List Upd} {F:Nat->Em} (h:Pg E all q N S U F) (e: ∀i,i<N-> ∃o,all[i]? =some o) {L:Nat->Bool} (u: ∀i k,k∈q.getD i []->L i=true->L k=true):
 ∀n,n<=N->IU S U (S 0) L n
 |0,_=>λ j v=>absurd v (by omega)
 |n+1,I=>by
  have y:=Un h e u n (by omega);intro j v g;by_cases p:j<n
  ·exact y j p g
  obtain rfl:j=n:=by omega
  intro m t B;obtain⟨o,C⟩:=e j (by omega);have D:=(h.reads j o (by omega) C).1 m t B
  have f:IU S U (S 0) (λ _=>true) j:=λ k z _=>by
   rw[yX h k (by omega) λ _ _=>rfl];exact su.refl _ _
  have d:=yY (l:= .id m) trivial (S:=S) f y λ k z A=>by
   rw[←h.writes k (by omega)]at A
   have G:Em.clash (F k) (F j)=true:=by
    unfold Em.clash;rw[JU A (Cov.of (aaG _ D))];rfl
   exact(u j k (h.ahead j k (by omega) z G) g).symm
  rw[yX h j (by omega) λ _ _=>rfl]at d;exact d.id m rfl
theorem any_ok (hE:QL P E) {f:Array Oper} {S:Nat->St} {U:Nat->List Upd} {F:Nat->Em} (hs:Pg E f.toList (Oe f.toList []) f.size S U F) (he:Ii f.toList 0=true)
 (hQ: ∀a w g,Rel E C (S f.size) a w g->Q .normal a w): ∀(u:Nat) (d:Array Bool) (a:Act) (w:World) (g:Gh),d.size=f.size->d.toList.countP (! ·)<=u->Closed f.toList (kN d)->
  Rel E C (mg U (S 0) (kN d) f.size) a w g->wpAny P .any f Q u d a w:=by
 have fin: ∀(d:Array Bool) (a:Act) (w:World) (g:Gh),d.size=f.size->Rel E C (mg U (S 0) (kN d) f.size) a w g->Region.ready .any f d= []->Q .normal a w:=by
  intro d a w g q hr z;have:=WR q he z;rw[yX hs _ (aav _) this]at hr;exact hQ a w g hr
 intro u
 induction u with
 |zero=>
  intro d a w g q hc R hr
  have z:Region.ready .any f d= []:=by
   rw[List.eq_nil_iff_forall_not_mem];intro i hi;obtain⟨o,ho,hf,_⟩:=(MF q).1 hi;have v:i<d.size:=by rw[q];rw[abz]at ho;exact ho.1
   have h0:d.toList.countP (! ·)=0:=by omega
   rw[List.countP_eq_zero]at h0;have:=h0 d[i] (by simp);simp only[kN,abg,aa7 v,aby]at hf;rw[hf]at this;simp at this
  exact⟨z,fin d a w g q hr z⟩
 |succ u ih=>
  intro d a w g q hc R hr;refine⟨fin d a w g q hr,λ i hi=> ?_⟩;obtain⟨o,ho,hf,b3⟩:=(MF q).1 hi;have v:i<f.size:=by rw[abz]at ho;exact ho.1
  have a7:i<d.size:=by omega
  have a8:f.toList[i]? =some o:=by simpa using ho
  have W: ∀(L:Nat->Bool),Closed f.toList L-> ∀i k,k∈(Oe f.toList []).getD i []->L i=true->L k=true:=λ L hL=>QV hL f.toList [] (λ i=>by simp) (λ i k hk=>by simp at hk)
  let p:=d.setIfInBounds i true
  have G: ∀j,kN p j=(kN d j||Nat.beq j i):=by
   intro j;simp only[kN,p,abg,Array.getElem?_setIfInBounds];by_cases D:i=j
   ·subst D;simp[a7]
   ·have:Nat.beq j i=false:=by rw[←ab7];intro hb;exact D (aao hb).symm
    simp[D,this]
  have I:Closed f.toList (kN p):=by
   intro k o' hk y e b4 hb;rw[G k]at y;rw[G e.on];simp only[abX]at y ⊢;rcases y with y|y
   ·exact .inl (R k o' hk y e b4 hb)
   ·have:=aao y;subst this;rw[a8]at hk;cases hk;exact .inl (b3 e b4 hb)
  have c4:kN p i=true:=by rw[G i];simp
  have b5: ∀k,k<i->Em.clash (F k) (F i)=true->kN d k=true:=by
   intro k hk K;have N:=hs.ahead i k v hk K;have h2:=W _ I i k N c4;rw[G k]at h2;have:Nat.beq k i=false:=by rw[←ab7];intro hb;have:=aao hb;omega
   simpa [this]using h2
  have a2: ∀j,i<j->j<f.size->kN d j=true->Em.clash (F i) (F j)=false:=by
   intro j D Y y;rw[←ab7];intro K;have N:=hs.ahead j i Y D K;have h2:=W _ R j i N y;rw[hf]at h2;cases h2
  have out: ∀j,f.size<=j->kN d j=false:=by
   intro j D;simp only[kN,abg];rw[acn (by omega)];rfl
  have a3: ∀i,i<f.size-> ∃o,f.toList[i]? =some o:=λ i hi=>⟨f[i],by simp[hi]⟩;have b6:=Un hs a3 (W _ R) f.size (aav _);have b7:=Un hs a3 (W _ I) f.size (aav _);have b0:=hs.acts i o v a8;have A:=hs.reads i o v a8
  have B:Agree (Cov (F i).r) (S i) (mg U (S 0) (kN d) f.size):=by
   have c5:S i=mg U (S 0) (λ j=>decide (j<i)) f.size:=by
    have N:=yX hs (L:=λ j=>decide (j<i)) i (by omega) (by simp);rw[←N]
    have h2: ∀m,mg U (S 0) (λ j=>decide (j<i)) (i+m)=mg U (S 0) (λ j=>decide (j<i)) i:=by
     intro m
     induction m with
     |zero=>rfl
     |succ m ih=>rw[show i+(m+1)=(i+m)+1 by omega];simp only[mg];rw[show decide (i+m<i)=false by simp,cond_false,ih]
    have:=h2 (f.size-i);rw[show i+(f.size-i)=f.size by omega]at this;exact this.symm
   have one: ∀l,l.atom->Cov (F i).r l->rE l (S i) (mg U (S 0) (kN d) f.size):=by
    intro l ha y;rw[c5];refine yY ha (S:=S) (λ j D b8=> ?_) b6 λ j D hw=> ?_
    ·have b8:j<i:=by simpa using b8
     have e1:mg U (S 0) (λ j=>decide (j<i)) j=S j:=yX hs j (by omega) λ k hk=>by simp;omega
     rw[e1];exact su.refl _ _
    rw[←hs.writes j D]at hw;rcases acg j i with h|h|h
    ·have:Em.clash (F j) (F i)=true:=by
      unfold Em.clash;rw[JU hw y.left];rfl
     rw[b5 j h this];simp[h]
    ·subst h;rw[hf];simp
    ·have e1:decide (j<i)=false:=by simp;omega
     rw[e1]
     cases O:kN d j with
     |false=>rfl
     |true=>
      have N:=a2 j h D O;unfold Em.clash at N;rw[JU hw y]at N;simp at N
   refine⟨λ n z=>(one (.tm n) trivial z).tm n rfl,λ n z=> ?_,λ n z=>(one (.id n) trivial z).id n rfl,λ n z=>(one (.bi n) trivial z).bi n rfl,λ n i z=>(one (.bc n i) trivial z).bc n i rfl⟩
   have hm: .bx n∈(F i).r:=by
    obtain⟨M,N,rfl|⟨m,_,h|⟨_,h⟩⟩⟩:=z
    ·exact N
    ·cases h
    ·cases h
   exact aeW ((one (.bi n) trivial ⟨_,hm,.inr ⟨n,rfl,.inl rfl⟩⟩).bi n rfl) λ i=>(one (.bc n i) trivial ⟨_,hm,.inr ⟨n,rfl,.inr ⟨i,rfl⟩⟩⟩).bc n i rfl
  have Z:=WQ B b0 A;refine X4 hE hr ho Z λ a' w' g' c8=> ?_;refine ih p a' w' g' (by simp[p,q]) ?_ I ?_
  ·have a4:i<d.toList.length:=by simpa using a7
   have b9:d.toList[i]=false:=by
    simp only[kN,abg,aa7 a7,aby]at hf;simpa using hf
   have c0:0<d.toList.countP (! ·):=List.countP_pos_iff.2 ⟨false,by rw[←b9];exact aaf a4,rfl⟩;have:p.toList=d.toList.set i true:=by simp[p]
   rw[this,List.countP_set a4,b9];simp;simp at hc c0;omega
  ·rw[Rn (S:=S) v hf G b6 b7 (λ m t hm=>B.id m (Cov.of (A.1 m t hm))) λ j D O l y c1=> ?_]
   ·exact c8
   ·have Y:j<f.size:=by
     rcases aaF j f.size with h|h
     ·exact h
     ·rw[out j h]at O;cases O
    have:=a2 j D Y O;rw[←hs.writes j Y]at y;rw[←hs.writes i v]at c1;unfold Em.clash at this;rw[JU c1 y.right]at this;simp at this
end
end Go.AM
end
