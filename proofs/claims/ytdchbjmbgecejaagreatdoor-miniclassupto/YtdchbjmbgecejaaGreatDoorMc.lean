import Derived.Test.YtdchbjmbgecejaaGreatDoorMb
import Derived.Orders
set_option linter.unusedVariables false
section
namespace Go.AM
open Go
section
variable {P:Program} {E:Env} {C:Ctx} {s s':St} {a a':Act} {w w':World} {g g':Gh} {o:Oper} {Q:Exit->Act->World->Prop}
def Tg.moves:Tg->Bool| .own=>true| .tip=>true|_=>false
theorem qH: ∀{cs:LC} {want:List (Sh×Tg)} {ds:LC},weaken cs want=some ds->cs.length=want.length/\ds.length=want.length/\
 ∀(k:Nat) (c:CV),cs[k]? =some c-> ∃sh tg,want[k]? =some (sh,tg)/\ds[k]? =some (c.to tg)/\c.sh=sh/\Tg.le tg c.tg=true/\(iL cs want)[k]? =some (bif c.isPure then c else leftAs c tg)
 | [],[],ds,h=>by
   simp only[weaken,aag]at h;subst h;exact⟨rfl,rfl,λ k c e=>by simp at e⟩
 | [],_::_,ds,h=>by simp[weaken]at h
 |_::_,[],ds,h=>by simp[weaken]at h
 |c::cs,(sh,tg)::want,ds,h=>by
  simp only[weaken,cond_eq_ite,aae]at h;split at h
  ·rename_i e;obtain⟨A,f,rfl⟩:=aaK.1 h;obtain⟨l,m,p⟩:=qH f;refine⟨by simp[l],by simp[m],λ k q d=> ?_⟩
   cases k with
   |zero=>simp at d;subst d;exact⟨sh,tg,rfl,rfl,aY8 e.1.1,e.1.2,rfl⟩
   |succ k=>
    obtain⟨g,i,t,u,v,y,z⟩:=p k q (by simpa using d);exact⟨g,i,by simpa using t,by simpa using u,v,y,by simpa [iL]using z⟩
  ·cases h
theorem XJ (c:CV) (tg:Tg) (h:(leftAs c tg).tg= .own):leftAs c tg=c:=by
 obtain⟨sh,d,x⟩:=c;cases tg<;>cases d<;>simp_all [leftAs,CV.kill,CV.to]
theorem Md: ∀{cs:LC} {want:List (Sh×Tg)} {i:Nat} {d:CV},(iL cs want)[i]? =some d->d.tg= .own->cs[i]? =some d
 | [],_,i,d,h,_=>by simp[iL]at h
 |_::_,[],i,d,h,_=>by simp[iL]at h
 |c::cs,(sh,tg)::want,0,d,h,e=>by
  simp only[iL,aaO,aag]at h ⊢
  cases f:c.isPure with
  |true=>rw[f]at h;exact h
  |false=>
   rw[f]at h;simp only[cond_false]at h;rw[←h]at e ⊢;exact(XJ c tg e).symm
 |c::cs,(sh,tg)::want,i+1,d,h,e=>by
  simpa using Md (cs:=cs) (want:=want) (i:=i) (by simpa [iL]using h) e
theorem jZ.agQ {ρ:aF->aF} {ow ow':aF} {c:CV} {v:Value} (d:c.tg= .pure) (h:jZ w g ow c v):jZ w (g.ren ρ) ow' c v:=by
 have:=h.pure (w':=w) (g':=g.ren ρ) (ow':=ow') (show Keeps w w g.F (g.ren ρ).F from Keeps.refl w g.F) (by unfold CV.isPure;rw[d];rfl);exact this
theorem aC.frB {K:aF->Prop} {w w':World} {g g':Gh} (f:Fr K w w' g g') {mk:Nat->aF}: ∀(cs:LC) (i:Nat) (d:LV),(∀j,i<=j->j<i+cs.length->K (mk j))->aC w g mk i cs d->aC w' g' mk i cs d
 | [],_,_,_,h=>h
 |c::cs,i,_,k,⟨v,l,e,m,h⟩=>⟨v,l,e,m.fr f (k i (aaw _) Θ),aC.frB f cs (i+1) l (λ j m p=>k j Ω Δ) h⟩
theorem DX (h:Rel E C s a w g) {hs:LC} {hv:LV} (hh:aC w g .hand 0 hs hv) {p:Pl} {m:Nat} {cs ds:LC} {want:List (Sh×Tg)} {us:List Upd} (hc:aV s p m=some cs) (hw:weaken cs want=some ds)
 (hu:jT s p (iL cs want) false=some us):
 ∃g',Rel E C (s.dW us) a w g'/\aC w g' .hand 0 (hs++ds) (hv++((aB a w g p.root).drop p.cell).take m)/\g'.at_=g.at_/\Keeps w w g.F g'.F/\(∀b n,g.own b=some (.box n)->g'.own b=some (.box n)):=by
 obtain⟨hp,hl⟩:=h.pl hc;obtain⟨b6,b7,z⟩:=qH hw;obtain⟨D,R,b1,o1,a1,S,U,_,_,A⟩:=EC (xq p.root) cs want ds p.cell _ g h.base hw hp
 let B:Nat->Bool:=λ j=>decide (p.cell<=j/\j<p.cell+m)&&(match want[j-p.cell]? with|some (_,tg)=>tg.moves|none=>false)
 let ρ:aF->aF:=λ o=>match p.root,o with
  | .tmp n,.tm k j=>if k=n/\B j=true then .hand (hs.length+(j-p.cell))else o
  | .box n,.cell k j=>if k=n/\B j=true then .hand (hs.length+(j-p.cell))else o
  |_,o=>o
 have W: ∀j,B j=true->p.cell<=j/\j<p.cell+m:=λ j y=>by
  simp only[B,aae,decide_eq_true_eq]at y;exact y.1
 have q: ∀o,(∀j,B j=true->o≠dO p.root j)->ρ o=o:=by
  intro o O;simp only[ρ]
  cases t:p.root with
  |tmp n=>
   cases o<;>simp only;rename_i k j;split
   ·rename_i f;exact absurd (by rw[t,f.1];rfl) (O j f.2)
   ·rfl
  |box n=>
   cases o<;>simp only;rename_i k j;split
   ·rename_i f;exact absurd (by rw[t,f.1];rfl) (O j f.2)
   ·rfl
 have G: ∀i,ρ (.hand i)= .hand i:=λ i=>q _ (λ j _=>by cases p.root<;>simp[dO])
 have I: ∀k,B (p.cell+k)=true->ρ (dO p.root (p.cell+k))= .hand (hs.length+k):=by
  intro k f;simp only[ρ]
  cases t:p.root with
  |tmp n=>simp only[dO];rw[if_pos ⟨trivial,f⟩];congr 1;omega
  |box n=>simp only[dO];rw[if_pos ⟨trivial,f⟩];congr 1;omega
 have l:(iL cs want).length=cs.length:=by have:=congrArg List.length A;simpa using this
 have Y:=hp.length
 have L:aC w (D.ren ρ) (dO p.root) p.cell (iL cs want) (((aB a w g p.root).drop p.cell).take m):=by
  refine aC.of _ _ _ (by rw[l];exact Y) λ k c v f hv=> ?_
  have M:k<cs.length:=by
   rw[←l];rcases aaG k (iL cs want).length with h|h
   ·exact h
   ·simp[aal h]at f
  obtain⟨sh,tg,Q,e2,_,e4,e5⟩:=z k cs[k] (aac M);obtain⟨u,N,t⟩:=U.get _ p.cell _ k c f;rw[N]at hv;cases hv;rw[e5]at f;cases f
  cases d:tg.moves with
  |true=>
   have Z:cs[k].isPure=false:=by
    unfold CV.isPure;cases a0:cs[k].tg<;>rw[a0]at e4<;>first|rfl|(cases tg<;>simp_all [Tg.moves,Tg.le])
   rw[Z]at t ⊢;simp only[cond_false]at t ⊢;have:leftAs cs[k] tg=cs[k].kill:=by cases tg<;>first|rfl|simp[Tg.moves]at d
   rw[this];exact trivial
  |false=>
   have a2:ρ (dO p.root (p.cell+k))=dO p.root (p.cell+k):=q _ λ j y e=>by
    have:=xq p.root _ _ e;subst this;simp only[B,aae]at y;rw[show p.cell+k-p.cell=k by omega,Q]at y;simp only[d]at y;exact absurd y.2 Θ
   have:=t.ren (ρ:=ρ)
   rwa [a2]at this
 have a3:aC w (D.ren ρ) .hand hs.length ds (((aB a w g p.root).drop p.cell).take m):=by
  refine aC.of _ _ _ Ω λ k c v f hv=> ?_
  have M:k<cs.length:=by
   rcases aaG k ds.length with h|h
   ·omega
   ·simp[aal h]at f
  obtain⟨sh,tg,Q,e2,_,e4,e5⟩:=z k cs[k] (aac M);obtain⟨u,N,t⟩:=S.get _ p.cell _ k c f;rw[N]at hv;cases hv;rw[e2]at f;cases f
  cases d:tg.moves with
  |true=>
   have:=t.ren (ρ:=ρ)
   rwa [I k (by
    simp only[B,aae,decide_eq_true_eq];exact⟨Ω,by rw[show p.cell+k-p.cell=k by omega,Q];exact d⟩)]at this
  |false=>
   cases tg with
   |pure=>exact jZ.agQ rfl t
   |dead=>exact trivial
   |own=>cases d
   |tip=>cases d
 have f2:Fr (λ o=>(∀j,p.cell<=j->j<p.cell+cs.length->o≠dO p.root j)/\ ∀j,o≠ .hand j) w w g (D.ren ρ):=
  (R.mono λ o O=>O.1).trans (Fr.ren w D λ o O=>q o λ j y e=>by
   obtain⟨h1,h2⟩:=W j y;exact O.1 j h1 Ω e)
 refine⟨D.ren ρ,?_,?_,a1,R.keeps,λ b n e=> ?_⟩
 ·refine kK h (ds:=iL cs want) (by rw[l,hl];exact hc) hu A (by rw[l];exact f2) (b1.ren ρ) a1 ?_ (λ i es l' hi=>⟨l',Md hi rfl,λ _ _ _ _=>rfl⟩);rw[l,hl];exact L
 ·refine aC.append hs 0 hv ds _ ?_ (by rw[aa2];exact a3);have h1:aC w D .hand 0 hs hv:=aC.fr (K:=λ o=> ∃i,o= .hand i) (R.mono λ o ⟨i,e⟩ j _ _=>by subst e;cases p.root<;>simp[dO]) hs 0 hv (λ j=>⟨j,rfl⟩) hh;exact aC.ren hs 0 0 hv (λ k _=>by simpa using G (0+k)) h1
 ·have Q:D.own b=some (.box n):=by rw[o1];exact e
  simp only[Gh.ren,Q,aaL];rw[q _ λ j _=>by cases p.root<;>simp[dO]]
theorem Sh.beq_refl: ∀sh:Sh,Sh.beq sh sh=true:=by
 intro sh
 induction sh using Sh.rec (motive_2:=λ i=>aX0 i i=true)with
 |int k=>simp[Sh.beq]
 |bool=>rfl
 |str=>rfl
 |sl es g=>simpa [Sh.beq]using g
 |rsl es g=>simpa [Sh.beq]using g
 |dl es g=>simpa [Sh.beq]using g
 |mp k e d f=>simp[Sh.beq,d,f]
 |nil=>rfl
 |cons s ss d f=>simp[aX0,d,f]
theorem yj {mk mk':Nat->aF} {cs ds:LC} {want:List (Sh×Tg)} {i j:Nat} {p:LV} (q:bI cs=true) (t:weaken cs want=some ds) (h:aC w g mk i cs p):aC w g mk' j ds p:=by
 obtain⟨y,z,e⟩:=qH t;have A:=h.length;refine aC.of _ _ _ Ω λ k c v l hv=> ?_
 have d:k<cs.length:=by
  rcases aaG k ds.length with h|h
  ·omega
  ·simp[aal h]at l
 obtain⟨sh,tg,E,B,_,m,_⟩:=e k cs[k] (aac d);obtain⟨u,C,D⟩:=h.get _ i _ k _ (aac d);rw[C]at hv;cases hv;rw[B]at l;cases l;have f:=uJ q cs[k] (aaf d);rw[f]at m
 cases tg with
 |dead=>exact trivial
 |pure=>exact(sS rfl).2 ((sS f).1 D)
 |own=>simp[Tg.le]at m
 |tip=>simp[Tg.le]at m
def Tagged (cs:LC) (want:List (Sh×Tg)):Prop:=cs.map (λ c=>(c.sh,c.tg))=want
theorem fD {cs ds:LC} {want:List (Sh×Tg)} (f:weaken cs want=some ds):Tagged ds want:=by
 obtain⟨g,i,d⟩:=qH f;apply aaZ;intro k;rw[aau];rcases aaG k cs.length with e|e
 ·obtain⟨sh,tg,l,m,p,_,_⟩:=d k cs[k] (aac e);rw[l,m,←p];rfl
 ·rw[aal Ω,aal Ω];rfl
theorem Rh {ow:aF} {sh:Sh} (e:sh.qK=true) (tg:Tg):jZ w g ow ((J7 sh).to tg) (.slice none 0 0):=by
 have d:=gu e;have f:aP sh (lG sh)=0:=by cases sh<;>first|rfl|(simp[Sh.qR]at d)
 cases tg with
 |dead=>exact trivial
 |pure=>
  show jM w g.F sh (lG sh) _;rw[yI e];exact⟨none,0,by rw[f],Ω,.inl f⟩
 |own=>
  show if sh.qR=true then zK w g ow false sh (lG sh) _ else _;rw[if_pos d];exact .inl ⟨rfl,f⟩
 |tip=>
  show if sh.qR=true then zK w g ow true sh (lG sh) _ else _;rw[if_pos d];exact .inl ⟨rfl,f⟩
theorem WT {want:List (Sh×Tg)} {ds:LC} (h:(aeQ want).run=some ds): ∃sh tg,want= [(sh,tg)]/\sh.qK=true/\ds= [(J7 sh).to tg]:=by
 unfold aeQ at h;split at h
 ·obtain⟨d,h⟩:=bf h;exact⟨_,_,rfl,d,(au h).symm⟩
 ·exact(aj h).elim
theorem PL {d:CV} {want:List (Sh×Tg)} {ds:LC} (h:weaken [d] want=some ds): ∃tg,want= [(d.sh,tg)]/\ds= [d.to tg]/\Tg.le tg d.tg=true:=by
 match want,h with
 | [],h=>simp[weaken]at h
 | [(sh,tg)],h=>
   simp only[weaken,cond_eq_ite,aae]at h;split at h
   ·rename_i e;simp only[aaL,aag]at h;exact⟨tg,by rw[aY8 e.1.1],h.symm,e.1.2⟩
   ·cases h
 |(sh,tg)::y::f,h=>
  simp only[weaken,cond_eq_ite,aae]at h;split at h
  ·simp at h
  ·cases h
theorem aes (h:Rel E C s a w g) {hs:LC} {hv:LV} (D:aC w g .hand 0 hs hv) {n:Nat} {p:Pl} {q c:CV} (f:(s.tm n).1= .ext p q c) (S:c.tg= .own):
 ∃g',Rel E C (s.dW [.keep n (.ext p q c.kill)]) a w g'/\aC w g' .hand 0 (hs++[c]) (hv++(a.eval (.tmp n)).cells.toList)/\g'.at_=g.at_/\Keeps w w g.F g'.F/\(∀b n,g.own b=some (.box n)->g'.own b=some (.box n))/\isAgg (a.eval (.tmp n))=false:=by
 have A:=h.tm n;rw[f]at A;obtain⟨B,G,I,t,K,L,M,N,O⟩:=A
 let ρ:aF->aF:=λ o=>if o= .tm n 0 then .hand hs.length else o
 have d: ∀o,o≠ .tm n 0->ρ o=o:=λ o v=>by simp only[ρ,if_neg v]
 have i:ρ (.tm n 0)= .hand hs.length:=by simp only[ρ,if_pos rfl]
 have y:s.dW [.keep n (.ext p q c.kill)]= {s with tm:=put s.tm n (.ext p q c.kill,(s.tm n).2)}:=rfl;refine⟨g.ren ρ,h.LW (Fr.ren w g λ o v=>d o (v.1 0)) (h.base.ren ρ) rfl (λ _ _ e=>by cases e) ?_,?_,rfl,Keeps.refl _ _,λ b m e=>by simp only[Gh.ren,e,aaL,d _ (by simp:aF.box m≠ .tm n 0)],t⟩
 ·rw[y];refine⟨⟨?_,B.vers⟩,G,I,t,?_,L,M,N,λ e Q=> ?_⟩
  ·refine aaP B.inst (acH ?_)
   cases p.root with
   |box m=>rfl
   |tmp m=>
    simp only[rP];by_cases l:m=n
    ·subst l;rw[bF]
    ·rw[bJ _ _ _ l]
  ·trivial
  ·have z:aV s p 1=some [e]:=by
    rw[←Q];unfold aV
    cases U:p.root with
    |box m=>rfl
    |tmp m=>
     simp only[aA];by_cases l:m=n
     ·subst l;rw[bF];have:s.tm m=(.ext p q c,(s.tm m).2):=by rw[←f]
      rw[this]
     ·rw[bJ _ _ _ l]
   obtain⟨u,R,f⟩:=O e z;refine⟨u,?_,?_⟩
   ·rw[←R];cases p.root<;>rfl
   ·rcases f with f|f
    ·exact .inl f
    ·refine .inr ?_;have:=f.ren (ρ:=ρ)
     rwa [d _ Θ]at this
 ·refine aC.append hs 0 hv _ _ (aC.ren hs 0 0 _ (λ k _=>d _ Θ) D) ?_;rw[aH t];refine⟨_,[],rfl,?_,rfl⟩;have:=K.ren (ρ:=ρ);rw[i]at this;simpa using this
theorem Kq (h:Rel E C s a w g) {hs:LC} {hv:LV} (R:aC w g .hand 0 hs hv) {x:Operand} {ag:Bool} {want:List (Sh×Tg)} {ds:LC} {us:List Upd} (f:(LK s (at_ E s x) x ag want).run=some (ds,us)):
 ∃g',Rel E C (s.dW us) a w g'/\aC w g' .hand 0 (hs++ds) (hv++(a.eval x).cells.toList)/\g'.at_=g.at_/\Keeps w w g.F g'.F/\(∀b n,g.own b=some (.box n)->g'.own b=some (.box n))/\isAgg (a.eval x)=ag/\Tagged ds want:=by
 unfold LK at f
 have S: ∀{mk:Nat->aF} {i:Nat} {cs:LC} {vs:LV},aC w g mk i cs vs->bI cs=true->weaken cs want=some ds->us= []->vs=(a.eval x).cells.toList->isAgg (a.eval x)=ag->
  ∃g',Rel E C (s.dW us) a w g'/\aC w g' .hand 0 (hs++ds) (hv++(a.eval x).cells.toList)/\g'.at_=g.at_/\Keeps w w g.F g'.F/\(∀b n,g.own b=some (.box n)->g'.own b=some (.box n))/\isAgg (a.eval x)=ag/\Tagged ds want:=by
  intro mk i cs vs t hp B U b5 m;subst U;rw[←b5];exact⟨g,h,aC.append hs 0 hv _ _ R (yj hp B t),rfl,Keeps.refl _ _,λ _ _ e=>e,m,fD B⟩
 split at f
 ·rename_i D cs K;have hv:=aJ h K Θ;obtain⟨m,f⟩:=bf f;have m:D=ag:=by simpa using m
  split at f
  ·exact(aj f).elim
  ·rename_i M B;simp only[cond_eq_ite]at f;split at f
   ·rename_i hp;have:=au f;simp only[aaz]at this;obtain⟨rfl,rfl⟩:=this;exact S hv.2 hp B rfl rfl (hv.1.trans m)
   ·cases x with
    |tmp n=>
     have:=au f;simp only[aaz]at this;obtain⟨rfl,rfl⟩:=this;have b6:(s.tm n).1= .val D cs:=K;have e:s.tm n=(.val D cs,(s.tm n).2):=by rw[←b6]
     have b7:aV s ⟨.tmp n,(s.tm n).2,[],0,none⟩ cs.length=some cs:=by
      rw[bM];refine⟨cs.map λ c=>(c,(s.tm n).2),?_,Θ,Θ,by rw[←qy,nN];simp⟩;simp only[aA];rw[e]
     have b8:(iL cs want).length=cs.length:=by
      obtain⟨Z,_,h3⟩:=qH B
      have: ∀(cs:LC) (want:List (Sh×Tg)),cs.length=want.length->(iL cs want).length=cs.length:=by
       intro cs
       induction cs with
       |nil=>intro want _;cases want<;>rfl
       |cons c cs ih=>
        intro want hl
        cases want with
        |nil=>simp at hl
        |cons y ys=>obtain⟨_,_⟩:=y;simp[iL,ih ys (by simpa using hl)]
      exact this cs want Z
     have a2:jT s ⟨.tmp n,(s.tm n).2,[],0,none⟩ (iL cs want) false=some [.keep n (.val D (iL cs want))]:=by
      simp only[jT];rw[e];simp only[cond_false,acG,cond_true,yR _ _ b8]
     obtain⟨g',r,k,N,O,Q⟩:=DX h R b7 B a2;have d0:=hv.2.length
     have:((aB a w g (.tmp n)).drop 0).take cs.length=(a.eval (.tmp n)).cells.toList:=by
      simp only[aB,abB];exact aaJ Ω
     rw[this]at k;exact⟨g',r,k,N,O,Q,hv.1.trans m,fD B⟩
    |const v=>exact(aj f).elim
    |global v=>exact(aj f).elim
    |func v=>exact(aj f).elim
 ·rename_i p D n K;obtain⟨_,_,G,hv⟩:=aJ h K Θ;obtain⟨m,f⟩:=bf f;have m:D=ag:=by simpa using m
  obtain⟨cs,t,f⟩:=aS f;have t:=iD G t;obtain⟨Z,h2⟩:=hv _ t;unfold LJ at f;split at f
  ·exact(aj f).elim
  ·rename_i M B;simp only[cond_eq_ite]at f;split at f
   ·rename_i hp;have:=au f;simp only[aaz]at this;obtain⟨rfl,rfl⟩:=this;exact S (h.pl t).1 hp B rfl h2.symm (Z.trans m)
   ·rw[G]at f;simp only[]at f;split at f
    ·rename_i a3 U;have:=au f;simp only[aaz]at this;obtain⟨rfl,rfl⟩:=this;obtain⟨g',r,k,N,O,Q⟩:=DX h R t B U;rw[←h2]at k;rw[←Qc U]at r;exact⟨g',r,k,N,O,Q,Z.trans m,fD B⟩
    ·exact(aj f).elim
 ·rename_i p z lo hi K;obtain⟨_,_,G,_,hv⟩:=aJ h K Θ
  cases I:ag with
  |true=>rw[I]at f;exact(aj f).elim
  |false=>
   rw[I]at f;simp only[cond_false]at f;obtain⟨cs,t,f⟩:=aS f;have t:=iD G t;obtain⟨c,rfl⟩:=Hu t;simp only[]at f;split at f
   ·exact(aj f).elim
   ·rename_i d hd;split at f
    ·exact(aj f).elim
    ·rename_i M B;obtain⟨c1,f⟩:=bf f;rw[G]at f;simp only[]at f;split at f
     ·rename_i a3 U;have:=au f;simp only[aaz]at this;obtain⟨rfl,rfl⟩:=this;obtain⟨L,d6,rfl⟩:=um hd;obtain⟨tg,rfl,rfl,c2⟩:=PL B
      have c3:tg= .pure:=by
       have:=uJ c1 _ (aah.2 rfl);exact this
      subst c3;obtain⟨A,l,k,e1,Z,h2,h3,h4⟩:=hv c t
      have c4:weaken [c] [(c.sh,.pure)]=some [c.to .pure]:=by
       have a4:Tg.le .pure c.tg=true:=c2;have c5:c.sh.adY .pure=true:=by cases hs:c.sh<;>first|rfl|(rw[hs]at L;simp[Sh.qK]at L)
       simp[weaken,Sh.beq_refl,a4,c5]
      obtain⟨g',r,a5,N,O,Q⟩:=DX h R t c4 U;obtain⟨u,e2,_,e3⟩:=qC h t;rw[e1]at e2;cases e2;rw[e3]at a5;obtain⟨l1,l2,l3⟩:=tH.1 a5;have W:isAgg (a.eval x)=false:=by rw[h4];rfl
      refine⟨g',r,?_,N,O,Q,W,fD B⟩;rw[aH W];refine tH.2 ⟨l1,l2,?_⟩;rw[h4];exact jM.sub L l3 Z h2
     ·exact(aj f).elim
 ·rename_i K
  cases I:ag with
  |true=>rw[I]at f;exact(aj f).elim
  |false=>
   rw[I]at f;simp only[cond_false]at f;obtain⟨M,hn,f⟩:=aS f;have:=au f;simp only[aaz]at this;obtain⟨rfl,rfl⟩:=this;obtain⟨sh,tg,rfl,L,rfl⟩:=WT hn
   have a6:a.eval x= .slice none 0 0:=by
    rcases h.at_ x with⟨_,e⟩|e
    ·exact e
    ·rw[K]at e;exact e.elim
   rw[a6];exact⟨g,h,tH.2 ⟨R.length,R,Rh L tg⟩,rfl,Keeps.refl _ _,λ _ _ e=>e,rfl,rfl⟩
 ·rename_i p D n K;have hv:=aJ h K Θ
  obtain⟨a7,f⟩:(D=false/\ag=false)/\_:=by
   cases D<;>cases ag<;>first|exact⟨⟨rfl,rfl⟩,f⟩|exact(aj f).elim
  obtain⟨rfl,rfl⟩:=a7;simp only[Bool.or_self,cond_false]at f;split at f
  ·rename_i c i j hd;obtain⟨cs,c6,f⟩:=aS f;split at f
   ·rename_i e sh tg c' hm q1 q2;split at f
    ·rename_i M a3 B U;have:=au f;simp only[aaz]at this;obtain⟨rfl,rfl⟩:=this;obtain⟨g',r,Y,k,N,O,Q⟩:=Q5 (mk:=WU x) h R hv hd c6 hm U;have a8:=fD B;simp only[weaken,cond_eq_ite,aaL]at B;split at B
     ·rename_i t;simp only[aae]at t;simp only[aag]at B;subst B;rw[aH Y]at k ⊢;obtain⟨hl,c7,hr⟩:=tH.1 k;obtain⟨g1,f1,b1,o1,a1,p1,_⟩:=hr.weak r.base t.1.2 (by rw[aY8 t.1.1];exact t.2);refine⟨g1,r.world (f1.mono λ o ho=>ho _) b1 a1,tH.2 ⟨hl,aC.frB f1 hs 0 _ (λ q _ hq e=>by simp at e;omega) c7,p1⟩,a1.trans N,O.trans f1.keeps,λ b n e=>by rw[o1];exact Q b n e,Y,a8⟩
     ·cases B
    ·exact(aj f).elim
   ·exact(aj f).elim
  ·exact(aj f).elim
 ·rename_i p q c K;split at f
  ·rename_i sh n;obtain⟨t,f⟩:=bf f;simp only[aae,abw]at t;obtain⟨⟨m,c9⟩,a9⟩:=t;have:=au f;simp only[aaz]at this;obtain⟨rfl,rfl⟩:=this;have b0:c.tg= .own:=by unfold Tg.G9 at a9;split at a9<;>simp_all
   obtain⟨g',r,k,N,O,Q,h3⟩:=aes h R K b0;exact⟨g',r,k,N,O,Q,h3.trans m.symm,by simp[Tagged,aY8 c9,b0]⟩
  ·exact(aj f).elim
 ·exact(aj f).elim
def OD (w:World) (g:Gh):PK->Option Nat->Value->LV->Prop
 | .val ag _,none,v,sg=>isAgg v=ag/\v.cells.toList=sg
 | .rptr want,none,v,sg=>(∃b off,v= .pointer (some ⟨b,off,none⟩)/\PS w g.F ⟨b,off,none⟩ sg)/\want.all (·.2.isPure)=true
 | .ptr _,some n,v,sg=>v= .pointer (some ⟨g.at_ n,0,none⟩)/\g.own (g.at_ n)=some (.box n)/\ ∃cur d,w.heap[g.at_ n]? =some (.cells cur d (0,0))/\sg=cur.toList
 | .fn f,none,v,_=>v= .func (.func f) #[] #[]
 | .io _,none,v,sg=>isAgg v=false/\v.cells.toList=sg
 |_,_,_,_=>False
def yU (w:World) (g:Gh):List PK->List (Option Nat)->LV->List (LV)->Prop
 | [],[],[],[]=>True
 |p::ps,b::e,v::f,sg::d=>OD w g p b v sg/\sg.length=p.cells.length/\yU w g ps e f d
 |_,_,_,_=>False
theorem OD.mono (k:Keeps w w g.F g'.F) (d:g'.at_=g.at_) (i: ∀b n,g.own b=some (.box n)->g'.own b=some (.box n)) {p:PK} {b:Option Nat} {v:Value} {sg:LV} (h:OD w g p b v sg):OD w g' p b v sg:=by
 cases p with
 |val ag want=>cases b<;>exact h
 |fn f=>cases b<;>exact h
 |clo f want=>cases b<;>exact h
 |io want=>cases b<;>exact h
 |rptr want=>
  cases b with
  |none=>obtain⟨⟨b,off,e,l⟩,m⟩:=h;exact⟨⟨b,off,e,l.keeps k⟩,m⟩
  |some n=>exact h
 |ptr want=>
  cases b with
  |none=>exact h
  |some n=>obtain⟨e,q,cur,t,u,y⟩:=h;exact⟨by rw[d];exact e,by rw[d];exact i _ _ q,cur,t,by rw[d];exact u,y⟩
theorem Keeps.same {F F':Fz} (h: ∀b o,F b o->F' b o):Keeps w w F F':=⟨h,λ _ _ _=>rfl⟩
theorem Tagged.append {d e:LC} {f g:List (Sh×Tg)} (i:Tagged d f) (k:Tagged e g):Tagged (d++e) (f++g):=by
 simp only[Tagged,abt]at *;rw[i,k]
theorem ZV {n:Nat} {d:List (Option Nat)} (h:aiJ n d=true):n∉d.filterMap id:=by
 intro f;obtain⟨b,g,e⟩:=List.mem_filterMap.1 f;simp only[id]at e;subst e;have:=aaV.1 h _ g;simp at this
theorem VT {cs:LC} {want:List (Sh×Tg)} (h:Tagged cs want) (d:bI cs=true):want.all (·.2.isPure)=true:=by
 rw[←h,aaV];intro x e;obtain⟨c,f,rfl⟩:=aaC.1 e;exact aaV.1 d c f
theorem Vs {cs:LC} {want:List (Sh×Tg)} (h:Tagged cs want) (d:want.all (·.2.isPure)=true):bI cs=true:=by
 rw[←h,List.all_map]at d;exact d
theorem aer (h:Rel E C s a w g) {hs:LC} {hv:LV} (y:aC w g .hand 0 hs hv) {x:Operand} {want:List (Sh×Tg)} {ds:LC} (d:(Zb (at_ E s x) want).run=some ds):
 ∃sg,OD w g (.rptr want) none (a.eval x) sg/\aC w g .hand 0 (hs++ds) (hv++sg)/\Tagged ds want/\bI ds=true:=by
 unfold Zb at d;split at d
 ·rename_i cs off z;obtain⟨ad,u,e,f,v,p⟩:=aJ h z Θ;obtain⟨i,d⟩:=bf d;have i:=abl i;split at d
  ·rename_i A q;obtain⟨k,d⟩:=bf d;obtain rfl:=au d;have B:=p.length;have l:=p.sub off want.length
   have t:bI ((cs.drop off).take want.length)=true:=by
    rw[bI,aaV]at v ⊢;intro c p;exact v c (abD (abr p))
   refine⟨(u.drop off).take want.length,⟨⟨ad.block,ad.off+off,e,λ j D=> ?_⟩,VT (fD q) k⟩,aC.append hs 0 hv _ _ y (yj t q l),fD q,k⟩;have m:j<want.length/\off+j<u.length:=by simp at D;omega
   have:=f (off+j) m.2;simp only at this ⊢;rw[aan,if_pos m.1,aas,abK];exact this
  ·exact(aj d).elim
 ·exact(aj d).elim
theorem NG {n:Nat}: ∀(us:List Upd) (s:St),(s.bx n).isSome=true->((s.dW us).bx n).isSome=true
 | [],_,h=>h
 |u::us,s,h=>by
  refine NG us (u.on s) ?_
  cases u with
  |tm k t=>exact h
  |keep k t=>exact h
  |bx k b=>
   simp only[Upd.on,put];cases Nat.beq n k<;>simp[h]
  |cl k l=>
   simp only[Upd.on,put]
   cases d:Nat.beq n k with
   |false=>exact h
   |true=>have:=aao d;subst this;simpa using h
theorem zh {α:Type}: ∀(l:List (Nat×α)) (cs:List α),(setMany cs l).length=cs.length
 | [],_=>rfl
 |(i,c)::l,cs=>by simp only[setMany];rw[zh l];simp
def over {α:Type}:List (Nat×α)->Nat->α->α
 | [],_,x=>x
 |(j,c)::l,i,x=>over l i (if j=i then c else x)
theorem CX {α:Type}: ∀(l:List (Nat×α)) (cs:List α) (i:Nat),(setMany cs l)[i]? =(cs[i]?).map (over l i)
 | [],cs,i=>by simp[setMany,over]
 |(j,c)::l,cs,i=>by
  simp only[setMany];rw[CX l];by_cases d:j=i
  ·subst d;by_cases e:j<cs.length
   ·simp[over,e]
   ·rw[aal Δ,aal Ω];rfl
  ·simp only[aaR,if_neg d]
   cases cs[i]? with
   |none=>rfl
   |some x=>simp[over,if_neg d]
theorem Qy {α:Type}: ∀(l:List (Nat×α)) (i:Nat) (x:α),(∀c,c∈l->c.1≠i)->over l i x=x
 | [],_,_,_=>rfl
 |(j,c)::l,i,x,h=>by
  simp only[over,if_neg (h (j,c) Θ)];exact Qy l i x λ d e=>h d (by simp[e])
theorem ZK {e:Nat}: ∀{want:List (Sh×Tg)} {j:Nat} {cs:LC} {old:List (CV×Nat)} {c:Nat×CV×Nat},c∈iT e j cs old want->j<=c.1
 | [],j,cs,old,c,h=>by cases cs<;>cases old<;>simp[iT]at h
 |(sh,tg)::want,j,[],old,c,h=>by simp[iT]at h
 |(sh,tg)::want,j,_::_,[],c,h=>by simp[iT]at h
 |(sh,tg)::want,j,g::cs,(i,k)::old,c,h=>by
  have d:c∈iT e (j+1) cs old want->j<=c.1:=λ f=>Nat.le_of_succ_le (ZK f);cases tg<;>simp only[iT,aaU]at h<;>first|exact d h|(rcases h with rfl|h;exact aaw _;exact d h)
def afx (tg:Tg) (x y:CV×Nat):CV×Nat:=match tg with| .dead=>x|_=>y
theorem MC {e:Nat}: ∀{want:List (Sh×Tg)} {j:Nat} {cs:LC} {old:List (CV×Nat)} {i:Nat} {sh:Sh} {tg:Tg} {c:CV} {o:CV×Nat} (x:CV×Nat),want[i]? =some (sh,tg)->cs[i]? =some c->old[i]? =some o->
 over (iT e j cs old want) (j+i) x=afx tg x (c,o.2+e)
 | [],_,_,_,_,_,_,_,_,_,h,_,_=>by simp at h
 |_::_,_,[],_,_,_,_,_,_,_,_,h,_=>by simp at h
 |_::_,_,_::_,[],_,_,_,_,_,_,_,_,h=>by simp at h
 |(p,f)::want,j,t::cs,(u,v)::old,0,sh,tg,c,o,x,k,l,m=>by
  simp only[aaO,aag,aaz]at k l m;obtain⟨rfl,rfl⟩:=k;subst l m;have out: ∀y,over (iT e (j+1) cs old want) (j+0) y=y:=λ y=>Qy _ _ _ λ d z=>by have:=ZK z;omega
  cases f<;>simp only[iT,over,aa0,if_true,afx]<;>exact out _
 |(p,f)::want,j,t::cs,(u,v)::old,i+1,sh,tg,c,o,x,k,l,m=>by
  have g: ∀y,over (iT e (j+1) cs old want) (j+(i+1)) y=afx tg y (c,o.2+e):=λ y=>by
   have:=MC (e:=e) (j:=j+1) y (by simpa using k) (by simpa using l) (by simpa using m)
   rwa [show j+1+i=j+(i+1) by omega]at this
  have q: ¬j=j+(i+1):=by omega
  cases f<;>simp only[iT,over,if_neg q]<;>exact g x
theorem aeL {n:Nat} {b:Bx} {new:LC} {want:List (Sh×Tg)} (l:s.bx n=some b) (t:new.length=want.length) (u:b.cells.length=want.length) (m: ∀(i:Nat) (sh:Sh),want[i]? =some (sh,Tg.dead)->new[i]? =(b.cells[i]?).map (λ x=>x.1)):
 s.dW [.cl n (iT 0 0 new b.cells want)]=s.dW [.bx n ⟨b.inst,(new.zip b.cells).map λ x=>(x.1,x.2.2)⟩]:=by
 have e:setMany b.cells (iT 0 0 new b.cells want)=(new.zip b.cells).map λ x=>(x.1,x.2.2):=by
  apply aaZ;intro i;rw[CX];rcases aaG i want.length with d|d
  ·have g:new[i]? =some (new[i]' Ω):=aac Ω;have f:b.cells[i]? =some (b.cells[i]' Ω):=aac Ω;have k:want[i]? =some ((want[i]'d).1,(want[i]'d).2):=aac d;have p:(new.zip b.cells)[i]? =some (new[i]' Ω,b.cells[i]' Ω):=acz.2 ⟨g,f⟩;have:=MC (e:=0) (j:=0) (b.cells[i]' Ω) k g f;rw[aa2]at this;rw[aau,p,f];simp only[aaL,this,aag];unfold afx;split
   ·rename_i q;have:=m i _ (by rw[k,q]);rw[g,f]at this;simp only[aaL,aag]at this;rw[this]
   ·rfl
  ·rw[aal Ω,aal Δ];rfl
 simp only[St.dW,acD,acU,Upd.on,l,aaL,e]
theorem aep (h:Rel E C s a w g) {hs:LC} {hv:LV} (M:aC w g .hand 0 hs hv) {x:Operand} {pk:PK} {bs:List (Option Nat)} {ds:LC} {us:List Upd} {b:Option Nat} (d:(Sm s bs pk (at_ E s x) x).run=some (ds,us,b)):
 ∃g' sg,Rel E C (s.dW us) a w g'/\aC w g' .hand 0 (hs++ds) (hv++sg)/\g'.at_=g.at_/\Keeps w w g.F g'.F/\(∀b n,g.own b=some (.box n)->g'.own b=some (.box n))/\OD w g' pk b (a.eval x) sg/\Tagged ds pk.cells/\
  (∀n,b=some n->n∉bs.filterMap id/\(s.bx n).isSome=true):=by
 unfold Sm at d
 cases pk with
 |val ag want=>
  simp only[]at d;obtain⟨⟨B,t⟩,u,d⟩:=aS d;have:=au d;simp only[aaz]at this;obtain⟨rfl,rfl,rfl⟩:=this;obtain⟨g',r,k,A,N,K,D,W⟩:=Kq h M u;exact⟨g',_,r,k,A,N,K,⟨D,rfl⟩,W,λ n e=>by cases e⟩
 |io want=>
  simp only[]at d;obtain⟨⟨B,t⟩,u,d⟩:=aS d;have:=au d;simp only[aaz]at this;obtain⟨rfl,rfl,rfl⟩:=this;obtain⟨g',r,k,A,N,K,D,W⟩:=Kq h M u;exact⟨g',_,r,k,A,N,K,⟨D,rfl⟩,W,λ n e=>by cases e⟩
 |rptr want=>
  simp only[]at d;obtain⟨B,u,d⟩:=aS d;have:=au d;simp only[aaz]at this;obtain⟨rfl,rfl,rfl⟩:=this;obtain⟨sg,k1,k2,k3,_⟩:=aer h M u;exact⟨g,sg,h,k2,rfl,Keeps.refl _ _,λ _ _ e=>e,k1,k3,λ n e=>by cases e⟩
 |clo f want=>exact(aj d).elim
 |fn f=>
  simp only[]at d;split at d
  ·rename_i f' Y;have O:=bf d;have hf:=aao O.1;have:=au O.2;simp only[aaz]at this;obtain⟨rfl,rfl,rfl⟩:=this;have hv:=aJ h Y Θ;subst hf;exact⟨g,[],h,by simpa using M,rfl,Keeps.refl _ _,λ _ _ e=>e,hv,rfl,λ n e=>by cases e⟩
  ·exact(aj d).elim
 |ptr want=>
  simp only[]at d;split at d
  ·rename_i p Y;split at d
   ·rename_i n cs Q Z hc;obtain⟨v,d⟩:=bf d;simp only[aae]at v;obtain⟨⟨l,a1⟩,z⟩:=v;have l:=aao l;split at d
    ·rename_i B t hw L;have:=au d;simp only[aaz]at this;obtain⟨rfl,rfl,rfl⟩:=this;obtain⟨_,hv⟩:=aJ h Y Θ;rw[Z]at hv;obtain⟨n',R,hv⟩:=hv;rw[Q]at R;cases R;obtain⟨g',r,k,A,N,K⟩:=DX h M hc hw L
     have q: ∃b,s.bx n=some b/\b.inst=p.inst:=by
      have:=hc;rw[bM]at this;obtain⟨cells,e,_⟩:=this;rw[Q]at e;simp only[aA]at e
      cases q:s.bx n with
      |none=>rw[q]at e;simp at e
      |some b=>rw[q]at e;simp only[aag,aaz]at e;exact⟨b,rfl,e.1⟩
     obtain⟨b,q,a3⟩:=q;obtain⟨cur,et,h1,h2,_,h4⟩:=h.bx n b q;rw[q]at z;simp only at z;have z:=aao z
     have G:s.dW (bif rD want then[.cl n (iT 0 0 (iL cs want) (zO s n) want)]else t)=s.dW t:=by
      cases rD want with
      |false=>rfl
      |true=>
       obtain⟨I,_,S⟩:=qH hw
       have a4:cs=b.cells.map (·.1):=by
        have U:=hc;rw[bM]at U;obtain⟨cells,e,q1,q2,q3⟩:=U;rw[Q]at e;simp only[aA,q,aag,aaz]at e;obtain⟨_,rfl⟩:=e;rw[q3,l,abB,aaJ Ω]
       have a5:(iL cs want).length=want.length:=by
        have: ∀(cs:LC) (want:List (Sh×Tg)),cs.length=want.length->(iL cs want).length=cs.length:=by
         intro cs
         induction cs with
         |nil=>intro want _;cases want<;>rfl
         |cons c cs ih=>
          intro want hl
          cases want with
          |nil=>simp at hl
          |cons y ys=>obtain⟨_,_⟩:=y;simp[iL,ih ys (by simpa using hl)]
        rw[this cs want I,I]
       have a6:t= [.bx n ⟨b.inst,((iL cs want).zip b.cells).map λ x=>(x.1,x.2.2)⟩]:=by
        unfold jT at L;simp only[Q,q,l,cond_eq_ite]at L;split at L
        ·cases L;simp only[acA,abB,abU,aa2,abf,if_false];rw[aa3 Ω,aaM]
        ·cases L
       rw[a6];simp only[cond_true,zO,q];refine aeL q a5 z λ i sh hd=> ?_
       have hi:i<cs.length:=by
        rw[I];rcases aaG i want.length with h|h
        ·exact h
        ·simp[aal h]at hd
       obtain⟨c3,c4,e1,_,_,_,e5⟩:=S i cs[i] (aac hi);rw[hd]at e1;simp only[aag,aaz]at e1;obtain⟨_,rfl⟩:=e1;rw[e5,←aau,←a4,aac hi];congr 1;unfold leftAs;cases cs[i].isPure<;>rfl
     rw[G];have a8:=h4.length;simp only[aaH,abd]at a8;refine⟨g',_,r,k,A,N,K,⟨by rw[A,←l];exact hv b q a3,by rw[A];exact K _ _ h2,cur,et,by rw[A];exact h1,?_⟩,fD hw,λ m e=>by cases e;exact⟨ZV a1,by rw[q];rfl⟩⟩;rw[Q,l,yN h1,abB];exact aaJ Δ
    ·exact(aj d).elim
   ·exact(aj d).elim
  ·exact(aj d).elim
theorem yU.mono (k:Keeps w w g.F g'.F) (e:g'.at_=g.at_) (l: ∀b n,g.own b=some (.box n)->g'.own b=some (.box n)): ∀{ps:List PK} {f:List (Option Nat)} {i:LV} {d:List (LV)},yU w g ps f i d->yU w g' ps f i d
 | [],[],[],[],_=>trivial
 |p::ps,b::f,v::i,sg::d,⟨m,q,t⟩=>⟨m.mono k e l,q,yU.mono k e l t⟩
theorem OY: ∀(ps:List PK) (K:List Operand) (A:List (Option Nat)) (s:St) (g:Gh) (hs:LC) (hv:LV) (us:List Upd) (d:LC) (k:List Upd) (f:List (Option Nat)),Rel E C s a w g->aC w g .hand 0 hs hv->
 (A.filterMap id).Nodup->(xM E ps K A s hs us).run=some (d,k,f)->
 ∃i l ds g' q,k=us++i/\f=A++l/\d=hs++ds/\Rel E C (s.dW i) a w g'/\aC w g' .hand 0 d (hv++q.flatten)/\g'.at_=g.at_/\Keeps w w g.F g'.F/\(∀b n,g.own b=some (.box n)->g'.own b=some (.box n))/\
  yU w g' ps l (K.map a.eval) q/\Tagged ds (ps.flatMap PK.cells)/\(f.filterMap id).Nodup/\(∀n,some n∈l->((s.dW i).bx n).isSome=true)
 | [],[],A,s,g,hs,hv,us,d,k,f,h,L,t,m=>by
   have:=au m;simp only[aaz]at this;obtain⟨rfl,rfl,rfl⟩:=this;exact⟨[],[],[],g,[],Θ,Θ,Θ,h,by simpa using L,rfl,Keeps.refl _ _,λ _ _ e=>e,trivial,rfl,t,λ n B=>by cases B⟩
 | [],_::_,_,_,_,_,_,_,_,_,_,_,_,_,m=>(aj m).elim
 |_::_,[],_,_,_,_,_,_,_,_,_,_,_,_,m=>(aj m).elim
 |p::ps,x::K,A,s,g,hs,hv,us,d,k,f,h,L,t,m=>by
  simp only[xM]at m;obtain⟨⟨ds,u,b⟩,M,m⟩:=aS m;simp only[]at m;obtain⟨g1,sg,r1,U,a1,N,O,pv,W,Y⟩:=aep h L M
  obtain⟨i,l,Q,g',q,e1,e2,e3,r2,k2,Z,D,G,R,S,I,v⟩:=OY ps K (A++[b]) (s.dW u) g1 (hs++ds) (hv++sg) (us++u) d k f r1 U (by
   cases b with
   |none=>simpa using t
   |some n=>
    have:=(Y n rfl).1;simp only[List.filterMap_append,List.filterMap_cons,id,List.filterMap_nil];rw[acE];refine⟨t,Θ,λ y hy z hz=> ?_⟩;simp only[aah]at hz;subst hz;rintro rfl;exact this hy) m
  have b2:ds.length=sg.length:=by
   have h1:=U.length;have h2:=L.length;simp only[aaq]at h1;omega
  have b4:ds.length=p.cells.length:=by have:=congrArg List.length W;simpa using this
  refine⟨u++i,b::l,ds++Q,g',sg::q,by rw[e1,aaD],by rw[e2];simp,by rw[e3,aaD],by rw[eP];exact r2,?_,Z.trans a1,N.trans D,λ b n e=>G b n (O b n e),⟨pv.mono D Z G,Ω,R⟩,?_,I,λ n B=> ?_⟩
  ·rw[ace,←aaD];exact k2
  ·rw[abq];exact W.append S
  ·rw[eP];rcases aaU.1 B with rfl|B
   ·exact NG i _ (NG u _ (Y n rfl).2)
   ·exact v n B
theorem Nk (ag:Bool) (want:List (Sh×Tg)): ∀(ps:List (Nat×Operand)) (k:Nat) (s:St) (g:Gh) (hs:LC) (hv:LV) (rows:List (LC)) (l:List Upd) (d:List (LC)) (m:List Upd),
 Rel E C s a w g->aC w g .hand 0 hs hv->rows.reverse.flatten=hs->(yO E ag want ps k s rows l).run=some (d,m)->
 ∃p g' rest,m=l++p/\Rel E C (s.dW p) a w g'/\aC w g' .hand 0 d.flatten (hv++ps.flatMap λ x=>(a.eval x.2).cells.toList)/\d=rows.reverse++rest/\
  rest.map List.length=ps.map (λ x=>(a.eval x.2).cells.size)/\ps.map (·.1)=List.range' k ps.length/\ ∀r,r∈rest->Tagged r want
 | [],k,s,g,hs,hv,rows,l,d,m,h,y,q,f=>by
   simp only[yO]at f;have:=au f;simp only[aaz]at this;obtain⟨rfl,rfl⟩:=this;exact⟨[],g,[],Θ,h,by rw[q];simpa using y,Θ,rfl,rfl,λ r f=>by cases f⟩
 |(i,x)::ps,k,s,g,hs,hv,rows,l,d,m,h,y,q,f=>by
  simp only[yO]at f;obtain⟨t,f⟩:=bf f;have t:=aao t;subst t;obtain⟨⟨ds,u⟩,G,f⟩:=aS f;simp only[]at f;obtain⟨I,K,v,_,_,_,_,z⟩:=Kq h y G;obtain⟨p,g',rest,e,L,A,M,N,O,B⟩:=Nk ag want ps (i+1) (s.dW u) I (hs++ds) _ (ds::rows) (l++u) d m K v (by simp[q]) f
  have D:ds.length=(a.eval x).cells.size:=by
   have Q:=v.length;have R:=y.length;simp only[aaq]at Q;have:(a.eval x).cells.toList.length=(a.eval x).cells.size:=by simp
   omega
  refine⟨u++p,g',ds::rest,by rw[e,aaD],by rw[eP];exact L,?_,by rw[M];simp,by simp[D,N],?_,λ r f=>by
   rcases aaU.1 f with rfl|f
   ·exact z
   ·exact B r f⟩
  ·rw[abq,←aaD];exact A
  ·simp only[abo,O,aaX];rfl
theorem Ll {α:Type} {N:Nat}: ∀(rows:List (List α)),(∀r,r∈rows->r.length=N)-> ∀(i k:Nat),k<N->rows.flatten[i*N+k]? =rows[i]?.bind (·[k]?)
 | [],_,i,k,_=>by simp
 |r::rs,h,0,k,f=>by
  rw[ace,aax (by rw[h r Θ];omega)];simp
 |r::rs,h,i+1,k,f=>by
  have d:=h r Θ;have e:(i+1)*N+k=N+(i*N+k):=by rw[abx];omega
  rw[ace,e,aaB Ω,d,Nat.add_sub_cancel_left,Ll rs (λ r d=>h r (by simp[d])) i k f];simp
theorem Jz {α:Type} {f:LC->Option α}: ∀{rows:List (LC)} {l:List α},kF f rows=some l-> ∀(i:Nat) (e:α),l[i]? =some e-> ∃r,rows[i]? =some r/\Fh r=true/\f r=some e
 | [],l,h,i,e,d=>by simp[kF]at h;subst h;simp at d
 |r::rs,l,h,i,e,d=>by
  obtain⟨p,q,g,k,m,rfl⟩:=qE h
  cases i with
  |zero=>simp at d;subst d;exact⟨r,rfl,g,k⟩
  |succ i=>simpa using Jz m i e (by simpa using d)
theorem Ze (h:Rel E C s a w g) {d:Nat} (hd:DOk E d) {es:List Sh} {rows:List (LC)} {l:List (ElA es)} {L:LV} (hh:aC w g .hand 0 rows.flatten L) (W: ∀r,r∈rows-> ∀c,c∈r->c.tg=c.sh.top)
 (hl:kF (iq es) rows=some l) (q: ∀r,r∈rows->r.length=es.length) (e:TypeId) (a7:l.length<=maxLen):
 ∃g',Rel E C (s.dW [.tm d (.val false [⟨.dl es,.own,List.map some l⟩])]) (a.put (some d) (.slice (some ⟨w.heap.size,0,none⟩) l.length l.length)) (w.alloc (.cells L.toArray e)) g':=by
 have t: ∀b ow,g.own b=some ow->b<w.heap.size:=λ b ow e=>(h.base.own b ow e).2;have hF: ∀b o,g.F b o->b<w.heap.size:=λ b o e=>(h.base.fz b o e).2
 let ρ:aF->aF:=λ o=>match o with| .hand _=> .hand 0|o=>o
 have f:=Fr.new (K:=λ o=> ∀i,o≠ .hand i) t hF (ρ:=ρ) (λ o U=>by
  cases o with
  |hand i=>exact absurd rfl (U i)
  |_=>rfl) (.cells L.toArray e) (.hand 0)
 have r1:=h.world f (h.base.new _ _ (λ _ _ _ e=>by cases e;rfl) _) rfl
 let w1:=w.alloc (.cells L.toArray e)
 let Y:=g.new ρ w.heap.size (.hand 0)
 have a9:l.length=rows.length:=(uh hl).2
 have b0: ∀(rows:List (LC)),(∀r,r∈rows->r.length=es.length)->rows.flatten.length=rows.length*es.length:=by
  intro rows
  induction rows with
  |nil=>intro _;simp
  |cons r rs ih=>
   intro h;rw[ace,aaq,h r Θ,ih (λ r Z=>h r (by simp[Z])),aaX,abx,acQ]
 have A:L.length=l.length*es.length:=by rw[hh.length,b0 rows q,a9]
 let B:Nat->Option Nat:=λ k=>(L[k]?).bind λ v=>(blk v).filter λ z=>decide (g.own z=some (.hand k))
 have hB: ∀k z,B k=some z->g.own z=some (.hand k):=by
  intro k z M;simp only[B,aa6,acB,decide_eq_true_eq]at M;obtain⟨v,_,_,h⟩:=M;exact h
 have D:jm w1 Y (.hand 0) w.heap.size es (List.map some l) L:=by
  refine⟨by rw[aaH];exact A,B,λ k M=> ?_,λ i j z hi hj=> ?_,λ i x Q=> ?_⟩
  ·have:=t _ _ (hB k _ M);omega
  ·have a1:=hB i z hi;rw[hB j z hj]at a1;simpa using a1.symm
  ·rw[aau]at Q
   have Q:l[i]? =some x:=by
    cases a0:l[i]? with
    |none=>rw[a0]at Q;cases Q
    |some y=>rw[a0]at Q;simpa using Q
   obtain⟨r,Z,b2,b3⟩:=Jz hl i x Q
   have b4:i<l.length:=by
    rcases aaG i l.length with h|h
    ·exact h
    ·simp[aal h]at Q
   have N:=CB es r x b3;have b5:=q r (aai Z);have c9:i*es.length+es.length<=L.length:=by rw[A,←abx];exact aaA _ b4
   refine⟨by rw[aaE,abh];omega,λ k c0 v p hv=> ?_⟩;rw[←N,aau]at p
   cases G:r[k]? with
   |none=>rw[G]at p;cases p
   |some c=>
    rw[G]at p;have p:c.to .pure=c0:=by simpa using p
    subst p
    have a2:k<es.length:=by
     rw[←b5];rcases aaG k r.length with h|h
     ·exact h
     ·simp[aal h]at G
    rw[aan,if_pos a2,aas]at hv
    have b6:rows.flatten[i*es.length+k]? =some c:=by
     rw[Ll rows q i k a2,Z];exact G
    obtain⟨u,hu,m⟩:=hh.get _ 0 _ _ c b6;have R:L[i*es.length+k]? =some v:=hv;rw[R]at hu;cases hu;rw[aa2]at m;have a3:c∈r:=aai G;have a4:=W r (aai Z) c a3
    have S:c.sh.aew=false/\c.sh.Kr=false:=by
     have:=aaV.1 b2 c a3;simp only[aae,abw]at this;exact⟨this.1.2,this.2⟩
    show sG w1 Y (.hand 0) (B (i*es.length+k)) c.sh c.x v;obtain⟨I,ct,cx⟩:=c;simp only at a4 S m ⊢;subst a4;unfold sG;split
    ·rename_i hs
     have a5:I.qK=true:=by
      rcases U2 hs with e|⟨d1,e⟩
      ·exact e
      ·subst e;simp[Sh.aew]at S
     have e:I.top= .own:=by cases I<;>first|rfl|simp[Sh.qR]at hs
     rw[e]at m;simp only[jZ,if_pos hs]at m;have hp:=(qg a5).1 m;refine⟨a5,hp.move f.keeps λ z M=> ?_,?_⟩
     ·have U:=hp.nC M;have b8:=t _ _ U;refine⟨?_,nM b8,λ o=>ab7⟩;simp only[Y,Gh.new];rw[if_neg Ω,U];rfl
     ·cases M:blk v with
      |none=>simp only[B,R,aaj,M,Option.filter_none]
      |some z=>
       have U:=hp.nC M;symm;simp only[B,R,aaj,M,acB,decide_eq_true_eq,true_and];exact U
    ·rename_i hs;have e:I.top= .pure:=by cases I<;>first|rfl|(simp[Sh.qR]at hs;done)|cases S.2
     rw[e]at m;exact jM.keeps f.keeps _ _ _ m
 have m:jZ w1 Y (.hand 0) ⟨.dl es,.own,List.map some l⟩ (.slice (some ⟨w.heap.size,0,none⟩) l.length l.length):=by
  simp only[jZ,Sh.qR,if_true];have O:(List.map some l).length=l.length:=aaH ..;refine .inr ⟨w.heap.size,l.length,L.toArray,e,by simp only[aP];rw[O],by simp only[aP];rw[O];exact aaw _,a7,by simp[Y,Gh.new],nK,by simp only[Sh.n];simpa using A,⟨⟨rfl,?_⟩,?_⟩,λ o=>⟨λ hf=> ?_,λ hf=>by cases hf.1⟩⟩
  ·simp only[aP,Sh.n];rw[O];rw[aaJ (by simpa using acH A)];exact D.one
  ·simp only[aP,Sh.n];rw[O];rw[aaJ (by simpa using acH A)];exact D
  ·have hf:g.F w.heap.size o:=hf;have:=hF _ _ hf;omega
 obtain⟨g2,r2,_,_⟩:=r1.y9 hd (v:= .slice (some ⟨w.heap.size,0,none⟩) l.length l.length) (ag:=false) (cs:=[⟨.dl es,.own,List.map some l⟩]) rfl ⟨_,[],rfl,m,rfl⟩;exact⟨g2,r2⟩
theorem Qx (hT:yu P E.ty) {t:TypeId} {n:Nat} {ps:Array (Nat×Operand)} (ho:o.op= .buildSlice t n ps):sF P E C o:=by
 intro s a w g us d Q h K hd m;simp only[plan,ho,K]at m;split at m
 ·rename_i ag sh fl ft e hi;obtain⟨⟨rows,R⟩,hf,m⟩:=aS m;obtain⟨N,m⟩:=bf m;simp only[aae]at N;have S:=aao N.1.1;have A:=abl N.1.2;have c4:=abl N.2;obtain⟨info,de,z,U⟩:=hT.at_ hi;obtain⟨e6,j,rfl,_,a6,c5,hj,a7⟩:=U.elem rfl;simp only[abk,and_true]at a6;subst a6;obtain⟨ie,e7,z',D⟩:=hT.at_ hj;have c7:ig E e=xY sh:=by simp only[ig,hj,a7]
  have a8:(ig E e).length=sh.n:=by rw[c7,kX]
  have L:ie.size=sh.n:=by rw[D.size,a7,kX]
  rw[a8]at A c4;obtain⟨e9,g1,rest,eu,r1,hh,er,a9,b0,b1⟩:=Nk (akp E e) _ ps.toList 0 s g [] [] [] [] rows R h rfl rfl hf;simp only[abU,List.reverse_nil]at eu er hh;subst eu er;have b3:ps.toList.length=n:=by have:=congrArg List.length a9;simp only[aaH]at this;omega
  let f:=(ps.map λ x=>(x.1,a.eval x.2)).toList
  have W:f.length=n:=by simp only[f,Array.toList_map,aaH];exact b3
  have M:(ps.toList.flatMap λ x=>(a.eval x.2).cells.toList)=f.flatMap λ v=>v.2.cells.toList:=by
   simp only[f,Array.toList_map,List.flatMap_map]
  have G:(∀r,r∈rows->r.length=sh.n)->(Instr.buildSlice t n (ps.map λ x=>(x.1,a.eval x.2))).run P w= .ok (.slice (some ⟨w.heap.size,0,none⟩) n n) (w.alloc (.cells (f.flatMap λ v=>v.2.cells.toList).toArray e)):=by
   intro B;by_cases Y:n=0
   ·have e0:(ps.map λ x=>(x.1,a.eval x.2))= #[]:=by
     apply abu.1;show f= [];exact aav (by rw[W];exact Y)
    have ev:f= []:=by simp only[f];rw[e0]
    rw[e0,ev,Y];exact KN w t e ie U.und D.inf
   ·refine run_buildSlice w t e n _ _ ie z' U.und D.inf D.zero (by rw[L];omega) (by rw[L];have:=Nat.mul_pos (Nat.pos_of_ne_zero Y) A;omega) ?_;rw[L];refine XB A (n:=n) f ?_ _ ?_ (by rw[W];simp)
    ·have e1:f.map (·.1)=ps.toList.map (·.1):=by simp only[f,Array.toList_map,abM];rfl
     rw[e1,W,←b3];exact b0
    ·intro v hv;simp only[f,Array.toList_map,aaC]at hv;obtain⟨p,c9,rfl⟩:=hv;have:(a.eval p.2).cells.size∈rows.map List.length:=by rw[a9];exact aaC.2 ⟨p,c9,rfl⟩
     obtain⟨r,d0,d1⟩:=aaC.1 this;rw[←d1];exact B r d0
  have main: ∀(x:El sh),Fh rows.flatten=true->aP sh x=n->(∀(g:Gh) O,aC w g .hand 0 (rows.flatten.map (·.to .pure)) O->wM w g.F sh x O)->(∀r,r∈rows->r.length=sh.n)->us=R++[.tm d (.val false [⟨sh,.own,x⟩])]->
   o.wp P a w (λ a' w'=> ∃g',Rel E C (s.dW us) a' w' g') Q:=by
   intro x Z a0 b5 B d2;obtain⟨g2,f2,b2,o2,a2,c2⟩:=OX (by intro i j e;cases e;rfl) r1.base Z hh;have r2:Rel E C (s.dW R) a w g2:=r1.world (f2.mono λ o ho j _ _=>ho j) b2 a2;have hx:=b5 g2 _ c2;have u:=hx.length;rw[a0]at u;have G:=G B;rw[M]at hx u
   obtain⟨g3,r3⟩:=Wv r2 hd c5 (x:=x) (cells:=(f.flatMap λ v=>v.2.cells.toList).toArray) (c:=n) e (by
    rw[a0,aaJ (by simpa using acH u)];exact hx) Ω (by
    have:n<=n*sh.n:=Nat.le_mul_of_pos_right n A;have:n<=16777216:=by omega
    exact aaP this Ξ) (by simpa using u)
   have a1:(execOp a.eval o).run P w= .ok (.value (.slice (some ⟨w.heap.size,0,none⟩) n n)) (w.alloc (.cells (f.flatMap λ v=>v.2.cells.toList).toArray e)):=by
    simp only[execOp,ho,Sem.run_bind,G,Result.andThen_ok,Sem.run_pure]
   unfold Oper.wp;rw[a1,Oper.upon_value,K,d2,eP];rw[a0]at r3;exact⟨g3,r3⟩
  cases sh with
  |sl es=>
   simp only[]at m;split at m
   ·rename_i l y;rw[SS]at y
    have b7: ∀r,r∈rows->r.length=es.length:=by
     have: ∀(rows:List (LC)) (l:List (ElA es)),kF (iq es) rows=some l-> ∀r,r∈rows->r.length=es.length:=by
      intro rows
      induction rows with
      |nil=>intro l _ r q;cases q
      |cons r0 rs ih=>
       intro l y r q;obtain⟨e,l',_,h2,h3,rfl⟩:=qE y;rcases aaU.1 q with rfl|q
       ·have:=congrArg List.length (IX es r e h2);simpa using this
       ·exact ih l' h3 r q
     exact this rows l y
    cases I:uq E d with
    |true=>
     rw[I]at m;obtain rfl:=au m;have c1:l.length=n:=by rw[(uh y).2];exact S
     rw[M]at hh
     obtain⟨g3,r3⟩:=Ze r1 hd hh (λ r q c N=>by
      have:=b1 r q;rw[I]at this
      have hm:(c.sh,c.tg)∈(ig E e).map λ sh=>(sh,bif true then sh.top else .pure):=by
       rw[←this];exact aaC.2 ⟨c,N,rfl⟩
      obtain⟨sh,_,e1⟩:=aaC.1 hm;simp only[cond_true,aaz]at e1;rw[←e1.1,←e1.2]) y b7 e (by
      have:n<=n*(Sh.sl es).n:=Nat.le_mul_of_pos_right n A;have:n<=16777216:=by omega
      rw[c1];exact aaP this Ξ)
     have a1:(execOp a.eval o).run P w= .ok (.value (.slice (some ⟨w.heap.size,0,none⟩) n n)) (w.alloc (.cells (f.flatMap λ v=>v.2.cells.toList).toArray e)):=by
      simp only[execOp,ho,Sem.run_bind,G b7,Result.andThen_ok,Sem.run_pure]
     unfold Oper.wp;rw[a1,Oper.upon_value,K,eP];rw[c1]at r3;exact⟨g3,r3⟩
    |false=>
    rw[I]at m;obtain rfl:=au m;obtain⟨k1,k2⟩:=uh y
    refine main l k1 (by show List.length l=n;rw[k2];exact S) (λ g O hv=>Gq (jW es) (λ r e i O hf hv=>E5 .hand es _ e i O (by rw[ER];exact hf) (λ c N=>by
     obtain⟨c',_,rfl⟩:=aaC.1 N;rfl) hv) rows l 0 O y hv) (λ r q=> ?_) rfl
    have: ∀(rows:List (LC)) (l:List (ElA es)),kF (iq es) rows=some l-> ∀r,r∈rows->r.length=es.length:=by
     intro rows
     induction rows with
     |nil=>intro l _ r q;cases q
     |cons r0 rs ih=>
      intro l y r q;obtain⟨e,l',_,h2,h3,rfl⟩:=qE y;rcases aaU.1 q with rfl|q
      ·have:=congrArg List.length (IX es r e h2);simpa using this
      ·exact ih l' h3 r q
    exact this rows l y r q
   ·exact(aj m).elim
  |rsl ss=>
   simp only[]at m;split at m
   ·rename_i l y
    cases I:uq E d with
    |true=>rw[I]at m;exact(aj m).elim
    |false=>
    rw[I]at m;obtain rfl:=au m;rw[O8]at y;obtain⟨k1,k2⟩:=uh y
    refine main l k1 (by show List.length l=n;rw[k2];exact S) (λ g O hv=>Gq (kL ss) (λ r e i O hf hv=>VW .hand ss _ e i O (by rw[SV];exact hf) (λ c N=>by
     obtain⟨c',_,rfl⟩:=aaC.1 N;rfl) hv) rows l 0 O y hv) (λ r q=> ?_) rfl
    have: ∀(rows:List (LC)) (l:List (RT (ElA ss))),kF (xO ss) rows=some l-> ∀r,r∈rows->r.length=ss.length+1:=by
     intro rows
     induction rows with
     |nil=>intro l _ r q;cases q
     |cons r0 rs ih=>
      intro l y r q;obtain⟨e,l',_,h2,h3,rfl⟩:=qE y;rcases aaU.1 q with rfl|q
      ·unfold xO at h2;split at h2
       ·rename_i hk;have:=congrArg List.length hk;simp at this;omega
       ·cases h2
      ·exact ih l' h3 r q
    exact this rows l y r q
   ·exact(aj m).elim
  |int k=>exact(aj m).elim
  |bool=>exact(aj m).elim
  |str=>exact(aj m).elim
  |dl _=>exact(aj m).elim
  |mp _ _=>exact(aj m).elim
 ·exact(aj m).elim
def Fb (w:World) (g:Gh):List PK->Nat->LC->LV->Prop
 | [],_,cs,e=>cs= []/\e= []
 | .val ag want::ps,i,cs,e=> ∃v d,e=v::d/\Fg w g (.tm i) 0 ag (cs.take want.length) v/\Fb w g ps (i+1) (cs.drop want.length) d
 | .ptr want::ps,i,cs,e=> ∃v d,e=v::d/\(v= .pointer (some ⟨g.at_ i,0,none⟩)/\Fa w g i ⟨0,(cs.take want.length).map λ c=>(c,0)⟩)/\Fb w g ps (i+1) (cs.drop want.length) d
 | .rptr want::ps,i,cs,e=> ∃v d,e=v::d/\(∃b off sg,v= .pointer (some ⟨b,off,none⟩)/\PS w g.F ⟨b,off,none⟩ sg/\bI (cs.take want.length)=true/\aC w g (.tm i) 0 (cs.take want.length) sg)/\Fb w g ps (i+1) (cs.drop want.length) d
 | .fn f::ps,i,cs,e=> ∃v d,e=v::d/\v= .func (.func f) #[] #[]/\Fb w g ps (i+1) cs d
 | .io want::ps,i,cs,e=> ∃v d,e=v::d/\Fg w g (.tm i) 0 false (cs.take want.length) v/\Fb w g ps (i+1) (cs.drop want.length) d
 | .clo f want::ps,i,cs,e=> ∃v d,e=v::d/\(∃b off sg,v= .func (.func f) #[] #[.pointer (some ⟨b,off,none⟩)]/\PS w g.F ⟨b,off,none⟩ sg/\bI (cs.take want.length)=true/\aC w g (.tm i) 0 (cs.take want.length) sg)/\Fb w g ps (i+1) (cs.drop want.length) d
def Rj (glob:Nat->Option (LC)) (w:World) (g:Gh):Prop:= ∀d cs,glob d=some cs->bI cs=true/\ ∃e,PS w g.F ⟨d,0,none⟩ e/\aC w g .hand 0 cs e
def adW (w:World) (g g':Gh):List PK->Nat->LV->LC->Prop
 | [],_,_,_=>True
 | .ptr want::ps,i,d,cs=>(g'.at_ i=g.at_ i/\Fa w g' i ⟨0,(cs.take want.length).map λ c=>(c,0)⟩)/\adW w g g' ps (i+1) d.tail (cs.drop want.length)
 | .io want::ps,i,d,cs=>(∃v,d.head? =some v/\Fg w g' (.tm i) 0 false (cs.take want.length) v)/\adW w g g' ps (i+1) d.tail (cs.drop want.length)
 |_::ps,i,d,cs=>adW w g g' ps (i+1) d.tail cs
def adX (w:World) (g:Gh) (mk:Nat->aF) (ts:List (Bool×LC)) (v:Value):Prop:=
 match ts with
 | [(ag,cs)]=>Fg w g mk 0 ag cs v
 |ts=> ∃d,v= .tuple d.toArray/\mD w g mk 0 ts d
def Enters (P:Program) (f:FuncId):Prop:= ∃fn,P.funcs[f]? =some fn/\fn.body.isNone=false/\(fn.name== "runtime.NumGoroutine")=false
def V9 (w:World) (g:Gh) (i j:Nat):Option Value:=match w.heap[g.at_ i]? with|some (.cells cur _ _)=>cur.toList[j]? |_=>none
def ahY (w w':World) (g:Gh) (ps:List PK):Prop:= ∀(i:Nat) (want:List (Sh×Tg)) (j:Nat) (sh:Sh) (v:Value),ps[i]? =some (.ptr want)->want[j]? =some (sh,.dead)->V9 w g i j=some v->V9 w' g i j=some v
def Good (P:Program) (glob:Nat->Option (LC)) (sig:Sig) (f:sig.In->Option sig.Out):Prop:=
 ∀x r,f x=some r->Enters P sig.fn/\ ∀(w:World) (g:Gh) (d:LV),Fb w g sig.params 0 (retag sig.ins (cellsOf _ x)) d->Rj glob w g->(∀b ow,g.own b=some ow->b<w.heap.size)->(∀b o,g.F b o->b<w.heap.size)->(∀b ow cs t f,g.own b=some ow->w.heap[b]? =some (.cells cs t f)->f=(0,0))->
  Calls P sig.fn d.toArray w λ e w'=> ∃v g',e= .returned v/\Base w g.F (λ b=> ∃ow,g.own b=some ow) w' g'/\
   adX w' g' .hand (resT sig.res (retag sig.outs (cellsOf _ r))).1 v/\adW w' g g' sig.params 0 d (resT sig.res (retag sig.outs (cellsOf _ r))).2/\ahY w w' g sig.params
theorem Fb.length: ∀{ps:List PK} {i:Nat} {cs:LC} {f:LV},Fb w g ps i cs f->f.length=ps.length
 | [],_,_,_,h=>by simp[h.2]
 | .val _ _::ps,i,cs,_,⟨v,d,e,_,h⟩=>by simp[e,h.length]
 | .ptr _::ps,i,cs,_,⟨v,d,e,_,h⟩=>by simp[e,h.length]
 | .rptr _::ps,i,cs,_,⟨v,d,e,_,h⟩=>by simp[e,h.length]
 | .fn _::ps,i,cs,_,⟨v,d,e,_,h⟩=>by simp[e,h.length]
 | .clo _ _::ps,i,cs,_,⟨v,d,e,_,h⟩=>by simp[e,h.length]
 | .io _::ps,i,cs,_,⟨v,d,e,_,h⟩=>by simp[e,h.length]
def zI (F:Fz):Gh:=⟨λ _=>0,λ _=>none,F⟩
theorem aC.zI {F:Fz} {mk mk':Nat->aF} {cs:LC} {i j:Nat} {d:LV} (hF: ∀b o,g.F b o->F b o) (e:bI cs=true) (h:aC w g mk i cs d):aC w (zI F) mk' j cs d:=
 aC.vY (g':=AM.zI F) (show Keeps w w g.F F from Keeps.same hF) cs i j d e h
theorem ahF {c:CV} (h:c.sh.qK=true) {d:List Sh} {ds:LC} (e:(thaw [c] d).run=some ds):ds= [c]:=by
 cases d with
 |nil=>exact(au e).symm
 |cons sh d=>
  have g:ahD c sh= .ret c:=by
   obtain⟨f,i,k⟩:=c;cases f<;>first|rfl|simp[Sh.qK]at h
  simp only[thaw,g]at e;cases d<;>exact(au e).symm
theorem QB (h:Base C.w0 C.F0 C.X w g) {mk:Nat->aF} (d: ∀i j,mk i=mk j->i=j) {cs ds:LC} {want:List (Sh×Tg)} {i:Nat} {l:LV} (u:aC w g mk i cs l) (e:(Vt cs want).run=some ds):
 ∃F':Fz,(∀b o,g.F b o->F' b o)/\(∀b o,F' b o->b<w.heap.size)/\bI ds=true/\Tagged ds want/\ ∀(mk':Nat->aF) j,aC w (zI F') mk' j ds l:=by
 unfold Vt at e;obtain⟨f,m,e⟩:=aS e;obtain⟨g0,v,y,_,_,p,_⟩:=VU d cs _ f i l g h m u;split at e
 ·rename_i z t;obtain⟨k,e⟩:=bf e;obtain rfl:=au e;obtain⟨A,B,D,_,_,E,_⟩:=EC d f want _ i l g0 y t p;exact⟨A.F,λ b o q=>B.keeps.sub b o (v.keeps.sub b o q),λ b o q=>(D.fz b o q).2,k,fD t,λ mk' j=>E.zI (λ _ _ h=>h) k⟩
 ·exact(aj e).elim
theorem aeR {x:Operand}: ∀i j,WU x i=WU x j->i=j:=by cases x<;>simp[WU]
theorem Qs (h:Rel E C s a w g) {t:T} {v:Value} {mk:Nat->aF} (hv:TV s a w g mk t v) {want:List (Sh×Tg)} {ds:LC} (d:(SE s t want).run=some ds):
 ∃F':Fz,(∀b o,g.F b o->F' b o)/\(∀b o,F' b o->b<w.heap.size)/\Tagged ds (PK.rptr want).cells/\ ∀F,(∀b o,F' b o->F b o)-> ∀i (ps:List PK) cs m,Fb w (zI F) ps (i+1) cs m->Fb w (zI F) (.rptr want::ps) i (ds++cs) (v::m):=by
 have Q: ∀b o,g.F b o->b<w.heap.size:=λ b o e=>(h.base.fz b o e).2
 have y: ∀{F':Fz} {sg:LV} {b off:Nat},v= .pointer (some ⟨b,off,none⟩)->PS w F' ⟨b,off,none⟩ sg->(∀b o,g.F b o->F' b o)->(∀b o,F' b o->b<w.heap.size)->bI ds=true->Tagged ds want->(∀(mk':Nat->aF) j,aC w (zI F') mk' j ds sg)->
  ∃F':Fz,(∀b o,g.F b o->F' b o)/\(∀b o,F' b o->b<w.heap.size)/\Tagged ds (PK.rptr want).cells/\ ∀F,(∀b o,F' b o->F b o)-> ∀i (ps:List PK) cs m,Fb w (zI F) ps (i+1) cs m->Fb w (zI F) (.rptr want::ps) i (ds++cs) (v::m):=by
  intro F' sg b off hv q I Y u K L;have k:ds.length=want.length:=by have:=congrArg List.length K;simpa using this
  refine⟨F',I,Y,K,λ F hF i ps cs m he=>⟨_,m,rfl,⟨b,off,sg,hv,q.keeps (show Keeps w w F' F from Keeps.same hF),?_,?_⟩,?_⟩⟩
  ·rw[←k,abL];exact u
  ·rw[←k,abL];exact aC.zI (g:=zI F') hF u (L (.tm i) 0)
  ·rw[←k,abQ];exact he
 unfold SE at d;split at d
 ·rename_i p;split at d
  ·rename_i l;obtain⟨cs,G,d⟩:=aS d;have G:=iD l G;obtain⟨_,hv⟩:Old s p/\_:=hv;rw[l]at hv;obtain⟨n,Z,hv⟩:=hv;obtain⟨z,k⟩:=h.pl G
   have A: ∃b,s.bx n=some b/\b.inst=p.inst:=by
    have:=G;rw[bM]at this;obtain⟨cells,e,_⟩:=this;rw[Z]at e;simp only[aA]at e
    cases A:s.bx n with
    |none=>rw[A]at e;simp at e
    |some b=>rw[A]at e;simp only[aag,aaz]at e;exact⟨b,rfl,e.1⟩
   obtain⟨b,A,R⟩:=A;obtain⟨cur,et,I,Y,_,h4⟩:=h.bx n b A;have S:aB a w g p.root=cur.toList:=by rw[Z];exact yN I
   obtain⟨F',k1,k2,k3,k4,k5⟩:=QB h.base (xq _) z d;rw[S]at k5;refine y (F':=λ b o=>F' b o\/b=g.at_ n) (hv b A R) (λ j U=>⟨?_,.inr rfl⟩) (λ b o M=> .inl (k1 b o M)) (λ b o M=> ?_) k3 k4 λ mk' j=>aC.zI (g:=zI F') (λ _ _ h=> .inl h) k3 (k5 .hand 0)
   ·have B:j<want.length:=by simp at U;omega
    simp only;rw[cell_of_heap I,aan,if_pos B,aas];simp
   ·rcases M with M|rfl
    ·exact k2 b o M
    ·exact lt_of_heap I
  ·exact(aj d).elim
 ·unfold Zb at d;split at d
  ·rename_i D off _;obtain⟨N,d⟩:=bf d;have N:=abl N;split at d
   ·rename_i a7 hw;obtain⟨u,d⟩:=bf d;obtain rfl:=au d;obtain⟨ad,m,e1,q,f,O⟩: ∃(ad:Addr) (m:LV),v= .pointer (some ⟨ad.block,ad.off+off,none⟩)/\PS w g.F ad m/\bI D=true/\aC w g mk 0 D m:=hv;have l:=O.sub off want.length;have a9:=O.length
    have W:bI ((D.drop off).take want.length)=true:=by
     unfold bI at f ⊢;rw[aaV]at f ⊢;exact λ c G=>f c (abD (abr G))
    refine y (F':=g.F) (sg:=(m.drop off).take want.length) e1 (λ j U=> ?_) (λ _ _ h=>h) Q u (fD hw) λ mk' j=>aC.zI (λ _ _ h=>h) u (yj (mk':=mk') (j:=j) W hw l);have B:j<want.length:=by simp at U;omega
    have:=q (off+j) Ω;simp only at this ⊢;rw[aan,if_pos B,aas,abK];exact this
   ·exact(aj d).elim
  ·exact(aj d).elim
theorem aeK (h:Rel E C s a w g) {x:Operand} {pk:PK} {ds:LC} (m:(XK E s pk x).run=some ds):
 ∃F':Fz,(∀b o,g.F b o->F' b o)/\(∀b o,F' b o->b<w.heap.size)/\Tagged ds pk.cells/\ ∀F,(∀b o,F' b o->F b o)-> ∀i (ps:List PK) cs I,Fb w (zI F) ps (i+1) cs I->Fb w (zI F) (pk::ps) i (ds++cs) (a.eval x::I):=by
 have Z: ∀b o,g.F b o->b<w.heap.size:=λ b o e=>(h.base.fz b o e).2;unfold XK at m
 have fin: ∀{ag:Bool} {want:List (Sh×Tg)} {F':Fz},isAgg (a.eval x)=ag->(∀b o,g.F b o->F' b o)->(∀b o,F' b o->b<w.heap.size)->bI ds=true->Tagged ds want->(∀(mk':Nat->aF) j,aC w (zI F') mk' j ds (a.eval x).cells.toList)->
  ∃F':Fz,(∀b o,g.F b o->F' b o)/\(∀b o,F' b o->b<w.heap.size)/\Tagged ds (PK.val ag want).cells/\ ∀F,(∀b o,F' b o->F b o)-> ∀i (ps:List PK) cs I,Fb w (zI F) ps (i+1) cs I->Fb w (zI F) (.val ag want::ps) i (ds++cs) (a.eval x::I):=by
  intro ag want F' q U W B D a0;have Q:ds.length=want.length:=by have:=congrArg List.length D;simpa using this
  refine⟨F',U,W,D,λ F hF i ps cs I he=>⟨_,I,rfl,⟨q,?_⟩,?_⟩⟩
  ·rw[←Q,abL];exact aC.zI (g:=zI F') hF B (a0 (.tm i) 0)
  ·rw[←Q,abQ];exact he
 cases pk with
 |val O want=>
  simp only[]at m;split at m
  ·rename_i ag cs K;obtain⟨q,m⟩:=bf m;have q:ag=O:=by simpa using q
   have hv:=aJ h K Θ;obtain⟨F',U,W,h3,h4,h5⟩:=QB h.base aeR hv.2 m;exact fin (hv.1.trans q) U W h3 h4 h5
  ·rename_i p ag n K;obtain⟨q,m⟩:=bf m;have q:ag=O:=by simpa using q
   obtain⟨_,_,L,hv⟩:=aJ h K Θ;obtain⟨cs,N,m⟩:=aS m;have N:=iD L N;obtain⟨k1,k2⟩:=hv _ N;obtain⟨F',U,W,h3,h4,h5⟩:=QB h.base (xq _) (h.pl N).1 m;rw[←k2]at h5;exact fin (k1.trans q) U W h3 h4 h5
  ·rename_i p z lo hi K
   cases y:O with
   |true=>rw[y]at m;exact(aj m).elim
   |false=>
    rw[y]at m;simp only[cond_false]at m;obtain⟨_,_,L,_,hv⟩:=aJ h K Θ;obtain⟨cs,N,m⟩:=aS m;have N:=iD L N;obtain⟨c,rfl⟩:=Hu N;simp only[]at m;split at m
    ·rename_i d hd;obtain⟨G,b0,rfl⟩:=um hd;have b2:c.sh.adY .pure=true:=by cases hs:c.sh<;>first|rfl|(rw[hs]at G;simp[Sh.qK]at G)
     obtain⟨A,l,k,e1,k1,k2,k3,k4⟩:=hv c N;obtain⟨u,e2,b4,_⟩:=qC h N;rw[e1]at e2;cases e2
     have b5:Tg.le .pure c.tg=true:=by
      cases D:c.tg<;>first|rfl|exact absurd D b0
     obtain⟨g1,f1,b1,_,_,b6,_⟩:=b4.weak h.base b5 b2;have b7:jM w g1.F c.sh (Jb c.sh c.x lo hi) (Dw A k lo hi c.sh.n):=jM.sub G b6 k1 k2;unfold Vt at m;obtain⟨c8,b8,m⟩:=aS m;obtain rfl:=ahF (c:=⟨c.sh,c.tg,Jb c.sh c.x lo hi⟩) G b8;split at m
     ·rename_i b9 hw;obtain⟨B,m⟩:=bf m;obtain rfl:=au m;obtain⟨tg,rfl,rfl,_⟩:=PL hw;have D:tg= .pure:=uJ B _ (aah.2 rfl);subst D;have R:isAgg (a.eval x)=false:=by rw[k4];rfl
      refine fin R f1.keeps.sub (λ b o hf=>(b1.fz b o hf).2) B (fD hw) λ mk' j=> ?_;rw[aH R,k4];exact⟨_,[],rfl,b7,rfl⟩
     ·exact(aj m).elim
    ·exact(aj m).elim
  ·rename_i K
   cases y:O with
   |true=>rw[y]at m;exact(aj m).elim
   |false=>
    rw[y]at m;simp only[cond_false]at m;obtain⟨b9,hn,m⟩:=aS m;obtain⟨B,m⟩:=bf m;obtain rfl:=au m;obtain⟨sh,tg,rfl,G,rfl⟩:=WT hn
    have S:a.eval x= .slice none 0 0:=by
     rcases h.at_ x with⟨_,e⟩|e
     ·exact e
     ·rw[K]at e;exact e.elim
    refine fin (F':=g.F) (by rw[S];rfl) (λ _ _ h=>h) Z B rfl λ mk' j=> ?_;rw[S];exact⟨_,[],rfl,Rh G tg,rfl⟩
  ·exact(aj m).elim
 |ptr want=>exact(aj m).elim
 |io want=>exact(aj m).elim
 |fn f=>
  simp only[]at m;split at m
  ·rename_i f' K;have M:=bf m;have hf:=aao M.1;obtain rfl:=au M.2;have hv:=aJ h K Θ;subst hf;exact⟨g.F,λ _ _ h=>h,Z,rfl,λ F hF i ps cs I he=>⟨_,I,rfl,hv,he⟩⟩
  ·exact(aj m).elim
 |clo f want=>
  simp only[]at m;split at m
  ·rename_i f' t K;have M:=bf m;have hf:=aao M.1;obtain⟨d1,hv,v0,c0,rfl,hk,ht,Y⟩:=aJ h K Θ;have Y:c0= []:=Y;subst Y;subst hf;obtain⟨F',U,W,h3,h4⟩:=Qs h (show TV s a w g (WU x) t v0 from by cases t<;>first|exact ht|exact hk.elim) M.2
   refine⟨F',U,W,h3,λ F hF i ps cs I he=> ?_⟩;obtain⟨v,ws,e,⟨b,off,sg,e1,k1,k2,k3⟩,k4⟩:=h4 F hF i ps cs I he;cases e;exact⟨_,_,rfl,⟨b,off,sg,by rw[hv,e1],k1,k2,k3⟩,k4⟩
  ·exact(aj m).elim
 |rptr want=>
  rcases h.at_ x with⟨e,_⟩|e
  ·simp only[e]at m;exact(aj m).elim
  ·exact Qs h e m
theorem IQ (h:Rel E C s a w g) {mk:Nat->aF}: ∀{ts:List T} {cvs:LV},oJ s a w g mk ts cvs-> ∀(ps:List PK) (k:List Operand) (cs:LC),(y8 E s ps k ts).run=some cs->
 ∃F':Fz,(∀b o,g.F b o->F' b o)/\(∀b o,F' b o->b<w.heap.size)/\Tagged cs (ps.flatMap PK.cells)/\ ∀F,(∀b o,F' b o->F b o)-> ∀i,Fb w (zI F) ps i cs (k.map a.eval++cvs)
 | [],cvs,f,[],[],cs,d=>by
   obtain rfl:=au d;have f:cvs= []:=f;subst f;exact⟨g.F,λ _ _ h=>h,λ b o e=>(h.base.fz b o e).2,rfl,λ F hF i=>⟨rfl,rfl⟩⟩
 |_::_,_,_,[],[],_,d=>(aj d).elim
 |_,_,_,[],_::_,_,d=>(aj d).elim
 | [],_,_,p::_,[],_,d=>by cases p<;>exact(aj d).elim
 |ts,cvs,f,p::ps,x::k,cs,d=>by
  simp only[y8]at d;obtain⟨ds,l,d⟩:=aS d;obtain⟨es,m,d⟩:=aS d;obtain rfl:=au d;obtain⟨q,u,y,z,A⟩:=aeK h l;obtain⟨B,K,D,G,I⟩:=IQ h f ps k es m;refine⟨λ b o=>q b o\/B b o,λ b o e=> .inl (u b o e),λ b o e=>e.elim (y b o) (D b o),by rw[abq];exact z.append G,λ F hF i=> ?_⟩;exact A F (λ b o e=>hF b o (.inl e)) i ps es _ (I F (λ b o e=>hF b o (.inr e)) (i+1))
 |t::ts,cvs,⟨v,N,e,L,M,f⟩,.rptr want::ps,[],cs,d=>by
  subst e;simp only[y8]at d;obtain⟨ds,l,d⟩:=aS d;obtain⟨es,m,d⟩:=aS d;obtain rfl:=au d;obtain⟨q,u,y,z,A⟩:=Qs h (show TV s a w g mk t v from by cases t<;>first|exact M|exact L.elim) l
  obtain⟨B,K,D,G,I⟩:=IQ h f ps [] es m;refine⟨λ b o=>q b o\/B b o,λ b o e=> .inl (u b o e),λ b o e=>e.elim (y b o) (D b o),by rw[abq];exact z.append G,λ F hF i=> ?_⟩;exact A F (λ b o e=>hF b o (.inl e)) i ps es _ (I F (λ b o e=>hF b o (.inr e)) (i+1))
 |_::_,_,_,.val _ _::_,[],_,d=>(aj d).elim
 |_::_,_,_,.ptr _::_,[],_,d=>(aj d).elim
 |_::_,_,_,.fn _::_,[],_,d=>(aj d).elim
 |_::_,_,_,.clo _ _::_,[],_,d=>(aj d).elim
 |_::_,_,_,.io _::_,[],_,d=>(aj d).elim
theorem RS {cl:Call} {e:Operand} {f:FuncId} (g:o.op= .call cl) (i:cl.callee= .value e) {d:Array Value} (k:a.eval e= .func (.func f) #[] d) (l:Enters P f):
 (execOp a.eval o).run P w= .ok (.enter f (cl.args.map a.eval++d)) w:=by
 obtain⟨fn,m,p,q⟩:=l
 have t:(invoke (.fn (.func f) d) (cl.args.map a.eval)).run P w= .ok (.enter f (cl.args.map a.eval++d)) w:=by
  simp only[invoke,callFunc,Sem.run_bind,run_program,Result.andThen_ok,m,p,q,abf,if_false,Sem.run_pure]
 simp only[execOp,g,resolve,i,k,Deferred.ofValue];simpa using t
theorem ahC {c:CV} {tg:Tg} (h:c.tg=tg):c.to tg=c:=by
 obtain⟨sh,d,x⟩:=c;simp only at h;subst h;rfl
theorem KR {c:CV} {sh:Sh} {y:El sh} (h:jY c sh=some y):(⟨sh,.pure,y⟩:CV)=c.to .pure:=by
 obtain⟨e,rfl⟩:=lg h;obtain⟨d,f,g⟩:=c;simp only at e;subst e;rfl
theorem sO: ∀(es:List Sh) (cs:LC) (x:ElA es),iq es cs=some x->cellsOf es x=cs.map (·.to .pure)
 | [],[],_,_=>rfl
 | [],_::_,_,d=>(aN d rfl).elim
 | [s],[],_,d=>(aN d rfl).elim
 | [s],[c],x,d=>by
   have:=KR (c:=c) (sh:=s) (y:=x) d;show[(⟨s,.pure,x⟩:CV)]=_;rw[this];rfl
 | [s],_::_::_,_,d=>(aN d rfl).elim
 |s::t::ss,[],_,d=>(aN d rfl).elim
 |s::t::ss,c::cs,x,d=>by
  obtain⟨y,z,e,f,rfl⟩:=qA d;have g:=KR e;have i:=sO (t::ss) cs z f;show(⟨s,.pure,y⟩:CV)::cellsOf (t::ss) z=_;rw[g,i];rfl
theorem yM: ∀{cs:LC} {want:List (Sh×Tg)},Tagged cs want->retag want (cs.map (·.to .pure))=cs
 | [],want,h=>by cases want<;>simp[Tagged]at h<;>rfl
 |c::cs,[],h=>by simp[Tagged]at h
 |c::cs,(sh,tg)::want,h=>by
  simp only[Tagged,abo,abk,aaz]at h;simp only[abo,retag];rw[yM h.2];congr 1;obtain⟨d,e,f⟩:=c;simp only at h;obtain⟨⟨_,rfl⟩,_⟩:=h;rfl
theorem PI {cs:LC} {sig:Sig} (h:Tagged cs (sig.params.flatMap PK.cells)):Tagged cs sig.ins:=h
theorem W9 {cs:LC} {sig:Sig} (h:Tagged cs sig.ins) {x:sig.In} (d:iq (sig.ins.map (·.1)) cs=some x):retag sig.ins (cellsOf _ x)=cs:=by
 rw[sO _ _ _ d,yM h]
theorem WZ {ts:List (Bool×LC)} {v:Value} {mk:Nat->aF} (h:adX w g mk ts v):TV s a w g mk (akz ts) v:=by
 match ts,h with
 | [],h=>exact h
 | [(ag,cs)],h=>exact h
 |_::_::_,h=>exact h
theorem VK {g2:Gh} {f:World} {ow ow':aF} {c:CV} {v:Value} (hs:c.sh.scalar=true) (h:jZ w g ow c v):jZ f g2 ow' c v:=by
 obtain⟨sh,d,x⟩:=c
 cases sh with
 |sl es=>simp[Sh.scalar]at hs
 |rsl ss=>simp[Sh.scalar]at hs
 |dl ss=>simp[Sh.scalar]at hs
 |mp k e=>simp[Sh.scalar]at hs
 |int k=>cases d<;>first|exact trivial|exact h
 |bool=>cases d<;>first|exact trivial|exact h
 |str=>cases d<;>first|exact trivial|exact h
theorem aC.free {g2:Gh} {f:World} {mk mk':Nat->aF}: ∀{cs:LC} {i j:Nat} {d:LV},(∀c,c∈cs->c.sh.scalar=true)->aC w g mk i cs d->aC f g2 mk' j cs d
 | [],_,_,_,_,h=>h
 |c::cs,i,j,_,hs,⟨v,k,e,l,h⟩=>⟨v,k,e,VK (hs c Θ) l,aC.free (λ c m=>hs c (by simp[m])) h⟩
theorem mD.free {g2:Gh} {f:World} {mk mk':Nat->aF}: ∀{ts:List (Bool×LC)} {i j:Nat} {d:LV},(∀t,t∈ts-> ∀c,c∈t.2->c.sh.scalar=true)->mD w g mk i ts d->mD f g2 mk' j ts d
 | [],_,_,_,_,h=>h
 |(ag,cs)::ts,i,j,_,hs,⟨v,k,e,⟨l,m⟩,h⟩=>⟨v,k,e,⟨l,aC.free (λ c p=>hs (ag,cs) Θ c p) m⟩,mD.free (λ t q=>hs t (by simp[q])) h⟩
theorem WY: ∀{rs:List (Bool×List (Sh×Tg))} {cs:LC} {t:Bool×LC},t∈(resT rs cs).1-> ∀c,c∈t.2->c∈cs
 | [],cs,t,h,_,_=>by simp[resT]at h
 |(ag,want)::rs,cs,t,h,c,d=>by
  simp only[resT]at h;rcases aaU.1 h with rfl|h
  ·exact abr d
  ·exact abD (WY h c d)
theorem Xa: ∀{want:List (Sh×Tg)} {cs:LC} {c:CV},c∈retag want cs-> ∃d,d∈cs/\c.sh=d.sh
 | [],_,_,h=>by simp[retag]at h
 |_::_,[],_,h=>by simp[retag]at h
 |(sh,tg)::want,e::cs,c,h=>by
  simp only[retag]at h;rcases aaU.1 h with rfl|h
  ·exact⟨e,Θ,rfl⟩
  ·obtain⟨d,f,g⟩:=Xa h;exact⟨d,by simp[f],g⟩
theorem RH {i:Nat} (hG:Good P E.glob (E.sig i) (E.call i)) (h:Rel E C s a w g) {cl:Call} {fo:Operand} (ho:o.op= .call cl) (A:cl.callee= .value fo) {ts:List T} {cvs:LV} {mk:Nat->aF} (N:oJ s a w g mk ts cvs) (M:a.eval fo= .func (.func (E.sig i).fn) #[] cvs.toArray)
 (O:(E.sig i).scalar=true) {d:Nat} (R:o.dst=some d) (hd:DOk E d) {us:List Upd} (u:(N8 E s d cl.args.toList ts i).run=some us):
 o.wp P a w (λ a' w'=> ∃g',Rel E C (s.dW us) a' w' g') Q:=by
 unfold N8 at u;rw[O]at u;simp only[cond_true]at u;obtain⟨cs,hl,u⟩:=aS u;split at u
 ·exact(aj u).elim
 ·rename_i x W;obtain⟨r,hr,u⟩:=zY u;obtain rfl:=au u;obtain⟨F',Y,h2,Z,S⟩:=IQ h N _ _ cs hl;obtain⟨a0,G⟩:=hG x r hr;have U:=W9 (PI Z) W;have hE:Fb w (zI F') (E.sig i).params 0 (retag (E.sig i).ins (cellsOf _ x)) (cl.args.toList.map a.eval++cvs):=by rw[U];exact S F' (λ _ _ h=>h) 0
  have I:Rj E.glob w (zI F'):=λ gl cs hg=>by
   obtain⟨k1,vs,k2,k3⟩:=h.glob gl cs hg;exact⟨k1,vs,k2.keeps (show Keeps w w g.F F' from Keeps.same Y),k3.zI Y k1⟩
  have hC:=G w (zI F') _ hE I (λ b ow e=>by cases e) (λ b o e=>h2 b o e) (λ b ow cs t f e=>by cases e);have K:(cl.args.toList.map a.eval++cvs).toArray=cl.args.map a.eval++cvs.toArray:=by apply abu.1;simp
  rw[K]at hC;unfold Oper.wp;rw[RS ho A M a0,Oper.upon_enter];refine hC.mono λ e w' hR=> ?_;obtain⟨v,g0,rfl,B,k,_⟩:=hR;have l: ∀b,b<w.heap.size->w'.heap[b]? =w.heap[b]? :=λ b z=>B.blk b z (λ⟨ow,e⟩=>by cases e);have m:Keeps w w' g.F g.F:=⟨λ _ _ h=>h,λ b o M=>B.keeps.cell b o (Y b o M)⟩;have a2:Fr (λ _=>True) w w' g g:=⟨m,λ b ow _ e=>⟨e,l b (h.base.own b ow e).2,λ _ h=>h⟩⟩
  have p:Base C.w0 C.F0 C.X w' g:=⟨B.os.trans h.base.os,B.tape.trans h.base.tape,B.output.trans h.base.output,aaP h.base.size B.size,λ b z a3=>by
   rw[l b (abp z h.base.size)];exact h.base.blk b z a3,λ b ow e=>⟨(h.base.own b ow e).1,abp (h.base.own b ow e).2 B.size⟩,
   h.base.keeps.trans m,λ b o M=>⟨(h.base.fz b o M).1,abp (h.base.fz b o M).2 B.size⟩,λ b ow cs t f W A=>by
    rw[l b (h.base.own b ow W).2]at A;exact h.base.frz b ow cs t f W A⟩
  have r1:Rel E C s a w' g:=h.world (a2.mono λ _ _=>trivial) p rfl
  have q: ∀t,t∈(resT (E.sig i).res (retag (E.sig i).outs (cellsOf ((E.sig i).outs.map (·.1)) r))).1-> ∀c,c∈t.2->c.sh.scalar=true:=by
   intro t ht c A;have hm:=WY ht c A;obtain⟨c',h3,h4⟩:=Xa hm;rw[h4];have:c'.sh∈(cellsOf ((E.sig i).outs.map (·.1)) r).map CV.sh:=aaC.2 ⟨c',h3,rfl⟩;rw[uY]at this;obtain⟨y,hy,a5⟩:=aaC.1 this;have D:=O;simp only[Sig.scalar,aae]at D;have:=aaV.1 D.1 y hy;rw[←a5];exact this
  have L:adX w' g (.tm d) (resT (E.sig i).res (retag (E.sig i).outs (cellsOf ((E.sig i).outs.map (·.1)) r))).1 v:=by
   generalize (resT (E.sig i).res (retag (E.sig i).outs (cellsOf ((E.sig i).outs.map (·.1)) r))).1=ts at k q;unfold adX at k ⊢;split at k
   ·rename_i ag cs;exact⟨k.1,aC.free (λ c A=>q (ag,cs) Θ c A) k.2⟩
   ·obtain⟨vs,e,ht⟩:=k;exact⟨vs,e,mD.free q ht⟩
  refine⟨g,?_⟩;rw[R];exact r1.VL hd (Fr.refl _ _ _) p rfl (WZ L)
theorem Xn.via {ow ow':aF} (f: ∀b,g.own b=some ow->g'.own b=some ow') (hF:g'.F=g.F) {b:Nat} {d:Bool} {sh:Sh} {x:El sh} {cs:LV} (h:Xn w g ow b d sh x cs):Xn w g' ow' b d sh x cs:=by
 cases sh with
 |dl es=>exact⟨h.1,jm.imp (g:=g) (g':=g') (by rw[hF];exact Keeps.refl _ _) (λ sh x v _ e=>wZ.owner hF (λ z i=>f z (e.nC i)) e) h.2⟩
 |sl es=>show wM w g'.F (.sl es) x cs;rw[hF];exact h
 |rsl es=>show wM w g'.F (.rsl es) x cs;rw[hF];exact h
 |_=>exact h.elim
theorem jZ.via {ow ow':aF} (i: ∀b,g.own b=some ow->g'.own b=some ow') (hF:g'.F=g.F) {c:CV} {v:Value} (h:jZ w g ow c v):jZ w g' ow' c v:=by
 unfold jZ at h ⊢
 have d: ∀f,zK w g ow f c.sh c.x v->zK w g' ow' f c.sh c.x v:=by
  intro f h;rcases h with h|⟨b,k,cur,u,hv,y,z,m,p,hs,A,q⟩
  ·exact .inl h
  ·exact .inr ⟨b,k,cur,u,hv,y,z,i b m,p,hs,A.via i hF,λ o=>by rw[hF];exact q o⟩
 split at h
 ·trivial
 ·rw[hF];exact h
 ·split
  ·rename_i hs;rw[if_pos hs]at h;exact d _ h
  ·rename_i hs;rw[if_neg hs]at h;split
   ·rename_i t;rw[if_pos t]at h;obtain⟨sh,tg,x⟩:=c
    cases sh with
    |mp k e=>
     rcases h with h|⟨b,l,B,hv,m,p,q⟩
     ·exact .inl h
     ·exact .inr ⟨b,l,B,hv,i b m,p,λ o=>by rw[hF];exact q o⟩
    |_=>exact h.elim
   ·rename_i t;rw[if_neg t]at h;rw[hF];exact h
 ·split
  ·rename_i hs;rw[if_pos hs]at h;exact d _ h
  ·rename_i hs;rw[if_neg hs]at h;rw[hF];exact h
theorem aC.via (hF:g'.F=g.F) {mk mk':Nat->aF}: ∀{cs:LC} {i d:Nat} {k:LV},(∀j b,j<cs.length->g.own b=some (mk (i+j))->g'.own b=some (mk' (d+j)))->aC w g mk i cs k->aC w g' mk' d cs k
 | [],_,_,_,_,h=>h
 |c::cs,i,d,_,l,⟨v,m,e,p,h⟩=>⟨v,m,e,p.via (λ b f=>by have:=l 0 b Θ (by simpa using f);simpa using this) hF,
  aC.via hF (λ j b q f=>by
   have:=l (j+1) b Δ (by rw[show i+(j+1)=i+1+j by omega];exact f)
   rwa [show d+(j+1)=d+1+j by omega]at this) h⟩
theorem mD.via (hF:g'.F=g.F) {mk mk':Nat->aF} (d: ∀j b,g.own b=some (mk j)->g'.own b=some (mk' j)): ∀{ts:List (Bool×LC)} {i:Nat} {f:LV},mD w g mk i ts f->mD w g' mk' i ts f
 | [],_,_,h=>h
 |(ag,cs)::ts,i,_,⟨v,k,e,⟨l,m⟩,h⟩=>⟨v,k,e,⟨l,m.via hF λ j b _ p=>d _ b p⟩,mD.via hF d h⟩
theorem adX.via (hF:g'.F=g.F) {mk mk':Nat->aF} (f: ∀j b,g.own b=some (mk j)->g'.own b=some (mk' j)) {ts:List (Bool×LC)} {v:Value} (h:adX w g mk ts v):adX w g' mk' ts v:=by
 match ts,h with
 | [],⟨d,e,h⟩=>exact⟨d,e,h⟩
 | [(ag,cs)],h=>exact⟨h.1,h.2.via hF λ j b _ i=>f _ b i⟩
 |_::_::_,⟨d,e,h⟩=>exact⟨d,e,h.via hF f⟩
def Q7:List PK->Nat->Nat->aF
 | [],_,k=> .hand k
 |p::ps,i,k=>if k<p.cells.length then(match p with| .ptr _=> .cell i k|_=> .tm i k)else Q7 ps (i+1) (k-p.cells.length)
def Jf:List (Option Nat)->Nat->Nat->Option Nat
 | [],_,_=>none
 |b::d,i,n=>if b=some n then some i else Jf d (i+1) n
def UK (d:List (Option Nat)) (i:Nat):Option Nat:=match d[i]? with|some (some n)=>some n|_=>none
theorem Rz: ∀{e:List (Option Nat)} {i j n:Nat},(e.filterMap id).Nodup->e[j]? =some (some n)->Jf e i n=some (i+j)
 | [],_,_,_,_,h=>by simp at h
 |b::e,i,0,n,d,h=>by
  simp at h;subst h;simp[Jf]
 |b::e,i,j+1,n,d,h=>by
  have g:e[j]? =some (some n):=by simpa using h
  have k:b≠some n:=by
   rintro rfl;simp only[List.filterMap_cons,id,List.nodup_cons]at d;exact d.1 (List.mem_filterMap.2 ⟨some n,aai g,rfl⟩)
  have f:(e.filterMap id).Nodup:=by
   cases b with
   |none=>simpa using d
   |some m=>simp only[List.filterMap_cons,id,List.nodup_cons]at d;exact d.2
  simp only[Jf,if_neg k];rw[Rz f g];congr 1;omega
theorem OL: ∀{d:List (Option Nat)} {i n k:Nat},Jf d i n=some k->some n∈d
 | [],_,_,_,h=>by simp[Jf]at h
 |b::d,i,n,k,h=>by
  simp only[Jf]at h;split at h
  ·rename_i e;subst e;simp
  ·exact aaS _ (OL h)
def callee (ps:List PK) (d:List (Option Nat)) (g:Gh):Gh:=
 ⟨λ i=>match UK d i with|some n=>g.at_ n|none=>0,λ b=>match g.own b with|some (.hand k)=>some (Q7 ps 0 k)|some (.box n)=>(Jf d 0 n).map .box|_=>none,g.F⟩
theorem Y7 {g0:Gh} (hF:g0.F=g.F): ∀(ps:List PK) (i k:Nat) (G:List (Option Nat)) (cs:LC) (m:LV) (l:List (LV)),
 (∀b y,g.own b=some (.hand (k+y))->g0.own b=some (Q7 ps i y))->(∀j n,G[j]? =some (some n)->g0.at_ (i+j)=g.at_ n/\(g.own (g.at_ n)=some (.box n)->g0.own (g.at_ n)=some (.box (i+j)))/\ ∀o,¬g.F (g.at_ n) o)->
 aC w g .hand k cs l.flatten->Tagged cs (ps.flatMap PK.cells)->yU w g ps G m l->Fb w g0 ps i cs m
 | [],i,k,[],cs,[],[],_,_,z,t,_=>⟨by simpa [Tagged]using t,rfl⟩
 |p::ps,i,k,b::G,cs,v::m,sg::l,Q,R,z,t,⟨d,I,K⟩=>by
  rw[ace]at z;rw[abq]at t;have U:=z.length;have W:cs.length=p.cells.length+(ps.flatMap PK.cells).length:=by have:=congrArg List.length t;simpa using this
  have Y:aC w g .hand k (cs.take p.cells.length) sg:=by
   have:=z.sub 0 p.cells.length;simp only[aa0,abB]at this
   rwa [←I,abL,I]at this
  have Z:aC w g .hand (k+p.cells.length) (cs.drop p.cells.length) l.flatten:=by
   have:=z.sub p.cells.length (cs.length-p.cells.length);rw[aaJ Θ,aaJ (by simp only[abh];omega)]at this
   rwa [←I,abQ,I]at this
  have t1:Tagged (cs.take p.cells.length) p.cells:=by
   simp only[Tagged,acw]at t ⊢;rw[t,abL]
  have t2:Tagged (cs.drop p.cells.length) (ps.flatMap PK.cells):=by
   simp only[Tagged,acv]at t ⊢;rw[t,abQ]
  have A:Fb w g0 ps (i+1) (cs.drop p.cells.length) m:=Y7 hF ps (i+1) (k+p.cells.length) G _ m l (λ b' y e=>by
   have:=Q b' (p.cells.length+y) (by rw[←abK];exact e);simp only[Q7]at this;rw[if_neg Ω]at this
   rwa [show p.cells.length+y-p.cells.length=y by omega]at this)
   (λ j n e=>by have:=R (j+1) n (by simpa using e);rwa [show i+(j+1)=i+1+j by omega]at this) Z t2 K
  have L:(cs.take p.cells.length).length=p.cells.length:=by simp;omega
  have move: ∀(mk:Nat->aF),(∀j,j<p.cells.length->Q7 (p::ps) i j=mk j)->aC w g0 mk 0 (cs.take p.cells.length) sg:=by
   intro mk M;refine Y.via hF λ j b q e=> ?_;rw[L]at q;have:=Q b j e;rw[M j q]at this;simpa using this
  cases p with
  |val ag want=>
   cases b with
   |some n=>exact d.elim
   |none=>
    refine⟨v,m,rfl,⟨d.1,?_⟩,A⟩;rw[d.2];exact move (.tm i) λ j q=>by simp only[Q7];rw[if_pos q]
  |rptr want=>
   cases b with
   |some n=>exact d.elim
   |none=>
    obtain⟨⟨b,off,e,B⟩,N⟩:=d;refine⟨v,m,rfl,⟨b,off,sg,e,by rw[hF];exact B,Vs t1 N,?_⟩,A⟩;exact move (.tm i) λ j q=>by simp only[Q7];rw[if_pos q]
  |fn f=>
   cases b with
   |some n=>exact d.elim
   |none=>exact⟨v,m,rfl,d,A⟩
  |clo f want=>cases b<;>exact d.elim
  |io want=>
   cases b with
   |some n=>exact d.elim
   |none=>
    refine⟨v,m,rfl,⟨d.1,?_⟩,A⟩;rw[d.2];exact move (.tm i) λ j q=>by simp only[Q7];rw[if_pos q]
  |ptr want=>
   cases b with
   |none=>exact d.elim
   |some n=>
    obtain⟨hv,C,cur,et,u,O⟩:=d;obtain⟨D,S,e3⟩:=R 0 n rfl;simp only[aa0]at D S;refine⟨v,m,rfl,⟨by rw[D];exact hv,cur,et,by rw[D];exact u,by rw[D];exact S C,λ o E=>e3 o (by rw[D,hF]at E;exact E),?_⟩,A⟩;simp only[nN];rw[←O];exact move (.cell i) λ j q=>by simp only[Q7];rw[if_pos q]
theorem KL {d:List (Option Nat)} {i n:Nat}:UK d i=some n ↔ d[i]? =some (some n):=by
 unfold UK;split
 ·rename_i m h;rw[h];simp
 ·rename_i h;constructor
  ·intro e;cases e
  ·intro e;exact absurd e (h n)
theorem ZU {want:List (Sh×Tg)} (h:rD want=false) {i:Nat} {sh:Sh} {tg:Tg} (d:want[i]? =some (sh,tg)):tg≠ .dead:=by
 rintro rfl
 have:rD want=true:=by
  unfold rD;rw[ab8];exact⟨_,aai d,rfl⟩
 rw[this]at h;cases h
def sN (new:LC) (b:Bx) (want:List (Sh×Tg)):List (CV×Nat):=bif rD want then setMany b.cells (iT 1 0 new b.cells want)else(new.zip b.cells).map λ x=>(x.1,x.2.2+1)
theorem qX {new:LC} {b:Bx} {want:List (Sh×Tg)} (e:new.length=want.length) (d:b.cells.length=want.length):(sN new b want).length=want.length:=by
 unfold sN
 cases rD want with
 |true=>simp only[cond_true,zh,d]
 |false=>simp only[cond_false,aaH,List.length_zip];omega
theorem GH {new:LC} {b:Bx} {want:List (Sh×Tg)} (q:new.length=want.length) (t:b.cells.length=want.length) {i:Nat} (d:i<want.length):
 (sN new b want)[i]? =some (afx (want[i]).2 (b.cells[i]' Ω) (new[i]' Ω,(b.cells[i]' Ω).2+1)):=by
 have k:new[i]? =some (new[i]' Ω):=aac Ω;have f:b.cells[i]? =some (b.cells[i]' Ω):=aac Ω;have l:want[i]? =some ((want[i]'d).1,(want[i]'d).2):=aac d;unfold sN
 cases m:rD want with
 |true=>
  have:=MC (e:=1) (j:=0) (b.cells[i]' Ω) l k f;rw[aa2]at this;simp only[cond_true,CX,f,aaL,this]
 |false=>
  have p:(new.zip b.cells)[i]? =some (new[i]' Ω,b.cells[i]' Ω):=acz.2 ⟨k,f⟩;have g:=ZU m l;simp only[cond_false,aau,p,aaL];congr 1;unfold afx;split
  ·rename_i h;exact absurd h g
  ·rfl
theorem aea {s0:St} {m:Nat} {b:Bx} {new:LC} {want:List (Sh×Tg)} (d:s0.bx m=some b):
 (s0.dW [bif rD want then .cl m (iT 1 0 new b.cells want)else .bx m ⟨b.inst,(new.zip b.cells).map λ x=>(x.1,x.2.2+1)⟩])= {s0 with bx:=put s0.bx m (some ⟨b.inst,sN new b want⟩)}:=by
 unfold sN
 cases rD want with
 |true=>simp only[cond_true,St.dW,acD,acU,Upd.on,d,aaL]
 |false=>rfl
theorem F7 {g2 gF:Gh} (hF:gF.F=g2.F) {Kp:Nat->Nat->Prop}
 (z: ∀(n:Nat) (b:Bx) (i:Nat) (c:CV) (v:Nat),Kp n i->s.bx n=some b->b.cells[i]? =some (c,v)-> ∃cur et f u,w'.heap[gF.at_ n]? =some (.cells cur et f)/\cur.toList[i]? =some u/\jZ w' gF (.cell n i) c u):
 ∀(ps:List PK) (i:Nat) (q:List (Option Nat)) (D:LV) (cs:LC) (us:List Upd) (s0:St),oL s ps q cs=some us->adW w' g g2 ps i D cs->
 (∀n,some n∈q->s0.bx n=s.bx n)->(q.filterMap id).Nodup->(∀(j n:Nat) (want:List (Sh×Tg)) (k:Nat) (sh:Sh),q[j]? =some (some n)->ps[j]? =some (.ptr want)->want[k]? =some (sh,.dead)->Kp n k)->
 (∀j n,q[j]? =some (some n)->gF.at_ n=g.at_ (i+j)/\(∀b,g2.own b=some (.box (i+j))->gF.own b=some (.box n))/\ ∀b k,g2.own b=some (.cell (i+j) k)->gF.own b=some (.cell n k))->
 (s0.dW us).tm=s0.tm/\ ∀n,(some n∉q->(s0.dW us).bx n=s0.bx n)/\(some n∈q-> ∃b b',s.bx n=some b/\(s0.dW us).bx n=some b'/\b'.inst=b.inst/\b'.cells.length=b.cells.length/\
  (∀(i:Nat) (c':CV) (Z:Nat),b'.cells[i]? =some (c',Z)->(∃(c:CV) (v:Nat),b.cells[i]? =some (c,v)/\Z=v+1)\/(Kp n i/\b.cells[i]? =some (c',Z)))/\Fa w' gF n b')
 | [],i,q,D,cs,us,s0,l,_,_,_,_,_=>by
   cases q with
   |cons b q=>cases l
   |nil=>
    simp only[oL,aag]at l;subst l;exact⟨rfl,λ n=>⟨λ _=>rfl,λ h=>by cases h⟩⟩
 | .ptr want::ps,i,[],D,cs,us,s0,l,_,_,_,_,_=>by cases l
 | .ptr want::ps,i,none::q,D,cs,us,s0,l,_,_,_,_,_=>by cases l
 | .ptr want::ps,i,some m::q,D,cs,us,s0,l,⟨⟨a7,a2⟩,N⟩,y,t,K,M=>by
   simp only[oL]at l;split at l
   ·rename_i b O W a8;simp only[cond_eq_ite]at l;split at l
    ·rename_i C;simp only[aae]at C;obtain⟨C,B⟩:=C;have C:=aao C;have B:=aao B;simp only[←cond_eq_ite]at l;cases l;simp only[List.filterMap_cons,id,List.nodup_cons]at t;have a9:s0.bx m=some b:=by rw[y m Θ];exact W
     obtain⟨cur,et,r1,r2,r3,r4⟩:=a2;simp only[nN]at r4;have a3:=aea (s0:=s0) (new:=cs.take want.length) (want:=want) a9;have I: ∀O,s0.dW ((bif rD want then .cl m (iT 1 0 (cs.take want.length) b.cells want)else .bx m ⟨b.inst,((cs.take want.length).zip b.cells).map λ x=>(x.1,x.2.2+1)⟩)::O)=St.dW {s0 with bx:=put s0.bx m (some ⟨b.inst,sN (cs.take want.length) b want⟩)} O:=λ O=>by rw[←a3];rfl
     have a4:some m∉q:=λ h=>t.1 (List.mem_filterMap.2 ⟨some m,h,rfl⟩)
     obtain⟨Q,E⟩:=F7 hF z ps (i+1) q D.tail _ O {s0 with bx:=put s0.bx m (some ⟨b.inst,sN (cs.take want.length) b want⟩)} a8 N
      (λ n p=>by
       have:n≠m:=by rintro rfl;exact a4 p
       show put s0.bx m _ n=_;rw[bJ _ _ _ this];exact y n (by simp[p])) t.2 (λ j n d k sh G R S=>K (j+1) n d k sh (by simpa using G) (by simpa using R) S) (λ j n e=>by
      have:=M (j+1) n (by simpa using e)
      rwa [show i+(j+1)=i+1+j by omega]at this)
     refine⟨by rw[I];exact Q,λ n=> ?_⟩;obtain⟨k1,k2⟩:=E n;rw[I];refine⟨λ p=> ?_,λ p=> ?_⟩
     ·have G:n≠m:=by rintro rfl;exact p Θ
      rw[k1 (λ h=>p (by simp[h]))];show put s0.bx m _ n=_;rw[bJ _ _ _ G]
     ·by_cases Y:some n∈q
      ·exact k2 Y
      ·have G:n=m:=by
        rcases aaU.1 p with e|e
        ·cases e;rfl
        ·exact absurd e Y
       subst G;have L:(cs.take want.length).length=want.length:=by omega
       obtain⟨q1,q2,q3⟩:=M 0 n rfl;simp only[aa0]at q1 q2 q3;rw[a7]at r1 r2 r3;have b8:=r4.length;refine⟨b,⟨b.inst,sN (cs.take want.length) b want⟩,W,?_,rfl,?_,λ k c' Z A=> ?_,?_⟩
       ·rw[k1 Y];show put s0.bx n _ n=_;rw[bF]
       ·rw[qX L B,B]
       ·have U:k<want.length:=by
         rcases aaG k want.length with h|h
         ·exact h
         ·rw[aal (by rw[qX L B];exact h)]at A;cases A
        rw[GH L B U]at A;unfold afx at A;split at A
        ·rename_i hd;refine .inr ⟨K 0 n want k (want[k]).1 rfl rfl ?_,?_⟩
         ·rw[aac U,←hd]
         ·rw[aac Ω];exact A
        ·simp only[aag,aaz]at A;exact .inl ⟨(b.cells[k]' Ω).1,(b.cells[k]' Ω).2,aac Ω,A.2.symm⟩
       ·refine⟨cur,et,by rw[q1];exact r1,by rw[q1];exact q2 _ r2,λ o a5=>r3 o (by rw[q1,hF]at a5;exact a5),?_⟩;refine aC.of _ _ _ (by simp only[aaH,qX L B];omega) λ k c v A hv=> ?_;simp only[aau,aaK]at A;obtain⟨⟨c',Z⟩,A,rfl⟩:=A
        have U:k<want.length:=by
         rcases aaG k want.length with h|h
         ·exact h
         ·rw[aal (by rw[qX L B];exact h)]at A;cases A
        rw[GH L B U]at A;rw[aa2];unfold afx at A;split at A
        ·rename_i hd;obtain⟨b6,b9,f2,u,p1,p2,p3⟩:=z n b k c' Z (K 0 n want k (want[k]).1 rfl rfl (by rw[aac U,←hd])) W (by rw[aac Ω];exact A);rw[q1,r1]at p1;cases p1;rw[hv]at p2;cases p2;exact p3
        ·simp only[aag,aaz]at A;obtain⟨rfl,_⟩:=A;obtain⟨u,p1,p2⟩:=r4.get _ 0 _ k _ (aac Ω);rw[hv]at p1;cases p1;rw[aa2]at p2;exact p2.via (λ b l=>q3 b k l) hF
    ·cases l
   ·cases l
 | .val ag want::ps,i,q,D,cs,us,s0,l,N,y,t,K,M=>by
   cases q with
   |nil=>cases l
   |cons b q=>
    cases b with
    |some m=>cases l
    |none=>
     obtain⟨Q,E⟩:=F7 hF z ps (i+1) q D.tail cs us s0 l N (λ n p=>y n (by simp[p])) (by simpa using t) (λ j n d k sh G R S=>K (j+1) n d k sh (by simpa using G) (by simpa using R) S) (λ j n e=>by
      have:=M (j+1) n (by simpa using e)
      rwa [show i+(j+1)=i+1+j by omega]at this)
     exact⟨Q,λ n=>⟨λ p=>(E n).1 (λ h=>p (by simp[h])),λ p=>(E n).2 (by simpa using p)⟩⟩
 | .rptr want::ps,i,q,D,cs,us,s0,l,N,y,t,K,M=>by
   cases q with
   |nil=>cases l
   |cons b q=>
    cases b with
    |some m=>cases l
    |none=>
     obtain⟨Q,E⟩:=F7 hF z ps (i+1) q D.tail cs us s0 l N (λ n p=>y n (by simp[p])) (by simpa using t) (λ j n d k sh G R S=>K (j+1) n d k sh (by simpa using G) (by simpa using R) S) (λ j n e=>by
      have:=M (j+1) n (by simpa using e)
      rwa [show i+(j+1)=i+1+j by omega]at this)
     exact⟨Q,λ n=>⟨λ p=>(E n).1 (λ h=>p (by simp[h])),λ p=>(E n).2 (by simpa using p)⟩⟩
 | .fn f::ps,i,q,D,cs,us,s0,l,N,y,t,K,M=>by
   cases q with
   |nil=>cases l
   |cons b q=>
    cases b with
    |some m=>cases l
    |none=>
     obtain⟨Q,E⟩:=F7 hF z ps (i+1) q D.tail cs us s0 l N (λ n p=>y n (by simp[p])) (by simpa using t) (λ j n d k sh G R S=>K (j+1) n d k sh (by simpa using G) (by simpa using R) S) (λ j n e=>by
      have:=M (j+1) n (by simpa using e)
      rwa [show i+(j+1)=i+1+j by omega]at this)
     exact⟨Q,λ n=>⟨λ p=>(E n).1 (λ h=>p (by simp[h])),λ p=>(E n).2 (by simpa using p)⟩⟩
 | .clo f want::ps,i,q,D,cs,us,s0,l,N,y,t,K,M=>by
   cases q with
   |nil=>cases l
   |cons b q=>
    cases b with
    |some m=>cases l
    |none=>
     obtain⟨Q,E⟩:=F7 hF z ps (i+1) q D.tail cs us s0 l N (λ n p=>y n (by simp[p])) (by simpa using t) (λ j n d k sh G R S=>K (j+1) n d k sh (by simpa using G) (by simpa using R) S) (λ j n e=>by
      have:=M (j+1) n (by simpa using e)
      rwa [show i+(j+1)=i+1+j by omega]at this)
     exact⟨Q,λ n=>⟨λ p=>(E n).1 (λ h=>p (by simp[h])),λ p=>(E n).2 (by simpa using p)⟩⟩
 | .io want::ps,i,q,D,cs,us,s0,l,N,y,t,K,M=>by
   cases q with
   |nil=>cases l
   |cons b q=>
    cases b with
    |some m=>cases l
    |none=>
     obtain⟨Q,E⟩:=F7 hF z ps (i+1) q D.tail (cs.drop want.length) us s0 l N.2 (λ n p=>y n (by simp[p])) (by simpa using t) (λ j n d k sh G R S=>K (j+1) n d k sh (by simpa using G) (by simpa using R) S) (λ j n e=>by
      have:=M (j+1) n (by simpa using e)
      rwa [show i+(j+1)=i+1+j by omega]at this)
     exact⟨Q,λ n=>⟨λ p=>(E n).1 (λ h=>p (by simp[h])),λ p=>(E n).2 (by simpa using p)⟩⟩
theorem Rel.aiT (h:Rel E C s a w g) {N:Nat->Prop} {Kp:Nat->Nat->Prop} (f:Fr (λ o=>(∀i,o≠ .hand i)/\ ∀n,N n->o≠ .box n) w w' g g') (hb:Base C.w0 C.F0 C.X w' g') (z:g'.at_=g.at_) (O:s'.tm=s.tm)
 (S: ∀(n i:Nat) (u:Value),N n->Kp n i->(aB a w g (.box n))[i]? =some u->(aB a w' g' (.box n))[i]? =some u)
 (A: ∀n,(¬N n->s'.bx n=s.bx n)/\(N n-> ∃b D,s.bx n=some b/\s'.bx n=some D/\D.inst=b.inst/\D.cells.length=b.cells.length/\
  (∀(i:Nat) (c':CV) (v':Nat),D.cells[i]? =some (c',v')->(∃(c:CV) (v:Nat),b.cells[i]? =some (c,v)/\v'=v+1)\/(Kp n i/\b.cells[i]? =some (c',v')))/\Fa w' g' n D)):Rel E C s' a w' g':=by
 refine h.gen f hb (λ r=> ?_) rfl rfl (λ n=> .inl ⟨λ i=>⟨λ j=>Θ,λ m _=>Θ⟩,by rw[O],rfl⟩) (λ n b hn=> ?_)
 ·cases r with
  |tmp n=>exact Fe.same (by simp only[rP,O]) (by simp only[aA,O]) (λ k e=>by cases e) (λ _=>rfl) (λ p es l d t b len k hv=>h.xA f ⟨λ i=>jF _ _ _,λ m _=>by rw[d];simp[dO]⟩ t (by rw[d];exact hv))
  |box n=>
   by_cases G:N n
   ·obtain⟨b,D,I,Q,U,h4,h5,h6⟩:=(A n).2 G
    have K: ∀(p:Pl) (m:Nat) q,p.root= .box n->Old s p->aV s' p m=some q-> ∀i,i<p.vers.length->Kp n (p.cell+i)/\b.cells[p.cell+i]? =D.cells[p.cell+i]? :=by
     intro p m q d y t i hi;rw[bM]at t;obtain⟨cells,e,q1,q2,q3⟩:=t;rw[d]at e;simp only[aA,Q,aag,aaz]at e;obtain⟨e1,rfl⟩:=e;have L:p.vers[i]? =some (p.vers[i]'hi):=aac hi;have:=q2 i _ L;simp only[aaK]at this;obtain⟨⟨c',v'⟩,M,R⟩:=this;rcases h5 _ _ _ M with⟨c0,v0,k3,k4⟩|⟨k3,k4⟩
     ·have:=y.vers n b d I (by rw[←e1,U]) i _ c0 v0 L k3;simp only at R;omega
     ·exact⟨k3,k4.trans M.symm⟩
    have pl: ∀(p:Pl) (m:Nat) q,p.root= .box n->Old s p->p.vers.length=m->aV s' p m=some q->aV s p m=some q:=by
     intro p m q d y hv t;have B:=K p m q d y t;rw[bM]at t ⊢;obtain⟨cells,e,q1,q2,q3⟩:=t;rw[d]at e ⊢;simp only[aA,Q,aag,aaz]at e;obtain⟨e1,rfl⟩:=e;refine⟨b.cells,by simp only[aA,I];rw[←e1,U],Ω,λ i x L=> ?_,?_⟩
     ·have hi:i<p.vers.length:=by
       rcases aaG i p.vers.length with h|h
       ·exact h
       ·simp[aal h]at L
      rw[(B i hi).2];exact q2 i x L
     ·rw[q3];congr 1;apply aaZ;intro i;simp only[aan,aas];split
      ·exact(B i Ω).2.symm
      ·rfl
    refine⟨λ p d y=>⟨?_,λ k b1 e M R i x c v L hv=> ?_⟩,λ p m q d y hv t=>⟨q,pl p m q d y hv t,rfl,?_⟩,λ k b1 p e M d y R=> ?_,λ p es l d y hv t=>⟨l,pl p 1 _ d y hv t,λ b0 len k a8=> ?_⟩⟩
    ·have:=y.inst;rw[d]at this ⊢;simp only[rP,I,Q]at this ⊢;omega
    ·rw[d]at e;cases e;rw[Q]at M;cases M;rcases h5 _ _ _ hv with⟨c0,v0,q1,q2⟩|⟨_,q1⟩
     ·have:=y.vers n b d I (by rw[R,U]) i x c0 v0 L q1;omega
     ·exact y.vers n b d I (by rw[R,U]) i x c v L q1
    ·have B:=K p m q d y t;have W:=pl p m q d y hv t;rw[bM]at W;obtain⟨cells,e,q1,_,_⟩:=W;rw[d]at e;simp only[aA,I,aag,aaz]at e;obtain⟨_,rfl⟩:=e;obtain⟨cur,et,r1,_,_,r4⟩:=h.bx n b I
     have c1:(aB a w g (.box n)).length=b.cells.length:=by
      have:=r4.length;simp only[aB,r1];simpa using this
     apply aaZ;intro i;simp only[aan,aas];split
     ·have Y:p.cell+i<(aB a w g (.box n)).length:=by omega
      have:=S n (p.cell+i) _ G (B i Ω).1 (aac Y);rw[this,aac Y]
     ·rfl
    ·cases e;rw[Q]at M;cases M;exact⟨b,I,by rw[←U];exact R,by rw[z]⟩
    ·exact h.xA f ⟨λ i=>jF _ _ _,λ m _=>by rw[d];simp[dO]⟩ (pl p 1 _ d y hv t) (by rw[d];exact a8)
   ·have hs:=(A n).1 G;refine Fe.same (by simp only[rP,hs]) (by simp only[aA,hs]) (λ k e=>by cases e;exact⟨hs,λ _=>by rw[z]⟩) (λ a9=> ?_) (λ p es l d t b len k hv=>h.xA f ⟨λ i=>jF _ _ _,λ m Z=>by rw[d];simp[dO]⟩ t (by rw[d];exact hv));exact h.KE f ⟨λ i=>Θ,λ m Z=>by rintro e;cases e;exact G Z⟩ (by rw[z]) a9
 ·by_cases G:N n
  ·obtain⟨b0,D,_,Q,_,_,_,h6⟩:=(A n).2 G;rw[Q]at hn;cases hn;exact .inr h6
  ·rw[(A n).1 G]at hn;exact .inl ⟨hn,λ i=>⟨λ j=>Θ,λ m Z=>Θ⟩,⟨λ j=>Θ,λ m Z=>by rintro e;cases e;exact G Z⟩,by rw[z]⟩
theorem yU.boxes: ∀{ps:List PK} {f:List (Option Nat)} {i:LV} {d:List (LV)},yU w g ps f i d-> ∀n,some n∈f->g.own (g.at_ n)=some (.box n)
 | [],[],[],[],_,n,e=>by cases e
 |p::ps,b::f,v::i,sg::d,⟨k,_,l⟩,n,e=>by
  rcases aaU.1 e with rfl|e
  ·cases p with
   |ptr want=>exact k.2.1
   |_=>exact k.elim
  ·exact yU.boxes l n e
theorem U1 {g2:Gh}: ∀(ps:List PK) (i:Nat) (k:List Operand) (m:LV) (cs:LC),m=k.map a.eval->adW w' g g2 ps i m cs-> ∀x d,(x,d)∈Yt ps k cs-> ∃j,Fg w' g2 (.tm j) 0 false d (a.eval x)
 | [],_,k,_,_,_,_,x,d,l=>by cases k<;>simp[Yt]at l
 |p::_,_,[],_,_,_,_,x,d,l=>by cases p<;>simp[Yt]at l
 | .val ag want::ps,i,y::k,m,cs,e,q,x,d,l=>U1 ps (i+1) k m.tail cs (by rw[e];rfl) q x d l
 | .rptr want::ps,i,y::k,m,cs,e,q,x,d,l=>U1 ps (i+1) k m.tail cs (by rw[e];rfl) q x d l
 | .fn f::ps,i,y::k,m,cs,e,q,x,d,l=>U1 ps (i+1) k m.tail cs (by rw[e];rfl) q x d l
 | .clo f _::ps,i,y::k,m,cs,e,q,x,d,l=>U1 ps (i+1) k m.tail cs (by rw[e];rfl) q x d l
 | .ptr want::ps,i,y::k,m,cs,e,q,x,d,l=>U1 ps (i+1) k m.tail _ (by rw[e];rfl) q.2 x d l
 | .io want::ps,i,y::k,m,cs,e,q,x,d,l=>by
   obtain⟨⟨v,hv,u⟩,q⟩:=q;simp only[Yt]at l;rcases aaU.1 l with t|t
   ·simp only[aaz]at t;obtain⟨rfl,rfl⟩:=t;rw[e]at hv;simp only[abo,List.head?_cons,aag]at hv;subst hv;exact⟨i,u⟩
   ·exact U1 ps (i+1) k m.tail _ (by rw[e];rfl) q x d t
theorem pre_eq {m l:List Int} (h:pre m l=true):l.take m.length=m:=of_decide_eq_true h
theorem aiP {m l:List Int} (h:pre m l=true):m.length<=l.length:=by
 have:=congrArg List.length (pre_eq h);simp only[aaE]at this;omega
theorem KH.ahead {α:Type} {n:Nat} {R:α->LV->Prop} {L:List α->LV->Prop} (h:KH n R L) {x m:List α} {cs:LV} (d:m.length<=x.length) (e:x.take m.length=m) (f:L x (cs.take (x.length*n))):L m (cs.take (m.length*n)):=by
 have:=h.take x _ m.length f
 rwa [e,ab2,abP (aaA _ d)]at this
theorem wZ.ahead {ow:aF} {c q:CV} {b l k:Nat} (f:c.sh=q.sh) (d:adG c q=true) (h:wZ w g ow false c.sh c.x (.slice (some ⟨b,0,none⟩) l k)):wZ w g ow false q.sh q.x (.slice (some ⟨b,0,none⟩) (aP q.sh q.x) k):=by
 unfold adG at d;split at d
 ·rename_i t t1 i u D p;obtain rfl:t=u:=by simpa using f
  have e:=aiP (m:=p) (l:=i) d;have d:=pre_eq (m:=p) (l:=i) d;rcases h with⟨hv,_⟩|⟨E,G,cur,v,hv,y,z,A,B,hs,C,hF⟩
  ·cases hv
  ·cases hv;refine .inr ⟨b,k,cur,v,rfl,aaP e y,z,A,B,hs,?_,λ o=>by simpa using hF o⟩;exact(jW (w:=w) (F:=g.F) [.int t]).ahead (x:=i) (m:=p) e d C
 ·cases d
theorem ag3 (h:Rel E C s a w g) {p:Pl} {sh:Sh} {l:List (Option (ElA [sh]))} {i:Nat} {d:Nat} (hd:N9 s p=some (⟨.dl [sh],.own,l⟩,i,0)) (a0:sh.qK=true) {y:El sh} {v:Value} (G:wZ w g (.hand 0) false sh y v)
 (a1:isAgg v=false) {mk:Nat->aF} (hv:TV s a w g mk (.rowr p false 1) v) {us:List Upd} (hu:jT s p [⟨.dl [sh],.own,List.set l i (some y)⟩] false=some us):
 ∃Y:Gh,Rel E C (s.dW us) a w Y/\Y.F=g.F/\Y.at_=g.at_/\ ∀k b,g.own b=some (.tm d k)->Y.own b=some (.tm d k):=by
 obtain⟨M,es,l0,e0,Z⟩:=zi hd;cases e0;obtain⟨_,_,i',j',m,N⟩:=hv;rw[M]at m;cases m;obtain⟨b,len,k,cur,et,f,m1,m2,m3,b2,I⟩:=N [sh] l Z
 have hi:i<l.length:=by
  obtain⟨u,q1,q2,_⟩:=qC h Z;rw[m1]at q1;cases q1;simp only[jZ,Sh.qR,if_true]at q2;rcases q2 with⟨e,_⟩|⟨_,_,_,_,e,_⟩
  ·cases e
  ·simp only[Value.slice.injEq]at e;obtain⟨_,e,_⟩:=e;rw[e]at m2;exact m2
 obtain⟨b1,k1,b3,c0,e1,e2,a3,hk,K,t,O,Q,hF,R⟩:=h.KZ Z hi;rw[m1]at e1;cases e1;rw[t]at m3;cases m3;simp only[aaY,abX,aa0]at I O Q;rw[aH a1]at I
 have a4:(cur.toList.take l.length)[i]? =some v:=by
  rw[aan,if_pos hi];have:=congrArg (λ l=>l[0]?) I;simp only[aan,aas,aa0]at this;simpa using this.symm
 let ρ:aF->aF:=λ o=>if o= .hand 0 then dO p.root p.cell else o
 have S: ∀o,o≠ .hand 0->ρ o=o:=λ o K=>by simp only[ρ,if_neg K]
 have U:ρ (.hand 0)=dO p.root p.cell:=by simp only[ρ,if_pos rfl]
 have B:dO p.root p.cell≠ .hand 0:=jF _ _ _;have A: ∀z ow,g.own z=some ow->ow≠ .hand 0->(g.ren ρ).own z=some ow:=λ z ow e hn=>by simp only[Gh.ren,e,aaL,S ow hn]
 have W:(cur.toList.take l.length).set i v=cur.toList.take l.length:=by
  apply aaZ;intro q;rw[aaR];split
  ·rename_i L;subst L;split
   ·exact a4.symm
   ·rename_i hn;rw[aal Ω]
  ·rfl
 refine⟨g.ren ρ,?_,rfl,rfl,λ k b e=>A b _ e Θ⟩;refine kK h (ds:=[⟨.dl [sh],.own,List.set l i (some y)⟩]) Z hu rfl (Fr.ren w g λ o K=>S o (K.2 0)) (h.base.ren ρ) rfl ?_ (λ q c3 l' L=> ?_)
 ·show aC w (g.ren ρ) _ _ _ (((aB a w g p.root).drop p.cell).take 1);rw[e2];refine⟨_,[],rfl,?_,rfl⟩;simp only[jZ,Sh.qR,if_true];have D:(List.set l i (some y)).length=l.length:=aa7;refine .inr ⟨b,k,cur,et,by simp only[aP];rw[D],by simp only[aP];rw[D];exact a3,hk,A b _ K B,t,by simpa [Sh.n]using O,⟨⟨rfl,by simp only[aP,Sh.n];rw[D];exact R⟩,?_⟩,λ o=>⟨λ hf=>(hF o hf).elim,λ hf=>by cases hf.1⟩⟩;simp only[aP,Sh.n,aaY,abX];rw[D]
  have:=Q.set1 (w':=w) (g':=g.ren ρ) a0 hi G B (λ e=>by have:=G.nC e;rw[K]at this;exact B (aak this)) (Keeps.refl _ _)
   (λ z hz=>⟨by simp only[Gh.ren,G.nC hz,aaL,U],rfl,λ _=>ab7⟩) (λ z _ hz=>⟨A z _ hz B,rfl,λ _=>ab7⟩)
  rwa [W]at this
 ·have a7:q=0:=by
   rcases ab5 q with h|h
   ·exact h
   ·rw[aal Δ]at L;cases L
  subst a7;simp only[aaO,aag]at L;cases L;exact⟨l,rfl,λ _ _ _ _=>rfl⟩
theorem ae2 {g2:Gh} {d:Nat} {l:List (Operand×LC)} {vs:List Upd} (f:(XU E s d l).run=some vs) (hl: ∀x a2,(x,a2)∈l-> ∃j,Fg w' g2 (.tm j) 0 false a2 (a.eval x)):
 ∃io:Option (Nat×aF),∀gF:Gh,gF.F=g2.F->gF.at_=g.at_->Rel E C s a w' gF->(∀j ow,io=some (j,ow)-> ∀b,g2.own b=some (.tm j 0)->gF.own b=some ow)->
  ∃I:Gh,Rel E C (s.dW vs) a w' I/\I.F=gF.F/\I.at_=gF.at_/\ ∀k b,gF.own b=some (.tm d k)->I.own b=some (.tm d k):=by
 unfold XU at f;split at f
 ·obtain rfl:=au f;exact⟨none,λ gF _ _ h _=>⟨gF,h,rfl,rfl,λ _ _ e=>e⟩⟩
 ·rename_i x c;obtain⟨j,Q,a3⟩:=hl x [c] Θ
  have via: ∀{gF:Gh} {mk:Nat->aF} {k:Nat},gF.F=g2.F->(∀b,g2.own b=some (.tm j 0)->gF.own b=some (mk k))->aC w' gF mk k [c] (a.eval x).cells.toList:=λ hF G=>
   a3.via hF λ i b hi e=>by
    obtain rfl:i=0:=by simpa using hi
    exact G b (by simpa using e)
  have a4: ∀(i:Nat) (es:List Sh) (l':List (Option (ElA es))),c.sh.qK=true->[c][i]? ≠some (⟨.dl es,.own,l'⟩:CV):=by
   intro i es l' z e;have:=aai e;rw[←aah.1 this]at z;simp[Sh.qK]at z
  unfold Vu at f;split at f
  ·obtain rfl:=au f;exact⟨none,λ gF _ _ h _=>⟨gF,h,rfl,rfl,λ _ _ e=>e⟩⟩
  ·rename_i q W;split at f
   ·rename_i n;obtain⟨t,f⟩:=bf f;obtain rfl:=au f
    ·simp only[aae]at t;obtain⟨A,z⟩:=t;have A:=aY8 A;have K:(s.tm n).1= .val false [q]:=W;refine⟨some (j,.tm n 0),λ gF hF _ h G=>⟨gF,?_,rfl,rfl,λ _ _ e=>e⟩⟩;refine h.LW (Fr.refl _ _ _) h.base rfl (λ d2 d3 e=> ?_) ⟨Q,via hF (G j _ rfl)⟩;cases e;exact⟨false,[q],K,by simp[A],λ i es l' hi=>absurd hi (a4 i es l' z)⟩
   ·exact(aj f).elim
  ·rename_i p W;split at f
   ·rename_i q a5 hc;obtain⟨t,f⟩:=bf f;have f:=GU f
    ·simp only[aae]at t;obtain⟨A,z⟩:=t;have A:=aY8 A;refine⟨some (j,dO p.root p.cell),λ gF hF _ h G=>⟨gF,?_,rfl,rfl,λ _ _ e=>e⟩⟩;obtain⟨_,_,_,hv⟩:=aJ h W Θ;obtain⟨_,Y⟩:=hv _ hc;refine kK h (ds:=[c]) hc f (by simp[A]) (Fr.refl _ _ _) h.base rfl ?_ (Dh.of λ d hd _=> .inl (by rw[aah.1 hd];exact z));show aC w' gF (dO p.root) p.cell [c] (((aB a w' gF p.root).drop p.cell).take 1);rw[←Y];exact via hF (G j _ rfl)
   ·exact(aj f).elim
  ·rename_i p W;split at f
   ·rename_i sh l i jj hd;have t:=(bf f).1
    replace f:=(bf f).2
    simp only[aae]at t;obtain⟨⟨hj,z⟩,B⟩:=t;obtain rfl:=aao hj;have B:c.tg= .own:=by unfold Tg.G9 at B;split at B<;>simp_all
    split at f
    ·rename_i y hy;have hu:=GU f;obtain⟨e,rfl⟩:=lg hy;obtain⟨d6,ct,cx⟩:=c;simp only at e B;subst e B;refine⟨some (j,.hand 0),λ gF hF _ h G=> ?_⟩;have k1:=via (gF:=gF) (mk:=λ _=> .hand 0) (k:=0) hF (G j _ rfl);rw[aH Q]at k1;obtain⟨v,ws,ev,D,_⟩:=k1;obtain rfl:a.eval x=v:=by simpa using(abJ ev).1
     unfold jZ at D;simp only[if_pos (gu z)]at D;exact ag3 h hd z ((qg z).1 D) Q (aJ h W Θ) hu
    ·exact(aj f).elim
   ·exact(aj f).elim
  ·rename_i p q c0 W;split at f
   ·rename_i n e a5 hc;obtain⟨t,f⟩:=bf f;simp only[aae,abw]at t;obtain⟨⟨⟨L,A⟩,B⟩,R⟩:=t;have L:=aY8 L;have A:=aY8 A;have B:c.tg= .own:=by unfold Tg.G9 at B;split at B<;>simp_all
    have R:n≠d:=λ e=>by rw[e,acG]at R;cases R
    split at f
    ·rename_i us hu;obtain⟨b6,f⟩:=lH f;obtain rfl:=au f;have K:(s.tm n).1= .ext p q c0:=W
     have M: ∀m,p.root= .tmp m->m≠n:=by
      rintro m hm rfl;obtain⟨cells,S,_⟩:=bM.1 hc;rw[hm]at S;simp only[aA]at S;have e1:s.tm m=(.ext p q c0,(s.tm m).2):=by rw[←K]
      rw[e1]at S;cases S
     have a8:s.dW [.keep n .dead]= {s with tm:=put s.tm n (.dead,(s.tm n).2)}:=rfl
     have b8:jT (s.dW [.keep n .dead]) p [q] false=some us:=by
      rw[←hu,a8];unfold jT
      cases hr:p.root with
      |box m=>rfl
      |tmp m=>simp only[];rw[bJ _ _ _ (M m hr)]
     have c1:aV (s.dW [.keep n .dead]) p 1=some [e]:=by
      rw[←hc,a8];unfold aV
      cases hr:p.root with
      |box m=>rfl
      |tmp m=>simp only[aA];rw[bJ _ _ _ (M m hr)]
     have fin: ∀{I:Gh} {u:Value},Rel E C (s.dW [.keep n .dead]) a w' I->(aB a w' I p.root)[p.cell]? =some u->q.sh.qK=true->q.tg= .own->wZ w' I (dO p.root p.cell) false q.sh q.x u->Rel E C (s.dW (.keep n .dead::us)) a w' I:=by
      intro I u r hv z c2 G;refine kK r (ds:=[q]) c1 b8 (by simp[L]) (Fr.refl _ _ _) r.base rfl ?_ (Dh.of λ d hd _=> .inl (by rw[aah.1 hd];exact z));refine⟨u,[],?_,?_,rfl⟩
      ·have:p.cell<(aB a w' I p.root).length:=by
        rcases aaG p.cell (aB a w' I p.root).length with h|h
        ·exact h
        ·simp[aal h]at hv
       rw[aaI this];rw[aac this]at hv;simp[aak hv]
      ·unfold jZ;simp only[c2,if_pos (gu z)];exact(qg z).2 G
     by_cases N: ∃b k l,(aB a w' g p.root)[p.cell]? =some (.slice (some ⟨b,0,none⟩) (aP q.sh q.x) k)/\a.eval (.tmp n)= .slice (some ⟨b,0,none⟩) l k
     ·obtain⟨b,k,l,c3,c4⟩:=N;refine⟨some (j,dO p.root p.cell),λ gF hF Z h G=>⟨gF,?_,rfl,rfl,λ _ _ e=>e⟩⟩;have ht:=h.tm n;rw[K]at ht;obtain⟨_,_,_,_,_,h5,h6,h7,h8⟩:=ht;have z:=Qb h5;have r1:Rel E C (s.dW [.keep n .dead]) a w' gF:=h.LW (Fr.refl _ _ _) h.base rfl (λ _ _ e=>by cases e) trivial
      have a0:aB a w' gF p.root=aB a w' g p.root:=by
       cases p.root with
       |tmp m=>rfl
       |box m=>simp only[aB,Z]
      refine fin r1 (by rw[a0];exact c3) z h6 ?_;have k1:=via (gF:=gF) (mk:=λ _=>dO p.root p.cell) (k:=0) hF (G j _ rfl);rw[aH Q]at k1;obtain⟨v,ws,ev,D,_⟩:=k1;obtain rfl:a.eval (.tmp n)=v:=by simpa using(abJ ev).1
      have U:c.sh.qK=true:=by rw[A];exact z
      unfold jZ at D;simp only[B,if_pos (gu U)]at D;have D:=(qg U).1 D;rw[c4]at D;exact D.ahead A b6
     ·refine⟨none,λ gF hF Z h G=> ?_⟩;have ht:=h.tm n;rw[K]at ht;obtain⟨_,_,_,_,_,h5,h6,h7,h8⟩:=ht;have z:=Qb h5;obtain⟨u,b0,O⟩:=h8 e hc
      have a0:aB a w' gF p.root=aB a w' g p.root:=by
       cases p.root with
       |tmp m=>rfl
       |box m=>simp only[aB,Z]
      have O:wZ w' gF (.tm n 1) false q.sh q.x u:=by
       rcases O with⟨b,k,l,e1,e2⟩|O
       ·exact absurd ⟨b,k,l,by rw[←a0,b0,e1],e2⟩ N
       ·exact O
      let ρ:aF->aF:=λ o=>if o= .tm n 1 then dO p.root p.cell else o
      have b1: ∀o,o≠ .tm n 1->ρ o=o:=λ o G=>by simp only[ρ,if_neg G]
      have b2:ρ (.tm n 1)=dO p.root p.cell:=by simp only[ρ,if_pos rfl]
      have r1:Rel E C (s.dW [.keep n .dead]) a w' (gF.ren ρ):=h.LW (Fr.ren w' gF λ o G=>b1 o (G.1 1)) (h.base.ren ρ) rfl (λ _ _ e=>by cases e) trivial;refine⟨gF.ren ρ,fin r1 (u:=u) ?_ z h6 ?_,rfl,rfl,λ k b e=> ?_⟩
      ·rw[←b0];cases p.root<;>rfl
      ·have:=O.ren (ρ:=ρ)
       rwa [b2]at this
      ·simp only[Gh.ren,e,aaL];rw[b1 _ (by simp only[ne_eq,aF.tm.injEq,not_and];exact λ e=>absurd e.symm R)]
    ·exact(aj f).elim
   ·exact(aj f).elim
  ·exact(aj f).elim
 ·exact(aj f).elim
def Zl (io:Option (Nat×aF)) (i k:Nat):Option aF:=match io with|some (j,ow)=>if i=j/\k=0 then some ow else none|none=>none
open Classical in
noncomputable def behind (w:World) (g g0 g2:Gh) (e:List (Option Nat)) (d:Nat) (io:Option (Nat×aF)):Gh:=
 ⟨g.at_,λ b=>if(∃ow,g0.own b=some ow)\/w.heap.size<=b then(match g2.own b with
  |some (.hand k)=>some (.tm d k)
  |some (.cell i j)=>(UK e i).map λ n=> .cell n j
  |some (.box i)=>(UK e i).map .box
  |some (.tm i k)=>Zl io i k
  |_=>none)else g.own b,g2.F⟩
theorem OM {i:Nat} (hG:Good P E.glob (E.sig i) (E.call i)) (h:Rel E C s a w g) {cl:Call} {fo:Operand} (ho:o.op= .call cl) (S:cl.callee= .value fo) (hf:a.eval fo= .func (.func (E.sig i).fn) #[] #[])
 (c9:(E.sig i).scalar=false) {d:Nat} (b5:o.dst=some d) (hd:DOk E d) {us:List Upd} (G:(N8 E s d cl.args.toList [] i).run=some us):
 o.wp P a w (λ a' w'=> ∃g',Rel E C (s.dW us) a' w' g') Q:=by
 unfold N8 at G;rw[c9]at G;simp only[cond_false,noT,abm]at G;obtain⟨⟨cs,U,K⟩,hl,G⟩:=aS G;simp only[]at G;split at G
 ·exact(aj G).elim
 ·rename_i x W;obtain⟨r,hr,G⟩:=zY G;split at G
  ·exact(aj G).elim
  ·rename_i b6 a3;obtain⟨vs,b7,G⟩:=aS G;obtain rfl:=au G;obtain⟨e8,g5,ds,I,d1,e1,L,e3,p,R,a1,g7,g8,b8,b9,c0,a4⟩:=OY _ _ [] s g [] [] [] cs U K h rfl Θ hl;simp only[abU]at e1 L e3 R;subst e1 L e3;obtain⟨d2,a5⟩:=hG x r hr;have c1:=W9 (PI b9) W
   have d3: ∀n,some n∈K-> ∀o,¬I.F (I.at_ n) o:=λ n hn o=>by
    obtain⟨b,A⟩:=acF.1 (a4 n hn);obtain⟨_,_,_,_,h3,_⟩:=p.bx n b A;exact h3 o
   let g0:=callee (E.sig i).params K I
   have f1:=b8.boxes
   have hE:Fb w g0 (E.sig i).params 0 (retag (E.sig i).ins (cellsOf _ x)) (cl.args.toList.map a.eval):=by
    rw[c1];refine Y7 (g:=I) (g0:=g0) rfl _ 0 0 K cs _ d1 (λ b k' e=> ?_) (λ j n e=> ?_) R b9 b8
    ·rw[aa2]at e;simp only[g0,callee,e]
    ·have hm:some n∈K:=aai e;refine⟨?_,λ L=> ?_,d3 n hm⟩
     ·simp only[g0,callee,aa2,KL.2 e]
     ·simp only[g0,callee,L,Rz c0 e,aaL]
   have a6:Rj E.glob w g0:=λ gl cs hg=>by
    obtain⟨k1,vs,k2,k3⟩:=p.glob gl cs hg;exact⟨k1,vs,k2,aC.vY (g':=g0) (show Keeps w w I.F I.F from Keeps.refl _ _) cs 0 0 vs k1 k3⟩
   have y: ∀b ow,g0.own b=some ow-> ∃ow',I.own b=some ow'/\((∃k,ow'= .hand k)\/ ∃n,some n∈K/\ow'= .box n):=by
    intro b ow e;simp only[g0,callee]at e;split at e
    ·rename_i k hk;exact⟨_,hk,.inl ⟨k,rfl⟩⟩
    ·rename_i n hn;obtain⟨q,hq,_⟩:=aaK.1 e;exact⟨_,hn,.inr ⟨n,OL hq,rfl⟩⟩
    ·cases e
   have hC:=a5 w g0 _ hE a6 (λ b ow e=>by
    obtain⟨ow',Z,_⟩:=y b ow e;exact(p.base.own b ow' Z).2) (λ b o e=>(p.base.fz b o e).2) (λ b ow cs t f e S=>by
    obtain⟨ow',Z,_⟩:=y b ow e;exact p.base.frz b ow' cs t f Z S)
   have a7:(cl.args.toList.map a.eval).toArray=cl.args.map a.eval++ #[]:=by apply abu.1;simp
   rw[a7]at hC;unfold Oper.wp;rw[RS ho S hf d2,Oper.upon_enter];refine hC.mono λ e w' hR=> ?_;obtain⟨v,g2,rfl,A,c5,a0,d4⟩:=hR;obtain⟨io,d5⟩:=ae2 (C:=C) (a:=a) (w':=w') (g:=I) (g2:=g2) b7 (U1 (g:=g0) _ 0 _ _ _ rfl a0)
   let gF:=behind w I g0 g2 K d io
   have Y: ∀b,b<w.heap.size->(¬ ∃ow,g0.own b=some ow)->gF.own b=I.own b/\w'.heap[b]? =w.heap[b]? /\ ∀o,gF.F b o->I.F b o:=by
    intro b B D;refine⟨?_,A.blk b B D,λ o a8=> ?_⟩
    ·simp only[gF,behind];rw[if_neg (λ R=>R.elim (λ h=>D h) (λ h=>Ω))]
    ·rcases(A.fz b o a8).1 with h|h|h
     ·exact h
     ·exact absurd h D
     ·omega
   have z: ∀b ow,g2.own b=some ow->gF.own b=(match ow with
    | .hand k=>some (.tm d k)
    | .cell i j=>(UK K i).map λ n=> .cell n j
    | .box i=>(UK K i).map .box
    | .tm i k=>Zl io i k):=by
    intro b ow e;have:=(A.own b ow e).1;simp only[gF,behind];rw[if_pos this,e];cases ow<;>rfl
   have c6:Fr (λ o=>(∀i,o≠ .hand i)/\ ∀n,some n∈K->o≠ .box n) w w' I gF:=⟨A.keeps,λ b ow k e=>by
    have D: ¬ ∃ow,g0.own b=some ow:=by
     rintro⟨M,L⟩;obtain⟨ow',Z,d6⟩:=y b M L;rw[e]at Z;cases Z;rcases d6 with⟨k',rfl⟩|⟨n,hn,rfl⟩
     ·exact k.1 k' rfl
     ·exact k.2 n hn rfl
    obtain⟨q1,q2,q3⟩:=Y b (p.base.own b ow e).2 D;exact⟨q1.trans e,q2,q3⟩⟩
   have hX: ∀b,(∃ow,g0.own b=some ow)->(C.X b\/C.w0.heap.size<=b)/\b<w.heap.size:=by
    rintro b ⟨ow,e⟩;obtain⟨ow',Z,_⟩:=y b ow e;exact p.base.own b ow' Z
   have a9:Base C.w0 C.F0 C.X w' gF:=⟨A.os.trans p.base.os,A.tape.trans p.base.tape,A.output.trans p.base.output,aaP p.base.size A.size,λ b B D=>by
    have b0:=abp B p.base.size;rw[A.blk b b0 (λ b1=>(hX b b1).1.elim (λ h=>D h) (λ h=>Ω))];exact p.base.blk b B D,λ b ow e=>by
    by_cases l:(∃ow,g0.own b=some ow)\/w.heap.size<=b
    ·simp only[gF,behind]at e;rw[if_pos l]at e
     have b0:b<w'.heap.size:=by
      cases h2:g2.own b with
      |none=>rw[h2]at e;cases e
      |some M=>exact(A.own b M h2).2
     refine⟨?_,b0⟩;rcases l with l|l
     ·exact(hX b l).1
     ·exact .inr (aaP p.base.size l)
    ·simp only[gF,behind]at e;rw[if_neg l]at e;obtain⟨q1,q2⟩:=p.base.own b ow e;exact⟨q1,abp q2 A.size⟩,
    p.base.keeps.trans A.keeps,λ b o a8=>by
     obtain⟨q1,q2⟩:=A.fz b o a8;refine⟨?_,q2⟩;rcases q1 with q1|q1|q1
     ·exact(p.base.fz b o q1).1
     ·exact .inr (hX b q1).1
     ·exact .inr (.inr (aaP p.base.size q1)),λ b ow cs t f W S=>by
     by_cases l:(∃ow,g0.own b=some ow)\/w.heap.size<=b
     ·simp only[gF,behind]at W;rw[if_pos l]at W
      cases h2:g2.own b with
      |none=>rw[h2]at W;cases W
      |some M=>exact A.frz b M cs t f h2 S
     ·simp only[gF,behind]at W;rw[if_neg l]at W;rw[A.blk b Ω (λ b1=>l (.inl b1))]at S;exact p.base.frz b ow cs t f W S⟩
   let Kp:Nat->Nat->Prop:=λ n k=> ∃(j:Nat) (want:List (Sh×Tg)) (sh:Sh),K[j]? =some (some n)/\(E.sig i).params[j]? =some (.ptr want)/\want[k]? =some (sh,.dead)
   have O: ∀n k u,Kp n k->V9 w I n k=some u->V9 w' gF n k=some u:=by
    rintro n k u ⟨j,want,sh,k1,k2,k3⟩ hu;have a2:g0.at_ j=I.at_ n:=by simp only[g0,callee,KL.2 k1]
    have:=d4 j want k sh u k2 k3 (by simp only[V9,a2];exact hu);simp only[V9,a2]at this;exact this
   obtain⟨t1,t2⟩:=F7 (s:=s.dW U) (gF:=gF) (g2:=g2) (g:=g0) rfl (Kp:=Kp) (λ n b k c v hK d9 S=>by
    obtain⟨cur,et,q1,q2,q3,q4⟩:=p.bx n b d9;obtain⟨u,p1,p2⟩:=q4.get _ 0 _ k c (by rw[aau,S];rfl);rw[aa2]at p2;have:=O n k u hK (by simp only[V9,q1];exact p1);simp only[V9]at this;split at this
    ·rename_i c8 e0 f' R;exact⟨c8,e0,f',u,R,this,p2.fr c6 ⟨λ i=>Θ,λ m _=>Θ⟩⟩
    ·cases this) (E.sig i).params 0 K _ _ b6 (s.dW U) a3 a0 (λ _ _=>rfl) c0 (λ j n want k sh k1 k2 k3=>⟨j,want,sh,k1,k2,k3⟩) (λ j n e=>by
    have B:=KL.2 e;refine⟨?_,λ b L=> ?_,λ b k L=> ?_⟩
    ·simp only[gF,behind,g0,callee,aa2,B]
    ·rw[z b _ L];simp only[aa2,B,aaL]
    ·rw[z b _ L];simp only[aa2,B,aaL])
   have r2:Rel E C ((s.dW U).dW b6) a w' gF:=p.aiT (N:=λ n=>some n∈K) (Kp:=Kp) c6 a9 rfl t1 (λ n k u _ hK hu=>by
    have e4:V9 w I n k=some u:=by
     simp only[aB]at hu;simp only[V9];split at hu
     ·rename_i R;simp only[R];exact hu
     ·simp at hu
    have:=O n k u hK e4;simp only[V9]at this;simp only[aB];split at this
    ·rename_i R;simp only[R];exact this
    ·cases this) t2
   have b2:adX w' gF (.tm d) (resT (E.sig i).res (retag (E.sig i).outs (cellsOf ((E.sig i).outs.map (·.1)) r))).1 v:=
    adX.via (g:=g2) (g':=gF) (mk:= .hand) rfl (λ j b e=>by rw[z b _ e]) c5
   obtain⟨gG,r3,e5,_,e6⟩:=d5 gF rfl rfl r2 λ j ow e b L=>by
    rw[z b _ L];simp[Zl,e]
   refine⟨gG,?_⟩;rw[b5,eP,eP,eP];exact r3.VL hd (Fr.refl _ _ _) r3.base rfl (WZ (b2.via (g:=gF) (g':=gG) e5 λ k b e=>e6 k b e))
def Ri (P:Program) (E:Env):Prop:=yu P E.ty/\ ∀i,Good P E.glob (E.sig i) (E.call i)
theorem agR (u:Ri P E) {cl:Call} {v:Operand} (p:o.op= .call cl) (q:cl.callee= .value v):sF P E C o:=by
 intro s a w g us d Q h e y i;simp only[plan,p,e,q]at i;split at i
 ·rename_i f A;obtain⟨m,i⟩:=bf i;have m:=aao m;have hv:a.eval v= .func (.func f) #[] #[]:=aJ h A Θ;rw[←m]at hv
  cases l:(E.sig (E.spec d)).scalar with
  |true=>exact RH (u.2 _) h p q (ts:=[]) (cvs:=[]) (mk:= .hand) rfl hv l e y i
  |false=>exact OM (u.2 _) h p q hv l e y i
 ·rename_i f ts A;obtain⟨m,i⟩:=bf i;have m:=aao m;obtain⟨z,hv,k⟩: ∃z:LV,a.eval v= .func (.func f) #[] z.toArray/\oJ s a w g (WU v) ts z:=aJ h A Θ;rw[←m]at hv
  cases l:(E.sig (E.spec d)).scalar with
  |true=>exact RH (u.2 _) h p q k hv l e y i
  |false=>
   match ts,k,i with
   | [],k,i=>
     have B:z= []:=k;subst B;exact OM (u.2 _) h p q hv l e y i
   |t::ts,_,i=>
    exfalso;unfold N8 at i;rw[l]at i;exact aj i
 ·exact(aj i).elim
theorem sF.fin (h:sF P E C o) (k: ∀t x y,o.op≠ .store t x y) (l: ∀t m x v,o.op≠ .mapUpdate t m x v) (p: ∀c,o.op= .call c->c.callee≠ .builtin .clear):ad3 P E C o:=by
 intro s a w g us Q u e f
 cases q:o.dst with
 |none=>
  exfalso;unfold plan at f;split at f
  ·rename_i t x y i;exact k t x y i
  ·rw[q]at f;simp only[]at f;split at f
   ·rename_i c i;split at f
    ·rename_i z _ _;exact p c i z
    ·exact aj f
   ·rename_i t m x v i;exact l t m x v i
   ·exact aj f
 |some d=>
  refine h u q ?_ f;simp only[La,q,aae,abw]at e;exact⟨e.1,(Nat.blt_eq ..).mp e.2⟩
theorem agY (A:Ri P E):ad3 P E C o:=by
 intro s a w g us Q h l p;have U:=p
 cases k:o.op with
 |store t x y=>exact aeZ A.1 k h l p
 |move x=>exact sF.fin (C:=C) (agU k) (by simp[k]) (by simp[k]) (by simp[k]) h l p
 |assign x=>exact sF.fin (C:=C) (ZY k) (by simp[k]) (by simp[k]) (by simp[k]) h l p
 |pick c x y=>exact sF.fin (C:=C) (agV k) (by simp[k]) (by simp[k]) (by simp[k]) h l p
 |alloc t=>exact sF.fin (C:=C) (aeS A.1 k) (by simp[k]) (by simp[k]) (by simp[k]) h l p
 |box t x=>exact sF.fin (C:=C) (aiM A.1 k) (by simp[k]) (by simp[k]) (by simp[k]) h l p
 |build t ps=>exact sF.fin (C:=C) (aeU A.1 k) (by simp[k]) (by simp[k]) (by simp[k]) h l p
 |buildSlice t n ps=>exact sF.fin (C:=C) (Qx A.1 k) (by simp[k]) (by simp[k]) (by simp[k]) h l p
 |load t x=>exact sF.fin (C:=C) (agT A.1 k) (by simp[k]) (by simp[k]) (by simp[k]) h l p
 |nilCheck x=>exact sF.fin (C:=C) (Vo k) (by simp[k]) (by simp[k]) (by simp[k]) h l p
 |makeInterface t x=>exact sF.fin (C:=C) (JW A.1 k) (by simp[k]) (by simp[k]) (by simp[k]) h l p
 |makeFunc f xs ys=>exact sF.fin (C:=C) (Vm k) (by simp[k]) (by simp[k]) (by simp[k]) h l p
 |binOp W t x y u=>exact sF.fin (C:=C) (aeT A.1 k) (by simp[k]) (by simp[k]) (by simp[k]) h l p
 |unOp W t x=>exact sF.fin (C:=C) (agW k) (by simp[k]) (by simp[k]) (by simp[k]) h l p
 |convert u t x=>exact sF.fin (C:=C) (XP A.1 k) (by simp[k]) (by simp[k]) (by simp[k]) h l p
 |makeMap t r=>exact sF.fin (C:=C) (XR A.1 k) (by simp[k]) (by simp[k]) (by simp[k]) h l p
 |lookup t m x ok=>exact sF.fin (C:=C) (Z5 A.1 k) (by simp[k]) (by simp[k]) (by simp[k]) h l p
 |mapUpdate t m x v=>
  simp only[plan,k]at p
  cases q:o.dst with
  |none=>rw[q]at p;exact Td A.1 k q h p
  |some d=>rw[q]at p;exact(aj p).elim
 |makeSlice t x y=>exact sF.fin (C:=C) (Tc A.1 k) (by simp[k]) (by simp[k]) (by simp[k]) h l p
 |slice t x lo hi mx=>exact sF.fin (C:=C) (aeY A.1 k) (by simp[k]) (by simp[k]) (by simp[k]) h l p
 |fieldAddr t x f=>exact sF.fin (C:=C) (SY A.1 k) (by simp[k]) (by simp[k]) (by simp[k]) h l p
 |indexAddr t x i=>exact sF.fin (C:=C) (S9 A.1 k) (by simp[k]) (by simp[k]) (by simp[k]) h l p
 |index t x i=>exact sF.fin (C:=C) (aeX A.1 k) (by simp[k]) (by simp[k]) (by simp[k]) h l p
 |field t x f=>exact sF.fin (C:=C) (aeW A.1 k) (by simp[k]) (by simp[k]) (by simp[k]) h l p
 |extract x i=>exact sF.fin (C:=C) (XQ k) (by simp[k]) (by simp[k]) (by simp[k]) h l p
 |call cl=>
  have G: ∀t x y,o.op≠ .store t x y:=by simp[k]
  have I: ∀t m x v,o.op≠ .mapUpdate t m x v:=by simp[k]
  cases B:cl.callee with
  |value fo=>exact sF.fin (C:=C) (agR A k B) G I (λ c e=>by rw[k]at e;cases e;rw[B];simp) h l p
  |invoke r m=>
   exfalso;simp only[plan,k,B]at p;cases q:o.dst<;>rw[q]at p<;>exact aj p
  |builtin b=>
   have K:b= .len->ad3 P E C o:=by
    rintro rfl
    match D:cl.args.toList with
    | [x]=>intro s a w g us Q h l p;exact sF.fin (C:=C) (aiN A.1 k B D) G I (λ c e=>by rw[k]at e;cases e;rw[B];simp) h l p
    | []=>
      intro s a w g us Q h l p;exfalso;simp only[plan,k,B,D]at p;cases q:o.dst<;>rw[q]at p<;>exact aj p
    | [x,y]=>
      intro s a w g us Q h l p;exfalso;simp only[plan,k,B,D]at p
      cases q:o.dst with
      |none=>rw[q]at p;exact aj p
      |some d=>
       rw[q]at p;simp only[]at p;split at p
       ·simp only[WM]at p;exact aj p
       ·exact aj p
    |x::y::z::r=>
     intro s a w g us Q h l p;exfalso;simp only[plan,k,B,D]at p;cases q:o.dst<;>rw[q]at p<;>exact aj p
   by_cases M:b= .len
   ·exact K M h l p
   ·match D:cl.args.toList with
    | [x,y]=>
      by_cases O:b= .append
      ·subst O;exact sF.fin (C:=C) (ZX A.1 k B D) G I (λ c e=>by rw[k]at e;cases e;rw[B];simp) h l p
      ·by_cases R:b= .copy
       ·subst R;exact sF.fin (C:=C) (agS A.1 k B D) G I (λ c e=>by rw[k]at e;cases e;rw[B];simp) h l p
       by_cases N:b= .min\/b= .max
       ·exact sF.fin (C:=C) (Z7 k B N D) G I (λ c e=>by rw[k]at e;cases e;rw[B];rcases N with rfl|rfl<;>simp) h l p
       ·exfalso;simp only[plan,k,B,D]at p
        cases q:o.dst with
        |none=>rw[q]at p;exact aj p
        |some d=>
         rw[q]at p;cases b<;>simp only[reduceCtorEq,not_true_eq_false,or_false,or_true,not_false_eq_true]at M O N R<;>simp only[]at p<;>(split at p)<;>first|exact aj p|(simp only[WM]at p;exact aj p)
    | []=>
      exfalso;simp only[plan,k,B,D]at p
      cases q:o.dst with
      |none=>rw[q]at p;exact aj p
      |some d=>rw[q]at p;cases b<;>exact aj p
    | [x]=>
      by_cases L:o.dst=none/\b= .clear/\ ∃t,cl.argTypes.toList= [t]
      ·obtain⟨q,rfl,t,S⟩:=L;simp only[plan,k,B,D,q,S]at p;exact aeV A.1 k B D S q h p
      exfalso;simp only[plan,k,B,D]at p
      cases q:o.dst with
      |none=>
       rw[q]at p;simp only[]at p;split at p
       ·rename_i x' Y Z e2 e3;cases Z;exact L ⟨q,rfl,Y,e3⟩
       ·exact aj p
      |some d=>rw[q]at p;cases b<;>first|exact absurd rfl M|exact aj p
    |x::y::z::r=>
     exfalso;simp only[plan,k,B,D]at p
     cases q:o.dst with
     |none=>rw[q]at p;exact aj p
     |some d=>rw[q]at p;cases b<;>exact aj p
 |_=>
  exfalso;simp only[plan,k]at p;cases q:o.dst<;>rw[q]at p<;>exact aj p
end
section
variable {P:Program} {E:Env} {C:Ctx} {s s':St} {o:Oper} {W:Loc->Prop}
def UA (x y:T×Nat):Prop:=x=y\/(x.2=y.2/\LM x.1 y.1=true)
theorem rO {t u:T}:LM t u=true ↔ ∃ag cs d,t= .val ag cs/\u= .val ag d/\bI cs=false/\bI d=false/\cs.length=d.length:=by
 constructor
 ·intro h;unfold LM at h;split at h
  ·rename_i ag cs i d;simp only[aae,abw,beq_iff_eq]at h;obtain⟨⟨⟨rfl,e⟩,f⟩,g⟩:=h;exact⟨ag,cs,d,rfl,rfl,e,f,aao g⟩
  ·cases h
 ·rintro⟨ag,cs,d,rfl,rfl,e,f,g⟩;simp[LM,e,f,g]
theorem UA.refl (x:T×Nat):UA x x:= .inl rfl
theorem UA.symm {x y:T×Nat} (h:UA x y):UA y x:=by
 rcases h with rfl|⟨e,f⟩
 ·exact .inl rfl
 ·obtain⟨ag,cs,d,g,i,k,l,m⟩:=rO.1 f;exact .inr ⟨e.symm,rO.2 ⟨ag,d,cs,i,g,l,k,m.symm⟩⟩
theorem UA.trans {x y z:T×Nat} (h:UA x y) (k:UA y z):UA x z:=by
 rcases h with rfl|⟨e,f⟩
 ·exact k
 rcases k with rfl|⟨i,l⟩
 ·exact .inr ⟨e,f⟩
 obtain⟨ag,cs,m,p,q,t,D,u⟩:=rO.1 f;obtain⟨v,ds,d,g,A,E,B,C⟩:=rO.1 l;rw[q]at g;cases g;exact .inr ⟨e.trans i,rO.2 ⟨ag,cs,d,p,A,t,B,u.trans C⟩⟩
def bxI (s:St) (n:Nat):Option (Nat×Nat):=(s.bx n).map λ b=>(b.inst,b.cells.length)
def bxC (s:St) (n i:Nat):Option (CV×Nat):=(s.bx n).bind λ b=>b.cells[i]?
theorem YM (s:St) (k:Nat) (l:List (Nat×CV×Nat)) (n:Nat):bxI ((Upd.cl k l).on s) n=bxI s n:=by
 unfold bxI;simp only[Upd.on,put]
 cases d:Nat.beq n k with
 |false=>rfl
 |true=>
  have:=aao d;subst this;simp only[cond_true]
  cases s.bx n with
  |none=>rfl
  |some b=>simp[zh]
theorem YL (s:St) (k:Nat) (l:List (Nat×CV×Nat)) (n i:Nat):bxC ((Upd.cl k l).on s) n i=if n=k then(bxC s n i).map (over l i)else bxC s n i:=by
 unfold bxC;simp only[Upd.on,put]
 cases d:Nat.beq n k with
 |false=>
  have:n≠k:=λ e=>by rw[e,acG]at d;cases d
  simp[this]
 |true=>
  have:=aao d;subst this;simp only[cond_true,if_true]
  cases s.bx n with
  |none=>rfl
  |some b=>simp[CX]
theorem afA {s s':St} {n:Nat} (e:bxI s n=bxI s' n) (f: ∀i,bxC s n i=bxC s' n i):s.bx n=s'.bx n:=by
 unfold bxI at e;unfold bxC at f
 cases g:s.bx n with
 |none=>
  cases d:s'.bx n with
  |none=>rfl
  |some k=>rw[g,d]at e;cases e
 |some b=>
  cases d:s'.bx n with
  |none=>rw[g,d]at e;cases e
  |some k=>
   rw[g,d]at e;simp only[g,d,aaj]at f;simp only[aaL,aag,aaz]at e;obtain⟨i,cs⟩:=b;obtain⟨m,l⟩:=k;simp only at e f;rw[e.1,aaZ f]
structure Agree (W:Loc->Prop) (s s':St):Prop where
 tm: ∀n,W (.tm n)->s.tm n=s'.tm n
 bx: ∀n,W (.bx n)->s.bx n=s'.bx n
 id: ∀n,W (.id n)->UA (s.tm n) (s'.tm n)
 bi: ∀n,W (.bi n)->bxI s n=bxI s' n
 bc: ∀n i,W (.bc n i)->bxC s n i=bxC s' n i
theorem UA.ver {x y:T×Nat} (h:UA x y):x.2=y.2:=by
 rcases h with rfl|⟨h,_⟩
 ·rfl
 ·exact h
theorem Agree.dW (h:Agree W s s'): ∀us:List Upd,Agree W (s.dW us) (s'.dW us):=by
 intro us
 induction us generalizing s s' with
 |nil=>exact h
 |cons u us f=>
  refine f (s:=u.on s) (s':=u.on s') ?_
  cases u with
  |tm k t=>
   refine⟨λ n d=> ?_,h.bx,λ n d=> ?_,h.bi,h.bc⟩
   ·simp only[Upd.on,put]
    cases e:Nat.beq n k with
    |false=>exact h.tm n d
    |true=>have:=aao e;subst this;simp only[cond_true];rw[h.tm n d]
   ·simp only[Upd.on,put]
    cases e:Nat.beq n k with
    |false=>exact h.id n d
    |true=>have:=aao e;subst this;simp only[cond_true];rw[(h.id n d).ver];exact .inl rfl
  |keep k t=>
   refine⟨λ n d=> ?_,h.bx,λ n d=> ?_,h.bi,h.bc⟩
   ·simp only[Upd.on,put]
    cases e:Nat.beq n k with
    |false=>exact h.tm n d
    |true=>have:=aao e;subst this;simp only[cond_true];rw[h.tm n d]
   ·simp only[Upd.on,put]
    cases e:Nat.beq n k with
    |false=>exact h.id n d
    |true=>have:=aao e;subst this;simp only[cond_true];rw[(h.id n d).ver];exact .inl rfl
  |bx k b=>
   refine⟨h.tm,λ n d=> ?_,h.id,λ n d=> ?_,λ n i d=> ?_⟩
   ·simp only[Upd.on,put]
    cases e:Nat.beq n k with
    |false=>exact h.bx n d
    |true=>rfl
   ·have:=h.bi n d;unfold bxI at this ⊢;simp only[Upd.on,put]
    cases e:Nat.beq n k with
    |false=>exact this
    |true=>rfl
   ·have:=h.bc n i d;unfold bxC at this ⊢;simp only[Upd.on,put]
    cases e:Nat.beq n k with
    |false=>exact this
    |true=>rfl
  |cl k l=>
   refine⟨h.tm,λ n d=> ?_,h.id,λ n d=>by rw[YM,YM];exact h.bi n d,λ n i d=>by rw[YL,YL,h.bc n i d]⟩;simp only[Upd.on,put]
   cases e:Nat.beq n k with
   |false=>exact h.bx n d
   |true=>have:=aao e;subst this;simp only[cond_true];rw[h.bx n d]
def yt (W:Loc->Prop) (s:St) (x:Operand):Prop:= ∀L,L∈rF s x->W L
def Upd.mild (W:Loc->Prop):Upd->Prop
 | .keep _ t=> ∀L,L∈t.uP->W L
 | .bx _ _=>True
 | .cl _ _=>True
 | .tm _ _=>False
theorem MH {n:Nat} {t:T} (h:t.uP= []):(Upd.keep n t).mild W:=λ L d=>by rw[h]at d;cases d
theorem yt.dW {x:Operand}: ∀(us:List Upd) (s:St),(∀u,u∈us->u.mild W)->yt W s x->yt W (s.dW us) x
 | [],_,_,h=>h
 |u::us,s,e,h=>by
  refine yt.dW us (u.on s) (λ v hv=>e v (by simp[hv])) ?_;have f:=e u Θ
  cases x with
  |tmp t=>
   intro L d
   cases u with
   |tm k i=>exact f.elim
   |bx k b=>exact h L d
   |cl k l=>exact h L d
   |keep k i=>
    simp only[rF,Upd.on,put]at d
    cases g:Nat.beq t k with
    |false=>rw[g]at d;exact h L d
    |true=>
     rw[g]at d;simp only[cond_true,aaU]at d;rcases d with rfl|d
     ·exact h _ (by simp[rF])
     ·exact f L d
  |_=>intro L d;simp[rF]at d
theorem fG (h:Agree W s s') {x:Operand} (d:yt W s x):at_ E s x=at_ E s' x:=by
 cases x with
 |tmp n=>simp only[at_];rw[h.tm n (d _ (by simp[rF]))]
 |_=>rfl
theorem fC {x:Operand} {p:Pl} (d:yt W s x) (h:p.root.loc∈(at_ E s x).uP):W p.root.loc:=by
 cases x with
 |tmp n=>exact d _ (by simp only[rF];exact aaS _ h)
 |const v=>
  exfalso;simp only[at_]at h;unfold OT at h;split at h<;>simp[T.uP,T.loc]at h
 |global g=>
  exfalso;simp only[at_]at h;split at h<;>simp[T.uP,T.loc]at h
 |func f=>simp[at_,T.uP,T.loc]at h
theorem xQ (h:Agree W s s') {r:Root} (d:W r.loc):aA s r=aA s' r:=by
 cases r with
 |tmp n=>simp only[aA];rw[h.tm n d]
 |box n=>simp only[aA];rw[h.bx n d]
theorem jD (h:Agree W s s') {p:Pl} (d:W p.root.loc) (n:Nat):aV s p n=aV s' p n:=by
 unfold aV;rw[xQ h d]
theorem jd (h:Agree W s s') {p:Pl} (d:W p.root.loc) (ds:LC) (f:Bool):jT s p ds f=jT s' p ds f:=by
 unfold jT
 cases e:p.root with
 |tmp n=>rw[e]at d;simp only[];rw[h.tm n d]
 |box n=>rw[e]at d;simp only[];rw[h.bx n d]
theorem Jq (h:Agree W s s') {p:Pl} (d:W p.root.loc):Di s p=Di s' p:=by
 unfold Di;rw[xQ h d,jD h d]
theorem Tn (h:Agree W s s') {p:Pl} (d:W p.root.loc) (n:Nat):D9 s p n=D9 s' p n:=by
 unfold D9;rw[xQ h d]
theorem gB (h:Agree W s s') {p:Pl} (d:W p.root.loc) (n:Nat):content s p n=content s' p n:=by
 unfold content;rw[jD h d,jD h d]
theorem F8 (h:Agree W s s') {p:Pl} (d:W p.root.loc) (ds:LC) (f:Bool):Oa s p ds f=Oa s' p ds f:=by
 funext us;unfold Oa
 cases e:p.root with
 |tmp n=>rfl
 |box n=>rw[e]at d;simp only[zO,h.bx n d]
theorem Rf (h:Agree W s s') {p:Pl} (d:W p.root.loc) (ds:LC):NY s p ds=NY s' p ds:=by
 have e: ∀(ds:LC) (f:Bool),jT s p ds f=jT s' p ds f:=jd h d;have g:=F8 h d ds true;unfold NY;rw[jD h d,jD h d];simp only[e,g]
theorem uM (h:Agree W s s') {p:Pl} (d:W p.root.loc):N9 s p=N9 s' p:=by
 unfold N9;rw[jD h d]
theorem Ux (h:Agree W s s') {p:Pl} (d:W p.root.loc) (k q:Nat) (ds:LC):PO s p k q ds=PO s' p k q ds:=by
 have e: ∀(ds:LC) (f:Bool),jT s p ds f=jT s' p ds f:=jd h d;unfold PO;rw[uM h d];simp only[e]
theorem Ou (h:Agree W s s') {p:Pl} (d:W p.root.loc) (n:Nat) (t:List Sh):KC s p n t=KC s' p n t:=by
 unfold KC;rw[jD h d]
theorem Jk (h:Agree W s s') {p:Pl} (d:W p.root.loc) (cs:LC):D5 s p cs=D5 s' p cs:=by
 unfold D5;rw[jd h d,F8 h d]
theorem xk {p:Pl} {ds:LC} {f:Bool} {us:List Upd} (h:jT s p ds f=some us): ∀u,u∈us->u.mild W:=by
 unfold jT at h;split at h
 ·split at h
  ·cases f with
   |true=>simp at h
   |false=>
    simp only[cond_eq_ite,abf,if_false]at h;split at h
    ·cases h;intro u d;simp only[aah]at d;subst d;exact MH rfl
    ·cases h
  ·cases h
 ·split at h
  ·simp only[cond_eq_ite]at h;split at h
   ·cases h;intro u d;simp only[aah]at d;subst d;exact trivial
   ·cases h
  ·cases h
theorem OW {p:Pl} {ds:LC} {f:Bool} {us:List Upd} (h: ∀u,u∈us->u.mild W): ∀u,u∈Oa s p ds f us->u.mild W:=by
 unfold Oa;split
 ·intro u d;rw[aah.1 d];trivial
 ·exact h
theorem LY {p:Pl} {cs:LC} {us:List Upd} (h:D5 s p cs=some us): ∀u,u∈us->u.mild W:=by
 unfold D5 at h;simp only[cond_eq_ite]at h;split at h
 ·cases h;intro u d;cases d
 ·split at h
  ·obtain⟨e,f,rfl⟩:=aaK.1 h;exact OW (xk f)
  ·cases h
theorem bind_congr {α β:Type} {d e:Dyn α} {q f:α->Dyn β} (h:d.run=e.run) (g: ∀a,d.run=some a->(q a).run=(f a).run):(d.bind q).run=(e.bind f).run:=by
 rw[Dyn.run_bind,Dyn.run_bind,←h]
 cases i:d.run with
 |none=>rfl
 |some a=>exact g a i
theorem uV (h:Agree W s s') {x:Operand} (g:yt W s x) (f:List Sh):Ez E s x f=Ez E s' x f:=by
 unfold Ez;rw[←fG (E:=E) h g]
 cases e:at_ E s x with
 |ref p ag n=>
  have d:W p.root.loc:=fC (E:=E) g (by rw[e];simp[T.uP,T.loc]);simp only[];rw[gB h d];simp only[Jk h d]
 |rsub p z lo i=>
  have d:W p.root.loc:=fC (E:=E) g (by rw[e];simp[T.uP,T.loc]);simp only[];rw[gB h d];simp only[Jk h d]
 |rowr p ag n=>
  have d:W p.root.loc:=fC (E:=E) g (by rw[e];simp[T.uP,T.loc]);simp only[];rw[uM h d];simp only[jd h d]
 |_=>rfl
theorem zH {x:Operand} {g:List Sh} {ag:Bool} {cs:LC} {us:List Upd} (h:(Ez E s x g).run=some (ag,cs,us)): ∀u,u∈us->u.mild W:=by
 unfold Ez at h;have none: ∀u:Upd,u∈([]:List Upd)->u.mild W:=λ u f=>by cases f
 split at h
 ·simp only[cond_eq_ite]at h;split at h
  ·have:=au h;simp only[aaz]at this;obtain⟨_,_,rfl⟩:=this;exact none
  ·split at h
   ·have:=au h;simp only[aaz]at this;obtain⟨_,_,rfl⟩:=this;intro u f;simp only[aah]at f;subst f;exact MH rfl
   ·exact(aj h).elim
 ·obtain⟨d,_,h⟩:=aS h;split at h
  ·rename_i i e;have:=au h;simp only[aaz]at this;obtain⟨_,_,rfl⟩:=this;exact LY e
  ·exact(aj h).elim
 ·obtain⟨d,_,h⟩:=aS h;split at h
  ·split at h
   ·rename_i e;have:=au h;simp only[aaz]at this;obtain⟨_,_,rfl⟩:=this;exact LY e
   ·exact(aj h).elim
  ·exact(aj h).elim
 ·split at h
  ·obtain⟨_,h⟩:=bf h;have:=au h;simp only[aaz]at this;obtain⟨_,_,rfl⟩:=this;exact none
  ·exact(aj h).elim
 ·split at h
  ·obtain⟨d,_,h⟩:=aS h;split at h
   ·split at h
    ·rename_i i e;have:=au h;simp only[aaz]at this;obtain⟨_,_,rfl⟩:=this;exact xk e
    ·exact(aj h).elim
   ·exact(aj h).elim
  ·exact(aj h).elim
 ·exact(aj h).elim
theorem CG (h:Agree W s s') {x:Operand} (e:yt W s x):JX E s x=JX E s' x:=by
 unfold JX;rw[←fG (E:=E) h e]
 cases d:at_ E s x with
 |ref p ag n=>
  have f:W p.root.loc:=fC (E:=E) e (by rw[d];simp[T.uP,T.loc]);cases ag
  ·simp only[];rw[gB h f]
  ·rfl
 |rsub p z lo g=>
  have f:W p.root.loc:=fC (E:=E) e (by rw[d];simp[T.uP,T.loc]);simp only[];rw[gB h f]
 |val ag cs=>cases ag<;>rfl
 |_=>rfl
theorem nO (h:Agree W s s') {x:Operand} (d:yt W s x):tY E s x=tY E s' x:=by
 unfold tY;rw[←fG (E:=E) h d]
theorem Oi (h:Agree W s s') {x:Operand} (d:yt W s x):wR E s x=wR E s' x:=by
 unfold wR;rw[←fG (E:=E) h d]
theorem DT (fields:List (Nat×Nat)) (cells:List Sh): ∀(ps:List (Nat×Operand)) (s s':St) (cs:LC) (us:List Upd),Agree W s s'->(∀p,p∈ps->yt W s p.2)->(vN E fields cells ps s cs us).run=(vN E fields cells ps s' cs us).run
 | [],_,_,_,_,_,_=>rfl
 |(i,x)::ps,s,s',cs,us,h,d=>by
  simp only[vN]
  cases fields[i]? with
  |none=>rfl
  |some on=>
   obtain⟨off,n⟩:=on;refine bind_congr (by rw[uV h (d (i,x) Θ)]) λ r f=> ?_;obtain⟨ag,ds,e⟩:=r;simp only[];cases(Nat.beq ds.length n&&Ik ds ((cs.drop off).take n))with
   |false=>rfl
   |true=>exact DT fields cells ps _ _ _ _ (h.dW e) λ p g=>(d p (by simp[g])).dW e s (zH f)
theorem OQ (h:Agree W s s'): ∀(d:List Operand),(∀x,x∈d->yt W s x)->aee E s d=aee E s' d
 | [],_=>rfl
 |x::d,e=>by
  simp only[aee];rw[←fG (E:=E) h (e x Θ),OQ h d λ y f=>e y (by simp[f])]
theorem Sl (h:Agree W s s') {p:Pl} (d:W p.root.loc) (cs:LC) (want:List (Sh×Tg)):LJ s p cs want=LJ s' p cs want:=by
 unfold LJ;simp only[jd h d,F8 h d]
theorem Gi (h:Agree W s s') {x:Operand} (f:yt W s x) (y:Operand) (ag:Bool) (want:List (Sh×Tg)):LK s (at_ E s x) y ag want=LK s' (at_ E s x) y ag want:=by
 unfold LK
 cases e:at_ E s x with
 |ref p ag n=>
  have d:W p.root.loc:=fC (E:=E) f (by rw[e];simp[T.uP,T.loc]);simp only[];rw[gB h d];simp only[Sl h d]
 |rsub p z lo g=>
  have d:W p.root.loc:=fC (E:=E) f (by rw[e];simp[T.uP,T.loc]);simp only[];rw[gB h d];simp only[jd h d]
 |rowr p ag n=>
  have d:W p.root.loc:=fC (E:=E) f (by rw[e];simp[T.uP,T.loc]);simp only[];rw[uM h d];simp only[jd h d]
 |_=>rfl
theorem Cj: ∀u:Upd,u∈([]:List Upd)->u.mild W:=λ u d=>by cases d
theorem UW {p:Pl} {cs ds:LC} {want:List (Sh×Tg)} {us:List Upd} (h:(LJ s p cs want).run=some (ds,us)): ∀u,u∈us->u.mild W:=by
 unfold LJ at h;split at h
 ·exact(aj h).elim
 ·simp only[cond_eq_ite]at h;split at h
  ·have:=au h;simp only[aaz]at this;obtain⟨_,rfl⟩:=this;exact Cj
  ·split at h
   ·split at h
    ·rename_i d;have:=au h;simp only[aaz]at this;obtain⟨_,rfl⟩:=this;exact OW (xk d)
    ·exact(aj h).elim
   ·exact(aj h).elim
theorem zD {x:Operand} (e:yt W s x): ∀L,L∈(at_ E s x).uP->W L:=by
 intro L d
 cases x with
 |tmp n=>exact e _ (by simp only[rF];exact aaS _ d)
 |const v=>
  exfalso;simp only[at_]at d;unfold OT at d;split at d<;>simp[T.uP,T.loc]at d
 |global g=>
  exfalso;simp only[at_]at d;split at d<;>simp[T.uP,T.loc]at d
 |func f=>simp[at_,T.uP,T.loc]at d
theorem IK {t:T} (f: ∀L,L∈t.uP->W L) {y:Operand} {ag:Bool} {want:List (Sh×Tg)} {ds:LC} {us:List Upd} (h:(LK s t y ag want).run=some (ds,us)): ∀u,u∈us->u.mild W:=by
 unfold LK at h;split at h
 ·obtain⟨_,h⟩:=bf h;split at h
  ·exact(aj h).elim
  ·simp only[cond_eq_ite]at h;split at h
   ·have:=au h;simp only[aaz]at this;obtain⟨_,rfl⟩:=this;exact Cj
   ·split at h
    ·have:=au h;simp only[aaz]at this;obtain⟨_,rfl⟩:=this;intro u d;simp only[aah]at d;subst d;exact MH rfl
    ·exact(aj h).elim
 ·obtain⟨_,h⟩:=bf h;obtain⟨cs,_,h⟩:=aS h;exact UW h
 ·simp only[cond_eq_ite]at h;split at h
  ·exact(aj h).elim
  ·obtain⟨cs,_,h⟩:=aS h;split at h
   ·split at h
    ·exact(aj h).elim
    ·split at h
     ·exact(aj h).elim
     ·split at h
      ·split at h
       ·split at h
        ·rename_i e;have:=au h;simp only[aaz]at this;obtain⟨_,rfl⟩:=this;exact xk e
        ·exact(aj h).elim
       ·exact(aj h).elim
      ·exact(aj h).elim
   ·exact(aj h).elim
 ·simp only[cond_eq_ite]at h;split at h
  ·exact(aj h).elim
  ·obtain⟨cs,_,h⟩:=aS h;have:=au h;simp only[aaz]at this;obtain⟨_,rfl⟩:=this;exact Cj
 ·simp only[cond_eq_ite]at h;split at h
  ·exact(aj h).elim
  ·split at h
   ·obtain⟨cs,_,h⟩:=aS h;split at h
    ·split at h
     ·rename_i e;have:=au h;simp only[aaz]at this;obtain⟨_,rfl⟩:=this;exact xk e
     ·exact(aj h).elim
    ·exact(aj h).elim
   ·exact(aj h).elim
 ·split at h
  ·obtain⟨_,h⟩:=bf h;have:=au h;simp only[aaz]at this;obtain⟨_,rfl⟩:=this;intro u d;simp only[aah]at d;subst d;exact f
  ·exact(aj h).elim
 ·exact(aj h).elim
theorem FP (ag:Bool) (want:List (Sh×Tg)): ∀(ps:List (Nat×Operand)) (k:Nat) (s s':St) (rows:List (LC)) (us:List Upd),Agree W s s'->(∀p,p∈ps->yt W s p.2)->(yO E ag want ps k s rows us).run=(yO E ag want ps k s' rows us).run
 | [],_,_,_,_,_,_,_=>rfl
 |(i,x)::ps,k,s,s',rows,us,h,e=>by
  simp only[yO]
  cases Nat.beq i k with
  |false=>rfl
  |true=>
   have d:=e (i,x) Θ;refine bind_congr (by rw[←fG (E:=E) h d,Gi h d]) λ r f=> ?_;exact FP ag want ps _ _ _ _ _ (h.dW r.2) λ p g=>(e p (by simp[g])).dW r.2 s (IK (zD (E:=E) d) (ds:=r.1) (us:=r.2) f)
theorem UY (h:Agree W s s') {x:Operand} (d:yt W s x) (i:List (Option Nat)) (pk:PK):Sm s i pk (at_ E s x) x=Sm s' i pk (at_ E s' x) x:=by
 rw[←fG (E:=E) h d];unfold Sm
 cases pk with
 |val ag want=>simp only[];rw[Gi h d]
 |io want=>simp only[];rw[Gi h d]
 |ptr want=>
  simp only[]
  cases f:at_ E s x with
  |addr p=>
   have e:W p.root.loc:=fC (E:=E) d (by rw[f];simp[T.uP,T.loc]);simp only[];rw[jD h e]
   cases k:p.root with
   |tmp n=>rfl
   |box n=>
    rw[k]at e;have l:s.bx n=s'.bx n:=h.bx n e;have g:W p.root.loc:=by rw[k];exact e
    cases p.sub with
    |some m=>rfl
    |none=>
     cases aV s' p want.length with
     |none=>rfl
     |some cs=>simp only[l,zO,jd h g]
  |_=>rfl
 |_=>rfl
theorem Gg {x:Operand} {l:List (Option Nat)} {pk:PK} {ds:LC} {us:List Upd} {b:Option Nat} (i:yt W s x) (h:(Sm s l pk (at_ E s x) x).run=some (ds,us,b)):(∀u,u∈us->u.mild W)/\ ∀n,b=some n->W (.bx n):=by
 unfold Sm at h
 cases pk with
 |val ag want=>
  simp only[]at h;obtain⟨r,d,h⟩:=aS h;have:=au h;simp only[aaz]at this;obtain⟨_,rfl,rfl⟩:=this;exact⟨IK (zD (E:=E) i) (ds:=r.1) (us:=r.2) d,λ n e=>by cases e⟩
 |rptr want=>
  simp only[]at h;obtain⟨r,d,h⟩:=aS h;have:=au h;simp only[aaz]at this;obtain⟨_,rfl,rfl⟩:=this;exact⟨Cj,λ n e=>by cases e⟩
 |io want=>
  simp only[]at h;obtain⟨r,d,h⟩:=aS h;have:=au h;simp only[aaz]at this;obtain⟨_,rfl,rfl⟩:=this;exact⟨IK (zD (E:=E) i) (ds:=r.1) (us:=r.2) d,λ n e=>by cases e⟩
 |clo f want=>exact(aj h).elim
 |fn f=>
  simp only[]at h;split at h
  ·obtain⟨_,h⟩:=bf h;have:=au h;simp only[aaz]at this;obtain⟨_,rfl,rfl⟩:=this;exact⟨Cj,λ n e=>by cases e⟩
  ·exact(aj h).elim
 |ptr want=>
  simp only[]at h;split at h
  ·rename_i p k;have d:W p.root.loc:=fC (E:=E) i (by rw[k];simp[T.uP,T.loc]);split at h
   ·rename_i n cs q _ _;obtain⟨_,h⟩:=bf h;split at h
    ·rename_i t;have:=au h;simp only[aaz]at this;obtain⟨_,rfl,rfl⟩:=this;refine⟨?_,λ m e=> ?_⟩
     ·cases rD want with
      |false=>exact xk t
      |true=>intro u g;simp only[cond_true,aah]at g;subst g;exact trivial
     cases e;rw[q]at d;exact d
    ·exact(aj h).elim
   ·exact(aj h).elim
  ·exact(aj h).elim
theorem G7: ∀(ps:List PK) (d:List Operand) (e:List (Option Nat)) (s s':St) (cs:LC) (us:List Upd),Agree W s s'->(∀x,x∈d->yt W s x)->(xM E ps d e s cs us).run=(xM E ps d e s' cs us).run
 | [],[],_,_,_,_,_,_,_=>rfl
 | [],_::_,_,_,_,_,_,_,_=>rfl
 |_::_,[],_,_,_,_,_,_,_=>rfl
 |p::ps,x::d,e,s,s',cs,us,h,f=>by
  simp only[xM];refine bind_congr (by rw[UY h (f x Θ)]) λ r g=> ?_;exact G7 ps d _ _ _ _ _ (h.dW r.2.1) λ y i=>(f y (by simp[i])).dW r.2.1 s (Gg (ds:=r.1) (us:=r.2.1) (b:=r.2.2) (f x Θ) g).1
theorem G6: ∀(ps:List PK) (i:List Operand) (k:List (Option Nat)) (s:St) (cs:LC) (us:List Upd) (e:LC) (f:List Upd) (d:List (Option Nat)),(∀x,x∈i->yt W s x)->(∀n,some n∈k->W (.bx n))->
 (xM E ps i k s cs us).run=some (e,f,d)-> ∀n,some n∈d->W (.bx n)
 | [],[],k,s,cs,us,e,f,d,_,l,h=>by
   have:=au h;simp only[aaz]at this;obtain⟨_,_,rfl⟩:=this;exact l
 | [],_::_,_,_,_,_,_,_,_,_,_,h=>(aj h).elim
 |_::_,[],_,_,_,_,_,_,_,_,_,h=>(aj h).elim
 |p::ps,x::i,k,s,cs,us,e,f,d,m,l,h=>by
  simp only[xM]at h;obtain⟨r,q,h⟩:=aS h;obtain⟨t,u⟩:=Gg (ds:=r.1) (us:=r.2.1) (b:=r.2.2) (m x Θ) q;refine G6 ps i _ _ _ _ e f d (λ y v=>(m y (by simp[v])).dW r.2.1 s t) (λ n g=> ?_) h;rcases aap.1 g with g|g
  ·exact l n g
  ·simp only[aah]at g;exact u n g.symm
theorem Gl (h:Agree W s s') {t:T} (d: ∀L,L∈t.loc->W L) (want:List (Sh×Tg)):SE s t want=SE s' t want:=by
 unfold SE
 cases t with
 |addr p=>
  have e:W p.root.loc:=d _ (by simp[T.loc]);simp only[];rw[gB h e]
 |_=>rfl
theorem aeN (t:T) {L:Loc} (h:L∈t.loc):L∈t.uP:=by
 cases t with
 |clo f ts=>simp[T.loc]at h
 |_=>exact h
theorem Vb (h:Agree W s s') {x:Operand} (e:yt W s x) (pk:PK):XK E s pk x=XK E s' pk x:=by
 unfold XK;rw[←fG (E:=E) h e]
 cases pk with
 |val l want=>
  cases d:at_ E s x with
  |ref p ag n=>
   have i:W p.root.loc:=fC (E:=E) e (by rw[d];simp[T.uP,T.loc]);simp only[];rw[gB h i]
  |rsub p z lo m=>
   have i:W p.root.loc:=fC (E:=E) e (by rw[d];simp[T.uP,T.loc]);simp only[];rw[gB h i]
  |_=>rfl
 |rptr want=>
  exact Gl h (λ L k=>zD (E:=E) e L (aeN _ k)) want
 |clo f want=>
  cases d:at_ E s x with
  |clo g ts=>
   match ts,d with
   | [t],d=>simp only[];rw[Gl h (λ L k=>zD (E:=E) e L (by rw[d];simp[T.uP,k])) want]
   | [],_=>rfl
   |_::_::_,_=>rfl
  |_=>rfl
 |_=>rfl
theorem Cc (h:Agree W s s'): ∀(ps:List PK) (d:List Operand) (ts:List T),(∀x,x∈d->yt W s x)->(∀t,t∈ts-> ∀L,L∈t.loc->W L)->y8 E s ps d ts=y8 E s' ps d ts
 | [],[],[],_,_=>rfl
 | [],[],_::_,_,_=>rfl
 | [],_::_,_,_,_=>rfl
 |p::_,[],[],_,_=>by cases p<;>rfl
 |p::ps,x::d,ts,e,f=>by
  simp only[y8];rw[Vb h (e x Θ),Cc h ps d ts (λ y g=>e y (by simp[g])) f]
 | .rptr want::ps,[],t::ts,e,f=>by
   simp only[y8];rw[Gl h (f t Θ),Cc h ps [] ts e (λ i k=>f i (by simp[k]))]
 | .val _ _::_,[],_::_,_,_=>rfl
 | .ptr _::_,[],_::_,_,_=>rfl
 | .fn _::_,[],_::_,_,_=>rfl
 | .clo _ _::_,[],_::_,_,_=>rfl
 | .io _::_,[],_::_,_,_=>rfl
theorem lK (h:Agree W s s'): ∀(ps:List PK) (d:List (Option Nat)) (cs:LC),(∀n,some n∈d->W (.bx n))->oL s ps d cs=oL s' ps d cs
 | [],[],_,_=>rfl
 | [],_::_,_,_=>rfl
 | .ptr _::_,[],_,_=>rfl
 | .ptr _::_,none::_,_,_=>rfl
 | .ptr want::ps,some n::d,cs,e=>by
   simp only[oL];rw[h.bx n (e n Θ),lK h ps d _ λ m f=>e m (by simp[f])]
 | .val _ _::ps,[],_,_=>rfl
 | .val _ _::ps,some _::_,_,_=>rfl
 | .val _ _::ps,none::d,cs,e=>by simp only[oL];exact lK h ps d _ λ m f=>e m (by simp[f])
 | .rptr _::ps,[],_,_=>rfl
 | .rptr _::ps,some _::_,_,_=>rfl
 | .rptr _::ps,none::d,cs,e=>by simp only[oL];exact lK h ps d _ λ m f=>e m (by simp[f])
 | .fn _::ps,[],_,_=>rfl
 | .fn _::ps,some _::_,_,_=>rfl
 | .fn _::ps,none::d,cs,e=>by simp only[oL];exact lK h ps d _ λ m f=>e m (by simp[f])
 | .clo _ _::ps,[],_,_=>rfl
 | .clo _ _::ps,some _::_,_,_=>rfl
 | .clo _ _::ps,none::d,cs,e=>by simp only[oL];exact lK h ps d _ λ m f=>e m (by simp[f])
 | .io _::ps,[],_,_=>rfl
 | .io _::ps,some _::_,_,_=>rfl
 | .io _::ps,none::d,cs,e=>by simp only[oL];exact lK h ps d _ λ m f=>e m (by simp[f])
theorem oW: ∀(ps:List PK) (d:List (Option Nat)) (cs:LC) (us:List Upd),oL s ps d cs=some us-> ∀u,u∈us->u.mild W
 | [],[],_,us,h=>by simp only[oL,aag]at h;subst h;exact Cj
 | [],_::_,_,_,h=>by cases h
 | .ptr _::_,[],_,_,h=>by cases h
 | .ptr _::_,none::_,_,_,h=>by cases h
 | .ptr want::ps,some n::d,cs,us,h=>by
   simp only[oL]at h;split at h
   ·rename_i b e i f;simp only[cond_eq_ite]at h;split at h
    ·cases h;intro u g;rcases aaU.1 g with rfl|g
     ·cases rD want<;>exact trivial
     ·exact oW ps d _ e f u g
    ·cases h
   ·cases h
 | .val _ _::ps,[],_,_,h=>by cases h
 | .val _ _::ps,some _::_,_,_,h=>by cases h
 | .val _ _::ps,none::d,cs,us,h=>oW ps d cs us h
 | .rptr _::ps,[],_,_,h=>by cases h
 | .rptr _::ps,some _::_,_,_,h=>by cases h
 | .rptr _::ps,none::d,cs,us,h=>oW ps d cs us h
 | .fn _::ps,[],_,_,h=>by cases h
 | .fn _::ps,some _::_,_,_,h=>by cases h
 | .fn _::ps,none::d,cs,us,h=>oW ps d cs us h
 | .clo _ _::ps,[],_,_,h=>by cases h
 | .clo _ _::ps,some _::_,_,_,h=>by cases h
 | .clo _ _::ps,none::d,cs,us,h=>oW ps d cs us h
 | .io _::ps,[],_,_,h=>by cases h
 | .io _::ps,some _::_,_,_,h=>by cases h
 | .io want::ps,none::d,cs,us,h=>oW ps d _ us h
theorem Ji: ∀(ps:List PK) (i:List Operand) (k:List (Option Nat)) (s:St) (cs:LC) (us:List Upd) (e:LC) (d:List Upd) (f:List (Option Nat)),(∀x,x∈i->yt W s x)->(∀u,u∈us->u.mild W)->
 (xM E ps i k s cs us).run=some (e,d,f)-> ∀u,u∈d->u.mild W
 | [],[],k,s,cs,us,e,d,f,_,l,h=>by
   have:=au h;simp only[aaz]at this;obtain⟨_,rfl,_⟩:=this;exact l
 | [],_::_,_,_,_,_,_,_,_,_,_,h=>(aj h).elim
 |_::_,[],_,_,_,_,_,_,_,_,_,h=>(aj h).elim
 |p::ps,x::i,k,s,cs,us,e,d,f,m,l,h=>by
  simp only[xM]at h;obtain⟨r,t,h⟩:=aS h;obtain⟨q,z⟩:=Gg (ds:=r.1) (us:=r.2.1) (b:=r.2.2) (m x Θ) t;refine Ji ps i _ _ _ _ e d f (λ y v=>(m y (by simp[v])).dW r.2.1 s q) (λ u g=> ?_) h;rcases aap.1 g with g|g
  ·exact l u g
  ·exact q u g
theorem zZ: ∀(ps:List PK) (d:List Operand) (cs:LC) (x:Operand) (c:LC),(x,c)∈Yt ps d cs->x∈d
 | [],d,_,_,_,h=>by cases d<;>simp[Yt]at h
 |p::_,[],_,_,_,h=>by cases p<;>simp[Yt]at h
 | .val _ _::ps,y::d,cs,x,c,h=>aaS _ (zZ ps d cs x c h)
 | .rptr _::ps,y::d,cs,x,c,h=>aaS _ (zZ ps d cs x c h)
 | .fn _::ps,y::d,cs,x,c,h=>aaS _ (zZ ps d cs x c h)
 | .clo _ _::ps,y::d,cs,x,c,h=>aaS _ (zZ ps d cs x c h)
 | .ptr _::ps,y::d,cs,x,c,h=>aaS _ (zZ ps d _ x c h)
 | .io _::ps,y::d,cs,x,c,h=>by
   simp only[Yt]at h;rcases aaU.1 h with h|h
   ·simp only[aaz]at h;rw[h.1];simp
   ·exact aaS _ (zZ ps d _ x c h)
theorem Vw (h:Agree W s s') (d:Nat) {l:List (Operand×LC)} (i: ∀x c,(x,c)∈l->yt W s x):XU E s d l=XU E s' d l:=by
 unfold XU;split
 ·rfl
 ·rename_i x c;have g:=i x [c] Θ;unfold Vu;rw[←fG (E:=E) h g]
  cases f:at_ E s x with
  |ref p ag n=>
   have e:W p.root.loc:=fC (E:=E) g (by rw[f];simp[T.uP,T.loc])
   match ag,n with
   |true,_=>rfl
   |false,0=>rfl
   |false,1=>simp only[jD h e,jd h e]
   |false,_+2=>rfl
  |rowr p ag n=>
   have e:W p.root.loc:=fC (E:=E) g (by rw[f];simp[T.uP,T.loc])
   match ag,n with
   |true,_=>rfl
   |false,0=>rfl
   |false,1=>simp only[uM h e,jd h e]
   |false,_+2=>rfl
  |ext p q c=>
   have e:W p.root.loc:=fC (E:=E) g (by rw[f];simp[T.uP,T.loc]);simp only[jD h e,jd h e]
  |val ag cs=>
   match ag,cs with
   |true,_=>rfl
   |false,[]=>rfl
   |false,[_]=>rfl
   |false,_::_::_=>rfl
  |_=>rfl
 ·rfl
theorem XA (h:Agree W s s') {x:Operand} (e:yt W s x) (d:Nat) (q r:CV):aia E s x d q r=aia E s' x d q r:=by
 unfold aia;rw[fG (E:=E) h e]
theorem KP (h:Agree W s s') (d:Nat) (e:List Operand) (ts:List T) (i:Nat) (f: ∀x,x∈e->yt W s x) (p: ∀t,t∈ts-> ∀L,L∈t.loc->W L):(N8 E s d e ts i).run=(N8 E s' d e ts i).run:=by
 unfold N8
 cases(E.sig i).scalar with
 |true=>simp only[cond_true];rw[Cc h _ _ _ f p]
 |false=>
  simp only[cond_false]
  cases noT ts with
  |false=>rfl
  |true=>
  simp only[abm,cond_false];refine bind_congr (G7 _ _ _ _ _ _ _ h f) λ r l=> ?_;have m:=G6 (W:=W) (E.sig i).params e [] s [] [] r.1 r.2.1 r.2.2 f (λ n u=>by cases u) l
  cases iq ((E.sig i).ins.map (·.1)) r.1 with
  |none=>rfl
  |some a=>
   simp only[Dyn.run];congr 1;funext q;have v:=Ji (W:=W) (E.sig i).params e [] s [] [] r.1 r.2.1 r.2.2 f Cj l;simp only[lK (h.dW r.2.1) _ _ _ m];split
   ·rfl
   ·rename_i us g;rw[Vw ((h.dW r.2.1).dW us) d λ x c k=>((f x (zZ _ _ _ x c k)).dW r.2.1 s v).dW us _ ?_];rw[←lK (h.dW r.2.1) _ _ _ m]at g;exact oW _ _ _ us g
theorem Fq (h:Agree W s s') {p:Pl} (f:W p.root.loc) (d:Nat) (t u:TypeId) (e:CV) (lo:Nat) (g:Option Nat):yA E s d t u e p lo g=yA E s' d t u e p lo g:=by
 unfold yA;rw[gB h f];simp only[jd h f]
theorem Sv (h:Agree W s s') {x:Operand} (f:yt W s x) (t:TypeId) (i:Int):Sr E s t x i=Sr E s' t x i:=by
 unfold Sr;rw[←fG (E:=E) h f]
 cases d:at_ E s x with
 |ref p ag n=>
  have g:W p.root.loc:=fC (E:=E) f (by rw[d];simp[T.uP,T.loc]);cases ag
  ·simp only[];rw[gB h g]
  ·rfl
 |val ag cs=>
  match ag,cs with
  |true,_=>rfl
  |false,[]=>rfl
  |false,_::_::_=>rfl
  |false,[c]=>
   cases x with
   |tmp n=>
    have e:=h.tm n (f _ (by simp[rF]));simp only[e]
   |_=>rfl
 |rowr p ag n=>
  have g:W p.root.loc:=fC (E:=E) f (by rw[d];simp[T.uP,T.loc]);cases ag
  ·simp only[];rw[uM h g]
  ·rfl
 |rsub p z lo k=>
  have g:W p.root.loc:=fC (E:=E) f (by rw[d];simp[T.uP,T.loc]);simp only[];rw[gB h g]
 |_=>rfl
theorem TB (h:Agree W s s') {p:Pl} (d:W p.root.loc) (c:CV) (i j:Nat) (ds:LC):Pv s p c i j ds=Pv s' p c i j ds:=by
 unfold Pv
 cases e:p.root with
 |tmp n=>
  rw[e]at d;simp only[h.tm n d]
 |box n=>rfl
theorem IU (h:Agree W s s') {x:Operand} (e:yt W s x):ZO E s x=ZO E s' x:=by
 unfold ZO;rw[←fG (E:=E) h e]
 cases d:at_ E s x with
 |ref p ag n=>
  have f:W p.root.loc:=fC (E:=E) e (by rw[d];simp[T.uP,T.loc]);have g:=jD h f 1
  cases ag with
  |true=>rfl
  |false=>match n with
   |1=>simp only[];rw[g]
   |0=>rfl
   |n+2=>rfl
 |_=>rfl
theorem ZP {x:Operand} (e:yt W s x) {p:Pl} {c:CV} (h:ZO E s x=some (p,c)):W p.root.loc:=by
 unfold ZO at h;split at h
 ·rename_i q d;split at h
  ·cases h;exact fC (E:=E) e (by rw[d];simp[T.uP,T.loc])
  ·cases h
 ·cases h
theorem D8 (h:Agree W s s') {x:Operand} (d:yt W s x) (k:Sh):FD E s x k=FD E s' x k:=by
 unfold FD;rw[←fG (E:=E) h d]
theorem Vd (h:Agree W s s') {m x:Operand} (e:yt W s m) (f:yt W s x) (d:Nat) (t:TypeId) (ok:Bool):ZL E s d t m x ok=ZL E s' d t m x ok:=by
 unfold ZL;rw[←IU (E:=E) h e];simp only[←D8 (E:=E) h f]
theorem Vx (h:Agree W s s') {m x v:Operand} (f:yt W s m) (g:yt W s x) (hv:yt W s v) (t:TypeId):XV E s t m x v=XV E s' t m x v:=by
 unfold XV;rw[←IU (E:=E) h f];simp only[←D8 (E:=E) h g,←D8 (E:=E) h hv]
 cases d:ZO E s m with
 |none=>rfl
 |some pc=>
  obtain⟨p,⟨sh,tg,l⟩⟩:=pc;have i:=ZP (E:=E) f d
  cases sh with
  |mp k e=>
   cases tg with
   |own=>
    have q: ∀(y:El k) (z:El e),(λ l:List (El k×El e)=>Dyn.of (jT s p [⟨.mp k e,.own,some (Iw (keq k) y z l)⟩] false))=λ l=>Dyn.of (jT s' p [⟨.mp k e,.own,some (Iw (keq k) y z l)⟩] false):=λ y z=>funext λ l=>by rw[jd h i]
    show(bif agO E t k e then _ else _)=(bif agO E t k e then _ else _)
    cases agO E t k e with
    |false=>rfl
    |true=>
     simp only[cond_true]
     cases FD E s x k with
     |none=>rfl
     |some y=>cases FD E s v e with
      |none=>rfl
      |some z=>exact congrArg (Dyn.idx l) (q y z)
   |_=>rfl
  |_=>rfl
theorem Vh (h:Agree W s s') {x:Operand} (f:yt W s x) (d:Nat) (e:BinOp):ZT E s d e x=ZT E s' d e x:=by
 unfold ZT;rw[←IU (E:=E) h f]
theorem RG (h:Agree W s s') {x:Operand} (e:yt W s x) (d:Nat):RF E s d x=RF E s' d x:=by
 unfold RF;rw[←CG h e]
theorem RI (h:Agree W s s') {x:Operand} (e:yt W s x) (t:TypeId):OO E s t x=OO E s' t x:=by
 unfold OO;rw[←fG (E:=E) h e]
 cases d:at_ E s x with
 |rsub p z lo g=>
  have f:W p.root.loc:=fC (E:=E) e (by rw[d];simp[T.uP,T.loc]);simp only[];rw[gB h f];simp only[jd h f]
 |_=>rfl
theorem Ug (h:Agree W s s') {x:Operand} (e:yt W s x) (t:TypeId) (lo f:Option Int):sliceT E s t x lo f=sliceT E s' t x lo f:=by
 unfold sliceT;rw[←fG (E:=E) h e]
 cases d:at_ E s x with
 |ref p ag n=>
  have g:W p.root.loc:=fC (E:=E) e (by rw[d];simp[T.uP,T.loc])
  match ag,n with
  |true,_=>rfl
  |false,0=>rfl
  |false,1=>simp only[gB h g]
  |false,_+2=>rfl
 |val ag cs=>
  match ag,cs with
  |true,_=>rfl
  |false,[]=>rfl
  |false,⟨sh,tg,y⟩::_::_=>cases sh<;>cases tg<;>rfl
  |false,[⟨sh,tg,y⟩]=>cases sh<;>cases tg<;>rfl
 |_=>rfl
theorem Jm (h:Agree W s s') (x:Option Operand) (d: ∀y,x=some y->yt W s y):ML E s x=ML E s' x:=by
 cases x with
 |none=>rfl
 |some y=>simp only[ML];rw[nO h (d y rfl)]
theorem Ve (h:Agree W s s') {x:Operand} (f:yt W s x) (d:List Sh):Oh E s x d=Oh E s' x d:=by
 unfold Oh;rw[←fG (E:=E) h f]
 cases x with
 |tmp n=>
  have e:=h.tm n (f _ (by simp[rF]));cases at_ E s (.tmp n)with
  |val ag cs=>simp only[e]
  |_=>rfl
 |_=>rfl
theorem agM {n d:Nat} (h:UA (s.tm n) (s'.tm n)) (f:List Sh):
 (match Oh E s (.tmp n) f with
  |some t=>Dyn.ret [.tm d t]
  |none=>match at_ E s (.tmp n),Operand.tmp n with
   | .tup ts,.tmp n=> .ret [.keep n .dead,.tm d (.tup ts)]
   |_,_=> .fail:Dyn (List Upd))=
 (match Oh E s' (.tmp n) f with
  |some t=>Dyn.ret [.tm d t]
  |none=>match at_ E s' (.tmp n),Operand.tmp n with
   | .tup ts,.tmp n=> .ret [.keep n .dead,.tm d (.tup ts)]
   |_,_=> .fail:Dyn (List Upd)):=by
 rcases h with e|⟨q,u⟩
 ·have i:at_ E s (.tmp n)=at_ E s' (.tmp n):=congrArg Prod.fst e;have k:(s.tm n).2=(s'.tm n).2:=congrArg Prod.snd e;unfold Oh;rw[i];cases at_ E s' (.tmp n)with
  |val ag cs=>simp only[k]
  |_=>rfl
 ·obtain⟨ag,cs,g,i,k,v,y,p⟩:=rO.1 u;have l:at_ E s (.tmp n)= .val ag cs:=i;have m:at_ E s' (.tmp n)= .val ag g:=k;unfold Oh;rw[l,m];simp only[v,y,cond_false,q,p]
  have:cs.map (λ _=>(s'.tm n).2)=g.map (λ _=>(s'.tm n).2):=by
   rw[List.map_const',List.map_const',p]
  rw[this]
theorem MJ (h:Agree W s s') {d:Nat} (e:W (.bx d)) (cs:LC):Vg s d cs=Vg s' d cs:=by
 unfold Vg;rw[h.bx d e]
theorem Tm {f d:St} (h:Agree W s s') (i:Agree W f d) {y:Operand} (k:yt W s y) (g:yt W f y) (e:List Sh):Tj E s f y e=Tj E s' d y e:=by
 unfold Tj;rw[←fG (E:=E) h k,CG i g]
theorem Ht (h:Agree W s s') {p:Pl} {n k:Nat} (u:p.root= .box n) (t:W (.bi n)) (v: ∀i,i<max k p.vers.length->W (.bc n (p.cell+i))):aV s p k=aV s' p k/\D9 s p k=D9 s' p k:=by
 have e:=h.bi n t;have g: ∀i,i<max k p.vers.length->bxC s n (p.cell+i)=bxC s' n (p.cell+i):=λ i y=>h.bc n _ (v i y);unfold bxI at e;unfold bxC at g;unfold aV D9;simp only[u,aA]
 cases l:s.bx n with
 |none=>
  cases d:s'.bx n with
  |none=>exact⟨rfl,rfl⟩
  |some m=>rw[l,d]at e;cases e
 |some b=>
  cases d:s'.bx n with
  |none=>rw[l,d]at e;cases e
  |some m=>
   rw[l,d]at e;simp only[aaL,aag,aaz]at e;simp only[l,d,aaj]at g
   have z:(b.cells.drop p.cell).take k=(m.cells.drop p.cell).take k:=by
    apply aaZ;intro i;simp only[aan,aas];split
    ·exact g i Ω
    ·rfl
   have hv:F5 p.vers ((b.cells.drop p.cell).map (·.2))=F5 p.vers ((m.cells.drop p.cell).map (·.2)):=by
    rw[Bool.eq_iff_iff,E8,E8]
    have: ∀(i x:Nat),p.vers[i]? =some x->((b.cells.drop p.cell).map (·.2))[i]? =((m.cells.drop p.cell).map (·.2))[i]? :=by
     intro i x f
     have t:i<p.vers.length:=by
      rcases aaG i p.vers.length with h|h
      ·exact h
      ·simp[aal h]at f
     simp only[aau,aas];rw[g i Ω]
    constructor
    ·intro q i x f;rw[←this i x f];exact q i x f
    ·intro q i x f;rw[this i x f];exact q i x f
   simp only[e.1,e.2,hv,z,and_self]
theorem Pg (h:Agree W s s') {p:Pl} {n:Nat} (i:p.root= .box n) (f:p.sub=none) (k:W (.bi n)):Di s p=Di s' p:=by
 have e:=h.bi n k;unfold bxI at e;unfold Di;simp only[i,f,aA]
 cases g:s.bx n with
 |none=>
  cases d:s'.bx n with
  |none=>rfl
  |some l=>rw[g,d]at e;cases e
 |some b=>
  cases d:s'.bx n with
  |none=>rw[g,d]at e;cases e
  |some l=>
   rw[g,d]at e;simp only[aaL,aag,aaz]at e;simp only[e.1]
theorem ad8 {t k:Nat} (hs: ∀L,L∈EG s t k->W L):yt W s (.tmp t)\/ ∃p n,(s.tm t).1= .addr p/\p.root= .box n/\p.sub=none/\W (.tm t)/\W (.bi n)/\ ∀i,i<max k p.vers.length->W (.bc n (p.cell+i)):=by
 unfold EG at hs;split at hs
 ·rename_i p f;split at hs
  ·rename_i n g d
   exact .inr ⟨p,n,f,g,d,hs _ Θ,hs _ Θ,λ i l=>hs _ (by
    refine aaS _ (aaS _ (aaC.2 ⟨i,ab1.2 l,rfl⟩)))⟩
  ·exact .inl λ L e=>hs L (by simp only[rF,f]at e;exact e)
 ·exact .inl λ L e=>hs L (by simp only[rF]at e;exact e)
theorem Gm (h:Agree W s s') (hs: ∀L,L∈wU E s o->W L) (a5: ¬∃ n,o.op= .move (.tmp n)) (g: ∀x,x∈o.op.operands->yt W s x):(plan E o s).run=(plan E o s').run:=by
 have box: ∀d,o.dst=some d->(∃t,o.op= .alloc t)\/(∃t x,o.op= .box t x)->W (.bx d):=λ d M q=>hs _ (by
  unfold wU;refine aa4 _ ?_;rcases q with⟨t,q⟩|⟨t,x,q⟩<;>simp[q,M])
 unfold plan
 cases q:o.op with
 |store t a x=>
  rw[q]at g;have D:=g a (by simp[Op.operands]);have l:=g x (by simp[Op.operands]);simp only[]
  cases o.dst with
  |some d=>rfl
  |none=>
   simp only[];refine bind_congr (by rw[uV h l]) λ r A=> ?_;obtain⟨ag,cs,us⟩:=r;simp only[];have hm:=zH (W:=W) A;have G:=D.dW us s hm;have K:=h.dW us;rw[←fG (E:=E) K G]
   cases B:at_ E (s.dW us) a with
   |addr p=>
    have A:W p.root.loc:=fC (E:=E) G (by rw[B];simp[T.uP,T.loc]);simp only[];simp only[Rf K A,Ou K A,uM K A,TB K A]
   |addr2 p k j=>
    have A:W p.root.loc:=fC (E:=E) G (by rw[B];simp[T.uP,T.loc]);simp only[];rw[Ux K A]
   |_=>rfl
 |move x=>
  rw[q]at g;have l:=g x (by simp[Op.operands]);simp only[]
  cases o.dst with
  |none=>rfl
  |some d=>
   simp only[];rw[Ve h l,←fG (E:=E) h l]
 |assign x=>
  rw[q]at g;have l:=g x (by simp[Op.operands]);simp only[]
  cases o.dst with
  |none=>rfl
  |some d=>
   simp only[];rw[uV h l,←fG (E:=E) h l]
 |pick c x y=>
  rw[q]at g;have sc:=g c (by simp[Op.operands]);have l:=g x (by simp[Op.operands]);have C:=g y (by simp[Op.operands]);simp only[]
  cases o.dst with
  |none=>rfl
  |some d=>
   simp only[];rw[Oi h sc,←fG (E:=E) h l,←fG (E:=E) h C]
 |alloc t=>
  simp only[]
  cases M:o.dst with
  |none=>rfl
  |some d=>
   simp only[]
   cases E.ty t with
   |none=>rfl
   |some i=>simp only[];rw[MJ h (box d M (.inl ⟨t,q⟩))]
 |box t x=>
  rw[q]at g;have l:=g x (by simp[Op.operands]);simp only[]
  cases M:o.dst with
  |none=>rfl
  |some d=>
   simp only[];refine bind_congr (by rw[uV h l]) λ r A=> ?_;obtain⟨ag,cs,us⟩:=r;simp only[];rw[MJ (h.dW us) (box d M (.inr ⟨t,x,q⟩))]
 |build t ps=>
  rw[q]at g;simp only[]
  cases o.dst with
  |none=>rfl
  |some d=>
   simp only[]
   cases E.ty t with
   |none=>rfl
   |some i=>
    simp only[]
    exact bind_congr (DT _ _ _ _ _ _ _ h λ p R=>g p.2 (by
     simp only[Op.operands,List.mem_toArray,aaC];exact⟨p,R,rfl⟩)) λ r A=>rfl
 |buildSlice t n ps=>
  rw[q]at g;simp only[]
  cases o.dst with
  |none=>rfl
  |some d=>
   simp only[];split
   ·exact bind_congr (FP _ _ _ _ _ _ _ _ h λ p R=>g p.2 (by
     simp only[Op.operands,List.mem_toArray,aaC];exact⟨p,R,rfl⟩)) λ r A=>rfl
   ·rfl
 |load t x=>
  rw[q]at g;have l:=g x (by simp[Op.operands]);simp only[]
  cases o.dst with
  |none=>rfl
  |some d=>
   simp only[];rw[←fG (E:=E) h l]
   cases B:at_ E s x with
   |addr p=>
    have A:W p.root.loc:=fC (E:=E) l (by rw[B];simp[T.uP,T.loc])
    cases E.ty t with
    |none=>rfl
    |some i=>simp only[];rw[uM h A,gB h A];simp only[Tn h A,jd h A]
   |paddr cs off=>cases E.ty t<;>rfl
   |_=>rfl
 |nilCheck x=>
  rw[q]at g;have l:=g x (by simp[Op.operands]);simp only[]
  cases o.dst with
  |none=>rfl
  |some d=>
   simp only[];rw[←fG (E:=E) h l]
   cases B:at_ E s x with
   |addr p=>
    have A:W p.root.loc:=fC (E:=E) l (by rw[B];simp[T.uP,T.loc]);simp only[];rw[Jq h A]
   |_=>rfl
 |makeFunc f xs ys=>
  rw[q]at g;simp only[]
  cases o.dst with
  |none=>rfl
  |some d=>
   have S:=OQ (E:=E) h ys.toList λ y N=>g y (by simp only[Op.operands,Array.mem_append];exact .inr (by simpa using N))
   cases f with
   |func k=>simp only[S]
   |_=>rfl
 |binOp op t x y u=>
  rw[q]at g;have l:=g x (by simp[Op.operands]);have C:=g y (by simp[Op.operands]);simp only[]
  cases o.dst with
  |none=>rfl
  |some d=>simp only[];rw[←fG (E:=E) h l,←fG (E:=E) h C,Vh h l]
 |unOp op t x=>
  rw[q]at g;have l:=g x (by simp[Op.operands]);simp only[]
  cases o.dst with
  |none=>rfl
  |some d=>simp only[];rw[←fG (E:=E) h l]
 |convert u t x=>
  rw[q]at g;have l:=g x (by simp[Op.operands]);simp only[]
  cases o.dst with
  |none=>rfl
  |some d=>simp only[];rw[←fG (E:=E) h l,RG h l]
 |makeMap t r=>cases r<;>rfl
 |lookup t m x ok=>
  rw[q]at g;have U:=g m (by simp[Op.operands]);have l:=g x (by simp[Op.operands]);simp only[]
  cases o.dst with
  |none=>rfl
  |some d=>simp only[];rw[Vd h U l]
 |mapUpdate t m x v=>
  rw[q]at g;have U:=g m (by simp[Op.operands]);have l:=g x (by simp[Op.operands]);have sv:=g v (by simp[Op.operands]);simp only[]
  cases o.dst with
  |none=>simp only[];rw[Vx h U l sv]
  |some d=>rfl
 |makeSlice t x y=>
  rw[q]at g;have l:=g x (by simp[Op.operands]);have C:=g y (by simp[Op.operands]);simp only[]
  cases o.dst with
  |none=>rfl
  |some d=>simp only[];rw[nO h l,nO h C]
 |slice t x lo hi mx=>
  rw[q]at g;have l:=g x (by simp[Op.operands]);have Y:=Jm (E:=E) h lo λ y N=>g y (by simp[Op.operands,N]);have Z:=Jm (E:=E) h hi λ y N=>g y (by simp[Op.operands,N]);simp only[]
  cases o.dst with
  |none=>rfl
  |some d=>
   simp only[];rw[Y,Z];simp only[Ug h l]
 |fieldAddr t x f=>
  rw[q]at g;have l:=g x (by simp[Op.operands]);simp only[]
  cases o.dst with
  |none=>rfl
  |some d=>
   simp only[];rw[←fG (E:=E) h l]
   cases E.ty t with
   |none=>rfl
   |some i=>
    simp only[]
    cases B:at_ E s x with
    |addr p=>
     have A:W p.root.loc:=fC (E:=E) l (by rw[B];simp[T.uP,T.loc])
     cases i.fields[f]? with
     |none=>rfl
     |some on=>simp only[];rw[Jq h A]
    |_=>cases i.fields[f]? <;>rfl
 |indexAddr t x i=>
  rw[q]at g;have l:=g x (by simp[Op.operands]);have si:=g i (by simp[Op.operands]);simp only[]
  cases o.dst with
  |none=>rfl
  |some d=>
   simp only[];rw[nO h si];simp only[Sv h l]
 |index t x i=>
  rw[q]at g;have l:=g x (by simp[Op.operands]);have si:=g i (by simp[Op.operands]);simp only[]
  cases o.dst with
  |none=>rfl
  |some d=>simp only[];rw[←fG (E:=E) h l,nO h si]
 |field t x f=>
  rw[q]at g;have l:=g x (by simp[Op.operands]);simp only[]
  cases o.dst with
  |none=>rfl
  |some d=>simp only[];rw[←fG (E:=E) h l]
 |extract x i=>
  rw[q]at g;have l:=g x (by simp[Op.operands]);simp only[]
  cases o.dst with
  |none=>rfl
  |some d=>simp only[];rw[←fG (E:=E) h l]
 |call c=>
  rw[q]at g
  have D: ∀x,x∈c.args.toList->yt W s x:=λ x Q=>g x (by
   simp only[Op.operands,Call.operands,Array.mem_append];exact .inr (by simpa using Q))
  simp only[]
  cases o.dst with
  |none=>
   simp only[];split
   ·rename_i x t e1 e2 e3;rw[RI h (D x (by rw[e2];simp))]
   ·rfl
  |some d=>
   simp only[]
   cases S:c.callee with
   |value f=>
    have sf:=g f (by simp[Op.operands,Call.operands,S]);simp only[];rw[←fG (E:=E) h sf]
    cases hf:at_ E s f with
    |fn k=>
     simp only[]
     cases Nat.beq (E.sig (E.spec d)).fn k with
     |false=>rfl
     |true=>exact KP h d _ _ _ D (λ t ht=>by cases ht)
    |clo k ts=>
     simp only[]
     cases Nat.beq (E.sig (E.spec d)).fn k with
     |false=>rfl
     |true=>exact KP h d _ _ _ D (λ t ht L hL=>zD (E:=E) sf L (by rw[hf];exact acp.2 ⟨t,ht,hL⟩))
    |_=>rfl
   |invoke r m=>rfl
   |builtin b=>
    match Q:c.args.toList with
    | []=>cases b<;>rfl
    | [x]=>
      rw[Q]at D;have l:=D x Θ;cases b<;>first|rfl|(simp only[];rw[CG h l])
    | [x,y]=>
      rw[Q]at D;have l:=D x Θ;have C:=D y Θ;by_cases hb:b= .append
      ·subst hb;simp only[];refine bind_congr (by rw[uV h l]) λ r A=> ?_;obtain⟨ag,cs,us⟩:=r;simp only[];rw[Tm h (h.dW us) C (C.dW us s (zH A)),uV (h.dW us) (C.dW us s (zH A)) []];simp only[XA (h.dW us) (l.dW us s (zH A))]
      ·by_cases O:b= .copy
       ·subst O;simp only[];refine bind_congr (by rw[CG h C]) λ ds b4=> ?_;rw[←fG (E:=E) h l];split
        ·rename_i e t u p z lo hi B I;exact congrArg Dyn.run (Fq h (fC (E:=E) l (by rw[I];simp[T.uP,T.loc])) _ _ _ _ _ _)
        ·rename_i e t u p B I;exact congrArg Dyn.run (Fq h (fC (E:=E) l (by rw[I];simp[T.uP,T.loc])) _ _ _ _ _ _)
        ·rfl
       cases b<;>first|exact absurd rfl hb|exact absurd rfl O|(simp only[];rw[nO h l,nO h C])
    |x::y::z::r=>cases b<;>rfl
 |_=>rfl
theorem ZI (h:Agree W s s') (hs: ∀L,L∈wU E s o->W L) (y: ¬∃ n,o.op= .move (.tmp n)) {t:Nat} (l:ZH o.op=some t) (e: ∀L,L∈U9 s t->W L):(plan E o s).run=(plan E o s').run:=by
 unfold ZH at l;split at l
 ·rename_i c A;split at l
  ·rename_i B C;cases l
   have plain:yt W s (.tmp t)->(plan E o s).run=(plan E o s').run:=λ m=>Gm h hs y λ x f=>by
    rw[A]at f
    have:x= .tmp t:=by
     simp only[Op.operands,Call.operands,B]at f;have:x∈c.args.toList:=by simpa using f
     rw[C]at this;simpa using this
    rw[this];exact m
   unfold U9 at e;split at e
   ·rename_i p ag k g;split at e
    ·rename_i n D q;have G:W (.tm t):=e _ Θ;obtain⟨q1,_⟩:=Ht (k:=k) h D (e _ Θ) λ i I=>e _ (aaS _ (aaS _ (aaC.2 ⟨i,ab1.2 I,rfl⟩)));have u:(s'.tm t).1= .ref p ag k:=by rw[←h.tm t G];exact g
     have z:JX E s (.tmp t)=JX E s' (.tmp t):=by
      unfold JX content;simp only[at_,g,u];cases ag<;>simp only[q,q1]
     unfold plan;simp only[A,B,C]
     cases o.dst with
     |none=>rfl
     |some d=>simp only[z]
    ·exact plain λ L v=>e L (by simp only[rF,g]at v;exact v)
   ·exact plain λ L v=>e L (by simp only[rF]at v;exact v)
  ·cases l
 ·cases l
theorem Ph (h:Agree W s s') (hs: ∀L,L∈wU E s o->W L):(plan E o s).run=(plan E o s').run:=by
 by_cases m: ∃n,o.op= .move (.tmp n)
 ·obtain⟨n,l⟩:=m;have K:UA (s.tm n) (s'.tm n):=h.id n (hs _ (by simp[wU,SX,ZH,Vk,l]));unfold plan;simp only[l]
  cases o.dst with
  |none=>rfl
  |some d=>simp only[];exact congrArg Dyn.run (agM K _)
 have g: ∀L,L∈SX E s o.op->W L:=λ L M=>hs L (aaF _ M)
 have adr: ∀(t k:Nat),o.op.operands= #[.tmp t]->(∀L,L∈EG s t k->W L)->(∀p n,(s.tm t).1= .addr p->p.root= .box n->p.sub=none->W (.tm t)->W (.bi n)->(∀i,i<max k p.vers.length->W (.bc n (p.cell+i)))->(plan E o s).run=(plan E o s').run)->(plan E o s).run=(plan E o s').run:=by
  intro t k N O C;rcases ad8 O with G|⟨p,n,v,z,y,A,B,D⟩
  ·exact Gm h hs m λ x C=>by
    rw[N]at C;have:x= .tmp t:=by simpa using C
    rw[this];exact G
  ·exact C p n v z y A B D
 have gen:SX E s o.op=o.op.operands.toList.flatMap (rF s)->(plan E o s).run=(plan E o s').run:=λ e=>Gm h hs m λ x C L M=>g L (by
  rw[e];exact acp.2 ⟨x,by simpa using C,M⟩)
 unfold SX at g gen
 cases q:ZH o.op with
 |some t=>
  rw[q]at g;exact ZI h hs m q g
 |none=>
 rw[q]at g gen;simp only[]at g gen;unfold Vk at g gen;split at g
 ·rename_i n l;exact absurd ⟨n,l⟩ m
 ·rename_i ty t l;refine adr t _ (by rw[l];rfl) g λ p n v z y A B D=> ?_;have I:=h.tm t A;have u:(s'.tm t).1= .addr p:=by rw[←I];exact v
  unfold plan;simp only[l]
  cases o.dst with
  |none=>rfl
  |some d=>
   simp only[at_,v,u]
   cases Q:E.ty ty with
   |none=>rfl
   |some i=>
    simp only[];have R:(ig E ty).length=i.cells.length:=by simp only[ig,Q]
    rw[R]at D;obtain⟨q1,q2⟩:=Ht h z B D;have S:N9 s p=none:=by unfold N9;simp only[y]
    have U:N9 s' p=none:=by unfold N9;simp only[y]
    have Y:content s p i.cells.length=content s' p i.cells.length:=by unfold content;simp only[y,q1]
    simp only[S,U,Y,q2]
 ·rename_i t l;refine adr t _ (by rw[l];rfl) g λ p n v z y A B D=> ?_;have I:=h.tm t A;have u:(s'.tm t).1= .addr p:=by rw[←I];exact v
  unfold plan;simp only[l]
  cases o.dst with
  |none=>rfl
  |some d=>simp only[at_,v,u,Pg h z y B]
 ·rename_i ty t f l;refine adr t _ (by rw[l];rfl) g λ p n v z y A B D=> ?_;have I:=h.tm t A;have u:(s'.tm t).1= .addr p:=by rw[←I];exact v
  unfold plan;simp only[l]
  cases o.dst with
  |none=>rfl
  |some d=>
   simp only[at_,v,u]
   cases E.ty ty with
   |none=>rfl
   |some i=>
    simp only[]
    cases i.fields[f]? with
    |none=>rfl
    |some off=>simp only[Pg h z y B]
 ·rename_i Z k2 k3 k4;refine gen ?_;split
  ·rename_i n l;exact absurd l (Z n)
  ·rename_i ty t l;exact absurd l (k2 ty t)
  ·rename_i t l;exact absurd l (k3 t)
  ·rename_i ty t f l;exact absurd l (k4 ty t f)
  ·rfl
end
section
variable {P:Program} {E:Env} {C:Ctx} {s s':St} {a a':Act} {w w':World} {g g':Gh} {o:Oper} {Q:Exit->Act->World->Prop}
def Loc.cov (M L:Loc):Prop:=M=L\/ ∃n,M= .bx n/\(L= .bi n\/ ∃i,L= .bc n i)
def Cov (d:List Loc) (L:Loc):Prop:= ∃M,M∈d/\M.cov L
theorem Cov.of {d:List Loc} {L:Loc} (h:L∈d):Cov d L:=⟨L,h,.inl rfl⟩
def afr (E:Env) (all:List Oper) (o:Oper) (s:St) (us:List Upd):Prop:=
 La E o=true/\match o.guard with
  |none=>(plan E o s).run=some us
  |some (i,want)=> ∃d x,Xx all i=some d/\DY s (some d)=some x/\((x=some want/\(plan E o s).run=some us)\/(x≠some want/\us=wz o))
def Reads (E:Env) (all:List Oper) (o:Oper) (s:St) (us:List Upd) (r:List Loc):Prop:=
 (∀n t,.keep n t∈us-> .id n∈r)/\match o.guard with
  |none=> ∀L,L∈wU E s o->L∈r
  |some (i,want)=> ∃d,Xx all i=some d/\ .tm d∈r/\(DY s (some d)=some (some want)-> ∀L,L∈wU E s o->L∈r)
theorem Qj {W:Loc->Prop} (h:Agree W s s') {d:Nat} (e:W (.tm d)):DY s (some d)=DY s' (some d):=by
 simp only[DY,h.tm d e]
theorem Xo {all:List Oper} {us:List Upd} {r:List Loc} (h:Agree (Cov r) s s') (q:afr E all o s us) (e:Reads E all o s us r):afr E all o s' us:=by
 obtain⟨t,f⟩:=q;refine⟨t,?_⟩
 replace e:=e.2
 cases l:o.guard with
 |none=>
  rw[l]at f e;simp only at f e ⊢;rw[←Ph h λ L k=>Cov.of (e L k)];exact f
 |some u=>
  obtain⟨i,want⟩:=u;rw[l]at f e;simp only at f e ⊢;obtain⟨d,x,m,p,g⟩:=f;obtain⟨v,q1,q2,q3⟩:=e;rw[m]at q1;cases q1;refine⟨d,x,m,by rw[←Qj h (Cov.of q2)];exact p,?_⟩;rcases g with⟨rfl,g⟩|g
  ·exact .inl ⟨rfl,by rw[←Ph h λ L k=>Cov.of (q3 p L k)];exact g⟩
  ·exact .inr g
theorem ahg (h:Rel E C s a w g) (e:La E o=true): ∃g',Rel E C (s.dW (wz o)) (a.put o.dst undef) w g':=by
 unfold wz
 cases f:o.dst with
 |none=>exact⟨g,h⟩
 |some d=>
  simp only[La,f]at e;simp only[aae,abw]at e;exact⟨g,h.QT (mk:= .hand) ⟨e.1,(Nat.blt_eq ..).mp e.2⟩ rfl (show undef=undef from rfl)⟩
theorem Zd (h:Rel E C s a w g) {e:Array Oper} {i d:Nat} {x:Option Bool} (k:Xx e.toList i=some d) (l:DY s (some d)=some x):yielded e a.tmps i=x:=by
 have y:(e[i]?).bind (·.dst)=some d:=by
  unfold Xx at k;simp only[aaW]at k
  cases t:e[i]? with
  |none=>rw[t]at k;cases k
  |some o=>rw[t]at k;exact k
 have m:=h.tm d;unfold DY at l;simp only at l;unfold yielded;rw[y];simp only[aaj];have f:a.eval (.tmp d)=(a.tmps[d]?).getD undef:=by simp[Act.eval,abj]
 rw[f]at m;split at l
 ·rename_i b q;cases l;rw[q]at m;obtain⟨u,_,z,A⟩:=Fg.one m;have:(a.tmps[d]?).getD undef= .bool b:=by rw[←A rfl];exact z
  cases p:a.tmps[d]? with
  |none=>rw[p]at this;cases this
  |some v=>rw[p]at this;simp only[aby]at this;rw[this]
 ·rename_i q;cases l;rw[q]at m;have:(a.tmps[d]?).getD undef=undef:=m
  cases p:a.tmps[d]? with
  |none=>rfl
  |some v=>
   rw[p]at this;simp only[aby]at this;subst this;rfl
 ·cases l
theorem Yz (v:Ri P E) (h:Rel E C s a w g) {e:Array Oper} {i:Nat} (y:e[i]? =some o) {us:List Upd} (z:afr E e.toList o s us) {K:Act->World->Prop} (q: ∀a' w' g',Rel E C (s.dW us) a' w' g'->K a' w'):wpOp P e Q i K a w:=by
 obtain⟨t,k⟩:=z;unfold wpOp;rw[y];simp only[];have run:(plan E o s).run=some us->o.wp P a w K Q:=λ A=>Oper.wp_mono (λ a' w' ⟨g',m⟩=>q a' w' g' m) (agY v h t A)
 have skip:us=wz o->K (a.put o.dst undef) w:=λ B=>by
  obtain⟨g',m⟩:=ahg h t;subst B;exact q _ _ g' m
 cases l:o.guard with
 |none=>
  rw[l]at k;have:Region.wanted o (yielded e a.tmps)=true:=by simp[Region.wanted,l]
  rw[if_pos this];exact .inl (run k)
 |some D=>
  obtain⟨j,want⟩:=D;rw[l]at k;obtain⟨d,x,G,I,f⟩:=k;have L:=Zd h G I;have u:Region.wanted o (yielded e a.tmps)=(x==some want):=by simp only[Region.wanted,l,L]
  rcases f with⟨rfl,f⟩|⟨p,f⟩
  ·rw[if_pos (by rw[u];simp)];exact .inl (run f)
  ·rw[if_neg (by rw[u];simpa using p)];exact skip f
theorem Uu {ρ:Type} {d:Option Tmp} {k:St->Option ρ} {r:ρ} (h:splitAt s d k=some r):k s=some r:=by
 unfold splitAt at h
 have same: ∀(n:Nat) (t:T) (v:Nat),s.tm n=(t,v)->({s with tm:=put s.tm n (t,v)}:St)=s:=by
  intro n t v e
  have:put s.tm n (t,v)=s.tm:=by
   funext m;by_cases f:m=n
   ·subst f;rw[bF,e]
   ·rw[bJ _ _ _ f]
  rw[this]
 cases d with
 |none=>exact h
 |some d=>
  simp only at h;split at h
  ·rename_i b v g
   cases b with
   |true=>simp only[cond_true]at h;rw[same d _ v g]at h;exact h
   |false=>simp only[cond_false]at h;rw[same d _ v g]at h;exact h
  ·exact h
def KI (E:Env) (d:Bool) (all:List Oper) (i:List (List Nat)):List Oper->Nat->List EF->St->List EF->(Nat->St)->(Nat->List Upd)->Prop
 | [],j,g,s,e,S,U=>e=g/\S j=s
 |o::os,j,g,s,e,S,U=>S j=s/\afr E all o s (U j)/\ ∃f,Reads E all o s (U j) f.r/\f.w=Dx s (U j)/\(d=true->ordered (i.getD j []) f g 0=true)/\KI E d all i os (j+1) (g++[f]) (s.dW (U j)) e S U
theorem KI.congr {E:Env} {e:Bool} {all:List Oper} {u:List (List Nat)}: ∀{os:List Oper} {j:Nat} {k:List EF} {s:St} {d:List EF} {S l:Nat->St} {U m:Nat->List Upd},(∀i,j<=i->l i=S i)->(∀i,j<=i->m i=U i)->
 KI E e all u os j k s d S U->KI E e all u os j k s d l m
 | [],j,k,s,d,S,l,U,m,p,g,⟨q,t⟩=>⟨q,by rw[p j (aaw _)];exact t⟩
 |o::os,j,k,s,d,S,l,U,m,p,g,⟨q,t,f,v,y,z,A⟩=>by
  refine⟨by rw[p j (aaw _)];exact q,by rw[g j (aaw _)];exact t,f,by rw[g j (aaw _)];exact v,by rw[g j (aaw _)];exact y,z,?_⟩;rw[g j (aaw _)];exact A.congr (λ i B=>p i Ω) (λ i B=>g i Ω)
theorem WG {L:List Loc} {us:List Upd} (n:Nat) (t:T) (h: .keep n t∈us): .id n∈L++U4 us:=
 aa4 _ (acp.2 ⟨_,h,Θ⟩)
theorem Ue {r:List Loc} (n:Nat) (t:T) (h: .keep n t∈wz o): .id n∈r:=by
 unfold wz at h;split at h<;>simp at h
theorem JB {g:Bool} {all:List Oper} {A:List (List Nat)} {ρ:Type} {k:St->Option ρ} {r:ρ}: ∀(os:List Oper) (j:Nat) (q:List EF) (s:St),JA E g all A os j q s k=some r->
 ∃u S U,KI E g all A os j q s u S U/\k (S (j+os.length))=some r
 | [],j,q,s,h=>⟨q,λ _=>s,λ _=>[],⟨rfl,rfl⟩,h⟩
 |o::os,j,q,s,h=>by
  simp only[JA]at h
  have step: ∀(us:List Upd) (f:EF),afr E all o s us->Reads E all o s us f.r->f.w=Dx s us->
   (bif La E o&&(!g||ordered (A.getD j []) f q 0)then
    bif guards all j then splitAt (s.dW us) o.dst (λ s'=>JA E g all A os (j+1) (q++[f]) s' k)
    else JA E g all A os (j+1) (q++[f]) (s.dW us) k else none)=some r->
   ∃u S U,KI E g all A (o::os) j q s u S U/\k (S (j+(o::os).length))=some r:=by
   intro us f N O Q p;simp only[cond_eq_ite]at p;split at p
   ·rename_i C;simp only[aae]at C
    have D:JA E g all A os (j+1) (q++[f]) (s.dW us) k=some r:=by
     split at p
     ·exact Uu p
     ·exact p
    obtain⟨u,S,U,hs,R⟩:=JB os (j+1) (q++[f]) (s.dW us) D;refine⟨u,λ i=>if i=j then s else S i,λ i=>if i=j then us else U i,⟨Θ,by simp only[if_true];exact N,f,by simp only[if_true];exact O,by simp only[if_true];exact Q,λ G=> ?_,?_⟩,?_⟩
    ·have:=C.2;rw[G]at this;simpa using this
    ·simp only[if_true];exact hs.congr (λ i W=>by rw[if_neg Ω]) (λ i W=>by rw[if_neg Ω])
    ·simp only[aaX];rw[if_neg Ω,show j+(os.length+1)=j+1+os.length by omega];exact R
   ·cases p
  have M: ∀{X:Option ρ},(bif La E o&&X.isSome then X else none)=some r->La E o=true:=by
   intro X B;simp only[cond_eq_ite,aae]at B;split at B
   ·rename_i C;exact C.1
   ·cases B
  have l: ∀{b:Bool} {X:Option ρ},(bif La E o&&b then X else none)=some r->La E o=true:=by
   intro b X B;simp only[cond_eq_ite,aae]at B;split at B
   ·rename_i C;exact C.1
   ·cases B
  split at h
  ·rename_i v;rw[Dyn.Vz]at h;obtain⟨us,I,p⟩:=aa6.1 h;exact step us _ ⟨l p,by rw[v];exact I⟩ ⟨WG,by rw[v];exact λ L K=>aaF _ K⟩ rfl p
  ·rename_i i want v;split at h
   ·rename_i b d m y;rw[y]at m;simp only[cond_eq_ite]at h;split at h
    ·rename_i z;have z:b=want:=by simpa using z
     subst z;rw[Dyn.Vz]at h;obtain⟨us,I,p⟩:=aa6.1 h;simp only[←cond_eq_ite]at p;exact step us _ ⟨l p,by rw[v];exact⟨d,_,y,m,.inl ⟨rfl,I⟩⟩⟩ ⟨λ n t Y=>aaS _ (WG n t Y),by rw[v];exact⟨d,y,Θ,λ _ L K=>aaS _ (aaF _ K)⟩⟩ rfl p
    ·rename_i z;have z:b≠want:=by simpa using z
     simp only[←cond_eq_ite]at h;exact step (wz o) _ ⟨l h,by rw[v];exact⟨d,_,y,m,.inr ⟨by simpa using z,rfl⟩⟩⟩ ⟨Ue,by rw[v];exact⟨d,y,Θ,λ e=>by rw[m]at e;simp only[aag]at e;exact absurd e z⟩⟩ rfl h
   ·rename_i d m y;rw[y]at m;exact step (wz o) _ ⟨l h,by rw[v];exact⟨d,_,y,m,.inr ⟨Θ,rfl⟩⟩⟩ ⟨Ue,by rw[v];exact⟨d,y,Θ,λ e=>by rw[m]at e;simp at e⟩⟩ rfl h
   ·cases h
theorem Loc.Ud (L:Loc):L.same L=true:=by cases L<;>simp[Loc.same]
theorem VJ {M N L:Loc} (e:M.cov L) (d:N.cov L):M.same N=true:=by
 rcases e with rfl|⟨n,rfl,rfl|⟨i,rfl⟩⟩
 ·rcases d with rfl|⟨m,rfl,rfl|⟨j,rfl⟩⟩
  ·exact Loc.Ud _
  ·simp[Loc.same]
  ·simp[Loc.same]
 ·rcases d with rfl|⟨m,rfl,h|⟨j,h⟩⟩
  ·simp[Loc.same]
  ·cases h;simp[Loc.same]
  ·cases h
 ·rcases d with rfl|⟨m,rfl,h|⟨j,h⟩⟩
  ·simp[Loc.same]
  ·cases h
  ·cases h;simp[Loc.same]
theorem Ku {L:Loc} {d e:List Loc} (f:Cov d L) (g:Cov e L):meets d e=true:=by
 obtain⟨M,i,k⟩:=f;obtain⟨N,l,m⟩:=g;unfold meets;rw[ab8];exact⟨M,i,ab8.2 ⟨N,l,VJ k m⟩⟩
theorem Cov.left {L:Loc} {d e:List Loc} (h:Cov d L):Cov (d++e) L:=let⟨M,f,g⟩:=h; ⟨M,aaF _ f,g⟩
theorem Cov.right {L:Loc} {e d:List Loc} (h:Cov d L):Cov (e++d) L:=let⟨M,f,g⟩:=h; ⟨M,aa4 _ f,g⟩
def Loc.atom:Loc->Prop| .bx _=>False|_=>True
def rH (L:Loc) (s s':St):Prop:=Agree (· =L) s s'
theorem rH.refl (L:Loc) (s:St):rH L s s:=⟨λ _ _=>rfl,λ _ _=>rfl,λ _ _=> .inl rfl,λ _ _=>rfl,λ _ _ _=>rfl⟩
theorem rH.symm {L:Loc} (h:rH L s s'):rH L s' s:=⟨λ n e=>(h.tm n e).symm,λ n e=>(h.bx n e).symm,λ n e=>(h.id n e).symm,λ n e=>(h.bi n e).symm,λ n i e=>(h.bc n i e).symm⟩
theorem rH.trans {L:Loc} {d f s3:St} (h:rH L d f) (k:rH L f s3):rH L d s3:=⟨λ n e=>(h.tm n e).trans (k.tm n e),λ n e=>(h.bx n e).trans (k.bx n e),λ n e=>(h.id n e).trans (k.id n e),λ n e=>(h.bi n e).trans (k.bi n e),λ n i e=>(h.bc n i e).trans (k.bc n i e)⟩
def sH (s s':St) (us:List Upd):Prop:= ∀n t,.keep n t∈us->UA (s.tm n) (s'.tm n)
theorem sH.refl (s:St) (us:List Upd):sH s s us:=λ _ _ _=> .inl rfl
theorem NW {L:Loc} (q:L.atom): ∀{us:List Upd} {s s':St},sH s s' us-> ¬Cov (Dx s us) L->rH L (s'.dW us) s'
 | [],s,s',_,_=>rH.refl L s'
 |u::us,s,s',z,h=>by
  have h: ¬Cov (u.uP s) L/\ ¬Cov (Dx (u.on s) us) L:=⟨λ m=>h m.left,λ m=>h m.right⟩
  have v:sH (u.on s) (u.on s') us:=by
   intro n t A;have f:=z n t (by simp[A])
   cases u with
   |bx k b=>exact f
   |cl k l=>exact f
   |tm k B=>
    simp only[Upd.on];by_cases d:n=k
    ·subst d;rw[bF,bF,f.ver];exact .inl rfl
    ·rw[bJ _ _ _ d,bJ _ _ _ d];exact f
   |keep k B=>
    simp only[Upd.on];by_cases d:n=k
    ·subst d;rw[bF,bF,f.ver];exact .inl rfl
    ·rw[bJ _ _ _ d,bJ _ _ _ d];exact f
  refine(NW q (us:=us) (s:=u.on s) (s':=u.on s') v h.2).trans ?_;have p:=h.1
  cases u with
  |tm k t=>
   refine⟨λ n e=> ?_,λ n _=>rfl,λ n e=> ?_,λ n _=>rfl,λ n i _=>rfl⟩
   ·have:n≠k:=by intro g;subst g;exact p (Cov.of (by simp[Upd.uP,e]))
    simp only[Upd.on];rw[bJ _ _ _ this]
   ·have:n≠k:=by intro g;subst g;exact p (Cov.of (by simp[Upd.uP,e]))
    simp only[Upd.on];rw[bJ _ _ _ this];exact .inl rfl
  |keep k t=>
   refine⟨λ n e=> ?_,λ n _=>rfl,λ n e=> ?_,λ n _=>rfl,λ n i _=>rfl⟩
   ·have:n≠k:=by
     intro g;subst g;refine p (Cov.of ?_);unfold Upd.uP;simp only[cond_eq_ite];split<;>simp[e]
    simp only[Upd.on];rw[bJ _ _ _ this]
   ·by_cases d:n=k
    ·subst d
     have hs:LM (s.tm n).1 t=true:=by
      cases C:LM (s.tm n).1 t with
      |true=>rfl
      |false=>exact absurd (Cov.of (by simp only[Upd.uP];rw[C];simp[e])) p
     have f:=z n t Θ;simp only[Upd.on];rw[bF]
     have D:UA (t,(s'.tm n).2) (s.tm n):= .inr ⟨f.ver.symm,by
      obtain⟨ag,cs,y,E,G,I,K,M⟩:=rO.1 hs;exact rO.2 ⟨ag,y,cs,G,E,K,I,M.symm⟩⟩
     exact D.trans f
    ·simp only[Upd.on];rw[bJ _ _ _ d];exact .inl rfl
  |bx k b=>
   have d: ∀n,n=k-> ¬(Loc.bx k).cov L:=λ n _ m=>p ⟨.bx k,by simp[Upd.uP],m⟩;refine⟨λ n _=>rfl,λ n e=> ?_,λ n _=> .inl rfl,λ n e=> ?_,λ n i e=> ?_⟩
   ·rw[←e]at q;exact q.elim
   ·have:n≠k:=by intro g;subst g;exact d n rfl (.inr ⟨n,rfl,.inl e.symm⟩)
    unfold bxI;simp only[Upd.on];rw[bJ _ _ _ this]
   ·have:n≠k:=by intro g;subst g;exact d n rfl (.inr ⟨n,rfl,.inr ⟨i,e.symm⟩⟩)
    unfold bxC;simp only[Upd.on];rw[bJ _ _ _ this]
  |cl k l=>
   refine⟨λ n _=>rfl,λ n e=> ?_,λ n _=> .inl rfl,λ n e=>YM _ _ _ _,λ n i e=> ?_⟩
   ·rw[←e]at q;exact q.elim
   ·rw[YL];split
    ·rename_i d;subst d;have: ∀c,c∈l->c.1≠i:=λ c m N=>p (Cov.of (by rw[←e];exact aaC.2 ⟨c,m,by rw[N]⟩))
     cases bxC s' n i with
     |none=>rfl
     |some x=>simp[Qy l i x this]
    ·rfl
theorem St.aib {s s':St} (h: ∀L,L.atom->rH L s s'):s=s':=by
 have d:s.tm=s'.tm:=funext λ n=>(h (.tm n) trivial).tm n rfl;have e:s.bx=s'.bx:=funext λ n=>afA ((h (.bi n) trivial).bi n rfl) λ i=>(h (.bc n i) trivial).bc n i rfl;cases s;cases s';simp only at d e;subst d e;rfl
def l9 (U:Nat->List Upd) (s:St) (L:Nat->Bool):Nat->St
 |0=>s
 |n+1=>bif L n then(l9 U s L n).dW (U n)else l9 U s L n
def Je (S:Nat->St) (U:Nat->List Upd) (s:St) (L:Nat->Bool) (n:Nat):Prop:= ∀j,j<n->L j=true->sH (S j) (l9 U s L j) (U j)
theorem Je.one {S:Nat->St} {U:Nat->List Upd} {L:Nat->Bool} {l:Loc} (d:l.atom) {n m:Nat} (h:Je S U s L n) (e:m<n) (f: ¬Cov (Dx (S m) (U m)) l):rH l (l9 U s L (m+1)) (l9 U s L m):=by
 simp only[l9]
 cases g:L m with
 |true=>exact NW d (h m e g) f
 |false=>exact rH.refl _ _
theorem zu {s:St} {S:Nat->St} {U:Nat->List Upd} {L L':Nat->Bool} {l:Loc} (d:l.atom): ∀{n:Nat},Je S U s L n->Je S U s L' n->(∀j,j<n->Cov (Dx (S j) (U j)) l->L j=L' j)->rH l (l9 U s L n) (l9 U s L' n)
 |0,_,_,_=>rH.refl _ _
 |n+1,i,k,h=>by
  have f:=zu d (s:=s) (S:=S) (U:=U) (L:=L) (L':=L') (l:=l) (n:=n) (λ j m=>i j Ω) (λ j m=>k j Ω) λ j m=>h j Ω;by_cases g:Cov (Dx (S n) (U n)) l
  ·have e:=h n Ω g;simp only[l9,e]
   cases L' n with
   |true=>exact Agree.dW f _
   |false=>exact f
  ·exact((i.one d Ω g).trans f).trans (k.one d Ω g).symm
theorem RV {S:Nat->St} {U:Nat->List Upd} {L L':Nat->Bool} {i:Nat}: ∀{n:Nat},i<n->L i=false->(∀j,L' j=(L j||Nat.beq j i))->Je S U s L n->Je S U s L' n->sH (S i) (l9 U s L n) (U i)->
 (∀j,i<j->L j=true-> ∀l,Cov (Dx (S j) (U j)) l-> ¬Cov (Dx (S i) (U i)) l)->l9 U s L' n=(l9 U s L n).dW (U i):=by
 intro n I K d v e y M;refine St.aib λ l g=> ?_;by_cases z:Cov (Dx (S i) (U i)) l
 ·
  have key: ∀m,m<=n->i<m->rH l (l9 U s L' m) ((l9 U s L i).dW (U i))/\rH l (l9 U s L m) (l9 U s L i):=by
   intro m
   induction m with
   |zero=>intro _ h;omega
   |succ m N=>
    intro O h;by_cases k:m=i
    ·subst k;have A:L' m=true:=by rw[d m];simp
     have B:l9 U s L' (m+1)=(l9 U s L' m).dW (U m):=by simp only[l9,A,cond_true]
     have C:l9 U s L (m+1)=l9 U s L m:=by simp only[l9,K,cond_false]
     rw[B,C];refine⟨Agree.dW (zu g (S:=S) (λ j D=>e j Ω) (λ j D=>v j Ω) λ j D _=> ?_) _,rH.refl _ _⟩;rw[d j];have:Nat.beq j m=false:=by rw[←ab6];intro p;have:=aao p;omega
     simp[this]
    ·have q:i<m:=by omega
     obtain⟨t,u⟩:=N Ω q
     have A:L' m=L m:=by
      rw[d m];have:Nat.beq m i=false:=by rw[←ab6];intro p;exact k (aao p)
      simp[this]
     cases f:L m with
     |false=>
      have B:l9 U s L' (m+1)=l9 U s L' m:=by simp only[l9,A,f,cond_false]
      have C:l9 U s L (m+1)=l9 U s L m:=by simp only[l9,f,cond_false]
      rw[B,C];exact⟨t,u⟩
     |true=>
      have G: ¬Cov (Dx (S m) (U m)) l:=λ E=>M m q f l E z;exact⟨(e.one g Ω G).trans t,(v.one g Ω G).trans u⟩
  obtain⟨t,u⟩:=key n (aaw _) I;exact t.trans (Agree.dW u.symm _)
 ·refine(zu g (S:=S) (L':=L) e v λ j D E=> ?_).trans (NW g y z).symm;rw[d j];have:Nat.beq j i=false:=by rw[←ab6];intro p;have:=aao p;subst this;exact z E
  simp[this]
structure PU (E:Env) (all:List Oper) (ah:List (List Nat)) (N:Nat) (S:Nat->St) (U:Nat->List Upd) (F:Nat->EF):Prop where
 next: ∀i,i<N->S (i+1)=(S i).dW (U i)
 acts: ∀i o,i<N->all[i]? =some o->afr E all o (S i) (U i)
 reads: ∀i o,i<N->all[i]? =some o->Reads E all o (S i) (U i) (F i).r
 writes: ∀i,i<N->(F i).w=Dx (S i) (U i)
 ahead: ∀i k,i<N->k<i->EF.clash (F k) (F i)=true->k∈ah.getD i []
theorem MN {ahead:List Nat} {f:EF}: ∀{l:List EF} {i:Nat},ordered ahead f l i=true-> ∀k g,l[k]? =some g->EF.clash g f=true->i+k∈ahead
 | [],_,_,k,g,d,_=>by simp at d
 |x::t,i,h,k,g,d,m=>by
  simp only[ordered,aae]at h
  cases k with
  |zero=>
   simp only[aaO,aag]at d;subst d;have e:=h.1;rw[m]at e;simp only[abm,Bool.false_or,ab8]at e;obtain⟨y,p,q⟩:=e;have:=aao q;subst this;exact p
  |succ k=>
   have:=MN h.2 k g (by simpa using d) m;rw[show i+(k+1)=i+1+k by omega];exact this
theorem Xi {e:Bool} {all:List Oper} {D:List (List Nat)}: ∀(os:List Oper) (j:Nat) (p:List EF) (s:St) (d:List EF) (S:Nat->St) (U:Nat->List Upd) (F0:Nat->EF),KI E e all D os j p s d S U->
 (∀i,os[i]? =all[j+i]?)->p.length=j->(∀k,k<j->p[k]? =some (F0 k))->
 ∃F:Nat->EF,(∀k,k<j->F k=F0 k)/\S j=s/\(∀i,j<=i->i<j+os.length->S (i+1)=(S i).dW (U i)/\(∀o,all[i]? =some o->afr E all o (S i) (U i)/\Reads E all o (S i) (U i) (F i).r)/\(F i).w=Dx (S i) (U i)/\(e=true-> ∀k,k<i->EF.clash (F k) (F i)=true->k∈D.getD i []))
 | [],j,p,s,d,S,U,F0,h,_,_,_=>⟨F0,λ _ _=>rfl,h.2,λ i q A=>by simp at A;omega⟩
 |o::os,j,p,s,d,S,U,F0,⟨q,A,f,I,K,L,M⟩,g,l,t=>by
  obtain⟨F,q1,q2,q3⟩:=Xi os (j+1) (p++[f]) (s.dW (U j)) d S U (λ k=>if k=j then f else F0 k) M
   (λ i=>by have:=g (i+1);rw[show j+1+i=j+(i+1) by omega,←this];simp) (by simp[l]) (λ k z=>by
    by_cases u:k=j
    ·subst u;simp[l]
    ·rw[if_neg u,aax Ω];exact t k Ω)
  have m:F j=f:=by rw[q1 j Ω];simp
  have v: ∀k,k<j->F k=F0 k:=λ k z=>by rw[q1 k Ω];simp[show k≠j by omega]
  refine⟨F,v,q,λ i N B=> ?_⟩;by_cases C:i=j
  ·subst C;have O:all[i]? =some o:=by have:=g 0;simpa using this.symm
   refine⟨by rw[q2,q],λ o' y=> ?_,by rw[m,q];exact K,λ Q k z G=> ?_⟩
   ·rw[O]at y;cases y;rw[q,m];exact⟨A,I⟩
   ·rw[m,v k z]at G;have:=MN (L Q) k _ (t k z) G;simpa using this
  ·exact q3 i Ω (by simp at B ⊢;omega)
def Closed (d:List Oper) (L:Nat->Bool):Prop:= ∀i o,d[i]? =some o->L i=true-> ∀e,e∈o.after.toList->Region.binds .any e=true->L e.on=true
theorem PX {l:List Oper} {L:Nat->Bool} (t:Closed l L) {f:List (List Nat)} (d: ∀i k,k∈f.getD i []->L i=true->L k=true): ∀{es:List Edge} {k:Nat},k∈yV f es->(∀e,e∈es->Region.binds .any e=true->L e.on=true)->L k=true
 | [],_,h,_=>by simp[yV]at h
 |e::es,k,h,m=>by
  simp only[yV,cond_eq_ite]at h;split at h
  ·rename_i u;have g:=m e Θ u;simp only[aaU,aap]at h;rcases h with rfl|h|h
   ·exact g
   ·exact d _ _ h g
   ·exact PX t d h λ p q=>m p (by simp[q])
  ·exact PX t d h λ p q=>m p (by simp[q])
theorem Rw {g:List Oper} {L:Nat->Bool} (m:Closed g L): ∀(os:List Oper) (d:List (List Nat)),(∀i,os[i]? =g[d.length+i]?)->(∀i k,k∈d.getD i []->L i=true->L k=true)->
 ∀i k,k∈(OI os d).getD i []->L i=true->L k=true
 | [],d,_,h=>h
 |o::os,d,f,h=>by
  refine Rw m os _ (λ i=> ?_) λ i k l q=> ?_
  ·have:=f (i+1);simp only[aaq,aaX,aci];rw[show d.length+(0+1)+i=d.length+(i+1) by omega,←this];simp
  ·have t:g[d.length]? =some o:=by have:=f 0;simpa using this.symm
   rcases acg i d.length with p|heq|u
   ·have:(d++[yV d o.after.toList]).getD i []=d.getD i []:=by
     simp[abg,aax p]
    rw[this]at l;exact h i k l q
   ·subst heq
    have:(d++[yV d o.after.toList]).getD d.length []=yV d o.after.toList:=by
     simp[abg]
    rw[this]at l;exact PX m h l λ e v y=>m _ o t q e v y
   ·have:(d++[yV d o.after.toList]).getD i []= []:=by
     rw[abg,aal Δ];rfl
    rw[this]at l;cases l
theorem Lc: ∀{os:List Oper} {j:Nat},IC os j=true-> ∀i o,os[i]? =some o-> ∀e,e∈o.after.toList->Region.binds .any e=true->e.on<j+i
 | [],_,_,i,o,h,_,_,_=>by simp at h
 |x::k,j,h,i,o,d,e,f,g=>by
  simp only[IC,aae,aaV]at h
  cases i with
  |zero=>
   simp only[aaO,aag]at d;subst d;have:=h.1 e f;rw[g]at this;have:=(Nat.blt_eq ..).mp (by simpa using this);omega
  |succ i=>
   have:=Lc h.2 i o (by simpa using d) e f g;omega
def kN (d:Array Bool):Nat->Bool:=λ i=>d.getD i false
theorem Nc {f:Array Oper} {d:Array Bool} (v:d.size=f.size) {i:Nat}:i∈Region.ready .any f d ↔ ∃o,f[i]? =some o/\kN d i=false/\ ∀e,e∈o.after.toList->Region.binds .any e=true->kN d e.on=true:=by
 unfold Region.ready kN;simp only[List.mem_filter,ab1,aae,abw];constructor
 ·rintro⟨y,g,k⟩;have u:f[i]? =some f[i]:=aa8 y;rw[u]at k;simp only[aaL,aby,Array.all_eq_true_iff_forall_mem,abT,abw]at k;refine⟨_,u,?_,λ e l m=> ?_⟩
  ·have p:i<d.size:=by omega
   simp only[abj,aa8 p,aby]at g ⊢;exact g
  ·rcases k e (by simpa using l)with h|h
   ·rw[m]at h;cases h
   ·exact h
 ·rintro⟨o,q,g,k⟩
  have t:i<f.size:=by
   rw[abz]at q;exact q.1
  refine⟨t,?_,?_⟩
  ·have p:i<d.size:=by omega
   simp only[abj,aa8 p,aby]at g ⊢;exact g
  ·rw[q];simp only[aaL,aby,Array.all_eq_true_iff_forall_mem,abT,abw];intro e l
   cases m:Region.binds .any e with
   |false=>exact .inl rfl
   |true=>exact .inr (k e (by simpa using l) m)
theorem Xp {f:Array Oper} {d:Array Bool} (g:d.size=f.size) (l:IC f.toList 0=true) (m:Region.ready .any f d= []): ∀i,i<f.size->kN d i=true:=by
 intro i
 induction i using Nat.strongRecOn with
 |_ i p=>
  intro q;rw[←Bool.not_eq_false];intro t;have u:f[i]? =some f[i]:=aa8 q
  have:i∈Region.ready .any f d:=(Nc g).2 ⟨_,u,t,λ e k v=>by
   have:=Lc l i f[i] Θ e k v;exact p e.on Ω Ω⟩
  rw[m]at this;cases this
theorem zq {E:Env} {all:List Oper} {e:List (List Nat)} {N:Nat} {S:Nat->St} {U:Nat->List Upd} {F:Nat->EF} (h:PU E all e N S U F) {L:Nat->Bool}: ∀n,n<=N->(∀j,j<n->L j=true)->l9 U (S 0) L n=S n
 |0,_,_=>rfl
 |n+1,f,d=>by
  simp only[l9,d n Ω,cond_true];rw[zq h n Ω λ j g=>d j Ω,h.next n Ω]
theorem UQ {E:Env} {all:List Oper} {q:List (List Nat)} {N:Nat} {S:Nat->St} {U:Nat->List Upd} {F:Nat->EF} (h:PU E all q N S U F) (e: ∀i,i<N-> ∃o,all[i]? =some o) {L:Nat->Bool} (u: ∀i k,k∈q.getD i []->L i=true->L k=true):
 ∀n,n<=N->Je S U (S 0) L n
 |0,_=>λ j v=>absurd v Ω
 |n+1,I=>by
  have y:=UQ h e u n Ω;intro j v g;by_cases p:j<n
  ·exact y j p g
  obtain rfl:j=n:=by omega
  intro m t B;obtain⟨o,C⟩:=e j Ω;have D:=(h.reads j o Ω C).1 m t B
  have f:Je S U (S 0) (λ _=>true) j:=λ k z _=>by
   rw[zq h k Ω λ _ _=>rfl];exact sH.refl _ _
  have d:=zu (l:= .id m) trivial (S:=S) f y λ k z A=>by
   rw[←h.writes k Ω]at A
   have G:EF.clash (F k) (F j)=true:=by
    unfold EF.clash;rw[Ku A (Cov.of (aaF _ D))];rfl
   exact(u j k (h.ahead j k Ω z G) g).symm
  rw[zq h j Ω λ _ _=>rfl]at d;exact d.id m rfl
theorem any_ok (hE:Ri P E) {f:Array Oper} {S:Nat->St} {U:Nat->List Upd} {F:Nat->EF} (hs:PU E f.toList (OI f.toList []) f.size S U F) (he:IC f.toList 0=true)
 (hQ: ∀a w g,Rel E C (S f.size) a w g->Q .normal a w): ∀(u:Nat) (d:Array Bool) (a:Act) (w:World) (g:Gh),d.size=f.size->d.toList.countP (! ·)<=u->Closed f.toList (kN d)->
  Rel E C (l9 U (S 0) (kN d) f.size) a w g->wpAny P .any f Q u d a w:=by
 have fin: ∀(d:Array Bool) (a:Act) (w:World) (g:Gh),d.size=f.size->Rel E C (l9 U (S 0) (kN d) f.size) a w g->Region.ready .any f d= []->Q .normal a w:=by
  intro d a w g q hr z;have:=Xp q he z;rw[zq hs _ (aaw _) this]at hr;exact hQ a w g hr
 intro u
 induction u with
 |zero=>
  intro d a w g q hc R hr
  have z:Region.ready .any f d= []:=by
   rw[List.eq_nil_iff_forall_not_mem];intro i hi;obtain⟨o,ho,hf,_⟩:=(Nc q).1 hi;have v:i<d.size:=by rw[q];rw[abz]at ho;exact ho.1
   have h0:d.toList.countP (! ·)=0:=by omega
   rw[List.countP_eq_zero]at h0;have:=h0 d[i] Θ;simp only[kN,abj,aa8 v,aby]at hf;rw[hf]at this;simp at this
  exact⟨z,fin d a w g q hr z⟩
 |succ u ih=>
  intro d a w g q hc R hr;refine⟨fin d a w g q hr,λ i hi=> ?_⟩;obtain⟨o,ho,hf,b3⟩:=(Nc q).1 hi;have v:i<f.size:=by rw[abz]at ho;exact ho.1
  have a7:i<d.size:=by omega
  have a8:f.toList[i]? =some o:=by simpa using ho
  have W: ∀(L:Nat->Bool),Closed f.toList L-> ∀i k,k∈(OI f.toList []).getD i []->L i=true->L k=true:=λ L hL=>Rw hL f.toList [] (λ i=>Θ) (λ i k hk=>by simp at hk)
  let p:=d.setIfInBounds i true
  have G: ∀j,kN p j=(kN d j||Nat.beq j i):=by
   intro j;simp only[kN,p,abj,Array.getElem?_setIfInBounds];by_cases D:i=j
   ·subst D;simp[a7]
   ·have:Nat.beq j i=false:=by rw[←ab6];intro hb;exact D (aao hb).symm
    simp[D,this]
  have I:Closed f.toList (kN p):=by
   intro k o' hk y e b4 hb;rw[G k]at y;rw[G e.on];simp only[abT]at y ⊢;rcases y with y|y
   ·exact .inl (R k o' hk y e b4 hb)
   ·have:=aao y;subst this;rw[a8]at hk;cases hk;exact .inl (b3 e b4 hb)
  have c4:kN p i=true:=by rw[G i];simp
  have b5: ∀k,k<i->EF.clash (F k) (F i)=true->kN d k=true:=by
   intro k hk K;have N:=hs.ahead i k v hk K;have h2:=W _ I i k N c4;rw[G k]at h2;have:Nat.beq k i=false:=by rw[←ab6];intro hb;have:=aao hb;omega
   simpa [this]using h2
  have a2: ∀j,i<j->j<f.size->kN d j=true->EF.clash (F i) (F j)=false:=by
   intro j D Y y;rw[←ab6];intro K;have N:=hs.ahead j i Y D K;have h2:=W _ R j i N y;rw[hf]at h2;cases h2
  have out: ∀j,f.size<=j->kN d j=false:=by
   intro j D;simp only[kN,abj];rw[acn Ω];rfl
  have a3: ∀i,i<f.size-> ∃o,f.toList[i]? =some o:=λ i hi=>⟨f[i],by simp[hi]⟩;have b6:=UQ hs a3 (W _ R) f.size (aaw _);have b7:=UQ hs a3 (W _ I) f.size (aaw _);have b0:=hs.acts i o v a8;have A:=hs.reads i o v a8
  have B:Agree (Cov (F i).r) (S i) (l9 U (S 0) (kN d) f.size):=by
   have c5:S i=l9 U (S 0) (λ j=>decide (j<i)) f.size:=by
    have N:=zq hs (L:=λ j=>decide (j<i)) i Ω Θ;rw[←N]
    have h2: ∀m,l9 U (S 0) (λ j=>decide (j<i)) (i+m)=l9 U (S 0) (λ j=>decide (j<i)) i:=by
     intro m
     induction m with
     |zero=>rfl
     |succ m ih=>rw[show i+(m+1)=(i+m)+1 by omega];simp only[l9];rw[show decide (i+m<i)=false by simp,cond_false,ih]
    have:=h2 (f.size-i);rw[show i+(f.size-i)=f.size by omega]at this;exact this.symm
   have one: ∀l,l.atom->Cov (F i).r l->rH l (S i) (l9 U (S 0) (kN d) f.size):=by
    intro l ha y;rw[c5];refine zu ha (S:=S) (λ j D b8=> ?_) b6 λ j D hw=> ?_
    ·have b8:j<i:=by simpa using b8
     have e1:l9 U (S 0) (λ j=>decide (j<i)) j=S j:=zq hs j Ω λ k hk=>by simp;omega
     rw[e1];exact sH.refl _ _
    rw[←hs.writes j D]at hw;rcases acg j i with h|h|h
    ·have:EF.clash (F j) (F i)=true:=by
      unfold EF.clash;rw[Ku hw y.left];rfl
     rw[b5 j h this];simp[h]
    ·subst h;rw[hf];simp
    ·have e1:decide (j<i)=false:=by simp;omega
     rw[e1]
     cases O:kN d j with
     |false=>rfl
     |true=>
      have N:=a2 j h D O;unfold EF.clash at N;rw[Ku hw y]at N;simp at N
   refine⟨λ n z=>(one (.tm n) trivial z).tm n rfl,λ n z=> ?_,λ n z=>(one (.id n) trivial z).id n rfl,λ n z=>(one (.bi n) trivial z).bi n rfl,λ n i z=>(one (.bc n i) trivial z).bc n i rfl⟩
   have hm: .bx n∈(F i).r:=by
    obtain⟨M,N,rfl|⟨m,_,h|⟨_,h⟩⟩⟩:=z
    ·exact N
    ·cases h
    ·cases h
   exact afA ((one (.bi n) trivial ⟨_,hm,.inr ⟨n,rfl,.inl rfl⟩⟩).bi n rfl) λ i=>(one (.bc n i) trivial ⟨_,hm,.inr ⟨n,rfl,.inr ⟨i,rfl⟩⟩⟩).bc n i rfl
  have Z:=Xo B b0 A;refine Yz hE hr ho Z λ a' w' g' c8=> ?_;refine ih p a' w' g' (by simp[p,q]) ?_ I ?_
  ·have a4:i<d.toList.length:=by simpa using a7
   have b9:d.toList[i]=false:=by
    simp only[kN,abj,aa8 a7,aby]at hf;simpa using hf
   have c0:0<d.toList.countP (! ·):=List.countP_pos_iff.2 ⟨false,by rw[←b9];exact aaf a4,rfl⟩;have:p.toList=d.toList.set i true:=by simp[p]
   rw[this,List.countP_set a4,b9];simp;simp at hc c0;omega
  ·rw[RV (S:=S) v hf G b6 b7 (λ m t hm=>B.id m (Cov.of (A.1 m t hm))) λ j D O l y c1=> ?_]
   ·exact c8
   ·have Y:j<f.size:=by
     rcases aaG j f.size with h|h
     ·exact h
     ·rw[out j h]at O;cases O
    have:=a2 j D Y O;rw[←hs.writes j Y]at y;rw[←hs.writes i v]at c1;unfold EF.clash at this;rw[Ku c1 y.right]at this;simp at this
end
end Go.AM
end
