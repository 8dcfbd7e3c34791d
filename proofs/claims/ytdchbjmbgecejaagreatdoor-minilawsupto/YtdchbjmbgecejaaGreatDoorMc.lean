import Derived.Test.YtdchbjmbgecejaaGreatDoorMb
import Derived.Orders
set_option linter.unusedVariables false
section
namespace Go.AM
open Go
section
variable {P:Program} {E:Env} {C:Ctx} {s s':St} {a a':Act} {w w':World} {g g':Gh} {o:Oper} {Q:Exit->Act->World->Prop}
def Tg.moves:Tg->Bool| .own=>true| .tip=>true|_=>false
theorem oU: ∀{cs:List CV} {want:List (Sh×Tg)} {ds:List CV},weaken cs want=some ds->cs.length=want.length/\ds.length=want.length/\
 ∀(k:Nat) (c:CV),cs[k]? =some c-> ∃sh tg,want[k]? =some (sh,tg)/\ds[k]? =some (c.to tg)/\c.sh=sh/\Tg.le tg c.tg=true/\(gW cs want)[k]? =some (bif c.isPure then c else leftAs c tg)
 | [],[],ds,h=>by
   simp only[weaken,aae]at h;subst h;exact⟨rfl,rfl,λ k c hc=>by simp at hc⟩
 | [],_::_,ds,h=>by simp[weaken]at h
 |_::_,[],ds,h=>by simp[weaken]at h
 |c::cs,(sh,tg)::want,ds,h=>by
  simp only[weaken,cond_eq_ite,aad]at h;split at h
  ·rename_i hc;obtain⟨d',hd',rfl⟩:=aaG.1 h;obtain⟨h1,h2,h3⟩:=oU hd';refine⟨by simp[h1],by simp[h2],λ k c' hc'=> ?_⟩
   cases k with
   |zero=>simp at hc';subst hc';exact⟨sh,tg,rfl,rfl,Sh.eq_of_beq hc.1.1,hc.1.2,rfl⟩
   |succ k=>
    obtain⟨sh',tg',e1,e2,e3,e4,e5⟩:=h3 k c' (by simpa using hc');exact⟨sh',tg',by simpa using e1,by simpa using e2,e3,e4,by simpa [gW]using e5⟩
  ·cases h
theorem WT (c:CV) (tg:Tg) (h:(leftAs c tg).tg= .own):leftAs c tg=c:=by
 obtain⟨sh,ct,x⟩:=c;cases tg<;>cases ct<;>simp_all [leftAs,CV.kill,CV.to]
theorem JA: ∀{cs:List CV} {want:List (Sh×Tg)} {i:Nat} {d:CV},(gW cs want)[i]? =some d->d.tg= .own->cs[i]? =some d
 | [],_,i,d,h,_=>by simp[gW]at h
 |_::_,[],i,d,h,_=>by simp[gW]at h
 |c::cs,(sh,tg)::want,0,d,h,ho=>by
  simp only[gW,aaM,aae]at h ⊢
  cases hp:c.isPure with
  |true=>rw[hp]at h;exact h
  |false=>
   rw[hp]at h;simp only[cond_false]at h;rw[←h]at ho ⊢;exact(WT c tg ho).symm
 |c::cs,(sh,tg)::want,i+1,d,h,ho=>by
  simpa using JA (cs:=cs) (want:=want) (i:=i) (by simpa [gW]using h) ho
theorem jE.aeP {ρ:aH->aH} {ow ow':aH} {c:CV} {v:Value} (hc:c.tg= .pure) (h:jE w g ow c v):jE w (g.ren ρ) ow' c v:=by
 have:=h.pure (w':=w) (g':=g.ren ρ) (ow':=ow') (show Keeps w w g.F (g.ren ρ).F from Keeps.refl w g.F) (by unfold CV.isPure;rw[hc];rfl);exact this
theorem aF.frB {K:aH->Prop} {w w':World} {g g':Gh} (f:Fr K w w' g g') {mk:Nat->aH}: ∀(cs:List CV) (i:Nat) (vs:List Value),(∀j,i<=j->j<i+cs.length->K (mk j))->aF w g mk i cs vs->aF w' g' mk i cs vs
 | [],_,_,_,h=>h
 |c::cs,i,_,hk,⟨v,ws,e,h1,h⟩=>⟨v,ws,e,h1.fr f (hk i (aaq _) (by simp)),aF.frB f cs (i+1) ws (λ j h1 h2=>hk j (by omega) (by simp;omega)) h⟩
theorem Ah (h:Rel E C s a w g) {hs:List CV} {hv:List Value} (hh:aF w g .hand 0 hs hv) {p:Pl} {m:Nat} {cs ds:List CV} {want:List (Sh×Tg)} {us:List Upd} (hc:aW s p m=some cs) (hw:weaken cs want=some ds)
 (hu:jB s p (gW cs want) false=some us):
 ∃g',Rel E C (s.dM us) a w g'/\aF w g' .hand 0 (hs++ds) (hv++((aC a w g p.root).drop p.cell).take m)/\g'.at_=g.at_/\Keeps w w g.F g'.F/\(∀b n,g.own b=some (.box n)->g'.own b=some (.box n)):=by
 obtain⟨hp,hl⟩:=h.pl hc;obtain⟨hwl,hdl,hget⟩:=oU hw;obtain⟨g1,f1,b1,o1,a1,hd1,hl1,_,_,hsh1⟩:=BD (vw p.root) cs want ds p.cell _ g h.base hw hp
 let mv:Nat->Bool:=λ j=>decide (p.cell<=j/\j<p.cell+m)&&(match want[j-p.cell]? with|some (_,tg)=>tg.moves|none=>false)
 let ρ:aH->aH:=λ o=>match p.root,o with
  | .tmp n,.tm k j=>if k=n/\mv j=true then .hand (hs.length+(j-p.cell))else o
  | .box n,.cell k j=>if k=n/\mv j=true then .hand (hs.length+(j-p.cell))else o
  |_,o=>o
 have hmv: ∀j,mv j=true->p.cell<=j/\j<p.cell+m:=λ j hj=>by
  simp only[mv,aad,decide_eq_true_eq]at hj;exact hj.1
 have hfix: ∀o,(∀j,mv j=true->o≠dJ p.root j)->ρ o=o:=by
  intro o ho;simp only[ρ]
  cases hr:p.root with
  |tmp n=>
   cases o<;>simp only;rename_i k j;split
   ·rename_i hk;exact absurd (by rw[hr,hk.1];rfl) (ho j hk.2)
   ·rfl
  |box n=>
   cases o<;>simp only;rename_i k j;split
   ·rename_i hk;exact absurd (by rw[hr,hk.1];rfl) (ho j hk.2)
   ·rfl
 have hhand: ∀i,ρ (.hand i)= .hand i:=λ i=>hfix _ (λ j _=>by cases p.root<;>simp[dJ])
 have hmove: ∀k,mv (p.cell+k)=true->ρ (dJ p.root (p.cell+k))= .hand (hs.length+k):=by
  intro k hk;simp only[ρ]
  cases hr:p.root with
  |tmp n=>simp only[dJ];rw[if_pos ⟨trivial,hk⟩];congr 1;omega
  |box n=>simp only[dJ];rw[if_pos ⟨trivial,hk⟩];congr 1;omega
 have hlen:(gW cs want).length=cs.length:=by have:=congrArg List.length hsh1;simpa using this
 have hvl:=hp.length
 have hleft:aF w (g1.ren ρ) (dJ p.root) p.cell (gW cs want) (((aC a w g p.root).drop p.cell).take m):=by
  refine aF.of _ _ _ (by rw[hlen];exact hvl) λ k c v hk hv=> ?_
  have hkl:k<cs.length:=by
   rw[←hlen];rcases aaE k (gW cs want).length with h|h
   ·exact h
   ·simp[aah h]at hk
  obtain⟨sh,tg,e1,e2,_,e4,e5⟩:=hget k cs[k] (aac hkl);obtain⟨u,hu',hr⟩:=hl1.get _ p.cell _ k c hk;rw[hu']at hv;cases hv;rw[e5]at hk;cases hk
  cases hmvk:tg.moves with
  |true=>
   have hnp:cs[k].isPure=false:=by
    unfold CV.isPure;cases htg:cs[k].tg<;>rw[htg]at e4<;>first|rfl|(cases tg<;>simp_all [Tg.moves,Tg.le])
   rw[hnp]at hr ⊢;simp only[cond_false]at hr ⊢;have:leftAs cs[k] tg=cs[k].kill:=by cases tg<;>first|rfl|simp[Tg.moves]at hmvk
   rw[this];exact trivial
  |false=>
   have hρ:ρ (dJ p.root (p.cell+k))=dJ p.root (p.cell+k):=hfix _ λ j hj e=>by
    have:=vw p.root _ _ e;subst this;simp only[mv,aad]at hj;rw[show p.cell+k-p.cell=k by omega,e1]at hj;simp only[hmvk]at hj;exact absurd hj.2 (by simp)
   have:=hr.ren (ρ:=ρ)
   rwa [hρ]at this
 have hhd:aF w (g1.ren ρ) .hand hs.length ds (((aC a w g p.root).drop p.cell).take m):=by
  refine aF.of _ _ _ (by omega) λ k c v hk hv=> ?_
  have hkl:k<cs.length:=by
   rcases aaE k ds.length with h|h
   ·omega
   ·simp[aah h]at hk
  obtain⟨sh,tg,e1,e2,_,e4,e5⟩:=hget k cs[k] (aac hkl);obtain⟨u,hu',hr⟩:=hd1.get _ p.cell _ k c hk;rw[hu']at hv;cases hv;rw[e2]at hk;cases hk
  cases hmvk:tg.moves with
  |true=>
   have:=hr.ren (ρ:=ρ)
   rwa [hmove k (by
    simp only[mv,aad,decide_eq_true_eq];exact⟨by omega,by rw[show p.cell+k-p.cell=k by omega,e1];exact hmvk⟩)]at this
  |false=>
   cases tg with
   |pure=>exact jE.aeP rfl hr
   |dead=>exact trivial
   |own=>cases hmvk
   |tip=>cases hmvk
 have f2:Fr (λ o=>(∀j,p.cell<=j->j<p.cell+cs.length->o≠dJ p.root j)/\ ∀j,o≠ .hand j) w w g (g1.ren ρ):=
  (f1.mono λ o ho=>ho.1).trans (Fr.ren w g1 λ o ho=>hfix o λ j hj e=>by
   obtain⟨h1,h2⟩:=hmv j hj;exact ho.1 j h1 (by omega) e)
 refine⟨g1.ren ρ,?_,?_,a1,f1.keeps,λ b n e=> ?_⟩
 ·refine jQ h (ds:=gW cs want) (by rw[hlen,hl];exact hc) hu hsh1 (by rw[hlen];exact f2) (b1.ren ρ) a1 ?_ (λ i es l' hi=>⟨l',JA hi rfl,λ _ _ _ _=>rfl⟩);rw[hlen,hl];exact hleft
 ·refine aF.append hs 0 hv ds _ ?_ (by rw[aaW];exact hhd);have h1:aF w g1 .hand 0 hs hv:=aF.fr (K:=λ o=> ∃i,o= .hand i) (f1.mono λ o ⟨i,e⟩ j _ _=>by subst e;cases p.root<;>simp[dJ]) hs 0 hv (λ j=>⟨j,rfl⟩) hh;exact aF.ren hs 0 0 hv (λ k _=>by simpa using hhand (0+k)) h1
 ·have e1:g1.own b=some (.box n):=by rw[o1];exact e
  simp only[Gh.ren,e1,aaK];rw[hfix _ λ j _=>by cases p.root<;>simp[dJ]]
theorem Sh.beq_refl: ∀sh:Sh,Sh.beq sh sh=true:=by
 intro sh
 induction sh using Sh.rec (motive_2:=λ aZ=>Sh.Ia aZ aZ=true)with
 |int k=>simp[Sh.beq]
 |bool=>rfl
 |str=>rfl
 |sl es ih=>simpa [Sh.beq]using ih
 |rsl es ih=>simpa [Sh.beq]using ih
 |dl es ih=>simpa [Sh.beq]using ih
 |mp k e ih1 ih2=>simp[Sh.beq,ih1,ih2]
 |nil=>rfl
 |cons s ss ih1 ih2=>simp[Sh.Ia,ih1,ih2]
theorem wB {mk mk':Nat->aH} {cs ds:List CV} {want:List (Sh×Tg)} {i j:Nat} {vs:List Value} (hp:bD cs=true) (hw:weaken cs want=some ds) (h:aF w g mk i cs vs):aF w g mk' j ds vs:=by
 obtain⟨hwl,hdl,hget⟩:=oU hw;have hvl:=h.length;refine aF.of _ _ _ (by omega) λ k c v hk hv=> ?_
 have hkl:k<cs.length:=by
  rcases aaE k ds.length with h|h
  ·omega
  ·simp[aah h]at hk
 obtain⟨sh,tg,e1,e2,_,e4,_⟩:=hget k cs[k] (aac hkl);obtain⟨u,hu,hr⟩:=h.get _ i _ k _ (aac hkl);rw[hu]at hv;cases hv;rw[e2]at hk;cases hk;have hpc:=rQ hp cs[k] (aag hkl);rw[hpc]at e4
 cases tg with
 |dead=>exact trivial
 |pure=>exact(qH rfl).2 ((qH hpc).1 hr)
 |own=>simp[Tg.le]at e4
 |tip=>simp[Tg.le]at e4
def Tagged (cs:List CV) (want:List (Sh×Tg)):Prop:=cs.map (λ c=>(c.sh,c.tg))=want
theorem dZ {cs ds:List CV} {want:List (Sh×Tg)} (hw:weaken cs want=some ds):Tagged ds want:=by
 obtain⟨hwl,hdl,hget⟩:=oU hw;apply aaP;intro k;rw[aar];rcases aaE k cs.length with hk|hk
 ·obtain⟨sh,tg,e1,e2,e3,_,_⟩:=hget k cs[k] (aac hk);rw[e1,e2,←e3];rfl
 ·rw[aah (by omega),aah (by omega)];rfl
theorem Pz {ow:aH} {sh:Sh} (hpl:sh.oW=true) (tg:Tg):jE w g ow ((H8 sh).to tg) (.slice none 0 0):=by
 have hsl:=fD hpl;have hl:aQ sh (kM sh)=0:=by cases sh<;>first|rfl|(simp[Sh.pF]at hsl)
 cases tg with
 |dead=>exact trivial
 |pure=>
  show jo w g.F sh (kM sh) _;rw[wQ hpl];exact⟨none,0,by rw[hl],by omega,.inl hl⟩
 |own=>
  show if sh.pF=true then yI w g ow false sh (kM sh) _ else _;rw[if_pos hsl];exact .inl ⟨rfl,hl⟩
 |tip=>
  show if sh.pF=true then yI w g ow true sh (kM sh) _ else _;rw[if_pos hsl];exact .inl ⟨rfl,hl⟩
theorem VE {want:List (Sh×Tg)} {ds:List CV} (h:(adb want).run=some ds): ∃sh tg,want= [(sh,tg)]/\sh.oW=true/\ds= [(H8 sh).to tg]:=by
 unfold adb at h;split at h
 ·obtain⟨h1,h⟩:=aX h;exact⟨_,_,rfl,h1,(ak h).symm⟩
 ·exact(aj h).elim
theorem Nu {d:CV} {want:List (Sh×Tg)} {ds:List CV} (h:weaken [d] want=some ds): ∃tg,want= [(d.sh,tg)]/\ds= [d.to tg]/\Tg.le tg d.tg=true:=by
 match want,h with
 | [],h=>simp[weaken]at h
 | [(sh,tg)],h=>
   simp only[weaken,cond_eq_ite,aad]at h;split at h
   ·rename_i hc;simp only[aaK,aae]at h;exact⟨tg,by rw[Sh.eq_of_beq hc.1.1],h.symm,hc.1.2⟩
   ·cases h
 |(sh,tg)::y::ys,h=>
  simp only[weaken,cond_eq_ite,aad]at h;split at h
  ·simp at h
  ·cases h
theorem acV (h:Rel E C s a w g) {hs:List CV} {hv:List Value} (hh:aF w g .hand 0 hs hv) {n:Nat} {p:Pl} {q c:CV} (hx:(s.tm n).1= .ext p q c) (hc:c.tg= .own):
 ∃g',Rel E C (s.dM [.keep n (.ext p q c.kill)]) a w g'/\aF w g' .hand 0 (hs++[c]) (hv++(a.eval (.tmp n)).cells.toList)/\g'.at_=g.at_/\Keeps w w g.F g'.F/\(∀b n,g.own b=some (.box n)->g'.own b=some (.box n))/\isAgg (a.eval (.tmp n))=false:=by
 have ht:=h.tm n;rw[hx]at ht;obtain⟨h0,h1,h2,h3,h4,h5,h6,h7,h8⟩:=ht
 let ρ:aH->aH:=λ o=>if o= .tm n 0 then .hand hs.length else o
 have hρ: ∀o,o≠ .tm n 0->ρ o=o:=λ o ho=>by simp only[ρ,if_neg ho]
 have hρ0:ρ (.tm n 0)= .hand hs.length:=by simp only[ρ,if_pos rfl]
 have hs1:s.dM [.keep n (.ext p q c.kill)]= {s with tm:=put s.tm n (.ext p q c.kill,(s.tm n).2)}:=rfl;refine⟨g.ren ρ,h.Jw (Fr.ren w g λ o ho=>hρ o (ho.1 0)) (h.base.ren ρ) rfl (λ _ _ e=>by cases e) ?_,?_,rfl,Keeps.refl _ _,λ b m e=>by simp only[Gh.ren,e,aaK,hρ _ (by simp:aH.box m≠ .tm n 0)],h3⟩
 ·rw[hs1];refine⟨⟨?_,h0.vers⟩,h1,h2,h3,?_,h5,h6,h7,λ e he=> ?_⟩
  ·refine aaJ h0.inst (acn ?_)
   cases p.root with
   |box m=>rfl
   |tmp m=>
    simp only[qm];by_cases hm:m=n
    ·subst hm;rw[bg]
    ·rw[bF _ _ _ hm]
  ·trivial
  ·have he':aW s p 1=some [e]:=by
    rw[←he];unfold aW
    cases hr:p.root with
    |box m=>rfl
    |tmp m=>
     simp only[aB];by_cases hm:m=n
     ·subst hm;rw[bg];have:s.tm m=(.ext p q c,(s.tm m).2):=by rw[←hx]
      rw[this]
     ·rw[bF _ _ _ hm]
   obtain⟨u,hu,hx⟩:=h8 e he';refine⟨u,?_,?_⟩
   ·rw[←hu];cases p.root<;>rfl
   ·rcases hx with hx|hx
    ·exact .inl hx
    ·refine .inr ?_;have:=hx.ren (ρ:=ρ)
     rwa [hρ _ (by simp)]at this
 ·refine aF.append hs 0 hv _ _ (aF.ren hs 0 0 _ (λ k _=>hρ _ (by simp)) hh) ?_;rw[aJ h3];refine⟨_,[],rfl,?_,rfl⟩;have:=h4.ren (ρ:=ρ);rw[hρ0]at this;simpa using this
theorem Ic (h:Rel E C s a w g) {hs:List CV} {hv:List Value} (hh:aF w g .hand 0 hs hv) {x:Operand} {ag:Bool} {want:List (Sh×Tg)} {ds:List CV} {us:List Upd} (hg:(Jj s (at_ E s x) x ag want).run=some (ds,us)):
 ∃g',Rel E C (s.dM us) a w g'/\aF w g' .hand 0 (hs++ds) (hv++(a.eval x).cells.toList)/\g'.at_=g.at_/\Keeps w w g.F g'.F/\(∀b n,g.own b=some (.box n)->g'.own b=some (.box n))/\isAgg (a.eval x)=ag/\Tagged ds want:=by
 unfold Jj at hg
 have stay: ∀{mk:Nat->aH} {i:Nat} {cs:List CV} {vs:List Value},aF w g mk i cs vs->bD cs=true->weaken cs want=some ds->us= []->vs=(a.eval x).cells.toList->isAgg (a.eval x)=ag->
  ∃g',Rel E C (s.dM us) a w g'/\aF w g' .hand 0 (hs++ds) (hv++(a.eval x).cells.toList)/\g'.at_=g.at_/\Keeps w w g.F g'.F/\(∀b n,g.own b=some (.box n)->g'.own b=some (.box n))/\isAgg (a.eval x)=ag/\Tagged ds want:=by
  intro mk i cs vs hc hp hw hu hvs hag;subst hu;rw[←hvs];exact⟨g,h,aF.append hs 0 hv _ _ hh (wB hp hw hc),rfl,Keeps.refl _ _,λ _ _ e=>e,hag,dZ hw⟩
 split at hg
 ·rename_i ag' cs hx;have hv:=aN h hx (by simp);obtain⟨hag,hg⟩:=aX hg;have hag:ag'=ag:=by simpa using hag
  split at hg
  ·exact(aj hg).elim
  ·rename_i ds' hw;simp only[cond_eq_ite]at hg;split at hg
   ·rename_i hp;have:=ak hg;simp only[aas]at this;obtain⟨rfl,rfl⟩:=this;exact stay hv.2 hp hw rfl rfl (hv.1.trans hag)
   ·cases x with
    |tmp n=>
     have:=ak hg;simp only[aas]at this;obtain⟨rfl,rfl⟩:=this;have hx':(s.tm n).1= .val ag' cs:=hx;have e:s.tm n=(.val ag' cs,(s.tm n).2):=by rw[←hx']
     have hpl:aW s ⟨.tmp n,(s.tm n).2,[],0,none⟩ cs.length=some cs:=by
      rw[bI];refine⟨cs.map λ c=>(c,(s.tm n).2),?_,by simp,by simp,by rw[←oJ,mQ];simp⟩;simp only[aB];rw[e]
     have hll:(gW cs want).length=cs.length:=by
      obtain⟨h1,_,h3⟩:=oU hw
      have: ∀(cs:List CV) (want:List (Sh×Tg)),cs.length=want.length->(gW cs want).length=cs.length:=by
       intro cs
       induction cs with
       |nil=>intro want _;cases want<;>rfl
       |cons c cs ih=>
        intro want hl
        cases want with
        |nil=>simp at hl
        |cons y ys=>obtain⟨_,_⟩:=y;simp[gW,ih ys (by simpa using hl)]
      exact this cs want h1
     have hput:jB s ⟨.tmp n,(s.tm n).2,[],0,none⟩ (gW cs want) false=some [.keep n (.val ag' (gW cs want))]:=by
      simp only[jB];rw[e];simp only[cond_false,acj,cond_true,wZ _ _ hll]
     obtain⟨g',r,k,ea,kp,kb⟩:=Ah h hh hpl hw hput;have hlen:=hv.2.length
     have:((aC a w g (.tmp n)).drop 0).take cs.length=(a.eval (.tmp n)).cells.toList:=by
      simp only[aC,abu];exact aaF (by omega)
     rw[this]at k;exact⟨g',r,k,ea,kp,kb,hv.1.trans hag,dZ hw⟩
    |const v=>exact(aj hg).elim
    |global v=>exact(aj hg).elim
    |func v=>exact(aj hg).elim
 ·rename_i p ag' n hx;obtain⟨_,_,hsub,hv⟩:=aN h hx (by simp);obtain⟨hag,hg⟩:=aX hg;have hag:ag'=ag:=by simpa using hag
  obtain⟨cs,hc,hg⟩:=aU hg;have hc:=gy hsub hc;obtain⟨h1,h2⟩:=hv _ hc;unfold Ji at hg;split at hg
  ·exact(aj hg).elim
  ·rename_i ds' hw;simp only[cond_eq_ite]at hg;split at hg
   ·rename_i hp;have:=ak hg;simp only[aas]at this;obtain⟨rfl,rfl⟩:=this;exact stay (h.pl hc).1 hp hw rfl h2.symm (h1.trans hag)
   ·rw[hsub]at hg;simp only[]at hg;split at hg
    ·rename_i us' hu;have:=ak hg;simp only[aas]at this;obtain⟨rfl,rfl⟩:=this;obtain⟨g',r,k,ea,kp,kb⟩:=Ah h hh hc hw hu;rw[←h2]at k;rw[←Oa hu]at r;exact⟨g',r,k,ea,kp,kb,h1.trans hag,dZ hw⟩
    ·exact(aj hg).elim
 ·rename_i p z lo hi hx;obtain⟨_,_,hsub,_,hv⟩:=aN h hx (by simp)
  cases hag0:ag with
  |true=>rw[hag0]at hg;exact(aj hg).elim
  |false=>
   rw[hag0]at hg;simp only[cond_false]at hg;obtain⟨cs,hc,hg⟩:=aU hg;have hc:=gy hsub hc;obtain⟨c,rfl⟩:=ED hc;simp only[]at hg;split at hg
   ·exact(aj hg).elim
   ·rename_i d hd;split at hg
    ·exact(aj hg).elim
    ·rename_i ds' hw;obtain⟨hpu,hg⟩:=aX hg;rw[hsub]at hg;simp only[]at hg;split at hg
     ·rename_i us' hu;have:=ak hg;simp only[aas]at this;obtain⟨rfl,rfl⟩:=this;obtain⟨hsl,hnd,rfl⟩:=ru hd;obtain⟨tg,rfl,rfl,hle⟩:=Nu hw
      have htg:tg= .pure:=by
       have:=rQ hpu _ (aam.2 rfl);exact this
      subst htg;obtain⟨A,l,k,e1,h1,h2,h3,h4⟩:=hv c hc
      have hw1:weaken [c] [(c.sh,.pure)]=some [c.to .pure]:=by
       have hle':Tg.le .pure c.tg=true:=hle;have hdl:c.sh.ZL .pure=true:=by cases hs:c.sh<;>first|rfl|(rw[hs]at hsl;simp[Sh.oW]at hsl)
       simp[weaken,Sh.beq_refl,hle',hdl]
      obtain⟨g',r,hcs,ea,kp,kb⟩:=Ah h hh hc hw1 hu;obtain⟨u,e2,_,e3⟩:=oN h hc;rw[e1]at e2;cases e2;rw[e3]at hcs;obtain⟨l1,l2,l3⟩:=qP.1 hcs;have hagx:isAgg (a.eval x)=false:=by rw[h4];rfl
      refine⟨g',r,?_,ea,kp,kb,hagx,dZ hw⟩;rw[aJ hagx];refine qP.2 ⟨l1,l2,?_⟩;rw[h4];exact jo.sub hsl l3 h1 h2
     ·exact(aj hg).elim
 ·rename_i hx
  cases hag0:ag with
  |true=>rw[hag0]at hg;exact(aj hg).elim
  |false=>
   rw[hag0]at hg;simp only[cond_false]at hg;obtain⟨ds',hn,hg⟩:=aU hg;have:=ak hg;simp only[aas]at this;obtain⟨rfl,rfl⟩:=this;obtain⟨sh,tg,rfl,hsl,rfl⟩:=VE hn
   have hval:a.eval x= .slice none 0 0:=by
    rcases h.at_ x with⟨_,e⟩|e
    ·exact e
    ·rw[hx]at e;exact e.elim
   rw[hval];exact⟨g,h,qP.2 ⟨hh.length,hh,Pz hsl tg⟩,rfl,Keeps.refl _ _,λ _ _ e=>e,rfl,rfl⟩
 ·rename_i p ag' n hx;have hv:=aN h hx (by simp)
  obtain⟨hagg,hg⟩:(ag'=false/\ag=false)/\_:=by
   cases ag'<;>cases ag<;>first|exact⟨⟨rfl,rfl⟩,hg⟩|exact(aj hg).elim
  obtain⟨rfl,rfl⟩:=hagg;simp only[Bool.or_self,cond_false]at hg;split at hg
  ·rename_i c i j hd;obtain⟨cs,hrp,hg⟩:=aU hg;split at hg
   ·rename_i e sh tg c' hm q1 q2;split at hg
    ·rename_i ds' us' hw hu;have:=ak hg;simp only[aas]at this;obtain⟨rfl,rfl⟩:=this;obtain⟨g',r,hag2,k,ea,kp,kb⟩:=Po (mk:=VF x) h hh hv hd hrp hm hu;have htag:=dZ hw;simp only[weaken,cond_eq_ite,aaK]at hw;split at hw
     ·rename_i hc;simp only[aad]at hc;simp only[aae]at hw;subst hw;rw[aJ hag2]at k ⊢;obtain⟨hl,hhs,hr⟩:=qP.1 k;obtain⟨g1,f1,b1,o1,a1,p1,_⟩:=hr.weak r.base hc.1.2 (by rw[Sh.eq_of_beq hc.1.1];exact hc.2);refine⟨g1,r.world (f1.mono λ o ho=>ho _) b1 a1,qP.2 ⟨hl,aF.frB f1 hs 0 _ (λ q _ hq e=>by simp at e;omega) hhs,p1⟩,a1.trans ea,kp.trans f1.keeps,λ b n e=>by rw[o1];exact kb b n e,hag2,htag⟩
     ·cases hw
    ·exact(aj hg).elim
   ·exact(aj hg).elim
  ·exact(aj hg).elim
 ·rename_i p q c hx;split at hg
  ·rename_i sh n;obtain⟨hc,hg⟩:=aX hg;simp only[aad,abj]at hc;obtain⟨⟨hag,hsh⟩,hco⟩:=hc;have:=ak hg;simp only[aas]at this;obtain⟨rfl,rfl⟩:=this;have hct:c.tg= .own:=by unfold Tg.Ep at hco;split at hco<;>simp_all
   obtain⟨g',r,k,ea,kp,kb,h3⟩:=acV h hh hx hct;exact⟨g',r,k,ea,kp,kb,h3.trans hag.symm,by simp[Tagged,Sh.eq_of_beq hsh,hct]⟩
  ·exact(aj hg).elim
 ·exact(aj hg).elim
def L8 (w:World) (g:Gh):PK->Option Nat->Value->List Value->Prop
 | .val ag _,none,v,sg=>isAgg v=ag/\v.cells.toList=sg
 | .rptr want,none,v,sg=>(∃b off,v= .pointer (some ⟨b,off,none⟩)/\Nz w g.F ⟨b,off,none⟩ sg)/\want.all (·.2.isPure)=true
 | .ptr _,some n,v,sg=>v= .pointer (some ⟨g.at_ n,0,none⟩)/\g.own (g.at_ n)=some (.box n)/\ ∃cur et,w.heap[g.at_ n]? =some (.cells cur et (0,0))/\sg=cur.toList
 | .fn f,none,v,_=>v= .func (.func f) #[] #[]
 | .io _,none,v,sg=>isAgg v=false/\v.cells.toList=sg
 |_,_,_,_=>False
def xq (w:World) (g:Gh):List PK->List (Option Nat)->List Value->List (List Value)->Prop
 | [],[],[],[]=>True
 |p::ps,b::bs,v::vs,sg::sgs=>L8 w g p b v sg/\sg.length=p.cells.length/\xq w g ps bs vs sgs
 |_,_,_,_=>False
theorem L8.mono (k:Keeps w w g.F g'.F) (hat:g'.at_=g.at_) (hb: ∀b n,g.own b=some (.box n)->g'.own b=some (.box n)) {p:PK} {b:Option Nat} {v:Value} {sg:List Value} (h:L8 w g p b v sg):L8 w g' p b v sg:=by
 cases p with
 |val ag want=>cases b<;>exact h
 |fn f=>cases b<;>exact h
 |clo f want=>cases b<;>exact h
 |io want=>cases b<;>exact h
 |rptr want=>
  cases b with
  |none=>obtain⟨⟨b,off,e,hr⟩,hp⟩:=h;exact⟨⟨b,off,e,hr.keeps k⟩,hp⟩
  |some n=>exact h
 |ptr want=>
  cases b with
  |none=>exact h
  |some n=>obtain⟨e,ho,cur,et,h1,h2⟩:=h;exact⟨by rw[hat];exact e,by rw[hat];exact hb _ _ ho,cur,et,by rw[hat];exact h1,h2⟩
theorem Keeps.same {F F':Fz} (h: ∀b o,F b o->F' b o):Keeps w w F F':=⟨h,λ _ _ _=>rfl⟩
theorem Tagged.append {aZ bs:List CV} {xs ys:List (Sh×Tg)} (h1:Tagged aZ xs) (h2:Tagged bs ys):Tagged (aZ++bs) (xs++ys):=by
 simp only[Tagged,abz]at *;rw[h1,h2]
theorem YQ {n:Nat} {bs:List (Option Nat)} (h:agE n bs=true):n∉bs.filterMap id:=by
 intro hm;obtain⟨b,hb,e⟩:=List.mem_filterMap.1 hm;simp only[id]at e;subst e;have:=aaV.1 h _ hb;simp at this
theorem U9 {cs:List CV} {want:List (Sh×Tg)} (h:Tagged cs want) (hp:bD cs=true):want.all (·.2.isPure)=true:=by
 rw[←h,aaV];intro x hx;obtain⟨c,hc,rfl⟩:=aaL.1 hx;exact aaV.1 hp c hc
theorem UH {cs:List CV} {want:List (Sh×Tg)} (h:Tagged cs want) (hp:want.all (·.2.isPure)=true):bD cs=true:=by
 rw[←h,List.all_map]at hp;exact hp
theorem acU (h:Rel E C s a w g) {hs:List CV} {hv:List Value} (hh:aF w g .hand 0 hs hv) {x:Operand} {want:List (Sh×Tg)} {ds:List CV} (hg:(Yh (at_ E s x) want).run=some ds):
 ∃sg,L8 w g (.rptr want) none (a.eval x) sg/\aF w g .hand 0 (hs++ds) (hv++sg)/\Tagged ds want/\bD ds=true:=by
 unfold Yh at hg;split at hg
 ·rename_i cs off hx;obtain⟨ad,vs,e,hrow,hp,hc⟩:=aN h hx (by simp);obtain⟨hle,hg⟩:=aX hg;have hle:=aa6 hle;split at hg
  ·rename_i ds' hw;obtain⟨hpd,hg⟩:=aX hg;obtain rfl:=ak hg;have hvl:=hc.length;have hsub:=hc.sub off want.length
   have hp2:bD ((cs.drop off).take want.length)=true:=by
    rw[bD,aaV]at hp ⊢;intro c hc;exact hp c (abH (abv hc))
   refine⟨(vs.drop off).take want.length,⟨⟨ad.block,ad.off+off,e,λ j hj=> ?_⟩,U9 (dZ hw) hpd⟩,aF.append hs 0 hv _ _ hh (wB hp2 hw hsub),dZ hw,hpd⟩;have hlt:j<want.length/\off+j<vs.length:=by simp at hj;omega
   have:=hrow (off+j) hlt.2;simp only at this ⊢;rw[aaj,if_pos hlt.1,aan,abC];exact this
  ·exact(aj hg).elim
 ·exact(aj hg).elim
theorem Kt {n:Nat}: ∀(us:List Upd) (s:St),(s.bx n).isSome=true->((s.dM us).bx n).isSome=true
 | [],_,h=>h
 |u::us,s,h=>by
  refine Kt us (u.on s) ?_
  cases u with
  |tm k t=>exact h
  |keep k t=>exact h
  |bx k b=>
   simp only[Upd.on,put];cases Nat.beq n k<;>simp[h]
  |cl k l=>
   simp only[Upd.on,put]
   cases hb:Nat.beq n k with
   |false=>exact h
   |true=>have:=aal hb;subst this;simpa using h
theorem xJ {α:Type}: ∀(l:List (Nat×α)) (cs:List α),(setMany cs l).length=cs.length
 | [],_=>rfl
 |(i,c)::l,cs=>by simp only[setMany];rw[xJ l];simp
def over {α:Type}:List (Nat×α)->Nat->α->α
 | [],_,x=>x
 |(j,c)::l,i,x=>over l i (if j=i then c else x)
theorem zk {α:Type}: ∀(l:List (Nat×α)) (cs:List α) (i:Nat),(setMany cs l)[i]? =(cs[i]?).map (over l i)
 | [],cs,i=>by simp[setMany,over]
 |(j,c)::l,cs,i=>by
  simp only[setMany];rw[zk l];by_cases hj:j=i
  ·subst hj;by_cases hl:j<cs.length
   ·simp[over,hl]
   ·rw[aah (by simp;omega),aah (by omega)];rfl
  ·simp only[aaS,if_neg hj]
   cases cs[i]? with
   |none=>rfl
   |some x=>simp[over,if_neg hj]
theorem OT {α:Type}: ∀(l:List (Nat×α)) (i:Nat) (x:α),(∀c,c∈l->c.1≠i)->over l i x=x
 | [],_,_,_=>rfl
 |(j,c)::l,i,x,h=>by
  simp only[over,if_neg (h (j,c) (by simp))];exact OT l i x λ d hd=>h d (by simp[hd])
theorem YF {e:Nat}: ∀{want:List (Sh×Tg)} {j:Nat} {cs:List CV} {old:List (CV×Nat)} {c:Nat×CV×Nat},c∈iC e j cs old want->j<=c.1
 | [],j,cs,old,c,h=>by cases cs<;>cases old<;>simp[iC]at h
 |(sh,tg)::want,j,[],old,c,h=>by simp[iC]at h
 |(sh,tg)::want,j,_::_,[],c,h=>by simp[iC]at h
 |(sh,tg)::want,j,c0::cs,(o0,v0)::old,c,h=>by
  have hrec:c∈iC e (j+1) cs old want->j<=c.1:=λ hh=>Nat.le_of_succ_le (YF hh);cases tg<;>simp only[iC,aaR]at h<;>first|exact hrec h|(rcases h with rfl|h;exact aaq _;exact hrec h)
def adN (tg:Tg) (x y:CV×Nat):CV×Nat:=match tg with| .dead=>x|_=>y
theorem JB {e:Nat}: ∀{want:List (Sh×Tg)} {j:Nat} {cs:List CV} {old:List (CV×Nat)} {i:Nat} {sh:Sh} {tg:Tg} {c:CV} {o:CV×Nat} (x:CV×Nat),want[i]? =some (sh,tg)->cs[i]? =some c->old[i]? =some o->
 over (iC e j cs old want) (j+i) x=adN tg x (c,o.2+e)
 | [],_,_,_,_,_,_,_,_,_,h,_,_=>by simp at h
 |_::_,_,[],_,_,_,_,_,_,_,_,h,_=>by simp at h
 |_::_,_,_::_,[],_,_,_,_,_,_,_,_,h=>by simp at h
 |(sh0,tg0)::want,j,c0::cs,(o0,v0)::old,0,sh,tg,c,o,x,hw,hc,ho=>by
  simp only[aaM,aae,aas]at hw hc ho;obtain⟨rfl,rfl⟩:=hw;subst hc ho;have out: ∀y,over (iC e (j+1) cs old want) (j+0) y=y:=λ y=>OT _ _ _ λ d hd=>by have:=YF hd;omega
  cases tg0<;>simp only[iC,over,aaU,if_true,adN]<;>exact out _
 |(sh0,tg0)::want,j,c0::cs,(o0,v0)::old,i+1,sh,tg,c,o,x,hw,hc,ho=>by
  have hrec: ∀y,over (iC e (j+1) cs old want) (j+(i+1)) y=adN tg y (c,o.2+e):=λ y=>by
   have:=JB (e:=e) (j:=j+1) y (by simpa using hw) (by simpa using hc) (by simpa using ho)
   rwa [show j+1+i=j+(i+1) by omega]at this
  have hne: ¬j=j+(i+1):=by omega
  cases tg0<;>simp only[iC,over,if_neg hne]<;>exact hrec x
theorem ac6 {n:Nat} {b:Bx} {new:List CV} {want:List (Sh×Tg)} (hb:s.bx n=some b) (h1:new.length=want.length) (h2:b.cells.length=want.length) (hk: ∀(i:Nat) (sh:Sh),want[i]? =some (sh,Tg.dead)->new[i]? =(b.cells[i]?).map (λ x=>x.1)):
 s.dM [.cl n (iC 0 0 new b.cells want)]=s.dM [.bx n ⟨b.inst,(new.zip b.cells).map λ x=>(x.1,x.2.2)⟩]:=by
 have e:setMany b.cells (iC 0 0 new b.cells want)=(new.zip b.cells).map λ x=>(x.1,x.2.2):=by
  apply aaP;intro i;rw[zk];rcases aaE i want.length with hi|hi
  ·have e1:new[i]? =some (new[i]'(by omega)):=aac (by omega);have e2:b.cells[i]? =some (b.cells[i]'(by omega)):=aac (by omega);have e3:want[i]? =some ((want[i]'hi).1,(want[i]'hi).2):=aac hi;have e4:(new.zip b.cells)[i]? =some (new[i]'(by omega),b.cells[i]'(by omega)):=acd.2 ⟨e1,e2⟩;have:=JB (e:=0) (j:=0) (b.cells[i]'(by omega)) e3 e1 e2;rw[aaW]at this;rw[aar,e4,e2];simp only[aaK,this,aae];unfold adN;split
   ·rename_i hd;have:=hk i _ (by rw[e3,hd]);rw[e1,e2]at this;simp only[aaK,aae]at this;rw[this]
   ·rfl
  ·rw[aah (by omega),aah (by simp;omega)];rfl
 simp only[St.dM,acw,List.foldl_nil,Upd.on,hb,aaK,e]
theorem acT (h:Rel E C s a w g) {hs:List CV} {hv:List Value} (hh:aF w g .hand 0 hs hv) {x:Operand} {pk:PK} {bs:List (Option Nat)} {ds:List CV} {us:List Upd} {b:Option Nat} (hg:(Qw s bs pk (at_ E s x) x).run=some (ds,us,b)):
 ∃g' sg,Rel E C (s.dM us) a w g'/\aF w g' .hand 0 (hs++ds) (hv++sg)/\g'.at_=g.at_/\Keeps w w g.F g'.F/\(∀b n,g.own b=some (.box n)->g'.own b=some (.box n))/\L8 w g' pk b (a.eval x) sg/\Tagged ds pk.cells/\
  (∀n,b=some n->n∉bs.filterMap id/\(s.bx n).isSome=true):=by
 unfold Qw at hg
 cases pk with
 |val ag want=>
  simp only[]at hg;obtain⟨⟨ds',us'⟩,hgt,hg⟩:=aU hg;have:=ak hg;simp only[aas]at this;obtain⟨rfl,rfl,rfl⟩:=this;obtain⟨g',r,k,ea,kp,kb,hag,ht⟩:=Ic h hh hgt;exact⟨g',_,r,k,ea,kp,kb,⟨hag,rfl⟩,ht,λ n e=>by cases e⟩
 |io want=>
  simp only[]at hg;obtain⟨⟨ds',us'⟩,hgt,hg⟩:=aU hg;have:=ak hg;simp only[aas]at this;obtain⟨rfl,rfl,rfl⟩:=this;obtain⟨g',r,k,ea,kp,kb,hag,ht⟩:=Ic h hh hgt;exact⟨g',_,r,k,ea,kp,kb,⟨hag,rfl⟩,ht,λ n e=>by cases e⟩
 |rptr want=>
  simp only[]at hg;obtain⟨ds',hgt,hg⟩:=aU hg;have:=ak hg;simp only[aas]at this;obtain⟨rfl,rfl,rfl⟩:=this;obtain⟨sg,k1,k2,k3,_⟩:=acU h hh hgt;exact⟨g,sg,h,k2,rfl,Keeps.refl _ _,λ _ _ e=>e,k1,k3,λ n e=>by cases e⟩
 |clo f want=>exact(aj hg).elim
 |fn f=>
  simp only[]at hg;split at hg
  ·rename_i f' hx;have hg2:=aX hg;have hf:=aal hg2.1;have:=ak hg2.2;simp only[aas]at this;obtain⟨rfl,rfl,rfl⟩:=this;have hv:=aN h hx (by simp);subst hf;exact⟨g,[],h,by simpa using hh,rfl,Keeps.refl _ _,λ _ _ e=>e,hv,rfl,λ n e=>by cases e⟩
  ·exact(aj hg).elim
 |ptr want=>
  simp only[]at hg;split at hg
  ·rename_i p hx;split at hg
   ·rename_i n cs hr hs0 hc;obtain⟨hcond,hg⟩:=aX hg;simp only[aad]at hcond;obtain⟨⟨hc0,hni⟩,hbl⟩:=hcond;have hc0:=aal hc0;split at hg
    ·rename_i ds' us' hw hu;have:=ak hg;simp only[aas]at this;obtain⟨rfl,rfl,rfl⟩:=this;obtain⟨_,hv⟩:=aN h hx (by simp);rw[hs0]at hv;obtain⟨n',hn',hv⟩:=hv;rw[hr]at hn';cases hn';obtain⟨g',r,k,ea,kp,kb⟩:=Ah h hh hc hw hu
     have hb: ∃b,s.bx n=some b/\b.inst=p.inst:=by
      have:=hc;rw[bI]at this;obtain⟨cells,e,_⟩:=this;rw[hr]at e;simp only[aB]at e
      cases hb:s.bx n with
      |none=>rw[hb]at e;simp at e
      |some b=>rw[hb]at e;simp only[aae,aas]at e;exact⟨b,rfl,e.1⟩
     obtain⟨b,hb,hbi⟩:=hb;obtain⟨cur,et,h1,h2,_,h4⟩:=h.bx n b hb;rw[hb]at hbl;simp only at hbl;have hbl:=aal hbl
     have hsame:s.dM (bif pX want then[.cl n (iC 0 0 (gW cs want) (yK s n) want)]else us')=s.dM us':=by
      cases pX want with
      |false=>rfl
      |true=>
       obtain⟨hwl,_,hget⟩:=oU hw
       have hcs:cs=b.cells.map (·.1):=by
        have hc':=hc;rw[bI]at hc';obtain⟨cells,e,q1,q2,q3⟩:=hc';rw[hr]at e;simp only[aB,hb,aae,aas]at e;obtain⟨_,rfl⟩:=e;rw[q3,hc0,abu,aaF (by omega)]
       have hll:(gW cs want).length=want.length:=by
        have: ∀(cs:List CV) (want:List (Sh×Tg)),cs.length=want.length->(gW cs want).length=cs.length:=by
         intro cs
         induction cs with
         |nil=>intro want _;cases want<;>rfl
         |cons c cs ih=>
          intro want hl
          cases want with
          |nil=>simp at hl
          |cons y ys=>obtain⟨_,_⟩:=y;simp[gW,ih ys (by simpa using hl)]
        rw[this cs want hwl,hwl]
       have hus:us'= [.bx n ⟨b.inst,((gW cs want).zip b.cells).map λ x=>(x.1,x.2.2)⟩]:=by
        unfold jB at hu;simp only[hr,hb,hc0,cond_eq_ite]at hu;split at hu
        ·cases hu;simp only[ace,abu,abQ,aaW,aa3,if_false];rw[abn (by omega),aaQ]
        ·cases hu
       rw[hus];simp only[cond_true,yK,hb];refine ac6 hb hll hbl λ i sh hd=> ?_
       have hi:i<cs.length:=by
        rw[hwl];rcases aaE i want.length with h|h
        ·exact h
        ·simp[aah h]at hd
       obtain⟨sh',tg',e1,_,_,_,e5⟩:=hget i cs[i] (aac hi);rw[hd]at e1;simp only[aae,aas]at e1;obtain⟨_,rfl⟩:=e1;rw[e5,←aar,←hcs,aac hi];congr 1;unfold leftAs;cases cs[i].isPure<;>rfl
     rw[hsame];have hcl:=h4.length;simp only[aaN,aa2]at hcl;refine⟨g',_,r,k,ea,kp,kb,⟨by rw[ea,←hc0];exact hv b hb hbi,by rw[ea];exact kb _ _ h2,cur,et,by rw[ea];exact h1,?_⟩,dZ hw,λ m e=>by cases e;exact⟨YQ hni,by rw[hb];rfl⟩⟩;rw[hr,hc0,wV h1,abu];exact aaF (by simp;omega)
    ·exact(aj hg).elim
   ·exact(aj hg).elim
  ·exact(aj hg).elim
theorem xq.mono (k:Keeps w w g.F g'.F) (hat:g'.at_=g.at_) (hb: ∀b n,g.own b=some (.box n)->g'.own b=some (.box n)): ∀{ps:List PK} {bs:List (Option Nat)} {vs:List Value} {sgs:List (List Value)},xq w g ps bs vs sgs->xq w g' ps bs vs sgs
 | [],[],[],[],_=>trivial
 |p::ps,b::bs,v::vs,sg::sgs,⟨h1,h2,h3⟩=>⟨h1.mono k hat hb,h2,xq.mono k hat hb h3⟩
theorem MN: ∀(ps:List PK) (xs:List Operand) (bs:List (Option Nat)) (s:St) (g:Gh) (hs:List CV) (hv:List Value) (us:List Upd) (cs':List CV) (us':List Upd) (bs':List (Option Nat)),Rel E C s a w g->aF w g .hand 0 hs hv->
 (bs.filterMap id).Nodup->(vN E ps xs bs s hs us).run=some (cs',us',bs')->
 ∃us2 bs2 ds g' sgs,us'=us++us2/\bs'=bs++bs2/\cs'=hs++ds/\Rel E C (s.dM us2) a w g'/\aF w g' .hand 0 cs' (hv++sgs.flatten)/\g'.at_=g.at_/\Keeps w w g.F g'.F/\(∀b n,g.own b=some (.box n)->g'.own b=some (.box n))/\
  xq w g' ps bs2 (xs.map a.eval) sgs/\Tagged ds (ps.flatMap PK.cells)/\(bs'.filterMap id).Nodup/\(∀n,some n∈bs2->((s.dM us2).bx n).isSome=true)
 | [],[],bs,s,g,hs,hv,us,cs',us',bs',h,hh,hnd,hg=>by
   have:=ak hg;simp only[aas]at this;obtain⟨rfl,rfl,rfl⟩:=this;exact⟨[],[],[],g,[],by simp,by simp,by simp,h,by simpa using hh,rfl,Keeps.refl _ _,λ _ _ e=>e,trivial,rfl,hnd,λ n hn=>by cases hn⟩
 | [],_::_,_,_,_,_,_,_,_,_,_,_,_,_,hg=>(aj hg).elim
 |_::_,[],_,_,_,_,_,_,_,_,_,_,_,_,hg=>(aj hg).elim
 |p::ps,x::xs,bs,s,g,hs,hv,us,cs',us',bs',h,hh,hnd,hg=>by
  simp only[vN]at hg;obtain⟨⟨ds,us1,b⟩,hgp,hg⟩:=aU hg;simp only[]at hg;obtain⟨g1,sg,r1,k1,a1,kp1,kb1,pv,ht,hb⟩:=acT h hh hgp
  obtain⟨us2,bs2,ds2,g',sgs,e1,e2,e3,r2,k2,a2,kp2,kb2,pvs,ht2,hnd2,hsome⟩:=MN ps xs (bs++[b]) (s.dM us1) g1 (hs++ds) (hv++sg) (us++us1) cs' us' bs' r1 k1 (by
   cases b with
   |none=>simpa using hnd
   |some n=>
    have:=(hb n rfl).1;simp only[List.filterMap_append,List.filterMap_cons,id,List.filterMap_nil];rw[acC];refine⟨hnd,by simp,λ y hy z hz=> ?_⟩;simp only[aam]at hz;subst hz;rintro rfl;exact this hy) hg
  have hdl:ds.length=sg.length:=by
   have h1:=k1.length;have h2:=hh.length;simp only[aap]at h1;omega
  have htl:ds.length=p.cells.length:=by have:=congrArg List.length ht;simpa using this
  refine⟨us1++us2,b::bs2,ds++ds2,g',sg::sgs,by rw[e1,aaA],by rw[e2];simp,by rw[e3,aaA],by rw[dS];exact r2,?_,a2.trans a1,kp1.trans kp2,λ b n e=>kb2 b n (kb1 b n e),⟨pv.mono kp2 a2 kb2,by omega,pvs⟩,?_,hnd2,λ n hn=> ?_⟩
  ·rw[abX,←aaA];exact k2
  ·rw[abg];exact ht.append ht2
  ·rw[dS];rcases aaR.1 hn with rfl|hn
   ·exact Kt us2 _ (Kt us1 _ (hb n rfl).2)
   ·exact hsome n hn
end
end Go.AM
end
section
namespace Go.AM
open Go
section
variable {P:Program} {E:Env} {C:Ctx} {s s':St} {a a':Act} {w w':World} {g g':Gh} {o:Oper} {Q:Exit->Act->World->Prop}
theorem J3 (ag:Bool) (want:List (Sh×Tg)): ∀(ps:List (Nat×Operand)) (k:Nat) (s:St) (g:Gh) (hs:List CV) (hv:List Value) (rows:List (List CV)) (us0:List Upd) (rows':List (List CV)) (us':List Upd),
 Rel E C s a w g->aF w g .hand 0 hs hv->rows.reverse.flatten=hs->(wW E ag want ps k s rows us0).run=some (rows',us')->
 ∃us2 g' rest,us'=us0++us2/\Rel E C (s.dM us2) a w g'/\aF w g' .hand 0 rows'.flatten (hv++ps.flatMap λ x=>(a.eval x.2).cells.toList)/\rows'=rows.reverse++rest/\
  rest.map List.length=ps.map (λ x=>(a.eval x.2).cells.size)/\ps.map (·.1)=List.range' k ps.length/\ ∀r,r∈rest->Tagged r want
 | [],k,s,g,hs,hv,rows,us0,rows',us',h,hh,hrs,hr=>by
   simp only[wW]at hr;have:=ak hr;simp only[aas]at this;obtain⟨rfl,rfl⟩:=this;exact⟨[],g,[],by simp,h,by rw[hrs];simpa using hh,by simp,rfl,rfl,λ r hr=>by cases hr⟩
 |(i,x)::ps,k,s,g,hs,hv,rows,us0,rows',us',h,hh,hrs,hr=>by
  simp only[wW]at hr;obtain⟨hik,hr⟩:=aX hr;have hik:=aal hik;subst hik;obtain⟨⟨ds,us1⟩,ht,hr⟩:=aU hr;simp only[]at hr;obtain⟨g1,r1,hh1,_,_,_,_,htg⟩:=Ic h hh ht;obtain⟨us2,g',rest,e,r2,hh2,er,hl,hi,hta⟩:=J3 ag want ps (i+1) (s.dM us1) g1 (hs++ds) _ (ds::rows) (us0++us1) rows' us' r1 hh1 (by simp[hrs]) hr
  have hdl:ds.length=(a.eval x).cells.size:=by
   have h1:=hh1.length;have h2:=hh.length;simp only[aap]at h1;have:(a.eval x).cells.toList.length=(a.eval x).cells.size:=by simp
   omega
  refine⟨us1++us2,g',ds::rest,by rw[e,aaA],by rw[dS];exact r2,?_,by rw[er];simp,by simp[hdl,hl],?_,λ r hr=>by
   rcases aaR.1 hr with rfl|hr
   ·exact htg
   ·exact hta r hr⟩
  ·rw[abg,←aaA];exact hh2
  ·simp only[abf,hi,abe];rfl
theorem Jb {α:Type} {N:Nat}: ∀(rows:List (List α)),(∀r,r∈rows->r.length=N)-> ∀(i k:Nat),k<N->rows.flatten[i*N+k]? =rows[i]?.bind (·[k]?)
 | [],_,i,k,_=>by simp
 |r::rs,h,0,k,hk=>by
  rw[abX,aax (by rw[h r (by simp)];omega)];simp
 |r::rs,h,i+1,k,hk=>by
  have hr:=h r (by simp);have e:(i+1)*N+k=N+(i*N+k):=by rw[abr];omega
  rw[abX,e,aaz (by omega),hr,Nat.add_sub_cancel_left,Jb rs (λ r hr=>h r (by simp[hr])) i k hk];simp
theorem Gx {α:Type} {f:List CV->Option α}: ∀{rows:List (List CV)} {l:List α},jJ f rows=some l-> ∀(i:Nat) (e:α),l[i]? =some e-> ∃r,rows[i]? =some r/\Cb r=true/\f r=some e
 | [],l,h,i,e,he=>by simp[jJ]at h;subst h;simp at he
 |r::rs,l,h,i,e,he=>by
  obtain⟨e0,l',h1,h2,h3,rfl⟩:=oO h
  cases i with
  |zero=>simp at he;subst he;exact⟨r,rfl,h1,h2⟩
  |succ i=>simpa using Gx h3 i e (by simpa using he)
theorem Yk (h:Rel E C s a w g) {d:Nat} (hd:DOk E d) {es:List Sh} {rows:List (List CV)} {l:List (ElA es)} {vs:List Value} (hh:aF w g .hand 0 rows.flatten vs) (htag: ∀r,r∈rows-> ∀c,c∈r->c.tg=c.sh.top)
 (hl:jJ (fZ es) rows=some l) (hlen: ∀r,r∈rows->r.length=es.length) (e:TypeId) (hsm:l.length<=maxLen):
 ∃g',Rel E C (s.dM [.tm d (.val false [⟨.dl es,.own,List.map some l⟩])]) (a.put (some d) (.slice (some ⟨w.heap.size,0,none⟩) l.length l.length)) (w.alloc (.cells vs.toArray e)) g':=by
 have hown: ∀b ow,g.own b=some ow->b<w.heap.size:=λ b ow e=>(h.base.own b ow e).2;have hF: ∀b o,g.F b o->b<w.heap.size:=λ b o e=>(h.base.fz b o e).2
 let ρ:aH->aH:=λ o=>match o with| .hand _=> .hand 0|o=>o
 have f:=Fr.new (K:=λ o=> ∀i,o≠ .hand i) hown hF (ρ:=ρ) (λ o ho=>by
  cases o with
  |hand i=>exact absurd rfl (ho i)
  |_=>rfl) (.cells vs.toArray e) (.hand 0)
 have r1:=h.world f (h.base.new _ _ (λ _ _ _ e=>by cases e;rfl) _) rfl
 let w1:=w.alloc (.cells vs.toArray e)
 let g1:=g.new ρ w.heap.size (.hand 0)
 have hrl:l.length=rows.length:=(qY hl).2
 have hfl: ∀(rows:List (List CV)),(∀r,r∈rows->r.length=es.length)->rows.flatten.length=rows.length*es.length:=by
  intro rows
  induction rows with
  |nil=>intro _;simp
  |cons r rs ih=>
   intro h;rw[abX,aap,h r (by simp),ih (λ r hr=>h r (by simp[hr])),abe,abr,Nat.add_comm]
 have hvl:vs.length=l.length*es.length:=by rw[hh.length,hfl rows hlen,hrl]
 let B:Nat->Option Nat:=λ k=>(vs[k]?).bind λ v=>(blk v).filter λ z=>decide (g.own z=some (.hand k))
 have hB: ∀k z,B k=some z->g.own z=some (.hand k):=by
  intro k z hz;simp only[B,aaZ,acf,decide_eq_true_eq]at hz;obtain⟨v,_,_,h⟩:=hz;exact h
 have hrows:iM w1 g1 (.hand 0) w.heap.size es (List.map some l) vs:=by
  refine⟨by rw[aaN];exact hvl,B,λ k hz=> ?_,λ i j z hi hj=> ?_,λ i x hx=> ?_⟩
  ·have:=hown _ _ (hB k _ hz);omega
  ·have a1:=hB i z hi;rw[hB j z hj]at a1;simpa using a1.symm
  ·rw[aar]at hx
   have hx:l[i]? =some x:=by
    cases hli:l[i]? with
    |none=>rw[hli]at hx;cases hx
    |some y=>rw[hli]at hx;simpa using hx
   obtain⟨r,hr,hfz,hof⟩:=Gx hl i x hx
   have hil:i<l.length:=by
    rcases aaE i l.length with h|h
    ·exact h
    ·simp[aah h]at hx
   have hcells:=y7 es r x hof;have hrN:=hlen r (aak hr);have hle:i*es.length+es.length<=vs.length:=by rw[hvl,←abr];exact aaw _ hil
   refine⟨by rw[aaB,aa7];omega,λ k c0 v hc0 hv=> ?_⟩;rw[←hcells,aar]at hc0
   cases hck:r[k]? with
   |none=>rw[hck]at hc0;cases hc0
   |some c=>
    rw[hck]at hc0;have hc0:c.to .pure=c0:=by simpa using hc0
    subst hc0
    have hkN:k<es.length:=by
     rw[←hrN];rcases aaE k r.length with h|h
     ·exact h
     ·simp[aah h]at hck
    rw[aaj,if_pos hkN,aan]at hv
    have hfg:rows.flatten[i*es.length+k]? =some c:=by
     rw[Jb rows hlen i k hkN,hr];exact hck
    obtain⟨u,hu,hcr⟩:=hh.get _ 0 _ _ c hfg;have hv':vs[i*es.length+k]? =some v:=hv;rw[hv']at hu;cases hu;rw[aaW]at hcr;have hcm:c∈r:=aak hck;have htg:=htag r (aak hr) c hcm
    have hnd:c.sh.acW=false/\c.sh.Ie=false:=by
     have:=aaV.1 hfz c hcm;simp only[aad,abj]at this;exact⟨this.1.2,this.2⟩
    show qB w1 g1 (.hand 0) (B (i*es.length+k)) c.sh c.x v;obtain⟨csh,ct,cx⟩:=c;simp only at htg hnd hcr ⊢;subst htg;unfold qB;split
    ·rename_i hs
     have hpl:csh.oW=true:=by
      rcases Ue hs with e|⟨es',e⟩
      ·exact e
      ·subst e;simp[Sh.acW]at hnd
     have e:csh.top= .own:=by cases csh<;>first|rfl|simp[Sh.pF]at hs
     rw[e]at hcr;simp only[jE,if_pos hs]at hcr;have hp:=(oC hpl).1 hcr;refine⟨hpl,hp.move f.keeps λ z hz=> ?_,?_⟩
     ·have ho:=hp.mg hz;have hlt:=hown _ _ ho;refine⟨?_,mO hlt,λ o=>ach⟩;simp only[g1,Gh.new];rw[if_neg (by omega),ho];rfl
     ·cases hz:blk v with
      |none=>simp only[B,hv',aai,hz,Option.filter_none]
      |some z=>
       have ho:=hp.mg hz;symm;simp only[B,hv',aai,hz,acf,decide_eq_true_eq,true_and];exact ho
    ·rename_i hs;have e:csh.top= .pure:=by cases csh<;>first|rfl|(simp[Sh.pF]at hs;done)|cases hnd.2
     rw[e]at hcr;exact jo.keeps f.keeps _ _ _ hcr
 have hcr:jE w1 g1 (.hand 0) ⟨.dl es,.own,List.map some l⟩ (.slice (some ⟨w.heap.size,0,none⟩) l.length l.length):=by
  simp only[jE,Sh.pF,if_true];have hll:(List.map some l).length=l.length:=aaN ..;refine .inr ⟨w.heap.size,l.length,vs.toArray,e,by simp only[aQ];rw[hll],by simp only[aQ];rw[hll];exact aaq _,hsm,by simp[g1,Gh.new],mM,by simp only[Sh.n];simpa using hvl,⟨⟨rfl,?_⟩,?_⟩,λ o=>⟨λ hf=> ?_,λ hf=>by cases hf.1⟩⟩
  ·simp only[aQ,Sh.n];rw[hll];rw[aaF (by simpa using acn hvl)];exact hrows.one
  ·simp only[aQ,Sh.n];rw[hll];rw[aaF (by simpa using acn hvl)];exact hrows
  ·have hf:g.F w.heap.size o:=hf;have:=hF _ _ hf;omega
 obtain⟨g2,r2,_,_⟩:=r1.xI hd (v:= .slice (some ⟨w.heap.size,0,none⟩) l.length l.length) (ag:=false) (cs:=[⟨.dl es,.own,List.map some l⟩]) rfl ⟨_,[],rfl,hcr,rfl⟩;exact⟨g2,r2⟩
theorem OQ (hT:wE P E.ty) {t:TypeId} {n:Nat} {ps:Array (Nat×Operand)} (ho:o.op= .buildSlice t n ps):qA P E C o:=by
 intro s a w g us d Q h hdst hd hp;simp only[plan,ho,hdst]at hp;split at hp
 ·rename_i ag sh fl ft e hi;obtain⟨⟨rows,us'⟩,hf,hp⟩:=aU hp;obtain⟨hc,hp⟩:=aX hp;simp only[aad]at hc;have hrn:=aal hc.1.1;have hpos:=aa6 hc.1.2;have hsm:=aa6 hc.2;obtain⟨info,de,z,hat⟩:=hT.at_ hi;obtain⟨sh',j,rfl,_,hcs,hsl,hj,hjc⟩:=hat.elem rfl;simp only[aa5,and_true]at hcs;subst hcs;obtain⟨ie,de',z',hate⟩:=hT.at_ hj;have hsa:fV E e=vX sh:=by simp only[fV,hj,hjc]
  have hlen:(fV E e).length=sh.n:=by rw[hsa,jZ]
  have hisz:ie.size=sh.n:=by rw[hate.size,hjc,jZ]
  rw[hlen]at hpos hsm;obtain⟨us2,g1,rest,eu,r1,hh,er,hrl,hidx,htga⟩:=J3 (aiz E e) _ ps.toList 0 s g [] [] [] [] rows us' h rfl rfl hf;simp only[abQ,List.reverse_nil]at eu er hh;subst eu er;have hpl:ps.toList.length=n:=by have:=congrArg List.length hrl;simp only[aaN]at this;omega
  let vals:=(ps.map λ x=>(x.1,a.eval x.2)).toList
  have hvl:vals.length=n:=by simp only[vals,Array.toList_map,aaN];exact hpl
  have hflat:(ps.toList.flatMap λ x=>(a.eval x.2).cells.toList)=vals.flatMap λ v=>v.2.cells.toList:=by
   simp only[vals,Array.toList_map,List.flatMap_map]
  have hrun:(∀r,r∈rows->r.length=sh.n)->(Instr.buildSlice t n (ps.map λ x=>(x.1,a.eval x.2))).run P w= .ok (.slice (some ⟨w.heap.size,0,none⟩) n n) (w.alloc (.cells (vals.flatMap λ v=>v.2.cells.toList).toArray e)):=by
   intro hrows;by_cases hn0:n=0
   ·have e0:(ps.map λ x=>(x.1,a.eval x.2))= #[]:=by
     apply abh.1;show vals= [];exact aav (by rw[hvl];exact hn0)
    have ev:vals= []:=by simp only[vals];rw[e0]
    rw[e0,ev,hn0];exact Iz w t e ie hat.und hate.inf
   ·refine run_buildSlice w t e n _ _ ie z' hat.und hate.inf hate.zero (by rw[hisz];omega) (by rw[hisz];have:=Nat.mul_pos (Nat.pos_of_ne_zero hn0) hpos;omega) ?_;rw[hisz];refine WG hpos (n:=n) vals ?_ _ ?_ (by rw[hvl];simp)
    ·have e1:vals.map (·.1)=ps.toList.map (·.1):=by simp only[vals,Array.toList_map,abN];rfl
     rw[e1,hvl,←hpl];exact hidx
    ·intro v hv;simp only[vals,Array.toList_map,aaL]at hv;obtain⟨p,hp',rfl⟩:=hv;have:(a.eval p.2).cells.size∈rows.map List.length:=by rw[hrl];exact aaL.2 ⟨p,hp',rfl⟩
     obtain⟨r,hr1,hr2⟩:=aaL.1 this;rw[←hr2];exact hrows r hr1
  have main: ∀(x:El sh),Cb rows.flatten=true->aQ sh x=n->(∀(g:Gh) vs,aF w g .hand 0 (rows.flatten.map (·.to .pure)) vs->uO w g.F sh x vs)->(∀r,r∈rows->r.length=sh.n)->us=us'++[.tm d (.val false [⟨sh,.own,x⟩])]->
   o.wp P a w (λ a' w'=> ∃g',Rel E C (s.dM us) a' w' g') Q:=by
   intro x hdead hxl hels hrows hus;obtain⟨g2,f2,b2,o2,a2,c2⟩:=ML (by intro i j e;cases e;rfl) r1.base hdead hh;have r2:Rel E C (s.dM us') a w g2:=r1.world (f2.mono λ o ho j _ _=>ho j) b2 a2;have hx:=hels g2 _ c2;have hxlen:=hx.length;rw[hxl]at hxlen;have hrun:=hrun hrows;rw[hflat]at hx hxlen
   obtain⟨g3,r3⟩:=Vr r2 hd hsl (x:=x) (cells:=(vals.flatMap λ v=>v.2.cells.toList).toArray) (c:=n) e (by
    rw[hxl,aaF (by simpa using acn hxlen)];exact hx) (by omega) (by
    have:n<=n*sh.n:=Nat.le_mul_of_pos_right n hpos;have:n<=16777216:=by omega
    exact aaJ this (by decide)) (by simpa using hxlen)
   have hex:(execOp a.eval o).run P w= .ok (.value (.slice (some ⟨w.heap.size,0,none⟩) n n)) (w.alloc (.cells (vals.flatMap λ v=>v.2.cells.toList).toArray e)):=by
    simp only[execOp,ho,Sem.run_bind,hrun,Result.andThen_ok,Sem.run_pure]
   unfold Oper.wp;rw[hex,Oper.upon_value,hdst,hus,dS];rw[hxl]at r3;exact⟨g3,r3⟩
  cases sh with
  |sl es=>
   simp only[]at hp;split at hp
   ·rename_i l hl;rw[Q5]at hl
    have hlr: ∀r,r∈rows->r.length=es.length:=by
     have: ∀(rows:List (List CV)) (l:List (ElA es)),jJ (fZ es) rows=some l-> ∀r,r∈rows->r.length=es.length:=by
      intro rows
      induction rows with
      |nil=>intro l _ r hr;cases hr
      |cons r0 rs ih=>
       intro l hl r hr;obtain⟨e,l',_,h2,h3,rfl⟩:=oO hl;rcases aaR.1 hr with rfl|hr
       ·have:=congrArg List.length (FI es r e h2);simpa using this
       ·exact ih l' h3 r hr
     exact this rows l hl
    cases hdp:rD E d with
    |true=>
     rw[hdp]at hp;obtain rfl:=ak hp;have hln:l.length=n:=by rw[(qY hl).2];exact hrn
     rw[hflat]at hh
     obtain⟨g3,r3⟩:=Yk r1 hd hh (λ r hr c hc=>by
      have:=htga r hr;rw[hdp]at this
      have hm:(c.sh,c.tg)∈(fV E e).map λ sh=>(sh,bif true then sh.top else .pure):=by
       rw[←this];exact aaL.2 ⟨c,hc,rfl⟩
      obtain⟨sh,_,e1⟩:=aaL.1 hm;simp only[cond_true,aas]at e1;rw[←e1.1,←e1.2]) hl hlr e (by
      have:n<=n*(Sh.sl es).n:=Nat.le_mul_of_pos_right n hpos;have:n<=16777216:=by omega
      rw[hln];exact aaJ this (by decide))
     have hex:(execOp a.eval o).run P w= .ok (.value (.slice (some ⟨w.heap.size,0,none⟩) n n)) (w.alloc (.cells (vals.flatMap λ v=>v.2.cells.toList).toArray e)):=by
      simp only[execOp,ho,Sem.run_bind,hrun hlr,Result.andThen_ok,Sem.run_pure]
     unfold Oper.wp;rw[hex,Oper.upon_value,hdst,dS];rw[hln]at r3;exact⟨g3,r3⟩
    |false=>
    rw[hdp]at hp;obtain rfl:=ak hp;obtain⟨k1,k2⟩:=qY hl
    refine main l k1 (by show List.length l=n;rw[k2];exact hrn) (λ g vs hv=>DW (jC es) (λ r e i vs hf hv=>BP .hand es _ e i vs (by rw[BM];exact hf) (λ c hc=>by
     obtain⟨c',_,rfl⟩:=aaL.1 hc;rfl) hv) rows l 0 vs hl hv) (λ r hr=> ?_) rfl
    have: ∀(rows:List (List CV)) (l:List (ElA es)),jJ (fZ es) rows=some l-> ∀r,r∈rows->r.length=es.length:=by
     intro rows
     induction rows with
     |nil=>intro l _ r hr;cases hr
     |cons r0 rs ih=>
      intro l hl r hr;obtain⟨e,l',_,h2,h3,rfl⟩:=oO hl;rcases aaR.1 hr with rfl|hr
      ·have:=congrArg List.length (FI es r e h2);simpa using this
      ·exact ih l' h3 r hr
    exact this rows l hl r hr
   ·exact(aj hp).elim
  |rsl ss=>
   simp only[]at hp;split at hp
   ·rename_i l hl
    cases hdp:rD E d with
    |true=>rw[hdp]at hp;exact(aj hp).elim
    |false=>
    rw[hdp]at hp;obtain rfl:=ak hp;rw[MS]at hl;obtain⟨k1,k2⟩:=qY hl
    refine main l k1 (by show List.length l=n;rw[k2];exact hrn) (λ g vs hv=>DW (jR ss) (λ r e i vs hf hv=>Vb .hand ss _ e i vs (by rw[Q7];exact hf) (λ c hc=>by
     obtain⟨c',_,rfl⟩:=aaL.1 hc;rfl) hv) rows l 0 vs hl hv) (λ r hr=> ?_) rfl
    have: ∀(rows:List (List CV)) (l:List (RT (ElA ss))),jJ (vO ss) rows=some l-> ∀r,r∈rows->r.length=ss.length+1:=by
     intro rows
     induction rows with
     |nil=>intro l _ r hr;cases hr
     |cons r0 rs ih=>
      intro l hl r hr;obtain⟨e,l',_,h2,h3,rfl⟩:=oO hl;rcases aaR.1 hr with rfl|hr
      ·unfold vO at h2;split at h2
       ·rename_i hk;have:=congrArg List.length hk;simp at this;omega
       ·cases h2
      ·exact ih l' h3 r hr
    exact this rows l hl r hr
   ·exact(aj hp).elim
  |int k=>exact(aj hp).elim
  |bool=>exact(aj hp).elim
  |str=>exact(aj hp).elim
  |dl _=>exact(aj hp).elim
  |mp _ _=>exact(aj hp).elim
 ·exact(aj hp).elim
end
end Go.AM
end
section
namespace Go.AM
open Go
section
variable {P:Program} {E:Env} {C:Ctx} {s s':St} {a a':Act} {w w':World} {g g':Gh} {o:Oper} {Q:Exit->Act->World->Prop}
def BU (w:World) (g:Gh):List PK->Nat->List CV->List Value->Prop
 | [],_,cs,vs=>cs= []/\vs= []
 | .val ag want::ps,i,cs,vs=> ∃v ws,vs=v::ws/\BZ w g (.tm i) 0 ag (cs.take want.length) v/\BU w g ps (i+1) (cs.drop want.length) ws
 | .ptr want::ps,i,cs,vs=> ∃v ws,vs=v::ws/\(v= .pointer (some ⟨g.at_ i,0,none⟩)/\BR w g i ⟨0,(cs.take want.length).map λ c=>(c,0)⟩)/\BU w g ps (i+1) (cs.drop want.length) ws
 | .rptr want::ps,i,cs,vs=> ∃v ws,vs=v::ws/\(∃b off sg,v= .pointer (some ⟨b,off,none⟩)/\Nz w g.F ⟨b,off,none⟩ sg/\bD (cs.take want.length)=true/\aF w g (.tm i) 0 (cs.take want.length) sg)/\BU w g ps (i+1) (cs.drop want.length) ws
 | .fn f::ps,i,cs,vs=> ∃v ws,vs=v::ws/\v= .func (.func f) #[] #[]/\BU w g ps (i+1) cs ws
 | .io want::ps,i,cs,vs=> ∃v ws,vs=v::ws/\BZ w g (.tm i) 0 false (cs.take want.length) v/\BU w g ps (i+1) (cs.drop want.length) ws
 | .clo f want::ps,i,cs,vs=> ∃v ws,vs=v::ws/\(∃b off sg,v= .func (.func f) #[] #[.pointer (some ⟨b,off,none⟩)]/\Nz w g.F ⟨b,off,none⟩ sg/\bD (cs.take want.length)=true/\aF w g (.tm i) 0 (cs.take want.length) sg)/\BU w g ps (i+1) (cs.drop want.length) ws
def PE (glob:Nat->Option (List CV)) (w:World) (g:Gh):Prop:= ∀gl cs,glob gl=some cs->bD cs=true/\ ∃vs,Nz w g.F ⟨gl,0,none⟩ vs/\aF w g .hand 0 cs vs
def ZJ (w:World) (g g':Gh):List PK->Nat->List Value->List CV->Prop
 | [],_,_,_=>True
 | .ptr want::ps,i,vs,cs=>(g'.at_ i=g.at_ i/\BR w g' i ⟨0,(cs.take want.length).map λ c=>(c,0)⟩)/\ZJ w g g' ps (i+1) vs.tail (cs.drop want.length)
 | .io want::ps,i,vs,cs=>(∃v,vs.head? =some v/\BZ w g' (.tm i) 0 false (cs.take want.length) v)/\ZJ w g g' ps (i+1) vs.tail (cs.drop want.length)
 |_::ps,i,vs,cs=>ZJ w g g' ps (i+1) vs.tail cs
def ZK (w:World) (g:Gh) (mk:Nat->aH) (ts:List (Bool×List CV)) (v:Value):Prop:=
 match ts with
 | [(ag,cs)]=>BZ w g mk 0 ag cs v
 |ts=> ∃vs,v= .tuple vs.toArray/\lI w g mk 0 ts vs
def Enters (P:Program) (f:FuncId):Prop:= ∃fn,P.funcs[f]? =some fn/\fn.body.isNone=false/\(fn.name== "runtime.NumGoroutine")=false
def Vm (w:World) (g:Gh) (i j:Nat):Option Value:=match w.heap[g.at_ i]? with|some (.cells cur _ _)=>cur.toList[j]? |_=>none
def afK (w w':World) (g:Gh) (ps:List PK):Prop:= ∀(i:Nat) (want:List (Sh×Tg)) (j:Nat) (sh:Sh) (v:Value),ps[i]? =some (.ptr want)->want[j]? =some (sh,.dead)->Vm w g i j=some v->Vm w' g i j=some v
def Good (P:Program) (glob:Nat->Option (List CV)) (sig:Sig) (f:sig.In->Option sig.Out):Prop:=
 ∀x r,f x=some r->Enters P sig.fn/\ ∀(w:World) (g:Gh) (vals:List Value),BU w g sig.params 0 (retag sig.ins (cellsOf _ x)) vals->PE glob w g->(∀b ow,g.own b=some ow->b<w.heap.size)->(∀b o,g.F b o->b<w.heap.size)->(∀b ow cs t f,g.own b=some ow->w.heap[b]? =some (.cells cs t f)->f=(0,0))->
  Calls P sig.fn vals.toArray w λ e w'=> ∃v g',e= .returned v/\Base w g.F (λ b=> ∃ow,g.own b=some ow) w' g'/\
   ZK w' g' .hand (resT sig.res (retag sig.outs (cellsOf _ r))).1 v/\ZJ w' g g' sig.params 0 vals (resT sig.res (retag sig.outs (cellsOf _ r))).2/\afK w w' g sig.params
theorem BU.length: ∀{ps:List PK} {i:Nat} {cs:List CV} {vs:List Value},BU w g ps i cs vs->vs.length=ps.length
 | [],_,_,_,h=>by simp[h.2]
 | .val _ _::ps,i,cs,_,⟨v,ws,e,_,h⟩=>by simp[e,h.length]
 | .ptr _::ps,i,cs,_,⟨v,ws,e,_,h⟩=>by simp[e,h.length]
 | .rptr _::ps,i,cs,_,⟨v,ws,e,_,h⟩=>by simp[e,h.length]
 | .fn _::ps,i,cs,_,⟨v,ws,e,_,h⟩=>by simp[e,h.length]
 | .clo _ _::ps,i,cs,_,⟨v,ws,e,_,h⟩=>by simp[e,h.length]
 | .io _::ps,i,cs,_,⟨v,ws,e,_,h⟩=>by simp[e,h.length]
def yH (F:Fz):Gh:=⟨λ _=>0,λ _=>none,F⟩
theorem aF.yH {F:Fz} {mk mk':Nat->aH} {cs:List CV} {i j:Nat} {vs:List Value} (hF: ∀b o,g.F b o->F b o) (hp:bD cs=true) (h:aF w g mk i cs vs):aF w (yH F) mk' j cs vs:=
 aF.uq (g':=AM.yH F) (show Keeps w w g.F F from Keeps.same hF) cs i j vs hp h
theorem afv {c:CV} (h:c.sh.oW=true) {shs:List Sh} {ds:List CV} (ht:(thaw [c] shs).run=some ds):ds= [c]:=by
 cases shs with
 |nil=>exact(ak ht).symm
 |cons sh shs=>
  have h1:aft c sh= .ret c:=by
   obtain⟨csh,ct,cx⟩:=c;cases csh<;>first|rfl|simp[Sh.oW]at h
  simp only[thaw,h1]at ht;cases shs<;>exact(ak ht).symm
theorem OW (h:Base C.w0 C.F0 C.X w g) {mk:Nat->aH} (hinj: ∀i j,mk i=mk j->i=j) {cs ds:List CV} {want:List (Sh×Tg)} {i:Nat} {vs:List Value} (hc:aF w g mk i cs vs) (hp:(UJ cs want).run=some ds):
 ∃F':Fz,(∀b o,g.F b o->F' b o)/\(∀b o,F' b o->b<w.heap.size)/\bD ds=true/\Tagged ds want/\ ∀(mk':Nat->aH) j,aF w (yH F') mk' j ds vs:=by
 unfold UJ at hp;obtain⟨cs2,hth,hp⟩:=aU hp;obtain⟨g0,f0,b0,_,_,hc0,_⟩:=Va hinj cs _ cs2 i vs g h hth hc;split at hp
 ·rename_i ds' hw;obtain⟨hpu,hp⟩:=aX hp;obtain rfl:=ak hp;obtain⟨g1,f1,b1,_,_,hd,_⟩:=BD hinj cs2 want _ i vs g0 b0 hw hc0;exact⟨g1.F,λ b o hf=>f1.keeps.sub b o (f0.keeps.sub b o hf),λ b o hf=>(b1.fz b o hf).2,hpu,dZ hw,λ mk' j=>hd.yH (λ _ _ h=>h) hpu⟩
 ·exact(aj hp).elim
theorem ade {x:Operand}: ∀i j,VF x i=VF x j->i=j:=by cases x<;>simp[VF]
theorem OI (h:Rel E C s a w g) {t:T} {v:Value} {mk:Nat->aH} (hv:TV s a w g mk t v) {want:List (Sh×Tg)} {ds:List CV} (hl:(QU s t want).run=some ds):
 ∃F':Fz,(∀b o,g.F b o->F' b o)/\(∀b o,F' b o->b<w.heap.size)/\Tagged ds (PK.rptr want).cells/\ ∀F,(∀b o,F' b o->F b o)-> ∀i (ps:List PK) cs vs,BU w (yH F) ps (i+1) cs vs->BU w (yH F) (.rptr want::ps) i (ds++cs) (v::vs):=by
 have hbF: ∀b o,g.F b o->b<w.heap.size:=λ b o e=>(h.base.fz b o e).2
 have fin2: ∀{F':Fz} {sg:List Value} {b off:Nat},v= .pointer (some ⟨b,off,none⟩)->Nz w F' ⟨b,off,none⟩ sg->(∀b o,g.F b o->F' b o)->(∀b o,F' b o->b<w.heap.size)->bD ds=true->Tagged ds want->(∀(mk':Nat->aH) j,aF w (yH F') mk' j ds sg)->
  ∃F':Fz,(∀b o,g.F b o->F' b o)/\(∀b o,F' b o->b<w.heap.size)/\Tagged ds (PK.rptr want).cells/\ ∀F,(∀b o,F' b o->F b o)-> ∀i (ps:List PK) cs vs,BU w (yH F) ps (i+1) cs vs->BU w (yH F) (.rptr want::ps) i (ds++cs) (v::vs):=by
  intro F' sg b off hv hrow h1 h2 hpu htg hrep;have hlen:ds.length=want.length:=by have:=congrArg List.length htg;simpa using this
  refine⟨F',h1,h2,htg,λ F hF i ps cs vs he=>⟨_,vs,rfl,⟨b,off,sg,hv,hrow.keeps (show Keeps w w F' F from Keeps.same hF),?_,?_⟩,?_⟩⟩
  ·rw[←hlen,abG];exact hpu
  ·rw[←hlen,abG];exact aF.yH (g:=yH F') hF hpu (hrep (.tm i) 0)
  ·rw[←hlen,abL];exact he
 unfold QU at hl;split at hl
 ·rename_i p;split at hl
  ·rename_i hsub;obtain⟨cs,hc,hl⟩:=aU hl;have hc:=gy hsub hc;obtain⟨_,hv⟩:Old s p/\_:=hv;rw[hsub]at hv;obtain⟨n,hn,hv⟩:=hv;obtain⟨hroot,hlen⟩:=h.pl hc
   have hb: ∃b,s.bx n=some b/\b.inst=p.inst:=by
    have:=hc;rw[bI]at this;obtain⟨cells,e,_⟩:=this;rw[hn]at e;simp only[aB]at e
    cases hb:s.bx n with
    |none=>rw[hb]at e;simp at e
    |some b=>rw[hb]at e;simp only[aae,aas]at e;exact⟨b,rfl,e.1⟩
   obtain⟨b,hb,hbi⟩:=hb;obtain⟨cur,et,h1,h2,_,h4⟩:=h.bx n b hb;have hrv:aC a w g p.root=cur.toList:=by rw[hn];exact wV h1
   obtain⟨F',k1,k2,k3,k4,k5⟩:=OW h.base (vw _) hroot hl;rw[hrv]at k5;refine fin2 (F':=λ b o=>F' b o\/b=g.at_ n) (hv b hb hbi) (λ j hj=>⟨?_,.inr rfl⟩) (λ b o hf=> .inl (k1 b o hf)) (λ b o hf=> ?_) k3 k4 λ mk' j=>aF.yH (g:=yH F') (λ _ _ h=> .inl h) k3 (k5 .hand 0)
   ·have hj':j<want.length:=by simp at hj;omega
    simp only;rw[cell_of_heap h1,aaj,if_pos hj',aan];simp
   ·rcases hf with hf|rfl
    ·exact k2 b o hf
    ·exact lt_of_heap h1
  ·exact(aj hl).elim
 ·unfold Yh at hl;split at hl
  ·rename_i cs0 off _;obtain⟨hle,hl⟩:=aX hl;have hle:=aa6 hle;split at hl
   ·rename_i ds' hw;obtain⟨hpu,hl⟩:=aX hl;obtain rfl:=ak hl;obtain⟨ad,vs,e1,hrow,hpure,hcs⟩: ∃(ad:Addr) (vs:List Value),v= .pointer (some ⟨ad.block,ad.off+off,none⟩)/\Nz w g.F ad vs/\bD cs0=true/\aF w g mk 0 cs0 vs:=hv;have hsub:=hcs.sub off want.length;have hlv:=hcs.length
    have hp2:bD ((cs0.drop off).take want.length)=true:=by
     unfold bD at hpure ⊢;rw[aaV]at hpure ⊢;exact λ c hc=>hpure c (abH (abv hc))
    refine fin2 (F':=g.F) (sg:=(vs.drop off).take want.length) e1 (λ j hj=> ?_) (λ _ _ h=>h) hbF hpu (dZ hw) λ mk' j=>aF.yH (λ _ _ h=>h) hpu (wB (mk':=mk') (j:=j) hp2 hw hsub);have hj':j<want.length:=by simp at hj;omega
    have:=hrow (off+j) (by omega);simp only at this ⊢;rw[aaj,if_pos hj',aan,abC];exact this
   ·exact(aj hl).elim
  ·exact(aj hl).elim
theorem ac5 (h:Rel E C s a w g) {x:Operand} {pk:PK} {ds:List CV} (hl:(WU E s pk x).run=some ds):
 ∃F':Fz,(∀b o,g.F b o->F' b o)/\(∀b o,F' b o->b<w.heap.size)/\Tagged ds pk.cells/\ ∀F,(∀b o,F' b o->F b o)-> ∀i (ps:List PK) cs vs,BU w (yH F) ps (i+1) cs vs->BU w (yH F) (pk::ps) i (ds++cs) (a.eval x::vs):=by
 have hbF: ∀b o,g.F b o->b<w.heap.size:=λ b o e=>(h.base.fz b o e).2;unfold WU at hl
 have fin: ∀{ag:Bool} {want:List (Sh×Tg)} {F':Fz},isAgg (a.eval x)=ag->(∀b o,g.F b o->F' b o)->(∀b o,F' b o->b<w.heap.size)->bD ds=true->Tagged ds want->(∀(mk':Nat->aH) j,aF w (yH F') mk' j ds (a.eval x).cells.toList)->
  ∃F':Fz,(∀b o,g.F b o->F' b o)/\(∀b o,F' b o->b<w.heap.size)/\Tagged ds (PK.val ag want).cells/\ ∀F,(∀b o,F' b o->F b o)-> ∀i (ps:List PK) cs vs,BU w (yH F) ps (i+1) cs vs->BU w (yH F) (.val ag want::ps) i (ds++cs) (a.eval x::vs):=by
  intro ag want F' hag h1 h2 hpu htg hrep;have hlen:ds.length=want.length:=by have:=congrArg List.length htg;simpa using this
  refine⟨F',h1,h2,htg,λ F hF i ps cs vs he=>⟨_,vs,rfl,⟨hag,?_⟩,?_⟩⟩
  ·rw[←hlen,abG];exact aF.yH (g:=yH F') hF hpu (hrep (.tm i) 0)
  ·rw[←hlen,abL];exact he
 cases pk with
 |val ag0 want=>
  simp only[]at hl;split at hl
  ·rename_i ag cs hx;obtain⟨hag,hl⟩:=aX hl;have hag:ag=ag0:=by simpa using hag
   have hv:=aN h hx (by simp);obtain⟨F',h1,h2,h3,h4,h5⟩:=OW h.base ade hv.2 hl;exact fin (hv.1.trans hag) h1 h2 h3 h4 h5
  ·rename_i p ag n hx;obtain⟨hag,hl⟩:=aX hl;have hag:ag=ag0:=by simpa using hag
   obtain⟨_,_,hsub,hv⟩:=aN h hx (by simp);obtain⟨cs,hc,hl⟩:=aU hl;have hc:=gy hsub hc;obtain⟨k1,k2⟩:=hv _ hc;obtain⟨F',h1,h2,h3,h4,h5⟩:=OW h.base (vw _) (h.pl hc).1 hl;rw[←k2]at h5;exact fin (k1.trans hag) h1 h2 h3 h4 h5
  ·rename_i p z lo hi hx
   cases hag0:ag0 with
   |true=>rw[hag0]at hl;exact(aj hl).elim
   |false=>
    rw[hag0]at hl;simp only[cond_false]at hl;obtain⟨_,_,hsub,_,hv⟩:=aN h hx (by simp);obtain⟨cs,hc,hl⟩:=aU hl;have hc:=gy hsub hc;obtain⟨c,rfl⟩:=ED hc;simp only[]at hl;split at hl
    ·rename_i d hd;obtain⟨hsl,hnd,rfl⟩:=ru hd;have hdl:c.sh.ZL .pure=true:=by cases hs:c.sh<;>first|rfl|(rw[hs]at hsl;simp[Sh.oW]at hsl)
     obtain⟨A,l,k,e1,k1,k2,k3,k4⟩:=hv c hc;obtain⟨u,e2,hcr,_⟩:=oN h hc;rw[e1]at e2;cases e2
     have hle:Tg.le .pure c.tg=true:=by
      cases htg:c.tg<;>first|rfl|exact absurd htg hnd
     obtain⟨g1,f1,b1,_,_,hp1,_⟩:=hcr.weak h.base hle hdl;have hpc:jo w g1.F c.sh (FV c.sh c.x lo hi) (zT A k lo hi c.sh.n):=jo.sub hsl hp1 k1 k2;unfold UJ at hl;obtain⟨cs2,hth,hl⟩:=aU hl;obtain rfl:=afv (c:=⟨c.sh,c.tg,FV c.sh c.x lo hi⟩) hsl hth;split at hl
     ·rename_i ds' hw;obtain⟨hpu,hl⟩:=aX hl;obtain rfl:=ak hl;obtain⟨tg,rfl,rfl,_⟩:=Nu hw;have htg:tg= .pure:=rQ hpu _ (aam.2 rfl);subst htg;have hagx:isAgg (a.eval x)=false:=by rw[k4];rfl
      refine fin hagx f1.keeps.sub (λ b o hf=>(b1.fz b o hf).2) hpu (dZ hw) λ mk' j=> ?_;rw[aJ hagx,k4];exact⟨_,[],rfl,hpc,rfl⟩
     ·exact(aj hl).elim
    ·exact(aj hl).elim
  ·rename_i hx
   cases hag0:ag0 with
   |true=>rw[hag0]at hl;exact(aj hl).elim
   |false=>
    rw[hag0]at hl;simp only[cond_false]at hl;obtain⟨ds',hn,hl⟩:=aU hl;obtain⟨hpu,hl⟩:=aX hl;obtain rfl:=ak hl;obtain⟨sh,tg,rfl,hsl,rfl⟩:=VE hn
    have hval:a.eval x= .slice none 0 0:=by
     rcases h.at_ x with⟨_,e⟩|e
     ·exact e
     ·rw[hx]at e;exact e.elim
    refine fin (F':=g.F) (by rw[hval];rfl) (λ _ _ h=>h) hbF hpu rfl λ mk' j=> ?_;rw[hval];exact⟨_,[],rfl,Pz hsl tg,rfl⟩
  ·exact(aj hl).elim
 |ptr want=>exact(aj hl).elim
 |io want=>exact(aj hl).elim
 |fn f=>
  simp only[]at hl;split at hl
  ·rename_i f' hx;have hl2:=aX hl;have hf:=aal hl2.1;obtain rfl:=ak hl2.2;have hv:=aN h hx (by simp);subst hf;exact⟨g.F,λ _ _ h=>h,hbF,rfl,λ F hF i ps cs vs he=>⟨_,vs,rfl,hv,he⟩⟩
  ·exact(aj hl).elim
 |clo f want=>
  simp only[]at hl;split at hl
  ·rename_i f' t hx;have hl2:=aX hl;have hf:=aal hl2.1;obtain⟨vs0,hv,v0,ws0,rfl,hk,ht,hws⟩:=aN h hx (by simp);have hws:ws0= []:=hws;subst hws;subst hf;obtain⟨F',h1,h2,h3,h4⟩:=OI h (show TV s a w g (VF x) t v0 from by cases t<;>first|exact ht|exact hk.elim) hl2.2
   refine⟨F',h1,h2,h3,λ F hF i ps cs vs he=> ?_⟩;obtain⟨v,ws,e,⟨b,off,sg,e1,k1,k2,k3⟩,k4⟩:=h4 F hF i ps cs vs he;cases e;exact⟨_,_,rfl,⟨b,off,sg,by rw[hv,e1],k1,k2,k3⟩,k4⟩
  ·exact(aj hl).elim
 |rptr want=>
  rcases h.at_ x with⟨e,_⟩|e
  ·simp only[e]at hl;exact(aj hl).elim
  ·exact OI h e hl
theorem FD (h:Rel E C s a w g) {mk:Nat->aH}: ∀{ts:List T} {cvs:List Value},nN s a w g mk ts cvs-> ∀(ps:List PK) (xs:List Operand) (cs:List CV),(xH E s ps xs ts).run=some cs->
 ∃F':Fz,(∀b o,g.F b o->F' b o)/\(∀b o,F' b o->b<w.heap.size)/\Tagged cs (ps.flatMap PK.cells)/\ ∀F,(∀b o,F' b o->F b o)-> ∀i,BU w (yH F) ps i cs (xs.map a.eval++cvs)
 | [],cvs,hcap,[],[],cs,hl=>by
   obtain rfl:=ak hl;have hcap:cvs= []:=hcap;subst hcap;exact⟨g.F,λ _ _ h=>h,λ b o e=>(h.base.fz b o e).2,rfl,λ F hF i=>⟨rfl,rfl⟩⟩
 |_::_,_,_,[],[],_,hl=>(aj hl).elim
 |_,_,_,[],_::_,_,hl=>(aj hl).elim
 | [],_,_,p::_,[],_,hl=>by cases p<;>exact(aj hl).elim
 |ts,cvs,hcap,p::ps,x::xs,cs,hl=>by
  simp only[xH]at hl;obtain⟨ds,h1,hl⟩:=aU hl;obtain⟨es,h2,hl⟩:=aU hl;obtain rfl:=ak hl;obtain⟨F1,a1,b1,c1,d1⟩:=ac5 h h1;obtain⟨F2,a2,b2,c2,d2⟩:=FD h hcap ps xs es h2;refine⟨λ b o=>F1 b o\/F2 b o,λ b o e=> .inl (a1 b o e),λ b o e=>e.elim (b1 b o) (b2 b o),by rw[abg];exact c1.append c2,λ F hF i=> ?_⟩;exact d1 F (λ b o e=>hF b o (.inl e)) i ps es _ (d2 F (λ b o e=>hF b o (.inr e)) (i+1))
 |t::ts,cvs,⟨v,ws,e,hk,ht,hcap⟩,.rptr want::ps,[],cs,hl=>by
  subst e;simp only[xH]at hl;obtain⟨ds,h1,hl⟩:=aU hl;obtain⟨es,h2,hl⟩:=aU hl;obtain rfl:=ak hl;obtain⟨F1,a1,b1,c1,d1⟩:=OI h (show TV s a w g mk t v from by cases t<;>first|exact ht|exact hk.elim) h1
  obtain⟨F2,a2,b2,c2,d2⟩:=FD h hcap ps [] es h2;refine⟨λ b o=>F1 b o\/F2 b o,λ b o e=> .inl (a1 b o e),λ b o e=>e.elim (b1 b o) (b2 b o),by rw[abg];exact c1.append c2,λ F hF i=> ?_⟩;exact d1 F (λ b o e=>hF b o (.inl e)) i ps es _ (d2 F (λ b o e=>hF b o (.inr e)) (i+1))
 |_::_,_,_,.val _ _::_,[],_,hl=>(aj hl).elim
 |_::_,_,_,.ptr _::_,[],_,hl=>(aj hl).elim
 |_::_,_,_,.fn _::_,[],_,hl=>(aj hl).elim
 |_::_,_,_,.clo _ _::_,[],_,hl=>(aj hl).elim
 |_::_,_,_,.io _::_,[],_,hl=>(aj hl).elim
end
end Go.AM
end
section
namespace Go.AM
open Go
section
variable {P:Program} {E:Env} {C:Ctx} {s s':St} {a a':Act} {w w':World} {g g':Gh} {o:Oper} {Q:Exit->Act->World->Prop}
theorem Qm {cl:Call} {fo:Operand} {f:FuncId} (ho:o.op= .call cl) (hc:cl.callee= .value fo) {vs:Array Value} (hf:a.eval fo= .func (.func f) #[] vs) (he:Enters P f):
 (execOp a.eval o).run P w= .ok (.enter f (cl.args.map a.eval++vs)) w:=by
 obtain⟨fn,h1,h2,h3⟩:=he
 have h4:(invoke (.fn (.func f) vs) (cl.args.map a.eval)).run P w= .ok (.enter f (cl.args.map a.eval++vs)) w:=by
  simp only[invoke,callFunc,Sem.run_bind,run_program,Result.andThen_ok,h1,h2,h3,aa3,if_false,Sem.run_pure]
 simp only[execOp,ho,resolve,hc,hf,Deferred.ofValue];simpa using h4
theorem afs {c:CV} {tg:Tg} (h:c.tg=tg):c.to tg=c:=by
 obtain⟨sh,ct,x⟩:=c;simp only at h;subst h;rfl
theorem IG {c:CV} {sh:Sh} {y:El sh} (h:jD c sh=some y):(⟨sh,.pure,y⟩:CV)=c.to .pure:=by
 obtain⟨e,rfl⟩:=kF h;obtain⟨csh,ct,cx⟩:=c;simp only at e;subst e;rfl
theorem qG: ∀(es:List Sh) (cs:List CV) (x:ElA es),fZ es cs=some x->cellsOf es x=cs.map (·.to .pure)
 | [],[],_,_=>rfl
 | [],_::_,_,ho=>(aP ho rfl).elim
 | [s],[],_,ho=>(aP ho rfl).elim
 | [s],[c],x,ho=>by
   have:=IG (c:=c) (sh:=s) (y:=x) ho;show[(⟨s,.pure,x⟩:CV)]=_;rw[this];rfl
 | [s],_::_::_,_,ho=>(aP ho rfl).elim
 |s::t::ss,[],_,ho=>(aP ho rfl).elim
 |s::t::ss,c::cs,x,ho=>by
  obtain⟨y,z,hy,hz,rfl⟩:=oK ho;have h1:=IG hy;have h2:=qG (t::ss) cs z hz;show(⟨s,.pure,y⟩:CV)::cellsOf (t::ss) z=_;rw[h1,h2];rfl
theorem wU: ∀{cs:List CV} {want:List (Sh×Tg)},Tagged cs want->retag want (cs.map (·.to .pure))=cs
 | [],want,h=>by cases want<;>simp[Tagged]at h<;>rfl
 |c::cs,[],h=>by simp[Tagged]at h
 |c::cs,(sh,tg)::want,h=>by
  simp only[Tagged,abf,aa5,aas]at h;simp only[abf,retag];rw[wU h.2];congr 1;obtain⟨csh,ct,cx⟩:=c;simp only at h;obtain⟨⟨_,rfl⟩,_⟩:=h;rfl
theorem Ns {cs:List CV} {sig:Sig} (h:Tagged cs (sig.params.flatMap PK.cells)):Tagged cs sig.ins:=h
theorem VO {cs:List CV} {sig:Sig} (h:Tagged cs sig.ins) {x:sig.In} (hx:fZ (sig.ins.map (·.1)) cs=some x):retag sig.ins (cellsOf _ x)=cs:=by
 rw[qG _ _ _ hx,wU h]
theorem VN {ts:List (Bool×List CV)} {v:Value} {mk:Nat->aH} (h:ZK w g mk ts v):TV s a w g mk (aiM ts) v:=by
 match ts,h with
 | [],h=>exact h
 | [(ag,cs)],h=>exact h
 |_::_::_,h=>exact h
theorem U3 {g2:Gh} {w2:World} {ow ow':aH} {c:CV} {v:Value} (hs:c.sh.scalar=true) (h:jE w g ow c v):jE w2 g2 ow' c v:=by
 obtain⟨sh,ct,x⟩:=c
 cases sh with
 |sl es=>simp[Sh.scalar]at hs
 |rsl ss=>simp[Sh.scalar]at hs
 |dl ss=>simp[Sh.scalar]at hs
 |mp k e=>simp[Sh.scalar]at hs
 |int k=>cases ct<;>first|exact trivial|exact h
 |bool=>cases ct<;>first|exact trivial|exact h
 |str=>cases ct<;>first|exact trivial|exact h
theorem aF.free {g2:Gh} {w2:World} {mk mk':Nat->aH}: ∀{cs:List CV} {i j:Nat} {vs:List Value},(∀c,c∈cs->c.sh.scalar=true)->aF w g mk i cs vs->aF w2 g2 mk' j cs vs
 | [],_,_,_,_,h=>h
 |c::cs,i,j,_,hs,⟨v,ws,e,h1,h⟩=>⟨v,ws,e,U3 (hs c (by simp)) h1,aF.free (λ c hc=>hs c (by simp[hc])) h⟩
theorem lI.free {g2:Gh} {w2:World} {mk mk':Nat->aH}: ∀{ts:List (Bool×List CV)} {i j:Nat} {vs:List Value},(∀t,t∈ts-> ∀c,c∈t.2->c.sh.scalar=true)->lI w g mk i ts vs->lI w2 g2 mk' j ts vs
 | [],_,_,_,_,h=>h
 |(ag,cs)::ts,i,j,_,hs,⟨v,ws,e,⟨h0,h1⟩,h⟩=>⟨v,ws,e,⟨h0,aF.free (λ c hc=>hs (ag,cs) (by simp) c hc) h1⟩,lI.free (λ t ht=>hs t (by simp[ht])) h⟩
theorem VL: ∀{rs:List (Bool×List (Sh×Tg))} {cs:List CV} {t:Bool×List CV},t∈(resT rs cs).1-> ∀c,c∈t.2->c∈cs
 | [],cs,t,h,_,_=>by simp[resT]at h
 |(ag,want)::rs,cs,t,h,c,hc=>by
  simp only[resT]at h;rcases aaR.1 h with rfl|h
  ·exact abv hc
  ·exact abH (VL h c hc)
theorem VP: ∀{want:List (Sh×Tg)} {cs:List CV} {c:CV},c∈retag want cs-> ∃c',c'∈cs/\c.sh=c'.sh
 | [],_,_,h=>by simp[retag]at h
 |_::_,[],_,h=>by simp[retag]at h
 |(sh,tg)::want,c0::cs,c,h=>by
  simp only[retag]at h;rcases aaR.1 h with rfl|h
  ·exact⟨c0,by simp,rfl⟩
  ·obtain⟨c',h1,h2⟩:=VP h;exact⟨c',by simp[h1],h2⟩
theorem PX {i:Nat} (hG:Good P E.glob (E.sig i) (E.call i)) (h:Rel E C s a w g) {cl:Call} {fo:Operand} (ho:o.op= .call cl) (hc:cl.callee= .value fo) {ts:List T} {cvs:List Value} {mk:Nat->aH} (hcap:nN s a w g mk ts cvs) (hf:a.eval fo= .func (.func (E.sig i).fn) #[] cvs.toArray)
 (hsc:(E.sig i).scalar=true) {d:Nat} (hdst:o.dst=some d) (hd:DOk E d) {us:List Upd} (hp:(KJ E s d cl.args.toList ts i).run=some us):
 o.wp P a w (λ a' w'=> ∃g',Rel E C (s.dM us) a' w' g') Q:=by
 unfold KJ at hp;rw[hsc]at hp;simp only[cond_true]at hp;obtain⟨cs,hl,hp⟩:=aU hp;split at hp
 ·exact(aj hp).elim
 ·rename_i x hx;obtain⟨r,hr,hp⟩:=yU hp;obtain rfl:=ak hp;obtain⟨F',h1,h2,htg,hent⟩:=FD h hcap _ _ cs hl;obtain⟨hen,hcall⟩:=hG x r hr;have hret:=VO (Ns htg) hx;have hE:BU w (yH F') (E.sig i).params 0 (retag (E.sig i).ins (cellsOf _ x)) (cl.args.toList.map a.eval++cvs):=by rw[hret];exact hent F' (λ _ _ h=>h) 0
  have hglob:PE E.glob w (yH F'):=λ gl cs hg=>by
   obtain⟨k1,vs,k2,k3⟩:=h.glob gl cs hg;exact⟨k1,vs,k2.keeps (show Keeps w w g.F F' from Keeps.same h1),k3.yH h1 k1⟩
  have hC:=hcall w (yH F') _ hE hglob (λ b ow e=>by cases e) (λ b o e=>h2 b o e) (λ b ow cs t f e=>by cases e);have hargs:(cl.args.toList.map a.eval++cvs).toArray=cl.args.map a.eval++cvs.toArray:=by apply abh.1;simp
  rw[hargs]at hC;unfold Oper.wp;rw[Qm ho hc hf hen,Oper.upon_enter];refine hC.mono λ e w' hR=> ?_;obtain⟨v,g0,rfl,hb,hres,_⟩:=hR;have hheap: ∀b,b<w.heap.size->w'.heap[b]? =w.heap[b]? :=λ b hb'=>hb.blk b hb' (λ⟨ow,e⟩=>by cases e);have hkeep:Keeps w w' g.F g.F:=⟨λ _ _ h=>h,λ b o hf=>hb.keeps.cell b o (h1 b o hf)⟩;have hfr:Fr (λ _=>True) w w' g g:=⟨hkeep,λ b ow _ e=>⟨e,hheap b (h.base.own b ow e).2,λ _ h=>h⟩⟩
  have hbase:Base C.w0 C.F0 C.X w' g:=⟨hb.os.trans h.base.os,hb.tape.trans h.base.tape,hb.output.trans h.base.output,aaJ h.base.size hb.size,λ b hb' hx'=>by
   rw[hheap b (abb hb' h.base.size)];exact h.base.blk b hb' hx',λ b ow e=>⟨(h.base.own b ow e).1,abb (h.base.own b ow e).2 hb.size⟩,
   h.base.keeps.trans hkeep,λ b o hf=>⟨(h.base.fz b o hf).1,abb (h.base.fz b o hf).2 hb.size⟩,λ b ow cs t f hx hc=>by
    rw[hheap b (h.base.own b ow hx).2]at hc;exact h.base.frz b ow cs t f hx hc⟩
  have r1:Rel E C s a w' g:=h.world (hfr.mono λ _ _=>trivial) hbase rfl
  have hsco: ∀t,t∈(resT (E.sig i).res (retag (E.sig i).outs (cellsOf ((E.sig i).outs.map (·.1)) r))).1-> ∀c,c∈t.2->c.sh.scalar=true:=by
   intro t ht c hc;have hm:=VL ht c hc;obtain⟨c',h3,h4⟩:=VP hm;rw[h4];have:c'.sh∈(cellsOf ((E.sig i).outs.map (·.1)) r).map CV.sh:=aaL.2 ⟨c',h3,rfl⟩;rw[sO]at this;obtain⟨y,hy,hy2⟩:=aaL.1 this;have hsc':=hsc;simp only[Sig.scalar,aad]at hsc';have:=aaV.1 hsc'.1 y hy;rw[←hy2];exact this
  have hres2:ZK w' g (.tm d) (resT (E.sig i).res (retag (E.sig i).outs (cellsOf ((E.sig i).outs.map (·.1)) r))).1 v:=by
   generalize (resT (E.sig i).res (retag (E.sig i).outs (cellsOf ((E.sig i).outs.map (·.1)) r))).1=ts at hres hsco;unfold ZK at hres ⊢;split at hres
   ·rename_i ag cs;exact⟨hres.1,aF.free (λ c hc=>hsco (ag,cs) (by simp) c hc) hres.2⟩
   ·obtain⟨vs,e,ht⟩:=hres;exact⟨vs,e,lI.free hsco ht⟩
  refine⟨g,?_⟩;rw[hdst];exact r1.U4 hd (Fr.refl _ _ _) hbase rfl (VN hres2)
end
end Go.AM
end
section
namespace Go.AM
open Go
section
variable {P:Program} {E:Env} {C:Ctx} {s s':St} {a a':Act} {w w':World} {g g':Gh} {o:Oper} {Q:Exit->Act->World->Prop}
theorem V7.via {ow ow':aH} (ho: ∀b,g.own b=some ow->g'.own b=some ow') (hF:g'.F=g.F) {b:Nat} {tip:Bool} {sh:Sh} {x:El sh} {cs:List Value} (h:V7 w g ow b tip sh x cs):V7 w g' ow' b tip sh x cs:=by
 cases sh with
 |dl es=>exact⟨h.1,iM.imp (g:=g) (g':=g') (by rw[hF];exact Keeps.refl _ _) (λ sh x v _ hp=>uZ.owner hF (λ z hz=>ho z (hp.mg hz)) hp) h.2⟩
 |sl es=>show uO w g'.F (.sl es) x cs;rw[hF];exact h
 |rsl es=>show uO w g'.F (.rsl es) x cs;rw[hF];exact h
 |_=>exact h.elim
theorem jE.via {ow ow':aH} (ho: ∀b,g.own b=some ow->g'.own b=some ow') (hF:g'.F=g.F) {c:CV} {v:Value} (h:jE w g ow c v):jE w g' ow' c v:=by
 unfold jE at h ⊢
 have hown: ∀tip,yI w g ow tip c.sh c.x v->yI w g' ow' tip c.sh c.x v:=by
  intro tip h;rcases h with h|⟨b,k,cur,et,hv,hl,hc,h1,h2,hs,he,hf⟩
  ·exact .inl h
  ·exact .inr ⟨b,k,cur,et,hv,hl,hc,ho b h1,h2,hs,he.via ho hF,λ o=>by rw[hF];exact hf o⟩
 split at h
 ·trivial
 ·rw[hF];exact h
 ·split
  ·rename_i hs;rw[if_pos hs]at h;exact hown _ h
  ·rename_i hs;rw[if_neg hs]at h;split
   ·rename_i hm;rw[if_pos hm]at h;obtain⟨sh,tg,x⟩:=c
    cases sh with
    |mp k e=>
     rcases h with h|⟨b,l,hx,hv,h1,h2,hf⟩
     ·exact .inl h
     ·exact .inr ⟨b,l,hx,hv,ho b h1,h2,λ o=>by rw[hF];exact hf o⟩
    |_=>exact h.elim
   ·rename_i hm;rw[if_neg hm]at h;rw[hF];exact h
 ·split
  ·rename_i hs;rw[if_pos hs]at h;exact hown _ h
  ·rename_i hs;rw[if_neg hs]at h;rw[hF];exact h
theorem aF.via (hF:g'.F=g.F) {mk mk':Nat->aH}: ∀{cs:List CV} {i i':Nat} {vs:List Value},(∀j b,j<cs.length->g.own b=some (mk (i+j))->g'.own b=some (mk' (i'+j)))->aF w g mk i cs vs->aF w g' mk' i' cs vs
 | [],_,_,_,_,h=>h
 |c::cs,i,i',_,ho,⟨v,ws,e,h1,h⟩=>⟨v,ws,e,h1.via (λ b hb=>by have:=ho 0 b (by simp) (by simpa using hb);simpa using this) hF,
  aF.via hF (λ j b hj hb=>by
   have:=ho (j+1) b (by simp;omega) (by rw[show i+(j+1)=i+1+j by omega];exact hb)
   rwa [show i'+(j+1)=i'+1+j by omega]at this) h⟩
theorem lI.via (hF:g'.F=g.F) {mk mk':Nat->aH} (ho: ∀j b,g.own b=some (mk j)->g'.own b=some (mk' j)): ∀{ts:List (Bool×List CV)} {i:Nat} {vs:List Value},lI w g mk i ts vs->lI w g' mk' i ts vs
 | [],_,_,h=>h
 |(ag,cs)::ts,i,_,⟨v,ws,e,⟨h0,h1⟩,h⟩=>⟨v,ws,e,⟨h0,h1.via hF λ j b _ hb=>ho _ b hb⟩,lI.via hF ho h⟩
theorem ZK.via (hF:g'.F=g.F) {mk mk':Nat->aH} (ho: ∀j b,g.own b=some (mk j)->g'.own b=some (mk' j)) {ts:List (Bool×List CV)} {v:Value} (h:ZK w g mk ts v):ZK w g' mk' ts v:=by
 match ts,h with
 | [],⟨vs,e,h⟩=>exact⟨vs,e,h⟩
 | [(ag,cs)],h=>exact⟨h.1,h.2.via hF λ j b _ hb=>ho _ b hb⟩
 |_::_::_,⟨vs,e,h⟩=>exact⟨vs,e,h.via hF ho⟩
def Pq:List PK->Nat->Nat->aH
 | [],_,k=> .hand k
 |p::ps,i,k=>if k<p.cells.length then(match p with| .ptr _=> .cell i k|_=> .tm i k)else Pq ps (i+1) (k-p.cells.length)
def F5:List (Option Nat)->Nat->Nat->Option Nat
 | [],_,_=>none
 |b::bs,i,n=>if b=some n then some i else F5 bs (i+1) n
def SX (bs:List (Option Nat)) (i:Nat):Option Nat:=match bs[i]? with|some (some n)=>some n|_=>none
theorem PS: ∀{bs:List (Option Nat)} {i j n:Nat},(bs.filterMap id).Nodup->bs[j]? =some (some n)->F5 bs i n=some (i+j)
 | [],_,_,_,_,h=>by simp at h
 |b::bs,i,0,n,hnd,h=>by
  simp at h;subst h;simp[F5]
 |b::bs,i,j+1,n,hnd,h=>by
  have hj:bs[j]? =some (some n):=by simpa using h
  have hb:b≠some n:=by
   rintro rfl;simp only[List.filterMap_cons,id,List.nodup_cons]at hnd;exact hnd.1 (List.mem_filterMap.2 ⟨some n,aak hj,rfl⟩)
  have hnd2:(bs.filterMap id).Nodup:=by
   cases b with
   |none=>simpa using hnd
   |some m=>simp only[List.filterMap_cons,id,List.nodup_cons]at hnd;exact hnd.2
  simp only[F5,if_neg hb];rw[PS hnd2 hj];congr 1;omega
theorem MB: ∀{bs:List (Option Nat)} {i n k:Nat},F5 bs i n=some k->some n∈bs
 | [],_,_,_,h=>by simp[F5]at h
 |b::bs,i,n,k,h=>by
  simp only[F5]at h;split at h
  ·rename_i e;subst e;simp
  ·exact aaX _ (MB h)
def callee (ps:List PK) (bs:List (Option Nat)) (g:Gh):Gh:=
 ⟨λ i=>match SX bs i with|some n=>g.at_ n|none=>0,λ b=>match g.own b with|some (.hand k)=>some (Pq ps 0 k)|some (.box n)=>(F5 bs 0 n).map .box|_=>none,g.F⟩
theorem Yd {g0:Gh} (hF:g0.F=g.F): ∀(ps:List PK) (i k:Nat) (bs:List (Option Nat)) (cs:List CV) (vs:List Value) (sgs:List (List Value)),
 (∀b k',g.own b=some (.hand (k+k'))->g0.own b=some (Pq ps i k'))->(∀j n,bs[j]? =some (some n)->g0.at_ (i+j)=g.at_ n/\(g.own (g.at_ n)=some (.box n)->g0.own (g.at_ n)=some (.box (i+j)))/\ ∀o,¬g.F (g.at_ n) o)->
 aF w g .hand k cs sgs.flatten->Tagged cs (ps.flatMap PK.cells)->xq w g ps bs vs sgs->BU w g0 ps i cs vs
 | [],i,k,[],cs,[],[],_,_,hc,ht,_=>⟨by simpa [Tagged]using ht,rfl⟩
 |p::ps,i,k,b::bs,cs,v::vs,sg::sgs,ho,hb,hc,ht,⟨hp,hl,hps⟩=>by
  rw[abX]at hc;rw[abg]at ht;have hcl:=hc.length;have htl:cs.length=p.cells.length+(ps.flatMap PK.cells).length:=by have:=congrArg List.length ht;simpa using this
  have c1:aF w g .hand k (cs.take p.cells.length) sg:=by
   have:=hc.sub 0 p.cells.length;simp only[aaU,abu]at this
   rwa [←hl,abG,hl]at this
  have c2:aF w g .hand (k+p.cells.length) (cs.drop p.cells.length) sgs.flatten:=by
   have:=hc.sub p.cells.length (cs.length-p.cells.length);rw[aaF (by simp),aaF (by simp only[aa7];omega)]at this
   rwa [←hl,abL,hl]at this
  have t1:Tagged (cs.take p.cells.length) p.cells:=by
   simp only[Tagged,ab7]at ht ⊢;rw[ht,abG]
  have t2:Tagged (cs.drop p.cells.length) (ps.flatMap PK.cells):=by
   simp only[Tagged,ab6]at ht ⊢;rw[ht,abL]
  have ih:BU w g0 ps (i+1) (cs.drop p.cells.length) vs:=Yd hF ps (i+1) (k+p.cells.length) bs _ vs sgs (λ b' k' e=>by
   have:=ho b' (p.cells.length+k') (by rw[←abC];exact e);simp only[Pq]at this;rw[if_neg (by omega)]at this
   rwa [show p.cells.length+k'-p.cells.length=k' by omega]at this)
   (λ j n e=>by have:=hb (j+1) n (by simpa using e);rwa [show i+(j+1)=i+1+j by omega]at this) c2 t2 hps
  have hl1:(cs.take p.cells.length).length=p.cells.length:=by simp;omega
  have move: ∀(mk:Nat->aH),(∀j,j<p.cells.length->Pq (p::ps) i j=mk j)->aF w g0 mk 0 (cs.take p.cells.length) sg:=by
   intro mk hmk;refine c1.via hF λ j b hj e=> ?_;rw[hl1]at hj;have:=ho b j e;rw[hmk j hj]at this;simpa using this
  cases p with
  |val ag want=>
   cases b with
   |some n=>exact hp.elim
   |none=>
    refine⟨v,vs,rfl,⟨hp.1,?_⟩,ih⟩;rw[hp.2];exact move (.tm i) λ j hj=>by simp only[Pq];rw[if_pos hj]
  |rptr want=>
   cases b with
   |some n=>exact hp.elim
   |none=>
    obtain⟨⟨b,off,e,hrow⟩,hpw⟩:=hp;refine⟨v,vs,rfl,⟨b,off,sg,e,by rw[hF];exact hrow,UH t1 hpw,?_⟩,ih⟩;exact move (.tm i) λ j hj=>by simp only[Pq];rw[if_pos hj]
  |fn f=>
   cases b with
   |some n=>exact hp.elim
   |none=>exact⟨v,vs,rfl,hp,ih⟩
  |clo f want=>cases b<;>exact hp.elim
  |io want=>
   cases b with
   |some n=>exact hp.elim
   |none=>
    refine⟨v,vs,rfl,⟨hp.1,?_⟩,ih⟩;rw[hp.2];exact move (.tm i) λ j hj=>by simp only[Pq];rw[if_pos hj]
  |ptr want=>
   cases b with
   |none=>exact hp.elim
   |some n=>
    obtain⟨hv,hown,cur,et,hheap,hsg⟩:=hp;obtain⟨e1,e2,e3⟩:=hb 0 n rfl;simp only[aaU]at e1 e2;refine⟨v,vs,rfl,⟨by rw[e1];exact hv,cur,et,by rw[e1];exact hheap,by rw[e1];exact e2 hown,λ o ho'=>e3 o (by rw[e1,hF]at ho';exact ho'),?_⟩,ih⟩;simp only[mQ];rw[←hsg];exact move (.cell i) λ j hj=>by simp only[Pq];rw[if_pos hj]
theorem Iy {bs:List (Option Nat)} {i n:Nat}:SX bs i=some n ↔ bs[i]? =some (some n):=by
 unfold SX;split
 ·rename_i m h;rw[h];simp
 ·rename_i h;constructor
  ·intro e;cases e
  ·intro e;exact absurd e (h n)
theorem YP {want:List (Sh×Tg)} (h:pX want=false) {i:Nat} {sh:Sh} {tg:Tg} (hw:want[i]? =some (sh,tg)):tg≠ .dead:=by
 rintro rfl
 have:pX want=true:=by
  unfold pX;rw[abV];exact⟨_,aak hw,rfl⟩
 rw[this]at h;cases h
def qF (new:List CV) (b:Bx) (want:List (Sh×Tg)):List (CV×Nat):=bif pX want then setMany b.cells (iC 1 0 new b.cells want)else(new.zip b.cells).map λ x=>(x.1,x.2.2+1)
theorem pR {new:List CV} {b:Bx} {want:List (Sh×Tg)} (h1:new.length=want.length) (h2:b.cells.length=want.length):(qF new b want).length=want.length:=by
 unfold qF
 cases pX want with
 |true=>simp only[cond_true,xJ,h2]
 |false=>simp only[cond_false,aaN,List.length_zip];omega
theorem D7 {new:List CV} {b:Bx} {want:List (Sh×Tg)} (h1:new.length=want.length) (h2:b.cells.length=want.length) {i:Nat} (hi:i<want.length):
 (qF new b want)[i]? =some (adN (want[i]).2 (b.cells[i]'(by omega)) (new[i]'(by omega),(b.cells[i]'(by omega)).2+1)):=by
 have e1:new[i]? =some (new[i]'(by omega)):=aac (by omega);have e2:b.cells[i]? =some (b.cells[i]'(by omega)):=aac (by omega);have e3:want[i]? =some ((want[i]'hi).1,(want[i]'hi).2):=aac hi;unfold qF
 cases hd:pX want with
 |true=>
  have:=JB (e:=1) (j:=0) (b.cells[i]'(by omega)) e3 e1 e2;rw[aaW]at this;simp only[cond_true,zk,e2,aaK,this]
 |false=>
  have e4:(new.zip b.cells)[i]? =some (new[i]'(by omega),b.cells[i]'(by omega)):=acd.2 ⟨e1,e2⟩;have hne:=YP hd e3;simp only[cond_false,aar,e4,aaK];congr 1;unfold adN;split
  ·rename_i h;exact absurd h hne
  ·rfl
theorem ZX {s0:St} {m:Nat} {b:Bx} {new:List CV} {want:List (Sh×Tg)} (hb:s0.bx m=some b):
 (s0.dM [bif pX want then .cl m (iC 1 0 new b.cells want)else .bx m ⟨b.inst,(new.zip b.cells).map λ x=>(x.1,x.2.2+1)⟩])= {s0 with bx:=put s0.bx m (some ⟨b.inst,qF new b want⟩)}:=by
 unfold qF
 cases pX want with
 |true=>simp only[cond_true,St.dM,acw,List.foldl_nil,Upd.on,hb,aaK]
 |false=>rfl
theorem Dx {g2 gF:Gh} (hF:gF.F=g2.F) {Kp:Nat->Nat->Prop}
 (hold: ∀(n:Nat) (b:Bx) (i:Nat) (c:CV) (v:Nat),Kp n i->s.bx n=some b->b.cells[i]? =some (c,v)-> ∃cur et f u,w'.heap[gF.at_ n]? =some (.cells cur et f)/\cur.toList[i]? =some u/\jE w' gF (.cell n i) c u):
 ∀(ps:List PK) (i:Nat) (bs:List (Option Nat)) (av:List Value) (cs:List CV) (us:List Upd) (s0:St),nP s ps bs cs=some us->ZJ w' g g2 ps i av cs->
 (∀n,some n∈bs->s0.bx n=s.bx n)->(bs.filterMap id).Nodup->(∀(j n:Nat) (want:List (Sh×Tg)) (k:Nat) (sh:Sh),bs[j]? =some (some n)->ps[j]? =some (.ptr want)->want[k]? =some (sh,.dead)->Kp n k)->
 (∀j n,bs[j]? =some (some n)->gF.at_ n=g.at_ (i+j)/\(∀b,g2.own b=some (.box (i+j))->gF.own b=some (.box n))/\ ∀b k,g2.own b=some (.cell (i+j) k)->gF.own b=some (.cell n k))->
 (s0.dM us).tm=s0.tm/\ ∀n,(some n∉bs->(s0.dM us).bx n=s0.bx n)/\(some n∈bs-> ∃b b',s.bx n=some b/\(s0.dM us).bx n=some b'/\b'.inst=b.inst/\b'.cells.length=b.cells.length/\
  (∀(i:Nat) (c':CV) (v':Nat),b'.cells[i]? =some (c',v')->(∃(c:CV) (v:Nat),b.cells[i]? =some (c,v)/\v'=v+1)\/(Kp n i/\b.cells[i]? =some (c',v')))/\BR w' gF n b')
 | [],i,bs,av,cs,us,s0,hb,_,_,_,_,_=>by
   cases bs with
   |cons b bs=>cases hb
   |nil=>
    simp only[nP,aae]at hb;subst hb;exact⟨rfl,λ n=>⟨λ _=>rfl,λ h=>by cases h⟩⟩
 | .ptr want::ps,i,[],av,cs,us,s0,hb,_,_,_,_,_=>by cases hb
 | .ptr want::ps,i,none::bs,av,cs,us,s0,hb,_,_,_,_,_=>by cases hb
 | .ptr want::ps,i,some m::bs,av,cs,us,s0,hb,⟨⟨hat,hrep⟩,hp⟩,hs0,hnd,hK,ho=>by
   simp only[nP]at hb;split at hb
   ·rename_i b us' hbx hba;simp only[cond_eq_ite]at hb;split at hb
    ·rename_i hlen;simp only[aad]at hlen;obtain⟨hlen,hbl⟩:=hlen;have hlen:=aal hlen;have hbl:=aal hbl;simp only[←cond_eq_ite]at hb;cases hb;simp only[List.filterMap_cons,id,List.nodup_cons]at hnd;have hsm:s0.bx m=some b:=by rw[hs0 m (by simp)];exact hbx
     obtain⟨cur,et,r1,r2,r3,r4⟩:=hrep;simp only[mQ]at r4;have hone:=ZX (s0:=s0) (new:=cs.take want.length) (want:=want) hsm;have hsplit: ∀us',s0.dM ((bif pX want then .cl m (iC 1 0 (cs.take want.length) b.cells want)else .bx m ⟨b.inst,((cs.take want.length).zip b.cells).map λ x=>(x.1,x.2.2+1)⟩)::us')=St.dM {s0 with bx:=put s0.bx m (some ⟨b.inst,qF (cs.take want.length) b want⟩)} us':=λ us'=>by rw[←hone];rfl
     have hnot:some m∉bs:=λ h=>hnd.1 (List.mem_filterMap.2 ⟨some m,h,rfl⟩)
     obtain⟨e1,e2⟩:=Dx hF hold ps (i+1) bs av.tail _ us' {s0 with bx:=put s0.bx m (some ⟨b.inst,qF (cs.take want.length) b want⟩)} hba hp
      (λ n hn=>by
       have:n≠m:=by rintro rfl;exact hnot hn
       show put s0.bx m _ n=_;rw[bF _ _ _ this];exact hs0 n (by simp[hn])) hnd.2 (λ j n want' k sh h1 h2 h3=>hK (j+1) n want' k sh (by simpa using h1) (by simpa using h2) h3) (λ j n e=>by
      have:=ho (j+1) n (by simpa using e)
      rwa [show i+(j+1)=i+1+j by omega]at this)
     refine⟨by rw[hsplit];exact e1,λ n=> ?_⟩;obtain⟨k1,k2⟩:=e2 n;rw[hsplit];refine⟨λ hn=> ?_,λ hn=> ?_⟩
     ·have h1:n≠m:=by rintro rfl;exact hn (by simp)
      rw[k1 (λ h=>hn (by simp[h]))];show put s0.bx m _ n=_;rw[bF _ _ _ h1]
     ·by_cases hin:some n∈bs
      ·exact k2 hin
      ·have h1:n=m:=by
        rcases aaR.1 hn with e|e
        ·cases e;rfl
        ·exact absurd e hin
       subst h1;have hwl:(cs.take want.length).length=want.length:=by omega
       obtain⟨q1,q2,q3⟩:=ho 0 n rfl;simp only[aaU]at q1 q2 q3;rw[hat]at r1 r2 r3;have hcl:=r4.length;refine⟨b,⟨b.inst,qF (cs.take want.length) b want⟩,hbx,?_,rfl,?_,λ k c' v' hk=> ?_,?_⟩
       ·rw[k1 hin];show put s0.bx n _ n=_;rw[bg]
       ·rw[pR hwl hbl,hbl]
       ·have hki:k<want.length:=by
         rcases aaE k want.length with h|h
         ·exact h
         ·rw[aah (by rw[pR hwl hbl];exact h)]at hk;cases hk
        rw[D7 hwl hbl hki]at hk;unfold adN at hk;split at hk
        ·rename_i hd;refine .inr ⟨hK 0 n want k (want[k]).1 rfl rfl ?_,?_⟩
         ·rw[aac hki,←hd]
         ·rw[aac (by omega)];exact hk
        ·simp only[aae,aas]at hk;exact .inl ⟨(b.cells[k]'(by omega)).1,(b.cells[k]'(by omega)).2,aac (by omega),hk.2.symm⟩
       ·refine⟨cur,et,by rw[q1];exact r1,by rw[q1];exact q2 _ r2,λ o ho'=>r3 o (by rw[q1,hF]at ho';exact ho'),?_⟩;refine aF.of _ _ _ (by simp only[aaN,pR hwl hbl];omega) λ k c v hk hv=> ?_;simp only[aar,aaG]at hk;obtain⟨⟨c',v'⟩,hk,rfl⟩:=hk
        have hki:k<want.length:=by
         rcases aaE k want.length with h|h
         ·exact h
         ·rw[aah (by rw[pR hwl hbl];exact h)]at hk;cases hk
        rw[D7 hwl hbl hki]at hk;rw[aaW];unfold adN at hk;split at hk
        ·rename_i hd;obtain⟨cur2,et2,f2,u,p1,p2,p3⟩:=hold n b k c' v' (hK 0 n want k (want[k]).1 rfl rfl (by rw[aac hki,←hd])) hbx (by rw[aac (by omega)];exact hk);rw[q1,r1]at p1;cases p1;rw[hv]at p2;cases p2;exact p3
        ·simp only[aae,aas]at hk;obtain⟨rfl,_⟩:=hk;obtain⟨u,p1,p2⟩:=r4.get _ 0 _ k _ (aac (by omega));rw[hv]at p1;cases p1;rw[aaW]at p2;exact p2.via (λ b hb=>q3 b k hb) hF
    ·cases hb
   ·cases hb
 | .val ag want::ps,i,bs,av,cs,us,s0,hb,hp,hs0,hnd,hK,ho=>by
   cases bs with
   |nil=>cases hb
   |cons b bs=>
    cases b with
    |some m=>cases hb
    |none=>
     obtain⟨e1,e2⟩:=Dx hF hold ps (i+1) bs av.tail cs us s0 hb hp (λ n hn=>hs0 n (by simp[hn])) (by simpa using hnd) (λ j n want' k sh h1 h2 h3=>hK (j+1) n want' k sh (by simpa using h1) (by simpa using h2) h3) (λ j n e=>by
      have:=ho (j+1) n (by simpa using e)
      rwa [show i+(j+1)=i+1+j by omega]at this)
     exact⟨e1,λ n=>⟨λ hn=>(e2 n).1 (λ h=>hn (by simp[h])),λ hn=>(e2 n).2 (by simpa using hn)⟩⟩
 | .rptr want::ps,i,bs,av,cs,us,s0,hb,hp,hs0,hnd,hK,ho=>by
   cases bs with
   |nil=>cases hb
   |cons b bs=>
    cases b with
    |some m=>cases hb
    |none=>
     obtain⟨e1,e2⟩:=Dx hF hold ps (i+1) bs av.tail cs us s0 hb hp (λ n hn=>hs0 n (by simp[hn])) (by simpa using hnd) (λ j n want' k sh h1 h2 h3=>hK (j+1) n want' k sh (by simpa using h1) (by simpa using h2) h3) (λ j n e=>by
      have:=ho (j+1) n (by simpa using e)
      rwa [show i+(j+1)=i+1+j by omega]at this)
     exact⟨e1,λ n=>⟨λ hn=>(e2 n).1 (λ h=>hn (by simp[h])),λ hn=>(e2 n).2 (by simpa using hn)⟩⟩
 | .fn f::ps,i,bs,av,cs,us,s0,hb,hp,hs0,hnd,hK,ho=>by
   cases bs with
   |nil=>cases hb
   |cons b bs=>
    cases b with
    |some m=>cases hb
    |none=>
     obtain⟨e1,e2⟩:=Dx hF hold ps (i+1) bs av.tail cs us s0 hb hp (λ n hn=>hs0 n (by simp[hn])) (by simpa using hnd) (λ j n want' k sh h1 h2 h3=>hK (j+1) n want' k sh (by simpa using h1) (by simpa using h2) h3) (λ j n e=>by
      have:=ho (j+1) n (by simpa using e)
      rwa [show i+(j+1)=i+1+j by omega]at this)
     exact⟨e1,λ n=>⟨λ hn=>(e2 n).1 (λ h=>hn (by simp[h])),λ hn=>(e2 n).2 (by simpa using hn)⟩⟩
 | .clo f want::ps,i,bs,av,cs,us,s0,hb,hp,hs0,hnd,hK,ho=>by
   cases bs with
   |nil=>cases hb
   |cons b bs=>
    cases b with
    |some m=>cases hb
    |none=>
     obtain⟨e1,e2⟩:=Dx hF hold ps (i+1) bs av.tail cs us s0 hb hp (λ n hn=>hs0 n (by simp[hn])) (by simpa using hnd) (λ j n want' k sh h1 h2 h3=>hK (j+1) n want' k sh (by simpa using h1) (by simpa using h2) h3) (λ j n e=>by
      have:=ho (j+1) n (by simpa using e)
      rwa [show i+(j+1)=i+1+j by omega]at this)
     exact⟨e1,λ n=>⟨λ hn=>(e2 n).1 (λ h=>hn (by simp[h])),λ hn=>(e2 n).2 (by simpa using hn)⟩⟩
 | .io want::ps,i,bs,av,cs,us,s0,hb,hp,hs0,hnd,hK,ho=>by
   cases bs with
   |nil=>cases hb
   |cons b bs=>
    cases b with
    |some m=>cases hb
    |none=>
     obtain⟨e1,e2⟩:=Dx hF hold ps (i+1) bs av.tail (cs.drop want.length) us s0 hb hp.2 (λ n hn=>hs0 n (by simp[hn])) (by simpa using hnd) (λ j n want' k sh h1 h2 h3=>hK (j+1) n want' k sh (by simpa using h1) (by simpa using h2) h3) (λ j n e=>by
      have:=ho (j+1) n (by simpa using e)
      rwa [show i+(j+1)=i+1+j by omega]at this)
     exact⟨e1,λ n=>⟨λ hn=>(e2 n).1 (λ h=>hn (by simp[h])),λ hn=>(e2 n).2 (by simpa using hn)⟩⟩
theorem Rel.ag3 (h:Rel E C s a w g) {N:Nat->Prop} {Kp:Nat->Nat->Prop} (f:Fr (λ o=>(∀i,o≠ .hand i)/\ ∀n,N n->o≠ .box n) w w' g g') (hb:Base C.w0 C.F0 C.X w' g') (hat:g'.at_=g.at_) (htm:s'.tm=s.tm)
 (hval: ∀(n i:Nat) (u:Value),N n->Kp n i->(aC a w g (.box n))[i]? =some u->(aC a w' g' (.box n))[i]? =some u)
 (hbx: ∀n,(¬N n->s'.bx n=s.bx n)/\(N n-> ∃b b',s.bx n=some b/\s'.bx n=some b'/\b'.inst=b.inst/\b'.cells.length=b.cells.length/\
  (∀(i:Nat) (c':CV) (v':Nat),b'.cells[i]? =some (c',v')->(∃(c:CV) (v:Nat),b.cells[i]? =some (c,v)/\v'=v+1)\/(Kp n i/\b.cells[i]? =some (c',v')))/\BR w' g' n b')):Rel E C s' a w' g':=by
 refine h.gen f hb (λ r=> ?_) rfl rfl (λ n=> .inl ⟨λ i=>⟨λ j=>by simp,λ m _=>by simp⟩,by rw[htm],rfl⟩) (λ n b hn=> ?_)
 ·cases r with
  |tmp n=>exact BX.same (by simp only[qm,htm]) (by simp only[aB,htm]) (λ k e=>by cases e) (λ _=>rfl) (λ p es l hp hc b len k hv=>h.vF f ⟨λ i=>iZ _ _ _,λ m _=>by rw[hp];simp[dJ]⟩ hc (by rw[hp];exact hv))
  |box n=>
   by_cases hN:N n
   ·obtain⟨b,b',h1,h2,h3,h4,h5,h6⟩:=(hbx n).2 hN
    have stay: ∀(p:Pl) (m:Nat) cs',p.root= .box n->Old s p->aW s' p m=some cs'-> ∀i,i<p.vers.length->Kp n (p.cell+i)/\b.cells[p.cell+i]? =b'.cells[p.cell+i]? :=by
     intro p m cs' hp ho hc i hi;rw[bI]at hc;obtain⟨cells,e,q1,q2,q3⟩:=hc;rw[hp]at e;simp only[aB,h2,aae,aas]at e;obtain⟨e1,rfl⟩:=e;have hx:p.vers[i]? =some (p.vers[i]'hi):=aac hi;have:=q2 i _ hx;simp only[aaG]at this;obtain⟨⟨c',v'⟩,k1,k2⟩:=this;rcases h5 _ _ _ k1 with⟨c0,v0,k3,k4⟩|⟨k3,k4⟩
     ·have:=ho.vers n b hp h1 (by rw[←e1,h3]) i _ c0 v0 hx k3;simp only at k2;omega
     ·exact⟨k3,k4.trans k1.symm⟩
    have pl: ∀(p:Pl) (m:Nat) cs',p.root= .box n->Old s p->p.vers.length=m->aW s' p m=some cs'->aW s p m=some cs':=by
     intro p m cs' hp ho hv hc;have hst:=stay p m cs' hp ho hc;rw[bI]at hc ⊢;obtain⟨cells,e,q1,q2,q3⟩:=hc;rw[hp]at e ⊢;simp only[aB,h2,aae,aas]at e;obtain⟨e1,rfl⟩:=e;refine⟨b.cells,by simp only[aB,h1];rw[←e1,h3],by omega,λ i x hx=> ?_,?_⟩
     ·have hi:i<p.vers.length:=by
       rcases aaE i p.vers.length with h|h
       ·exact h
       ·simp[aah h]at hx
      rw[(hst i hi).2];exact q2 i x hx
     ·rw[q3];congr 1;apply aaP;intro i;simp only[aaj,aan];split
      ·exact(hst i (by omega)).2.symm
      ·rfl
    refine⟨λ p hp ho=>⟨?_,λ k b1 e k1 k2 i x c v hx hv=> ?_⟩,λ p m cs' hp ho hv hc=>⟨cs',pl p m cs' hp ho hv hc,rfl,?_⟩,λ k b1 p e k1 hp ho k2=> ?_,λ p es l hp ho hv hc=>⟨l,pl p 1 _ hp ho hv hc,λ b0 len k hv0=> ?_⟩⟩
    ·have:=ho.inst;rw[hp]at this ⊢;simp only[qm,h1,h2]at this ⊢;omega
    ·rw[hp]at e;cases e;rw[h2]at k1;cases k1;rcases h5 _ _ _ hv with⟨c0,v0,q1,q2⟩|⟨_,q1⟩
     ·have:=ho.vers n b hp h1 (by rw[k2,h3]) i x c0 v0 hx q1;omega
     ·exact ho.vers n b hp h1 (by rw[k2,h3]) i x c v hx q1
    ·have hst:=stay p m cs' hp ho hc;have hc0:=pl p m cs' hp ho hv hc;rw[bI]at hc0;obtain⟨cells,e,q1,_,_⟩:=hc0;rw[hp]at e;simp only[aB,h1,aae,aas]at e;obtain⟨_,rfl⟩:=e;obtain⟨cur,et,r1,_,_,r4⟩:=h.bx n b h1
     have hrl:(aC a w g (.box n)).length=b.cells.length:=by
      have:=r4.length;simp only[aC,r1];simpa using this
     apply aaP;intro i;simp only[aaj,aan];split
     ·have hlt:p.cell+i<(aC a w g (.box n)).length:=by omega
      have:=hval n (p.cell+i) _ hN (hst i (by omega)).1 (aac hlt);rw[this,aac hlt]
     ·rfl
    ·cases e;rw[h2]at k1;cases k1;exact⟨b,h1,by rw[←h3];exact k2,by rw[hat]⟩
    ·exact h.vF f ⟨λ i=>iZ _ _ _,λ m _=>by rw[hp];simp[dJ]⟩ (pl p 1 _ hp ho hv hc) (by rw[hp];exact hv0)
   ·have hs:=(hbx n).1 hN;refine BX.same (by simp only[qm,hs]) (by simp only[aB,hs]) (λ k e=>by cases e;exact⟨hs,λ _=>by rw[hat]⟩) (λ hsm=> ?_) (λ p es l hp hc b len k hv=>h.vF f ⟨λ i=>iZ _ _ _,λ m hm=>by rw[hp];simp[dJ]⟩ hc (by rw[hp];exact hv));exact h.Il f ⟨λ i=>by simp,λ m hm=>by rintro e;cases e;exact hN hm⟩ (by rw[hat]) hsm
 ·by_cases hN:N n
  ·obtain⟨b0,b',_,h2,_,_,_,h6⟩:=(hbx n).2 hN;rw[h2]at hn;cases hn;exact .inr h6
  ·rw[(hbx n).1 hN]at hn;exact .inl ⟨hn,λ i=>⟨λ j=>by simp,λ m hm=>by simp⟩,⟨λ j=>by simp,λ m hm=>by rintro e;cases e;exact hN hm⟩,by rw[hat]⟩
end
end Go.AM
end
section
namespace Go.AM
open Go
section
variable {P:Program} {E:Env} {C:Ctx} {s s':St} {a a':Act} {w w':World} {g g':Gh} {o:Oper} {Q:Exit->Act->World->Prop}
theorem xq.boxes: ∀{ps:List PK} {bs:List (Option Nat)} {vs:List Value} {sgs:List (List Value)},xq w g ps bs vs sgs-> ∀n,some n∈bs->g.own (g.at_ n)=some (.box n)
 | [],[],[],[],_,n,hn=>by cases hn
 |p::ps,b::bs,v::vs,sg::sgs,⟨h1,_,h3⟩,n,hn=>by
  rcases aaR.1 hn with rfl|hn
  ·cases p with
   |ptr want=>exact h1.2.1
   |_=>exact h1.elim
  ·exact xq.boxes h3 n hn
theorem Ud {g2:Gh}: ∀(ps:List PK) (i:Nat) (xs:List Operand) (av:List Value) (cs:List CV),av=xs.map a.eval->ZJ w' g g2 ps i av cs-> ∀x cs0,(x,cs0)∈XB ps xs cs-> ∃j,BZ w' g2 (.tm j) 0 false cs0 (a.eval x)
 | [],_,xs,_,_,_,_,x,cs0,hm=>by cases xs<;>simp[XB]at hm
 |p::_,_,[],_,_,_,_,x,cs0,hm=>by cases p<;>simp[XB]at hm
 | .val ag want::ps,i,y::xs,av,cs,e,hp,x,cs0,hm=>Ud ps (i+1) xs av.tail cs (by rw[e];rfl) hp x cs0 hm
 | .rptr want::ps,i,y::xs,av,cs,e,hp,x,cs0,hm=>Ud ps (i+1) xs av.tail cs (by rw[e];rfl) hp x cs0 hm
 | .fn f::ps,i,y::xs,av,cs,e,hp,x,cs0,hm=>Ud ps (i+1) xs av.tail cs (by rw[e];rfl) hp x cs0 hm
 | .clo f _::ps,i,y::xs,av,cs,e,hp,x,cs0,hm=>Ud ps (i+1) xs av.tail cs (by rw[e];rfl) hp x cs0 hm
 | .ptr want::ps,i,y::xs,av,cs,e,hp,x,cs0,hm=>Ud ps (i+1) xs av.tail _ (by rw[e];rfl) hp.2 x cs0 hm
 | .io want::ps,i,y::xs,av,cs,e,hp,x,cs0,hm=>by
   obtain⟨⟨v,hv,hr⟩,hp⟩:=hp;simp only[XB]at hm;rcases aaR.1 hm with h1|h1
   ·simp only[aas]at h1;obtain⟨rfl,rfl⟩:=h1;rw[e]at hv;simp only[abf,List.head?_cons,aae]at hv;subst hv;exact⟨i,hr⟩
   ·exact Ud ps (i+1) xs av.tail _ (by rw[e];rfl) hp x cs0 h1
theorem pre_eq {m l:List Int} (h:pre m l=true):l.take m.length=m:=of_decide_eq_true h
theorem agK {m l:List Int} (h:pre m l=true):m.length<=l.length:=by
 have:=congrArg List.length (pre_eq h);simp only[aaB]at this;omega
theorem Ir.ahead {α:Type} {n:Nat} {R:α->List Value->Prop} {L:List α->List Value->Prop} (h:Ir n R L) {x m:List α} {cs:List Value} (hle:m.length<=x.length) (ht:x.take m.length=m) (hx:L x (cs.take (x.length*n))):L m (cs.take (m.length*n)):=by
 have:=h.take x _ m.length hx
 rwa [ht,abS,abK (aaw _ hle)]at this
theorem uZ.ahead {ow:aH} {c q:CV} {b l k:Nat} (hsh:c.sh=q.sh) (ht:Zx c q=true) (h:uZ w g ow false c.sh c.x (.slice (some ⟨b,0,none⟩) l k)):uZ w g ow false q.sh q.x (.slice (some ⟨b,0,none⟩) (aQ q.sh q.x) k):=by
 unfold Zx at ht;split at ht
 ·rename_i k1 t1 x1 k2 t2 x2;obtain rfl:k1=k2:=by simpa using hsh
  have hle:=agK (m:=x2) (l:=x1) ht;have ht:=pre_eq (m:=x2) (l:=x1) ht;rcases h with⟨hv,_⟩|⟨b',k',cur,et,hv,hl,hk,ho,hh,hs,he,hF⟩
  ·cases hv
  ·cases hv;refine .inr ⟨b,k,cur,et,rfl,aaJ hle hl,hk,ho,hh,hs,?_,λ o=>by simpa using hF o⟩;exact(jC (w:=w) (F:=g.F) [.int k1]).ahead (x:=x1) (m:=x2) hle ht he
 ·cases ht
theorem ae0 (h:Rel E C s a w g) {p:Pl} {sh:Sh} {l:List (Option (ElA [sh]))} {i:Nat} {d:Nat} (hd:KN s p=some (⟨.dl [sh],.own,l⟩,i,0)) (hpl:sh.oW=true) {y:El sh} {v:Value} (hop:uZ w g (.hand 0) false sh y v)
 (hag:isAgg v=false) {mk:Nat->aH} (hv:TV s a w g mk (.rowr p false 1) v) {us:List Upd} (hu:jB s p [⟨.dl [sh],.own,List.set l i (some y)⟩] false=some us):
 ∃gG:Gh,Rel E C (s.dM us) a w gG/\gG.F=g.F/\gG.at_=g.at_/\ ∀k b,g.own b=some (.tm d k)->gG.own b=some (.tm d k):=by
 obtain⟨hsub,es,l0,e0,hc⟩:=xQ hd;cases e0;obtain⟨_,_,i',j',hsub',hrow⟩:=hv;rw[hsub]at hsub';cases hsub';obtain⟨b,len,k,cur,et,f,m1,m2,m3,hag2,hvc⟩:=hrow [sh] l hc
 have hi:i<l.length:=by
  obtain⟨u,q1,q2,_⟩:=oN h hc;rw[m1]at q1;cases q1;simp only[jE,Sh.pF,if_true]at q2;rcases q2 with⟨e,_⟩|⟨_,_,_,_,e,_⟩
  ·cases e
  ·simp only[Value.slice.injEq]at e;obtain⟨_,e,_⟩:=e;rw[e]at m2;exact m2
 obtain⟨b1,k1,cur1,et1,e1,e2,hlk,hk,ho,hheap,hsz,hdl,hF,hone⟩:=h.IV hc hi;rw[m1]at e1;cases e1;rw[hheap]at m3;cases m3;simp only[aaT,abR,aaU]at hvc hsz hdl;rw[aJ hag]at hvc
 have hcv:(cur.toList.take l.length)[i]? =some v:=by
  rw[aaj,if_pos hi];have:=congrArg (λ l=>l[0]?) hvc;simp only[aaj,aan,aaU]at this;simpa using this.symm
 let ρ:aH->aH:=λ o=>if o= .hand 0 then dJ p.root p.cell else o
 have hρ: ∀o,o≠ .hand 0->ρ o=o:=λ o ho=>by simp only[ρ,if_neg ho]
 have hρ0:ρ (.hand 0)=dJ p.root p.cell:=by simp only[ρ,if_pos rfl]
 have hne:dJ p.root p.cell≠ .hand 0:=iZ _ _ _;have hown: ∀z ow,g.own z=some ow->ow≠ .hand 0->(g.ren ρ).own z=some ow:=λ z ow e hn=>by simp only[Gh.ren,e,aaK,hρ ow hn]
 have hset:(cur.toList.take l.length).set i v=cur.toList.take l.length:=by
  apply aaP;intro q;rw[aaS];split
  ·rename_i hq;subst hq;split
   ·exact hcv.symm
   ·rename_i hn;rw[aah (by omega)]
  ·rfl
 refine⟨g.ren ρ,?_,rfl,rfl,λ k b e=>hown b _ e (by simp)⟩;refine jQ h (ds:=[⟨.dl [sh],.own,List.set l i (some y)⟩]) hc hu rfl (Fr.ren w g λ o ho=>hρ o (ho.2 0)) (h.base.ren ρ) rfl ?_ (λ q es' l' hq=> ?_)
 ·show aF w (g.ren ρ) _ _ _ (((aC a w g p.root).drop p.cell).take 1);rw[e2];refine⟨_,[],rfl,?_,rfl⟩;simp only[jE,Sh.pF,if_true];have hll:(List.set l i (some y)).length=l.length:=aa0;refine .inr ⟨b,k,cur,et,by simp only[aQ];rw[hll],by simp only[aQ];rw[hll];exact hlk,hk,hown b _ ho hne,hheap,by simpa [Sh.n]using hsz,⟨⟨rfl,by simp only[aQ,Sh.n];rw[hll];exact hone⟩,?_⟩,λ o=>⟨λ hf=>(hF o hf).elim,λ hf=>by cases hf.1⟩⟩;simp only[aQ,Sh.n,aaT,abR];rw[hll]
  have:=hdl.set1 (w':=w) (g':=g.ren ρ) hpl hi hop hne (λ e=>by have:=hop.mg e;rw[ho]at this;exact hne (aao this)) (Keeps.refl _ _)
   (λ z hz=>⟨by simp only[Gh.ren,hop.mg hz,aaK,hρ0],rfl,λ _=>ach⟩) (λ z _ hz=>⟨hown z _ hz hne,rfl,λ _=>ach⟩)
  rwa [hset]at this
 ·have hq0:q=0:=by
   rcases ab8 q with h|h
   ·exact h
   ·rw[aah (by simp;omega)]at hq;cases hq
  subst hq0;simp only[aaM,aae]at hq;cases hq;exact⟨l,rfl,λ _ _ _ _=>rfl⟩
theorem adq {g2:Gh} {d:Nat} {l:List (Operand×List CV)} {vs:List Upd} (hput:(Xb E s d l).run=some vs) (hl: ∀x cs0,(x,cs0)∈l-> ∃j,BZ w' g2 (.tm j) 0 false cs0 (a.eval x)):
 ∃io:Option (Nat×aH),∀gF:Gh,gF.F=g2.F->gF.at_=g.at_->Rel E C s a w' gF->(∀j ow,io=some (j,ow)-> ∀b,g2.own b=some (.tm j 0)->gF.own b=some ow)->
  ∃gG:Gh,Rel E C (s.dM vs) a w' gG/\gG.F=gF.F/\gG.at_=gF.at_/\ ∀k b,gF.own b=some (.tm d k)->gG.own b=some (.tm d k):=by
 unfold Xb at hput;split at hput
 ·obtain rfl:=ak hput;exact⟨none,λ gF _ _ h _=>⟨gF,h,rfl,rfl,λ _ _ e=>e⟩⟩
 ·rename_i x c;obtain⟨j,hag,hrep⟩:=hl x [c] (by simp)
  have via: ∀{gF:Gh} {mk:Nat->aH} {k:Nat},gF.F=g2.F->(∀b,g2.own b=some (.tm j 0)->gF.own b=some (mk k))->aF w' gF mk k [c] (a.eval x).cells.toList:=λ hF ho=>
   hrep.via hF λ i b hi e=>by
    obtain rfl:i=0:=by simpa using hi
    exact ho b (by simpa using e)
  have nodl: ∀(i:Nat) (es:List Sh) (l':List (Option (ElA es))),c.sh.oW=true->[c][i]? ≠some (⟨.dl es,.own,l'⟩:CV):=by
   intro i es l' hpl e;have:=aak e;rw[←aam.1 this]at hpl;simp[Sh.oW]at hpl
  unfold UK at hput;split at hput
  ·obtain rfl:=ak hput;exact⟨none,λ gF _ _ h _=>⟨gF,h,rfl,rfl,λ _ _ e=>e⟩⟩
  ·rename_i q hx;split at hput
   ·rename_i n;obtain⟨hcond,hput⟩:=aX hput;obtain rfl:=ak hput
    ·simp only[aad]at hcond;obtain⟨hsh,hpl⟩:=hcond;have hsh:=Sh.eq_of_beq hsh;have hx':(s.tm n).1= .val false [q]:=hx;refine⟨some (j,.tm n 0),λ gF hF _ h ho=>⟨gF,?_,rfl,rfl,λ _ _ e=>e⟩⟩;refine h.Jw (Fr.refl _ _ _) h.base rfl (λ ag' cs' e=> ?_) ⟨hag,via hF (ho j _ rfl)⟩;cases e;exact⟨false,[q],hx',by simp[hsh],λ i es l' hi=>absurd hi (nodl i es l' hpl)⟩
   ·exact(aj hput).elim
  ·rename_i p hx;split at hput
   ·rename_i q hsub hc;obtain⟨hcond,hput⟩:=aX hput;have hput:=Eb hput
    ·simp only[aad]at hcond;obtain⟨hsh,hpl⟩:=hcond;have hsh:=Sh.eq_of_beq hsh;refine⟨some (j,dJ p.root p.cell),λ gF hF _ h ho=>⟨gF,?_,rfl,rfl,λ _ _ e=>e⟩⟩;obtain⟨_,_,_,hv⟩:=aN h hx (by simp);obtain⟨_,hvals⟩:=hv _ hc;refine jQ h (ds:=[c]) hc hput (by simp[hsh]) (Fr.refl _ _ _) h.base rfl ?_ (zu.of λ d hd _=> .inl (by rw[aam.1 hd];exact hpl));show aF w' gF (dJ p.root) p.cell [c] (((aC a w' gF p.root).drop p.cell).take 1);rw[←hvals];exact via hF (ho j _ rfl)
   ·exact(aj hput).elim
  ·rename_i p hx;split at hput
   ·rename_i sh l i jj hd;have hcond:=(aX hput).1
    replace hput:=(aX hput).2
    simp only[aad]at hcond;obtain⟨⟨hj,hpl⟩,hco⟩:=hcond;obtain rfl:=aal hj;have hco:c.tg= .own:=by unfold Tg.Ep at hco;split at hco<;>simp_all
    split at hput
    ·rename_i y hy;have hu:=Eb hput;obtain⟨e,rfl⟩:=kF hy;obtain⟨csh,ct,cx⟩:=c;simp only at e hco;subst e hco;refine⟨some (j,.hand 0),λ gF hF _ h ho=> ?_⟩;have k1:=via (gF:=gF) (mk:=λ _=> .hand 0) (k:=0) hF (ho j _ rfl);rw[aJ hag]at k1;obtain⟨v,ws,ev,hcr,_⟩:=k1;obtain rfl:a.eval x=v:=by simpa using(abI ev).1
     unfold jE at hcr;simp only[if_pos (fD hpl)]at hcr;exact ae0 h hd hpl ((oC hpl).1 hcr) hag (aN h hx (by simp)) hu
    ·exact(aj hput).elim
   ·exact(aj hput).elim
  ·rename_i p q c0 hx;split at hput
   ·rename_i n e hsub hc;obtain⟨hcond,hput⟩:=aX hput;simp only[aad,abj]at hcond;obtain⟨⟨⟨hesh,hsh⟩,hco⟩,hnd⟩:=hcond;have hesh:=Sh.eq_of_beq hesh;have hsh:=Sh.eq_of_beq hsh;have hco:c.tg= .own:=by unfold Tg.Ep at hco;split at hco<;>simp_all
    have hnd:n≠d:=λ e=>by rw[e,acj]at hnd;cases hnd
    split at hput
    ·rename_i us hu;obtain⟨hte,hput⟩:=kN hput;obtain rfl:=ak hput;have hx':(s.tm n).1= .ext p q c0:=hx
     have hroot: ∀m,p.root= .tmp m->m≠n:=by
      rintro m hm rfl;obtain⟨cells,hcs,_⟩:=bI.1 hc;rw[hm]at hcs;simp only[aB]at hcs;have e1:s.tm m=(.ext p q c0,(s.tm m).2):=by rw[←hx']
      rw[e1]at hcs;cases hcs
     have hs1:s.dM [.keep n .dead]= {s with tm:=put s.tm n (.dead,(s.tm n).2)}:=rfl
     have hu1:jB (s.dM [.keep n .dead]) p [q] false=some us:=by
      rw[←hu,hs1];unfold jB
      cases hr:p.root with
      |box m=>rfl
      |tmp m=>simp only[];rw[bF _ _ _ (hroot m hr)]
     have hc1:aW (s.dM [.keep n .dead]) p 1=some [e]:=by
      rw[←hc,hs1];unfold aW
      cases hr:p.root with
      |box m=>rfl
      |tmp m=>simp only[aB];rw[bF _ _ _ (hroot m hr)]
     have fin: ∀{gG:Gh} {u:Value},Rel E C (s.dM [.keep n .dead]) a w' gG->(aC a w' gG p.root)[p.cell]? =some u->q.sh.oW=true->q.tg= .own->uZ w' gG (dJ p.root p.cell) false q.sh q.x u->Rel E C (s.dM (.keep n .dead::us)) a w' gG:=by
      intro gG u r hv hpl hqo ho;refine jQ r (ds:=[q]) hc1 hu1 (by simp[hesh]) (Fr.refl _ _ _) r.base rfl ?_ (zu.of λ d hd _=> .inl (by rw[aam.1 hd];exact hpl));refine⟨u,[],?_,?_,rfl⟩
      ·have:p.cell<(aC a w' gG p.root).length:=by
        rcases aaE p.cell (aC a w' gG p.root).length with h|h
        ·exact h
        ·simp[aah h]at hv
       rw[aaI this];rw[aac this]at hv;simp[aao hv]
      ·unfold jE;simp only[hqo,if_pos (fD hpl)];exact(oC hpl).2 ho
     by_cases hcase: ∃b k l,(aC a w' g p.root)[p.cell]? =some (.slice (some ⟨b,0,none⟩) (aQ q.sh q.x) k)/\a.eval (.tmp n)= .slice (some ⟨b,0,none⟩) l k
     ·obtain⟨b,k,l,hv1,hv2⟩:=hcase;refine⟨some (j,dJ p.root p.cell),λ gF hF hat h ho=>⟨gF,?_,rfl,rfl,λ _ _ e=>e⟩⟩;have ht:=h.tm n;rw[hx']at ht;obtain⟨_,_,_,_,_,h5,h6,h7,h8⟩:=ht;have hpl:=N9 h5;have r1:Rel E C (s.dM [.keep n .dead]) a w' gF:=h.Jw (Fr.refl _ _ _) h.base rfl (λ _ _ e=>by cases e) trivial
      have hrv:aC a w' gF p.root=aC a w' g p.root:=by
       cases p.root with
       |tmp m=>rfl
       |box m=>simp only[aC,hat]
      refine fin r1 (by rw[hrv];exact hv1) hpl h6 ?_;have k1:=via (gF:=gF) (mk:=λ _=>dJ p.root p.cell) (k:=0) hF (ho j _ rfl);rw[aJ hag]at k1;obtain⟨v,ws,ev,hcr,_⟩:=k1;obtain rfl:a.eval (.tmp n)=v:=by simpa using(abI ev).1
      have hcpl:c.sh.oW=true:=by rw[hsh];exact hpl
      unfold jE at hcr;simp only[hco,if_pos (fD hcpl)]at hcr;have hcr:=(oC hcpl).1 hcr;rw[hv2]at hcr;exact hcr.ahead hsh hte
     ·refine⟨none,λ gF hF hat h ho=> ?_⟩;have ht:=h.tm n;rw[hx']at ht;obtain⟨_,_,_,_,_,h5,h6,h7,h8⟩:=ht;have hpl:=N9 h5;obtain⟨u,hu8,hx8⟩:=h8 e hc
      have hrv:aC a w' gF p.root=aC a w' g p.root:=by
       cases p.root with
       |tmp m=>rfl
       |box m=>simp only[aC,hat]
      have hx8:uZ w' gF (.tm n 1) false q.sh q.x u:=by
       rcases hx8 with⟨b,k,l,e1,e2⟩|hx8
       ·exact absurd ⟨b,k,l,by rw[←hrv,hu8,e1],e2⟩ hcase
       ·exact hx8
      let ρ:aH->aH:=λ o=>if o= .tm n 1 then dJ p.root p.cell else o
      have hρ: ∀o,o≠ .tm n 1->ρ o=o:=λ o ho=>by simp only[ρ,if_neg ho]
      have hρ1:ρ (.tm n 1)=dJ p.root p.cell:=by simp only[ρ,if_pos rfl]
      have r1:Rel E C (s.dM [.keep n .dead]) a w' (gF.ren ρ):=h.Jw (Fr.ren w' gF λ o ho=>hρ o (ho.1 1)) (h.base.ren ρ) rfl (λ _ _ e=>by cases e) trivial;refine⟨gF.ren ρ,fin r1 (u:=u) ?_ hpl h6 ?_,rfl,rfl,λ k b e=> ?_⟩
      ·rw[←hu8];cases p.root<;>rfl
      ·have:=hx8.ren (ρ:=ρ)
       rwa [hρ1]at this
      ·simp only[Gh.ren,e,aaK];rw[hρ _ (by simp only[ne_eq,aH.tm.injEq,not_and];exact λ e=>absurd e.symm hnd)]
    ·exact(aj hput).elim
   ·exact(aj hput).elim
  ·exact(aj hput).elim
 ·exact(aj hput).elim
def Yo (io:Option (Nat×aH)) (i k:Nat):Option aH:=match io with|some (j,ow)=>if i=j/\k=0 then some ow else none|none=>none
open Classical in
noncomputable def behind (w:World) (g g0 g2:Gh) (bs:List (Option Nat)) (d:Nat) (io:Option (Nat×aH)):Gh:=
 ⟨g.at_,λ b=>if(∃ow,g0.own b=some ow)\/w.heap.size<=b then(match g2.own b with
  |some (.hand k)=>some (.tm d k)
  |some (.cell i j)=>(SX bs i).map λ n=> .cell n j
  |some (.box i)=>(SX bs i).map .box
  |some (.tm i k)=>Yo io i k
  |_=>none)else g.own b,g2.F⟩
theorem MC {i:Nat} (hG:Good P E.glob (E.sig i) (E.call i)) (h:Rel E C s a w g) {cl:Call} {fo:Operand} (ho:o.op= .call cl) (hc:cl.callee= .value fo) (hf:a.eval fo= .func (.func (E.sig i).fn) #[] #[])
 (hsc:(E.sig i).scalar=false) {d:Nat} (hdst:o.dst=some d) (hd:DOk E d) {us:List Upd} (hp:(KJ E s d cl.args.toList [] i).run=some us):
 o.wp P a w (λ a' w'=> ∃g',Rel E C (s.dM us) a' w' g') Q:=by
 unfold KJ at hp;rw[hsc]at hp;simp only[cond_false,noT,aa9]at hp;obtain⟨⟨cs,us2,bs⟩,hl,hp⟩:=aU hp;simp only[]at hp;split at hp
 ·exact(aj hp).elim
 ·rename_i x hx;obtain⟨r,hr,hp⟩:=yU hp;split at hp
  ·exact(aj hp).elim
  ·rename_i us3 hback;obtain⟨vs,hput,hp⟩:=aU hp;obtain rfl:=ak hp;obtain⟨us2',bs2,ds,g1,sgs,e1,e2,e3,r1,hh,a1,kp1,kb1,pvs,htg,hnd,hsome⟩:=MN _ _ [] s g [] [] [] cs us2 bs h rfl (by simp) hl;simp only[abQ]at e1 e2 e3 hh;subst e1 e2 e3;obtain⟨hen,hcall⟩:=hG x r hr;have hret:=VO (Ns htg) hx
   have hnF: ∀n,some n∈bs-> ∀o,¬g1.F (g1.at_ n) o:=λ n hn o=>by
    obtain⟨b,hb⟩:=aci.1 (hsome n hn);obtain⟨_,_,_,_,h3,_⟩:=r1.bx n b hb;exact h3 o
   let g0:=callee (E.sig i).params bs g1
   have hbox:=pvs.boxes
   have hE:BU w g0 (E.sig i).params 0 (retag (E.sig i).ins (cellsOf _ x)) (cl.args.toList.map a.eval):=by
    rw[hret];refine Yd (g:=g1) (g0:=g0) rfl _ 0 0 bs cs _ sgs (λ b k' e=> ?_) (λ j n e=> ?_) hh htg pvs
    ·rw[aaW]at e;simp only[g0,callee,e]
    ·have hm:some n∈bs:=aak e;refine⟨?_,λ e2=> ?_,hnF n hm⟩
     ·simp only[g0,callee,aaW,Iy.2 e]
     ·simp only[g0,callee,e2,PS hnd e,aaK]
   have hglob:PE E.glob w g0:=λ gl cs hg=>by
    obtain⟨k1,vs,k2,k3⟩:=r1.glob gl cs hg;exact⟨k1,vs,k2,aF.uq (g':=g0) (show Keeps w w g1.F g1.F from Keeps.refl _ _) cs 0 0 vs k1 k3⟩
   have hown0: ∀b ow,g0.own b=some ow-> ∃ow',g1.own b=some ow'/\((∃k,ow'= .hand k)\/ ∃n,some n∈bs/\ow'= .box n):=by
    intro b ow e;simp only[g0,callee]at e;split at e
    ·rename_i k hk;exact⟨_,hk,.inl ⟨k,rfl⟩⟩
    ·rename_i n hn;obtain⟨q,hq,_⟩:=aaG.1 e;exact⟨_,hn,.inr ⟨n,MB hq,rfl⟩⟩
    ·cases e
   have hC:=hcall w g0 _ hE hglob (λ b ow e=>by
    obtain⟨ow',e',_⟩:=hown0 b ow e;exact(r1.base.own b ow' e').2) (λ b o e=>(r1.base.fz b o e).2) (λ b ow cs t f e hc=>by
    obtain⟨ow',e',_⟩:=hown0 b ow e;exact r1.base.frz b ow' cs t f e' hc)
   have hargs:(cl.args.toList.map a.eval).toArray=cl.args.map a.eval++ #[]:=by apply abh.1;simp
   rw[hargs]at hC;unfold Oper.wp;rw[Qm ho hc hf hen,Oper.upon_enter];refine hC.mono λ e w' hR=> ?_;obtain⟨v,g2,rfl,hb,hres,hptr,hkv⟩:=hR;obtain⟨io,hio⟩:=adq (C:=C) (a:=a) (w':=w') (g:=g1) (g2:=g2) hput (Ud (g:=g0) _ 0 _ _ _ rfl hptr)
   let gF:=behind w g1 g0 g2 bs d io
   have hstand: ∀b,b<w.heap.size->(¬ ∃ow,g0.own b=some ow)->gF.own b=g1.own b/\w'.heap[b]? =w.heap[b]? /\ ∀o,gF.F b o->g1.F b o:=by
    intro b hb' hx';refine⟨?_,hb.blk b hb' hx',λ o hf'=> ?_⟩
    ·simp only[gF,behind];rw[if_neg (λ hh=>hh.elim (λ h=>hx' h) (λ h=>by omega))]
    ·rcases(hb.fz b o hf').1 with h|h|h
     ·exact h
     ·exact absurd h hx'
     ·omega
   have hturn: ∀b ow,g2.own b=some ow->gF.own b=(match ow with
    | .hand k=>some (.tm d k)
    | .cell i j=>(SX bs i).map λ n=> .cell n j
    | .box i=>(SX bs i).map .box
    | .tm i k=>Yo io i k):=by
    intro b ow e;have:=(hb.own b ow e).1;simp only[gF,behind];rw[if_pos this,e];cases ow<;>rfl
   have hfr:Fr (λ o=>(∀i,o≠ .hand i)/\ ∀n,some n∈bs->o≠ .box n) w w' g1 gF:=⟨hb.keeps,λ b ow k e=>by
    have hx': ¬ ∃ow,g0.own b=some ow:=by
     rintro⟨ow2,e2⟩;obtain⟨ow',e',hw'⟩:=hown0 b ow2 e2;rw[e]at e';cases e';rcases hw' with⟨k',rfl⟩|⟨n,hn,rfl⟩
     ·exact k.1 k' rfl
     ·exact k.2 n hn rfl
    obtain⟨q1,q2,q3⟩:=hstand b (r1.base.own b ow e).2 hx';exact⟨q1.trans e,q2,q3⟩⟩
   have hX: ∀b,(∃ow,g0.own b=some ow)->(C.X b\/C.w0.heap.size<=b)/\b<w.heap.size:=by
    rintro b ⟨ow,e⟩;obtain⟨ow',e',_⟩:=hown0 b ow e;exact r1.base.own b ow' e'
   have hbase:Base C.w0 C.F0 C.X w' gF:=⟨hb.os.trans r1.base.os,hb.tape.trans r1.base.tape,hb.output.trans r1.base.output,aaJ r1.base.size hb.size,λ b hb' hx'=>by
    have hlt:=abb hb' r1.base.size;rw[hb.blk b hlt (λ hh'=>(hX b hh').1.elim (λ h=>hx' h) (λ h=>by omega))];exact r1.base.blk b hb' hx',λ b ow e=>by
    by_cases hc':(∃ow,g0.own b=some ow)\/w.heap.size<=b
    ·simp only[gF,behind]at e;rw[if_pos hc']at e
     have hlt:b<w'.heap.size:=by
      cases h2:g2.own b with
      |none=>rw[h2]at e;cases e
      |some ow2=>exact(hb.own b ow2 h2).2
     refine⟨?_,hlt⟩;rcases hc' with hc'|hc'
     ·exact(hX b hc').1
     ·exact .inr (aaJ r1.base.size hc')
    ·simp only[gF,behind]at e;rw[if_neg hc']at e;obtain⟨q1,q2⟩:=r1.base.own b ow e;exact⟨q1,abb q2 hb.size⟩,
    r1.base.keeps.trans hb.keeps,λ b o hf'=>by
     obtain⟨q1,q2⟩:=hb.fz b o hf';refine⟨?_,q2⟩;rcases q1 with q1|q1|q1
     ·exact(r1.base.fz b o q1).1
     ·exact .inr (hX b q1).1
     ·exact .inr (.inr (aaJ r1.base.size q1)),λ b ow cs t f hx hc=>by
     by_cases hc':(∃ow,g0.own b=some ow)\/w.heap.size<=b
     ·simp only[gF,behind]at hx;rw[if_pos hc']at hx
      cases h2:g2.own b with
      |none=>rw[h2]at hx;cases hx
      |some ow2=>exact hb.frz b ow2 cs t f h2 hc
     ·simp only[gF,behind]at hx;rw[if_neg hc']at hx;rw[hb.blk b (by omega) (λ hh'=>hc' (.inl hh'))]at hc;exact r1.base.frz b ow cs t f hx hc⟩
   let Kp:Nat->Nat->Prop:=λ n k=> ∃(j:Nat) (want:List (Sh×Tg)) (sh:Sh),bs[j]? =some (some n)/\(E.sig i).params[j]? =some (.ptr want)/\want[k]? =some (sh,.dead)
   have hkept: ∀n k u,Kp n k->Vm w g1 n k=some u->Vm w' gF n k=some u:=by
    rintro n k u ⟨j,want,sh,k1,k2,k3⟩ hu;have hat0:g0.at_ j=g1.at_ n:=by simp only[g0,callee,Iy.2 k1]
    have:=hkv j want k sh u k2 k3 (by simp only[Vm,hat0];exact hu);simp only[Vm,hat0]at this;exact this
   obtain⟨t1,t2⟩:=Dx (s:=s.dM us2) (gF:=gF) (g2:=g2) (g:=g0) rfl (Kp:=Kp) (λ n b k c v hK hbn hc=>by
    obtain⟨cur,et,q1,q2,q3,q4⟩:=r1.bx n b hbn;obtain⟨u,p1,p2⟩:=q4.get _ 0 _ k c (by rw[aar,hc];rfl);rw[aaW]at p2;have:=hkept n k u hK (by simp only[Vm,q1];exact p1);simp only[Vm]at this;split at this
    ·rename_i cur' et' f' hh;exact⟨cur',et',f',u,hh,this,p2.fr hfr ⟨λ i=>by simp,λ m _=>by simp⟩⟩
    ·cases this) (E.sig i).params 0 bs _ _ us3 (s.dM us2) hback hptr (λ _ _=>rfl) hnd (λ j n want k sh k1 k2 k3=>⟨j,want,sh,k1,k2,k3⟩) (λ j n e=>by
    have hb':=Iy.2 e;refine⟨?_,λ b e2=> ?_,λ b k e2=> ?_⟩
    ·simp only[gF,behind,g0,callee,aaW,hb']
    ·rw[hturn b _ e2];simp only[aaW,hb',aaK]
    ·rw[hturn b _ e2];simp only[aaW,hb',aaK])
   have r2:Rel E C ((s.dM us2).dM us3) a w' gF:=r1.ag3 (N:=λ n=>some n∈bs) (Kp:=Kp) hfr hbase rfl t1 (λ n k u _ hK hu=>by
    have hb1:Vm w g1 n k=some u:=by
     simp only[aC]at hu;simp only[Vm];split at hu
     ·rename_i hh;simp only[hh];exact hu
     ·simp at hu
    have:=hkept n k u hK hb1;simp only[Vm]at this;simp only[aC];split at this
    ·rename_i hh;simp only[hh];exact this
    ·cases this) t2
   have hres2:ZK w' gF (.tm d) (resT (E.sig i).res (retag (E.sig i).outs (cellsOf ((E.sig i).outs.map (·.1)) r))).1 v:=
    ZK.via (g:=g2) (g':=gF) (mk:= .hand) rfl (λ j b e=>by rw[hturn b _ e]) hres
   obtain⟨gG,r3,hGF,_,hGo⟩:=hio gF rfl rfl r2 λ j ow e b e2=>by
    rw[hturn b _ e2];simp[Yo,e]
   refine⟨gG,?_⟩;rw[hdst,dS,dS,dS];exact r3.U4 hd (Fr.refl _ _ _) r3.base rfl (VN (hres2.via (g:=gF) (g':=gG) hGF λ k b e=>hGo k b e))
def PD (P:Program) (E:Env):Prop:=wE P E.ty/\ ∀i,Good P E.glob (E.sig i) (E.call i)
theorem aeR (hE:PD P E) {cl:Call} {fo:Operand} (ho:o.op= .call cl) (hc:cl.callee= .value fo):qA P E C o:=by
 intro s a w g us d Q h hdst hd hp;simp only[plan,ho,hdst,hc]at hp;split at hp
 ·rename_i f hx;obtain⟨hf,hp⟩:=aX hp;have hf:=aal hf;have hv:a.eval fo= .func (.func f) #[] #[]:=aN h hx (by simp);rw[←hf]at hv
  cases hsc:(E.sig (E.spec d)).scalar with
  |true=>exact PX (hE.2 _) h ho hc (ts:=[]) (cvs:=[]) (mk:= .hand) rfl hv hsc hdst hd hp
  |false=>exact MC (hE.2 _) h ho hc hv hsc hdst hd hp
 ·rename_i f ts hx;obtain⟨hf,hp⟩:=aX hp;have hf:=aal hf;obtain⟨vs,hv,hcap⟩: ∃vs:List Value,a.eval fo= .func (.func f) #[] vs.toArray/\nN s a w g (VF fo) ts vs:=aN h hx (by simp);rw[←hf]at hv
  cases hsc:(E.sig (E.spec d)).scalar with
  |true=>exact PX (hE.2 _) h ho hc hcap hv hsc hdst hd hp
  |false=>
   match ts,hcap,hp with
   | [],hcap,hp=>
     have hvs:vs= []:=hcap;subst hvs;exact MC (hE.2 _) h ho hc hv hsc hdst hd hp
   |t::ts,_,hp=>
    exfalso;unfold KJ at hp;rw[hsc]at hp;exact aj hp
 ·exact(aj hp).elim
end
end Go.AM
end
section
namespace Go.AM
open Go
section
variable {P:Program} {E:Env} {C:Ctx} {s s':St} {a a':Act} {w w':World} {g g':Gh} {o:Oper} {Q:Exit->Act->World->Prop}
theorem qA.fin (h:qA P E C o) (hns: ∀t x y,o.op≠ .store t x y) (hmu: ∀t m x v,o.op≠ .mapUpdate t m x v) (hcl: ∀c,o.op= .call c->c.callee≠ .builtin .clear):ZQ P E C o:=by
 intro s a w g us Q hr hdst hp
 cases hd:o.dst with
 |none=>
  exfalso;unfold plan at hp;split at hp
  ·rename_i t x y ho;exact hns t x y ho
  ·rw[hd]at hp;simp only[]at hp;split at hp
   ·rename_i c ho;split at hp
    ·rename_i hc _ _;exact hcl c ho hc
    ·exact aj hp
   ·rename_i t m x v ho;exact hmu t m x v ho
   ·exact aj hp
 |some d=>
  refine h hr hd ?_ hp;simp only[IW,hd,aad,abj]at hdst;exact⟨hdst.1,(Nat.blt_eq ..).mp hdst.2⟩
theorem aeY (hE:PD P E):ZQ P E C o:=by
 intro s a w g us Q h hdst hp;have hp0:=hp
 cases ho:o.op with
 |store t x y=>exact ado hE.1 ho h hdst hp
 |move x=>exact qA.fin (C:=C) (aeU ho) (by simp[ho]) (by simp[ho]) (by simp[ho]) h hdst hp
 |assign x=>exact qA.fin (C:=C) (YS ho) (by simp[ho]) (by simp[ho]) (by simp[ho]) h hdst hp
 |pick c x y=>exact qA.fin (C:=C) (aeV ho) (by simp[ho]) (by simp[ho]) (by simp[ho]) h hdst hp
 |alloc t=>exact qA.fin (C:=C) (adf hE.1 ho) (by simp[ho]) (by simp[ho]) (by simp[ho]) h hdst hp
 |box t x=>exact qA.fin (C:=C) (agH hE.1 ho) (by simp[ho]) (by simp[ho]) (by simp[ho]) h hdst hp
 |build t ps=>exact qA.fin (C:=C) (adh hE.1 ho) (by simp[ho]) (by simp[ho]) (by simp[ho]) h hdst hp
 |buildSlice t n ps=>exact qA.fin (C:=C) (OQ hE.1 ho) (by simp[ho]) (by simp[ho]) (by simp[ho]) h hdst hp
 |load t x=>exact qA.fin (C:=C) (aeT hE.1 ho) (by simp[ho]) (by simp[ho]) (by simp[ho]) h hdst hp
 |nilCheck x=>exact qA.fin (C:=C) (UD ho) (by simp[ho]) (by simp[ho]) (by simp[ho]) h hdst hp
 |makeInterface t x=>exact qA.fin (C:=C) (Hy hE.1 ho) (by simp[ho]) (by simp[ho]) (by simp[ho]) h hdst hp
 |makeFunc f xs ys=>exact qA.fin (C:=C) (UC ho) (by simp[ho]) (by simp[ho]) (by simp[ho]) h hdst hp
 |binOp op t x y u=>exact qA.fin (C:=C) (adg hE.1 ho) (by simp[ho]) (by simp[ho]) (by simp[ho]) h hdst hp
 |unOp op t x=>exact qA.fin (C:=C) (aeW ho) (by simp[ho]) (by simp[ho]) (by simp[ho]) h hdst hp
 |convert u t x=>exact qA.fin (C:=C) (WY hE.1 ho) (by simp[ho]) (by simp[ho]) (by simp[ho]) h hdst hp
 |makeMap t r=>exact qA.fin (C:=C) (W9 hE.1 ho) (by simp[ho]) (by simp[ho]) (by simp[ho]) h hdst hp
 |lookup t m x ok=>exact qA.fin (C:=C) (YU hE.1 ho) (by simp[ho]) (by simp[ho]) (by simp[ho]) h hdst hp
 |mapUpdate t m x v=>
  simp only[plan,ho]at hp
  cases hd:o.dst with
  |none=>rw[hd]at hp;exact Ri hE.1 ho hd h hp
  |some d=>rw[hd]at hp;exact(aj hp).elim
 |makeSlice t x y=>exact qA.fin (C:=C) (Rh hE.1 ho) (by simp[ho]) (by simp[ho]) (by simp[ho]) h hdst hp
 |slice t x lo hi mx=>exact qA.fin (C:=C) (adn hE.1 ho) (by simp[ho]) (by simp[ho]) (by simp[ho]) h hdst hp
 |fieldAddr t x f=>exact qA.fin (C:=C) (Q9 hE.1 ho) (by simp[ho]) (by simp[ho]) (by simp[ho]) h hdst hp
 |indexAddr t x i=>exact qA.fin (C:=C) (Rf hE.1 ho) (by simp[ho]) (by simp[ho]) (by simp[ho]) h hdst hp
 |index t x i=>exact qA.fin (C:=C) (adl hE.1 ho) (by simp[ho]) (by simp[ho]) (by simp[ho]) h hdst hp
 |field t x f=>exact qA.fin (C:=C) (adk hE.1 ho) (by simp[ho]) (by simp[ho]) (by simp[ho]) h hdst hp
 |extract x i=>exact qA.fin (C:=C) (WZ ho) (by simp[ho]) (by simp[ho]) (by simp[ho]) h hdst hp
 |call cl=>
  have hns: ∀t x y,o.op≠ .store t x y:=by simp[ho]
  have hmu: ∀t m x v,o.op≠ .mapUpdate t m x v:=by simp[ho]
  cases hc:cl.callee with
  |value fo=>exact qA.fin (C:=C) (aeR hE ho hc) hns hmu (λ c e=>by rw[ho]at e;cases e;rw[hc];simp) h hdst hp
  |invoke r m=>
   exfalso;simp only[plan,ho,hc]at hp;cases hd:o.dst<;>rw[hd]at hp<;>exact aj hp
  |builtin b=>
   have hlen:b= .len->ZQ P E C o:=by
    rintro rfl
    match hx:cl.args.toList with
    | [x]=>intro s a w g us Q h hdst hp;exact qA.fin (C:=C) (agI hE.1 ho hc hx) hns hmu (λ c e=>by rw[ho]at e;cases e;rw[hc];simp) h hdst hp
    | []=>
      intro s a w g us Q h hdst hp;exfalso;simp only[plan,ho,hc,hx]at hp;cases hd:o.dst<;>rw[hd]at hp<;>exact aj hp
    | [x,y]=>
      intro s a w g us Q h hdst hp;exfalso;simp only[plan,ho,hc,hx]at hp
      cases hd:o.dst with
      |none=>rw[hd]at hp;exact aj hp
      |some d=>
       rw[hd]at hp;simp only[]at hp;split at hp
       ·simp only[VA]at hp;exact aj hp
       ·exact aj hp
    |x::y::z::r=>
     intro s a w g us Q h hdst hp;exfalso;simp only[plan,ho,hc,hx]at hp;cases hd:o.dst<;>rw[hd]at hp<;>exact aj hp
   by_cases h1:b= .len
   ·exact hlen h1 h hdst hp
   ·match hx:cl.args.toList with
    | [x,y]=>
      by_cases h2:b= .append
      ·subst h2;exact qA.fin (C:=C) (YR hE.1 ho hc hx) hns hmu (λ c e=>by rw[ho]at e;cases e;rw[hc];simp) h hdst hp
      ·by_cases h4:b= .copy
       ·subst h4;exact qA.fin (C:=C) (aeS hE.1 ho hc hx) hns hmu (λ c e=>by rw[ho]at e;cases e;rw[hc];simp) h hdst hp
       by_cases h3:b= .min\/b= .max
       ·exact qA.fin (C:=C) (YV ho hc h3 hx) hns hmu (λ c e=>by rw[ho]at e;cases e;rw[hc];rcases h3 with rfl|rfl<;>simp) h hdst hp
       ·exfalso;simp only[plan,ho,hc,hx]at hp
        cases hd:o.dst with
        |none=>rw[hd]at hp;exact aj hp
        |some d=>
         rw[hd]at hp;cases b<;>simp only[reduceCtorEq,not_true_eq_false,or_false,or_true,not_false_eq_true]at h1 h2 h3 h4<;>simp only[]at hp<;>(split at hp)<;>first|exact aj hp|(simp only[VA]at hp;exact aj hp)
    | []=>
      exfalso;simp only[plan,ho,hc,hx]at hp
      cases hd:o.dst with
      |none=>rw[hd]at hp;exact aj hp
      |some d=>rw[hd]at hp;cases b<;>exact aj hp
    | [x]=>
      by_cases hcc:o.dst=none/\b= .clear/\ ∃t,cl.argTypes.toList= [t]
      ·obtain⟨hd,rfl,t,ht⟩:=hcc;simp only[plan,ho,hc,hx,hd,ht]at hp;exact adi hE.1 ho hc hx ht hd h hp
      exfalso;simp only[plan,ho,hc,hx]at hp
      cases hd:o.dst with
      |none=>
       rw[hd]at hp;simp only[]at hp;split at hp
       ·rename_i x' t' e1 e2 e3;cases e1;exact hcc ⟨hd,rfl,t',e3⟩
       ·exact aj hp
      |some d=>rw[hd]at hp;cases b<;>first|exact absurd rfl h1|exact aj hp
    |x::y::z::r=>
     exfalso;simp only[plan,ho,hc,hx]at hp
     cases hd:o.dst with
     |none=>rw[hd]at hp;exact aj hp
     |some d=>rw[hd]at hp;cases b<;>exact aj hp
 |_=>
  exfalso;simp only[plan,ho]at hp;cases hd:o.dst<;>rw[hd]at hp<;>exact aj hp
end
end Go.AM
end
section
namespace Go.AM
open Go
section
variable {P:Program} {E:Env} {C:Ctx} {s s':St} {o:Oper} {W:Loc->Prop}
def SQ (x y:T×Nat):Prop:=x=y\/(x.2=y.2/\Jt x.1 y.1=true)
theorem ql {t u:T}:Jt t u=true ↔ ∃ag cs cs',t= .val ag cs/\u= .val ag cs'/\bD cs=false/\bD cs'=false/\cs.length=cs'.length:=by
 constructor
 ·intro h;unfold Jt at h;split at h
  ·rename_i ag cs ag' cs';simp only[aad,abj,beq_iff_eq]at h;obtain⟨⟨⟨rfl,h1⟩,h2⟩,h3⟩:=h;exact⟨ag,cs,cs',rfl,rfl,h1,h2,aal h3⟩
  ·cases h
 ·rintro⟨ag,cs,cs',rfl,rfl,h1,h2,h3⟩;simp[Jt,h1,h2,h3]
theorem SQ.refl (x:T×Nat):SQ x x:= .inl rfl
theorem SQ.symm {x y:T×Nat} (h:SQ x y):SQ y x:=by
 rcases h with rfl|⟨h1,h2⟩
 ·exact .inl rfl
 ·obtain⟨ag,cs,cs',e1,e2,k1,k2,k3⟩:=ql.1 h2;exact .inr ⟨h1.symm,ql.2 ⟨ag,cs',cs,e2,e1,k2,k1,k3.symm⟩⟩
theorem SQ.trans {x y z:T×Nat} (h:SQ x y) (k:SQ y z):SQ x z:=by
 rcases h with rfl|⟨h1,h2⟩
 ·exact k
 rcases k with rfl|⟨k1,k2⟩
 ·exact .inr ⟨h1,h2⟩
 obtain⟨ag,cs,cs',e1,e2,a1,a2,a3⟩:=ql.1 h2;obtain⟨ag2,ds,ds',e3,e4,b1,b2,b3⟩:=ql.1 k2;rw[e2]at e3;cases e3;exact .inr ⟨h1.trans k1,ql.2 ⟨ag,cs,ds',e1,e4,a1,b2,a3.trans b3⟩⟩
def bxI (s:St) (n:Nat):Option (Nat×Nat):=(s.bx n).map λ b=>(b.inst,b.cells.length)
def bxC (s:St) (n i:Nat):Option (CV×Nat):=(s.bx n).bind λ b=>b.cells[i]?
theorem XQ (s:St) (k:Nat) (l:List (Nat×CV×Nat)) (n:Nat):bxI ((Upd.cl k l).on s) n=bxI s n:=by
 unfold bxI;simp only[Upd.on,put]
 cases hb:Nat.beq n k with
 |false=>rfl
 |true=>
  have:=aal hb;subst this;simp only[cond_true]
  cases s.bx n with
  |none=>rfl
  |some b=>simp[xJ]
theorem XP (s:St) (k:Nat) (l:List (Nat×CV×Nat)) (n i:Nat):bxC ((Upd.cl k l).on s) n i=if n=k then(bxC s n i).map (over l i)else bxC s n i:=by
 unfold bxC;simp only[Upd.on,put]
 cases hb:Nat.beq n k with
 |false=>
  have:n≠k:=λ e=>by rw[e,acj]at hb;cases hb
  simp[this]
 |true=>
  have:=aal hb;subst this;simp only[cond_true,if_true]
  cases s.bx n with
  |none=>rfl
  |some b=>simp[zk]
theorem adQ {s s':St} {n:Nat} (h1:bxI s n=bxI s' n) (h2: ∀i,bxC s n i=bxC s' n i):s.bx n=s'.bx n:=by
 unfold bxI at h1;unfold bxC at h2
 cases hb:s.bx n with
 |none=>
  cases hb':s'.bx n with
  |none=>rfl
  |some b'=>rw[hb,hb']at h1;cases h1
 |some b=>
  cases hb':s'.bx n with
  |none=>rw[hb,hb']at h1;cases h1
  |some b'=>
   rw[hb,hb']at h1;simp only[hb,hb',aai]at h2;simp only[aaK,aae,aas]at h1;obtain⟨i,cs⟩:=b;obtain⟨i',cs'⟩:=b';simp only at h1 h2;rw[h1.1,aaP h2]
structure Agree (W:Loc->Prop) (s s':St):Prop where
 tm: ∀n,W (.tm n)->s.tm n=s'.tm n
 bx: ∀n,W (.bx n)->s.bx n=s'.bx n
 id: ∀n,W (.id n)->SQ (s.tm n) (s'.tm n)
 bi: ∀n,W (.bi n)->bxI s n=bxI s' n
 bc: ∀n i,W (.bc n i)->bxC s n i=bxC s' n i
theorem SQ.ver {x y:T×Nat} (h:SQ x y):x.2=y.2:=by
 rcases h with rfl|⟨h,_⟩
 ·rfl
 ·exact h
theorem Agree.dM (h:Agree W s s'): ∀us:List Upd,Agree W (s.dM us) (s'.dM us):=by
 intro us
 induction us generalizing s s' with
 |nil=>exact h
 |cons u us ih=>
  refine ih (s:=u.on s) (s':=u.on s') ?_
  cases u with
  |tm k t=>
   refine⟨λ n hn=> ?_,h.bx,λ n hn=> ?_,h.bi,h.bc⟩
   ·simp only[Upd.on,put]
    cases hb:Nat.beq n k with
    |false=>exact h.tm n hn
    |true=>have:=aal hb;subst this;simp only[cond_true];rw[h.tm n hn]
   ·simp only[Upd.on,put]
    cases hb:Nat.beq n k with
    |false=>exact h.id n hn
    |true=>have:=aal hb;subst this;simp only[cond_true];rw[(h.id n hn).ver];exact .inl rfl
  |keep k t=>
   refine⟨λ n hn=> ?_,h.bx,λ n hn=> ?_,h.bi,h.bc⟩
   ·simp only[Upd.on,put]
    cases hb:Nat.beq n k with
    |false=>exact h.tm n hn
    |true=>have:=aal hb;subst this;simp only[cond_true];rw[h.tm n hn]
   ·simp only[Upd.on,put]
    cases hb:Nat.beq n k with
    |false=>exact h.id n hn
    |true=>have:=aal hb;subst this;simp only[cond_true];rw[(h.id n hn).ver];exact .inl rfl
  |bx k b=>
   refine⟨h.tm,λ n hn=> ?_,h.id,λ n hn=> ?_,λ n i hn=> ?_⟩
   ·simp only[Upd.on,put]
    cases hb:Nat.beq n k with
    |false=>exact h.bx n hn
    |true=>rfl
   ·have:=h.bi n hn;unfold bxI at this ⊢;simp only[Upd.on,put]
    cases hb:Nat.beq n k with
    |false=>exact this
    |true=>rfl
   ·have:=h.bc n i hn;unfold bxC at this ⊢;simp only[Upd.on,put]
    cases hb:Nat.beq n k with
    |false=>exact this
    |true=>rfl
  |cl k l=>
   refine⟨h.tm,λ n hn=> ?_,h.id,λ n hn=>by rw[XQ,XQ];exact h.bi n hn,λ n i hn=>by rw[XP,XP,h.bc n i hn]⟩;simp only[Upd.on,put]
   cases hb:Nat.beq n k with
   |false=>exact h.bx n hn
   |true=>have:=aal hb;subst this;simp only[cond_true];rw[h.bx n hn]
def wC (W:Loc->Prop) (s:St) (x:Operand):Prop:= ∀L,L∈qc s x->W L
def Upd.mild (W:Loc->Prop):Upd->Prop
 | .keep _ t=> ∀L,L∈t.sD->W L
 | .bx _ _=>True
 | .cl _ _=>True
 | .tm _ _=>False
theorem JC {n:Nat} {t:T} (h:t.sD= []):(Upd.keep n t).mild W:=λ L hL=>by rw[h]at hL;cases hL
theorem wC.dM {x:Operand}: ∀(us:List Upd) (s:St),(∀u,u∈us->u.mild W)->wC W s x->wC W (s.dM us) x
 | [],_,_,h=>h
 |u::us,s,hm,h=>by
  refine wC.dM us (u.on s) (λ v hv=>hm v (by simp[hv])) ?_;have hu:=hm u (by simp)
  cases x with
  |tmp t=>
   intro L hL
   cases u with
   |tm k t'=>exact hu.elim
   |bx k b=>exact h L hL
   |cl k l=>exact h L hL
   |keep k t'=>
    simp only[qc,Upd.on,put]at hL
    cases hb:Nat.beq t k with
    |false=>rw[hb]at hL;exact h L hL
    |true=>
     rw[hb]at hL;simp only[cond_true,aaR]at hL;rcases hL with rfl|hL
     ·exact h _ (by simp[qc])
     ·exact hu L hL
  |_=>intro L hL;simp[qc]at hL
theorem eG (h:Agree W s s') {x:Operand} (hx:wC W s x):at_ E s x=at_ E s' x:=by
 cases x with
 |tmp n=>simp only[at_];rw[h.tm n (hx _ (by simp[qc]))]
 |_=>rfl
theorem dY {x:Operand} {p:Pl} (hx:wC W s x) (h:p.root.loc∈(at_ E s x).sD):W p.root.loc:=by
 cases x with
 |tmp n=>exact hx _ (by simp only[qc];exact aaX _ h)
 |const v=>
  exfalso;simp only[at_]at h;unfold MH at h;split at h<;>simp[T.sD,T.loc]at h
 |global g=>
  exfalso;simp only[at_]at h;split at h<;>simp[T.sD,T.loc]at h
 |func f=>simp[at_,T.sD,T.loc]at h
theorem vS (h:Agree W s s') {r:Root} (hr:W r.loc):aB s r=aB s' r:=by
 cases r with
 |tmp n=>simp only[aB];rw[h.tm n hr]
 |box n=>simp only[aB];rw[h.bx n hr]
theorem iW (h:Agree W s s') {p:Pl} (hr:W p.root.loc) (n:Nat):aW s p n=aW s' p n:=by
 unfold aW;rw[vS h hr]
theorem iJ (h:Agree W s s') {p:Pl} (hr:W p.root.loc) (ds:List CV) (f:Bool):jB s p ds f=jB s' p ds f:=by
 unfold jB
 cases hp:p.root with
 |tmp n=>rw[hp]at hr;simp only[];rw[h.tm n hr]
 |box n=>rw[hp]at hr;simp only[];rw[h.bx n hr]
theorem Gm (h:Agree W s s') {p:Pl} (hr:W p.root.loc):zy s p=zy s' p:=by
 unfold zy;rw[vS h hr,iW h hr]
theorem Rt (h:Agree W s s') {p:Pl} (hr:W p.root.loc) (n:Nat):AO s p n=AO s' p n:=by
 unfold AO;rw[vS h hr]
theorem fH (h:Agree W s s') {p:Pl} (hr:W p.root.loc) (n:Nat):content s p n=content s' p n:=by
 unfold content;rw[iW h hr,iW h hr]
theorem DC (h:Agree W s s') {p:Pl} (hr:W p.root.loc) (ds:List CV) (f:Bool):KY s p ds f=KY s' p ds f:=by
 funext us;unfold KY
 cases hp:p.root with
 |tmp n=>rfl
 |box n=>rw[hp]at hr;simp only[yK,h.bx n hr]
theorem Py (h:Agree W s s') {p:Pl} (hr:W p.root.loc) (ds:List CV):KG s p ds=KG s' p ds:=by
 have e: ∀(ds:List CV) (f:Bool),jB s p ds f=jB s' p ds f:=iJ h hr;have e2:=DC h hr ds true;unfold KG;rw[iW h hr,iW h hr];simp only[e,e2]
theorem rX (h:Agree W s s') {p:Pl} (hr:W p.root.loc):KN s p=KN s' p:=by
 unfold KN;rw[iW h hr]
theorem SK (h:Agree W s s') {p:Pl} (hr:W p.root.loc) (k q:Nat) (ds:List CV):Nw s p k q ds=Nw s' p k q ds:=by
 have e: ∀(ds:List CV) (f:Bool),jB s p ds f=jB s' p ds f:=iJ h hr;unfold Nw;rw[rX h hr];simp only[e]
theorem LU (h:Agree W s s') {p:Pl} (hr:W p.root.loc) (n:Nat) (t:List Sh):Ij s p n t=Ij s' p n t:=by
 unfold Ij;rw[iW h hr]
theorem Gf (h:Agree W s s') {p:Pl} (hr:W p.root.loc) (cs:List CV):Aq s p cs=Aq s' p cs:=by
 unfold Aq;rw[iJ h hr,DC h hr]
theorem vg {p:Pl} {ds:List CV} {f:Bool} {us:List Upd} (h:jB s p ds f=some us): ∀u,u∈us->u.mild W:=by
 unfold jB at h;split at h
 ·split at h
  ·cases f with
   |true=>simp at h
   |false=>
    simp only[cond_eq_ite,aa3,if_false]at h;split at h
    ·cases h;intro u hu;simp only[aam]at hu;subst hu;exact JC rfl
    ·cases h
  ·cases h
 ·split at h
  ·simp only[cond_eq_ite]at h;split at h
   ·cases h;intro u hu;simp only[aam]at hu;subst hu;exact trivial
   ·cases h
  ·cases h
theorem MK {p:Pl} {ds:List CV} {f:Bool} {us:List Upd} (h: ∀u,u∈us->u.mild W): ∀u,u∈KY s p ds f us->u.mild W:=by
 unfold KY;split
 ·intro u hu;rw[aam.1 hu];trivial
 ·exact h
theorem Jz {p:Pl} {cs:List CV} {us:List Upd} (h:Aq s p cs=some us): ∀u,u∈us->u.mild W:=by
 unfold Aq at h;simp only[cond_eq_ite]at h;split at h
 ·cases h;intro u hu;cases hu
 ·split at h
  ·obtain⟨us0,h0,rfl⟩:=aaG.1 h;exact MK (vg h0)
  ·cases h
theorem bind_congr {α β:Type} {d d':Dyn α} {q q':α->Dyn β} (h:d.run=d'.run) (hq: ∀a,d.run=some a->(q a).run=(q' a).run):(d.bind q).run=(d'.bind q').run:=by
 rw[Dyn.run_bind,Dyn.run_bind,←h]
 cases hd:d.run with
 |none=>rfl
 |some a=>exact hq a hd
theorem sN (h:Agree W s s') {x:Operand} (hx:wC W s x) (exp:List Sh):BA E s x exp=BA E s' x exp:=by
 unfold BA;rw[←eG (E:=E) h hx]
 cases hat:at_ E s x with
 |ref p ag n=>
  have hr:W p.root.loc:=dY (E:=E) hx (by rw[hat];simp[T.sD,T.loc]);simp only[];rw[fH h hr];simp only[Gf h hr]
 |rsub p z lo hi=>
  have hr:W p.root.loc:=dY (E:=E) hx (by rw[hat];simp[T.sD,T.loc]);simp only[];rw[fH h hr];simp only[Gf h hr]
 |rowr p ag n=>
  have hr:W p.root.loc:=dY (E:=E) hx (by rw[hat];simp[T.sD,T.loc]);simp only[];rw[rX h hr];simp only[iJ h hr]
 |_=>rfl
theorem yG {x:Operand} {exp:List Sh} {ag:Bool} {cs:List CV} {us:List Upd} (h:(BA E s x exp).run=some (ag,cs,us)): ∀u,u∈us->u.mild W:=by
 unfold BA at h;have none: ∀u:Upd,u∈([]:List Upd)->u.mild W:=λ u hu=>by cases hu
 split at h
 ·simp only[cond_eq_ite]at h;split at h
  ·have:=ak h;simp only[aas]at this;obtain⟨_,_,rfl⟩:=this;exact none
  ·split at h
   ·have:=ak h;simp only[aas]at this;obtain⟨_,_,rfl⟩:=this;intro u hu;simp only[aam]at hu;subst hu;exact JC rfl
   ·exact(aj h).elim
 ·obtain⟨cs',_,h⟩:=aU h;split at h
  ·rename_i us' hk;have:=ak h;simp only[aas]at this;obtain⟨_,_,rfl⟩:=this;exact Jz hk
  ·exact(aj h).elim
 ·obtain⟨cs',_,h⟩:=aU h;split at h
  ·split at h
   ·rename_i hk;have:=ak h;simp only[aas]at this;obtain⟨_,_,rfl⟩:=this;exact Jz hk
   ·exact(aj h).elim
  ·exact(aj h).elim
 ·split at h
  ·obtain⟨_,h⟩:=aX h;have:=ak h;simp only[aas]at this;obtain⟨_,_,rfl⟩:=this;exact none
  ·exact(aj h).elim
 ·split at h
  ·obtain⟨cs',_,h⟩:=aU h;split at h
   ·split at h
    ·rename_i us' hk;have:=ak h;simp only[aas]at this;obtain⟨_,_,rfl⟩:=this;exact vg hk
    ·exact(aj h).elim
   ·exact(aj h).elim
  ·exact(aj h).elim
 ·exact(aj h).elim
theorem y8 (h:Agree W s s') {x:Operand} (hx:wC W s x):Hz E s x=Hz E s' x:=by
 unfold Hz;rw[←eG (E:=E) h hx]
 cases hat:at_ E s x with
 |ref p ag n=>
  have hr:W p.root.loc:=dY (E:=E) hx (by rw[hat];simp[T.sD,T.loc]);cases ag
  ·simp only[];rw[fH h hr]
  ·rfl
 |rsub p z lo hi=>
  have hr:W p.root.loc:=dY (E:=E) hx (by rw[hat];simp[T.sD,T.loc]);simp only[];rw[fH h hr]
 |val ag cs=>cases ag<;>rfl
 |_=>rfl
theorem mV (h:Agree W s s') {x:Operand} (hx:wC W s x):qU E s x=qU E s' x:=by
 unfold qU;rw[←eG (E:=E) h hx]
theorem LH (h:Agree W s s') {x:Operand} (hx:wC W s x):uT E s x=uT E s' x:=by
 unfold uT;rw[←eG (E:=E) h hx]
theorem Ad (fields:List (Nat×Nat)) (cells:List Sh): ∀(ps:List (Nat×Operand)) (s s':St) (cs:List CV) (us:List Upd),Agree W s s'->(∀p,p∈ps->wC W s p.2)->(tH E fields cells ps s cs us).run=(tH E fields cells ps s' cs us).run
 | [],_,_,_,_,_,_=>rfl
 |(i,x)::ps,s,s',cs,us,h,hx=>by
  simp only[tH]
  cases fields[i]? with
  |none=>rfl
  |some on=>
   obtain⟨off,n⟩:=on;refine bind_congr (by rw[sN h (hx (i,x) (by simp))]) λ r hr=> ?_;obtain⟨ag,ds,vs⟩:=r;simp only[];cases(Nat.beq ds.length n&&EU ds ((cs.drop off).take n))with
   |false=>rfl
   |true=>exact Ad fields cells ps _ _ _ _ (h.dM vs) λ p hp=>(hx p (by simp[hp])).dM vs s (yG hr)
theorem MG (h:Agree W s s'): ∀(xs:List Operand),(∀x,x∈xs->wC W s x)->Z7 E s xs=Z7 E s' xs
 | [],_=>rfl
 |x::xs,hx=>by
  simp only[Z7];rw[←eG (E:=E) h (hx x (by simp)),MG h xs λ y hy=>hx y (by simp[hy])]
end
end Go.AM
end
section
namespace Go.AM
open Go
section
variable {P:Program} {E:Env} {C:Ctx} {s s':St} {o:Oper} {W:Loc->Prop}
theorem Qv (h:Agree W s s') {p:Pl} (hr:W p.root.loc) (cs:List CV) (want:List (Sh×Tg)):Ji s p cs want=Ji s' p cs want:=by
 unfold Ji;simp only[iJ h hr,DC h hr]
theorem DJ (h:Agree W s s') {x:Operand} (hx:wC W s x) (y:Operand) (ag:Bool) (want:List (Sh×Tg)):Jj s (at_ E s x) y ag want=Jj s' (at_ E s x) y ag want:=by
 unfold Jj
 cases hat:at_ E s x with
 |ref p ag n=>
  have hr:W p.root.loc:=dY (E:=E) hx (by rw[hat];simp[T.sD,T.loc]);simp only[];rw[fH h hr];simp only[Qv h hr]
 |rsub p z lo hi=>
  have hr:W p.root.loc:=dY (E:=E) hx (by rw[hat];simp[T.sD,T.loc]);simp only[];rw[fH h hr];simp only[iJ h hr]
 |rowr p ag n=>
  have hr:W p.root.loc:=dY (E:=E) hx (by rw[hat];simp[T.sD,T.loc]);simp only[];rw[rX h hr];simp only[iJ h hr]
 |_=>rfl
theorem y5: ∀u:Upd,u∈([]:List Upd)->u.mild W:=λ u hu=>by cases hu
theorem TK {p:Pl} {cs ds:List CV} {want:List (Sh×Tg)} {us:List Upd} (h:(Ji s p cs want).run=some (ds,us)): ∀u,u∈us->u.mild W:=by
 unfold Ji at h;split at h
 ·exact(aj h).elim
 ·simp only[cond_eq_ite]at h;split at h
  ·have:=ak h;simp only[aas]at this;obtain⟨_,rfl⟩:=this;exact y5
  ·split at h
   ·split at h
    ·rename_i hp;have:=ak h;simp only[aas]at this;obtain⟨_,rfl⟩:=this;exact MK (vg hp)
    ·exact(aj h).elim
   ·exact(aj h).elim
theorem yD {x:Operand} (hx:wC W s x): ∀L,L∈(at_ E s x).sD->W L:=by
 intro L hL
 cases x with
 |tmp n=>exact hx _ (by simp only[qc];exact aaX _ hL)
 |const v=>
  exfalso;simp only[at_]at hL;unfold MH at hL;split at hL<;>simp[T.sD,T.loc]at hL
 |global g=>
  exfalso;simp only[at_]at hL;split at hL<;>simp[T.sD,T.loc]at hL
 |func f=>simp[at_,T.sD,T.loc]at hL
theorem Fq {t:T} (ht: ∀L,L∈t.sD->W L) {y:Operand} {ag:Bool} {want:List (Sh×Tg)} {ds:List CV} {us:List Upd} (h:(Jj s t y ag want).run=some (ds,us)): ∀u,u∈us->u.mild W:=by
 unfold Jj at h;split at h
 ·obtain⟨_,h⟩:=aX h;split at h
  ·exact(aj h).elim
  ·simp only[cond_eq_ite]at h;split at h
   ·have:=ak h;simp only[aas]at this;obtain⟨_,rfl⟩:=this;exact y5
   ·split at h
    ·have:=ak h;simp only[aas]at this;obtain⟨_,rfl⟩:=this;intro u hu;simp only[aam]at hu;subst hu;exact JC rfl
    ·exact(aj h).elim
 ·obtain⟨_,h⟩:=aX h;obtain⟨cs,_,h⟩:=aU h;exact TK h
 ·simp only[cond_eq_ite]at h;split at h
  ·exact(aj h).elim
  ·obtain⟨cs,_,h⟩:=aU h;split at h
   ·split at h
    ·exact(aj h).elim
    ·split at h
     ·exact(aj h).elim
     ·split at h
      ·split at h
       ·split at h
        ·rename_i hp;have:=ak h;simp only[aas]at this;obtain⟨_,rfl⟩:=this;exact vg hp
        ·exact(aj h).elim
       ·exact(aj h).elim
      ·exact(aj h).elim
   ·exact(aj h).elim
 ·simp only[cond_eq_ite]at h;split at h
  ·exact(aj h).elim
  ·obtain⟨cs,_,h⟩:=aU h;have:=ak h;simp only[aas]at this;obtain⟨_,rfl⟩:=this;exact y5
 ·simp only[cond_eq_ite]at h;split at h
  ·exact(aj h).elim
  ·split at h
   ·obtain⟨cs,_,h⟩:=aU h;split at h
    ·split at h
     ·rename_i hp;have:=ak h;simp only[aas]at this;obtain⟨_,rfl⟩:=this;exact vg hp
     ·exact(aj h).elim
    ·exact(aj h).elim
   ·exact(aj h).elim
 ·split at h
  ·obtain⟨_,h⟩:=aX h;have:=ak h;simp only[aas]at this;obtain⟨_,rfl⟩:=this;intro u hu;simp only[aam]at hu;subst hu;exact ht
  ·exact(aj h).elim
 ·exact(aj h).elim
theorem Dk (ag:Bool) (want:List (Sh×Tg)): ∀(ps:List (Nat×Operand)) (k:Nat) (s s':St) (rows:List (List CV)) (us:List Upd),Agree W s s'->(∀p,p∈ps->wC W s p.2)->(wW E ag want ps k s rows us).run=(wW E ag want ps k s' rows us).run
 | [],_,_,_,_,_,_,_=>rfl
 |(i,x)::ps,k,s,s',rows,us,h,hx=>by
  simp only[wW]
  cases Nat.beq i k with
  |false=>rfl
  |true=>
   have sx:=hx (i,x) (by simp);refine bind_congr (by rw[←eG (E:=E) h sx,DJ h sx]) λ r hr=> ?_;exact Dk ag want ps _ _ _ _ _ (h.dM r.2) λ p hp=>(hx p (by simp[hp])).dM r.2 s (Fq (yD (E:=E) sx) (ds:=r.1) (us:=r.2) hr)
theorem TL (h:Agree W s s') {x:Operand} (hx:wC W s x) (bs:List (Option Nat)) (pk:PK):Qw s bs pk (at_ E s x) x=Qw s' bs pk (at_ E s' x) x:=by
 rw[←eG (E:=E) h hx];unfold Qw
 cases pk with
 |val ag want=>simp only[];rw[DJ h hx]
 |io want=>simp only[];rw[DJ h hx]
 |ptr want=>
  simp only[]
  cases hat:at_ E s x with
  |addr p=>
   have hr:W p.root.loc:=dY (E:=E) hx (by rw[hat];simp[T.sD,T.loc]);simp only[];rw[iW h hr]
   cases hp:p.root with
   |tmp n=>rfl
   |box n=>
    rw[hp]at hr;have hb:s.bx n=s'.bx n:=h.bx n hr;have hr':W p.root.loc:=by rw[hp];exact hr
    cases p.sub with
    |some ij=>rfl
    |none=>
     cases aW s' p want.length with
     |none=>rfl
     |some cs=>simp only[hb,yK,iJ h hr']
  |_=>rfl
 |_=>rfl
theorem DI {x:Operand} {bs:List (Option Nat)} {pk:PK} {ds:List CV} {us:List Upd} {b:Option Nat} (hx:wC W s x) (h:(Qw s bs pk (at_ E s x) x).run=some (ds,us,b)):(∀u,u∈us->u.mild W)/\ ∀n,b=some n->W (.bx n):=by
 unfold Qw at h
 cases pk with
 |val ag want=>
  simp only[]at h;obtain⟨r,hr,h⟩:=aU h;have:=ak h;simp only[aas]at this;obtain⟨_,rfl,rfl⟩:=this;exact⟨Fq (yD (E:=E) hx) (ds:=r.1) (us:=r.2) hr,λ n e=>by cases e⟩
 |rptr want=>
  simp only[]at h;obtain⟨r,hr,h⟩:=aU h;have:=ak h;simp only[aas]at this;obtain⟨_,rfl,rfl⟩:=this;exact⟨y5,λ n e=>by cases e⟩
 |io want=>
  simp only[]at h;obtain⟨r,hr,h⟩:=aU h;have:=ak h;simp only[aas]at this;obtain⟨_,rfl,rfl⟩:=this;exact⟨Fq (yD (E:=E) hx) (ds:=r.1) (us:=r.2) hr,λ n e=>by cases e⟩
 |clo f want=>exact(aj h).elim
 |fn f=>
  simp only[]at h;split at h
  ·obtain⟨_,h⟩:=aX h;have:=ak h;simp only[aas]at this;obtain⟨_,rfl,rfl⟩:=this;exact⟨y5,λ n e=>by cases e⟩
  ·exact(aj h).elim
 |ptr want=>
  simp only[]at h;split at h
  ·rename_i p hat;have hr:W p.root.loc:=dY (E:=E) hx (by rw[hat];simp[T.sD,T.loc]);split at h
   ·rename_i n cs hp _ _;obtain⟨_,h⟩:=aX h;split at h
    ·rename_i hu;have:=ak h;simp only[aas]at this;obtain⟨_,rfl,rfl⟩:=this;refine⟨?_,λ m e=> ?_⟩
     ·cases pX want with
      |false=>exact vg hu
      |true=>intro u hu2;simp only[cond_true,aam]at hu2;subst hu2;exact trivial
     cases e;rw[hp]at hr;exact hr
    ·exact(aj h).elim
   ·exact(aj h).elim
  ·exact(aj h).elim
theorem Em: ∀(ps:List PK) (xs:List Operand) (bs:List (Option Nat)) (s s':St) (cs:List CV) (us:List Upd),Agree W s s'->(∀x,x∈xs->wC W s x)->(vN E ps xs bs s cs us).run=(vN E ps xs bs s' cs us).run
 | [],[],_,_,_,_,_,_,_=>rfl
 | [],_::_,_,_,_,_,_,_,_=>rfl
 |_::_,[],_,_,_,_,_,_,_=>rfl
 |p::ps,x::xs,bs,s,s',cs,us,h,hx=>by
  simp only[vN];refine bind_congr (by rw[TL h (hx x (by simp))]) λ r hr=> ?_;exact Em ps xs _ _ _ _ _ (h.dM r.2.1) λ y hy=>(hx y (by simp[hy])).dM r.2.1 s (DI (ds:=r.1) (us:=r.2.1) (b:=r.2.2) (hx x (by simp)) hr).1
theorem Ej: ∀(ps:List PK) (xs:List Operand) (bs:List (Option Nat)) (s:St) (cs:List CV) (us:List Upd) (cs':List CV) (us':List Upd) (bs':List (Option Nat)),(∀x,x∈xs->wC W s x)->(∀n,some n∈bs->W (.bx n))->
 (vN E ps xs bs s cs us).run=some (cs',us',bs')-> ∀n,some n∈bs'->W (.bx n)
 | [],[],bs,s,cs,us,cs',us',bs',_,hb,h=>by
   have:=ak h;simp only[aas]at this;obtain⟨_,_,rfl⟩:=this;exact hb
 | [],_::_,_,_,_,_,_,_,_,_,_,h=>(aj h).elim
 |_::_,[],_,_,_,_,_,_,_,_,_,h=>(aj h).elim
 |p::ps,x::xs,bs,s,cs,us,cs',us',bs',hx,hb,h=>by
  simp only[vN]at h;obtain⟨r,hr,h⟩:=aU h;obtain⟨k1,k2⟩:=DI (ds:=r.1) (us:=r.2.1) (b:=r.2.2) (hx x (by simp)) hr;refine Ej ps xs _ _ _ _ cs' us' bs' (λ y hy=>(hx y (by simp[hy])).dM r.2.1 s k1) (λ n hn=> ?_) h;rcases aau.1 hn with hn|hn
  ·exact hb n hn
  ·simp only[aam]at hn;exact k2 n hn.symm
theorem DT (h:Agree W s s') {t:T} (ht: ∀L,L∈t.loc->W L) (want:List (Sh×Tg)):QU s t want=QU s' t want:=by
 unfold QU
 cases t with
 |addr p=>
  have hr:W p.root.loc:=ht _ (by simp[T.loc]);simp only[];rw[fH h hr]
 |_=>rfl
theorem ac8 (t:T) {L:Loc} (h:L∈t.loc):L∈t.sD:=by
 cases t with
 |clo f ts=>simp[T.loc]at h
 |_=>exact h
theorem Uo (h:Agree W s s') {x:Operand} (hx:wC W s x) (pk:PK):WU E s pk x=WU E s' pk x:=by
 unfold WU;rw[←eG (E:=E) h hx]
 cases pk with
 |val ag0 want=>
  cases hat:at_ E s x with
  |ref p ag n=>
   have hr:W p.root.loc:=dY (E:=E) hx (by rw[hat];simp[T.sD,T.loc]);simp only[];rw[fH h hr]
  |rsub p z lo hi=>
   have hr:W p.root.loc:=dY (E:=E) hx (by rw[hat];simp[T.sD,T.loc]);simp only[];rw[fH h hr]
  |_=>rfl
 |rptr want=>
  exact DT h (λ L hL=>yD (E:=E) hx L (ac8 _ hL)) want
 |clo f want=>
  cases hat:at_ E s x with
  |clo g ts=>
   match ts,hat with
   | [t],hat=>simp only[];rw[DT h (λ L hL=>yD (E:=E) hx L (by rw[hat];simp[T.sD,hL])) want]
   | [],_=>rfl
   |_::_::_,_=>rfl
  |_=>rfl
 |_=>rfl
theorem yY (h:Agree W s s'): ∀(ps:List PK) (xs:List Operand) (ts:List T),(∀x,x∈xs->wC W s x)->(∀t,t∈ts-> ∀L,L∈t.loc->W L)->xH E s ps xs ts=xH E s' ps xs ts
 | [],[],[],_,_=>rfl
 | [],[],_::_,_,_=>rfl
 | [],_::_,_,_,_=>rfl
 |p::_,[],[],_,_=>by cases p<;>rfl
 |p::ps,x::xs,ts,hx,ht=>by
  simp only[xH];rw[Uo h (hx x (by simp)),yY h ps xs ts (λ y hy=>hx y (by simp[hy])) ht]
 | .rptr want::ps,[],t::ts,hx,ht=>by
   simp only[xH];rw[DT h (ht t (by simp)),yY h ps [] ts hx (λ t' h'=>ht t' (by simp[h']))]
 | .val _ _::_,[],_::_,_,_=>rfl
 | .ptr _::_,[],_::_,_,_=>rfl
 | .fn _::_,[],_::_,_,_=>rfl
 | .clo _ _::_,[],_::_,_,_=>rfl
 | .io _::_,[],_::_,_,_=>rfl
theorem kU (h:Agree W s s'): ∀(ps:List PK) (bs:List (Option Nat)) (cs:List CV),(∀n,some n∈bs->W (.bx n))->nP s ps bs cs=nP s' ps bs cs
 | [],[],_,_=>rfl
 | [],_::_,_,_=>rfl
 | .ptr _::_,[],_,_=>rfl
 | .ptr _::_,none::_,_,_=>rfl
 | .ptr want::ps,some n::bs,cs,hb=>by
   simp only[nP];rw[h.bx n (hb n (by simp)),kU h ps bs _ λ m hm=>hb m (by simp[hm])]
 | .val _ _::ps,[],_,_=>rfl
 | .val _ _::ps,some _::_,_,_=>rfl
 | .val _ _::ps,none::bs,cs,hb=>by simp only[nP];exact kU h ps bs _ λ m hm=>hb m (by simp[hm])
 | .rptr _::ps,[],_,_=>rfl
 | .rptr _::ps,some _::_,_,_=>rfl
 | .rptr _::ps,none::bs,cs,hb=>by simp only[nP];exact kU h ps bs _ λ m hm=>hb m (by simp[hm])
 | .fn _::ps,[],_,_=>rfl
 | .fn _::ps,some _::_,_,_=>rfl
 | .fn _::ps,none::bs,cs,hb=>by simp only[nP];exact kU h ps bs _ λ m hm=>hb m (by simp[hm])
 | .clo _ _::ps,[],_,_=>rfl
 | .clo _ _::ps,some _::_,_,_=>rfl
 | .clo _ _::ps,none::bs,cs,hb=>by simp only[nP];exact kU h ps bs _ λ m hm=>hb m (by simp[hm])
 | .io _::ps,[],_,_=>rfl
 | .io _::ps,some _::_,_,_=>rfl
 | .io _::ps,none::bs,cs,hb=>by simp only[nP];exact kU h ps bs _ λ m hm=>hb m (by simp[hm])
theorem oh: ∀(ps:List PK) (bs:List (Option Nat)) (cs:List CV) (us:List Upd),nP s ps bs cs=some us-> ∀u,u∈us->u.mild W
 | [],[],_,us,h=>by simp only[nP,aae]at h;subst h;exact y5
 | [],_::_,_,_,h=>by cases h
 | .ptr _::_,[],_,_,h=>by cases h
 | .ptr _::_,none::_,_,_,h=>by cases h
 | .ptr want::ps,some n::bs,cs,us,h=>by
   simp only[nP]at h;split at h
   ·rename_i b us' hb hba;simp only[cond_eq_ite]at h;split at h
    ·cases h;intro u hu;rcases aaR.1 hu with rfl|hu
     ·cases pX want<;>exact trivial
     ·exact oh ps bs _ us' hba u hu
    ·cases h
   ·cases h
 | .val _ _::ps,[],_,_,h=>by cases h
 | .val _ _::ps,some _::_,_,_,h=>by cases h
 | .val _ _::ps,none::bs,cs,us,h=>oh ps bs cs us h
 | .rptr _::ps,[],_,_,h=>by cases h
 | .rptr _::ps,some _::_,_,_,h=>by cases h
 | .rptr _::ps,none::bs,cs,us,h=>oh ps bs cs us h
 | .fn _::ps,[],_,_,h=>by cases h
 | .fn _::ps,some _::_,_,_,h=>by cases h
 | .fn _::ps,none::bs,cs,us,h=>oh ps bs cs us h
 | .clo _ _::ps,[],_,_,h=>by cases h
 | .clo _ _::ps,some _::_,_,_,h=>by cases h
 | .clo _ _::ps,none::bs,cs,us,h=>oh ps bs cs us h
 | .io _::ps,[],_,_,h=>by cases h
 | .io _::ps,some _::_,_,_,h=>by cases h
 | .io want::ps,none::bs,cs,us,h=>oh ps bs _ us h
theorem F8: ∀(ps:List PK) (xs:List Operand) (bs:List (Option Nat)) (s:St) (cs:List CV) (us:List Upd) (cs':List CV) (us':List Upd) (bs':List (Option Nat)),(∀x,x∈xs->wC W s x)->(∀u,u∈us->u.mild W)->
 (vN E ps xs bs s cs us).run=some (cs',us',bs')-> ∀u,u∈us'->u.mild W
 | [],[],bs,s,cs,us,cs',us',bs',_,hm,h=>by
   have:=ak h;simp only[aas]at this;obtain⟨_,rfl,_⟩:=this;exact hm
 | [],_::_,_,_,_,_,_,_,_,_,_,h=>(aj h).elim
 |_::_,[],_,_,_,_,_,_,_,_,_,h=>(aj h).elim
 |p::ps,x::xs,bs,s,cs,us,cs',us',bs',hx,hm,h=>by
  simp only[vN]at h;obtain⟨r,hr,h⟩:=aU h;obtain⟨k1,k2⟩:=DI (ds:=r.1) (us:=r.2.1) (b:=r.2.2) (hx x (by simp)) hr;refine F8 ps xs _ _ _ _ cs' us' bs' (λ y hy=>(hx y (by simp[hy])).dM r.2.1 s k1) (λ u hu=> ?_) h;rcases aau.1 hu with hu|hu
  ·exact hm u hu
  ·exact k1 u hu
theorem yV: ∀(ps:List PK) (xs:List Operand) (cs:List CV) (x:Operand) (c:List CV),(x,c)∈XB ps xs cs->x∈xs
 | [],xs,_,_,_,h=>by cases xs<;>simp[XB]at h
 |p::_,[],_,_,_,h=>by cases p<;>simp[XB]at h
 | .val _ _::ps,y::xs,cs,x,c,h=>aaX _ (yV ps xs cs x c h)
 | .rptr _::ps,y::xs,cs,x,c,h=>aaX _ (yV ps xs cs x c h)
 | .fn _::ps,y::xs,cs,x,c,h=>aaX _ (yV ps xs cs x c h)
 | .clo _ _::ps,y::xs,cs,x,c,h=>aaX _ (yV ps xs cs x c h)
 | .ptr _::ps,y::xs,cs,x,c,h=>aaX _ (yV ps xs _ x c h)
 | .io _::ps,y::xs,cs,x,c,h=>by
   simp only[XB]at h;rcases aaR.1 h with h|h
   ·simp only[aas]at h;rw[h.1];simp
   ·exact aaX _ (yV ps xs _ x c h)
theorem UL (h:Agree W s s') (d:Nat) {l:List (Operand×List CV)} (hx: ∀x c,(x,c)∈l->wC W s x):Xb E s d l=Xb E s' d l:=by
 unfold Xb;split
 ·rfl
 ·rename_i x c;have sx:=hx x [c] (by simp);unfold UK;rw[←eG (E:=E) h sx]
  cases hat:at_ E s x with
  |ref p ag n=>
   have hr:W p.root.loc:=dY (E:=E) sx (by rw[hat];simp[T.sD,T.loc])
   match ag,n with
   |true,_=>rfl
   |false,0=>rfl
   |false,1=>simp only[iW h hr,iJ h hr]
   |false,_+2=>rfl
  |rowr p ag n=>
   have hr:W p.root.loc:=dY (E:=E) sx (by rw[hat];simp[T.sD,T.loc])
   match ag,n with
   |true,_=>rfl
   |false,0=>rfl
   |false,1=>simp only[rX h hr,iJ h hr]
   |false,_+2=>rfl
  |ext p q c=>
   have hr:W p.root.loc:=dY (E:=E) sx (by rw[hat];simp[T.sD,T.loc]);simp only[iW h hr,iJ h hr]
  |val ag cs=>
   match ag,cs with
   |true,_=>rfl
   |false,[]=>rfl
   |false,[_]=>rfl
   |false,_::_::_=>rfl
  |_=>rfl
 ·rfl
theorem WE (h:Agree W s s') {x:Operand} (hx:wC W s x) (d:Nat) (q r:CV):afX E s x d q r=afX E s' x d q r:=by
 unfold afX;rw[eG (E:=E) h hx]
theorem IC (h:Agree W s s') (d:Nat) (xs:List Operand) (ts:List T) (i:Nat) (hx: ∀x,x∈xs->wC W s x) (ht: ∀t,t∈ts-> ∀L,L∈t.loc->W L):(KJ E s d xs ts i).run=(KJ E s' d xs ts i).run:=by
 unfold KJ
 cases(E.sig i).scalar with
 |true=>simp only[cond_true];rw[yY h _ _ _ hx ht]
 |false=>
  simp only[cond_false]
  cases noT ts with
  |false=>rfl
  |true=>
  simp only[aa9,cond_false];refine bind_congr (Em _ _ _ _ _ _ _ h hx) λ r hr=> ?_;have hb:=Ej (W:=W) (E.sig i).params xs [] s [] [] r.1 r.2.1 r.2.2 hx (λ n hn=>by cases hn) hr
  cases fZ ((E.sig i).ins.map (·.1)) r.1 with
  |none=>rfl
  |some a=>
   simp only[Dyn.run];congr 1;funext q;have hm:=F8 (W:=W) (E.sig i).params xs [] s [] [] r.1 r.2.1 r.2.2 hx y5 hr;simp only[kU (h.dM r.2.1) _ _ _ hb];split
   ·rfl
   ·rename_i us hus;rw[UL ((h.dM r.2.1).dM us) d λ x c hxc=>((hx x (yV _ _ _ x c hxc)).dM r.2.1 s hm).dM us _ ?_];rw[←kU (h.dM r.2.1) _ _ _ hb]at hus;exact oh _ _ _ us hus
theorem CU (h:Agree W s s') {p:Pl} (hr:W p.root.loc) (d:Nat) (t u:TypeId) (e:CV) (lo:Nat) (hi:Option Nat):wH E s d t u e p lo hi=wH E s' d t u e p lo hi:=by
 unfold wH;rw[fH h hr];simp only[iJ h hr]
theorem QM (h:Agree W s s') {x:Operand} (hx:wC W s x) (t:TypeId) (i:Int):QL E s t x i=QL E s' t x i:=by
 unfold QL;rw[←eG (E:=E) h hx]
 cases hat:at_ E s x with
 |ref p ag n=>
  have hr:W p.root.loc:=dY (E:=E) hx (by rw[hat];simp[T.sD,T.loc]);cases ag
  ·simp only[];rw[fH h hr]
  ·rfl
 |val ag cs=>
  match ag,cs with
  |true,_=>rfl
  |false,[]=>rfl
  |false,_::_::_=>rfl
  |false,[c]=>
   cases x with
   |tmp n=>
    have e:=h.tm n (hx _ (by simp[qc]));simp only[e]
   |_=>rfl
 |rowr p ag n=>
  have hr:W p.root.loc:=dY (E:=E) hx (by rw[hat];simp[T.sD,T.loc]);cases ag
  ·simp only[];rw[rX h hr]
  ·rfl
 |rsub p z lo hi=>
  have hr:W p.root.loc:=dY (E:=E) hx (by rw[hat];simp[T.sD,T.loc]);simp only[];rw[fH h hr]
 |_=>rfl
theorem RD (h:Agree W s s') {p:Pl} (hr:W p.root.loc) (c:CV) (i j:Nat) (ds:List CV):Nc s p c i j ds=Nc s' p c i j ds:=by
 unfold Nc
 cases hp:p.root with
 |tmp n=>
  rw[hp]at hr;simp only[h.tm n hr]
 |box n=>rfl
theorem FH (h:Agree W s s') {x:Operand} (hx:wC W s x):YJ E s x=YJ E s' x:=by
 unfold YJ;rw[←eG (E:=E) h hx]
 cases hat:at_ E s x with
 |ref p ag n=>
  have hr:W p.root.loc:=dY (E:=E) hx (by rw[hat];simp[T.sD,T.loc]);have e1:=iW h hr 1
  cases ag with
  |true=>rfl
  |false=>match n with
   |1=>simp only[];rw[e1]
   |0=>rfl
   |n+2=>rfl
 |_=>rfl
theorem YK {x:Operand} (hx:wC W s x) {p:Pl} {c:CV} (h:YJ E s x=some (p,c)):W p.root.loc:=by
 unfold YJ at h;split at h
 ·rename_i q hat;split at h
  ·cases h;exact dY (E:=E) hx (by rw[hat];simp[T.sD,T.loc])
  ·cases h
 ·cases h
theorem AL (h:Agree W s s') {x:Operand} (hx:wC W s x) (k:Sh):CZ E s x k=CZ E s' x k:=by
 unfold CZ;rw[←eG (E:=E) h hx]
theorem Ur (h:Agree W s s') {m x:Operand} (hm:wC W s m) (hx:wC W s x) (d:Nat) (t:TypeId) (ok:Bool):YG E s d t m x ok=YG E s' d t m x ok:=by
 unfold YG;rw[←FH (E:=E) h hm];simp only[←AL (E:=E) h hx]
theorem UM (h:Agree W s s') {m x v:Operand} (hm:wC W s m) (hx:wC W s x) (hv:wC W s v) (t:TypeId):Xc E s t m x v=Xc E s' t m x v:=by
 unfold Xc;rw[←FH (E:=E) h hm];simp only[←AL (E:=E) h hx,←AL (E:=E) h hv]
 cases hat:YJ E s m with
 |none=>rfl
 |some pc=>
  obtain⟨p,⟨sh,tg,l⟩⟩:=pc;have hr:=YK (E:=E) hm hat
  cases sh with
  |mp k e=>
   cases tg with
   |own=>
    have e1: ∀(y:El k) (z:El e),(λ l:List (El k×El e)=>Dyn.of (jB s p [⟨.mp k e,.own,some (E5 (keq k) y z l)⟩] false))=λ l=>Dyn.of (jB s' p [⟨.mp k e,.own,some (E5 (keq k) y z l)⟩] false):=λ y z=>funext λ l=>by rw[iJ h hr]
    show(bif aeL E t k e then _ else _)=(bif aeL E t k e then _ else _)
    cases aeL E t k e with
    |false=>rfl
    |true=>
     simp only[cond_true]
     cases CZ E s x k with
     |none=>rfl
     |some y=>cases CZ E s v e with
      |none=>rfl
      |some z=>exact congrArg (Dyn.idx l) (e1 y z)
   |_=>rfl
  |_=>rfl
theorem Ux (h:Agree W s s') {x:Operand} (hx:wC W s x) (d:Nat) (op:BinOp):YO E s d op x=YO E s' d op x:=by
 unfold YO;rw[←FH (E:=E) h hx]
theorem PW (h:Agree W s s') {x:Operand} (hx:wC W s x) (d:Nat):PV E s d x=PV E s' d x:=by
 unfold PV;rw[←y8 h hx]
theorem PY (h:Agree W s s') {x:Operand} (hx:wC W s x) (t:TypeId):MF E s t x=MF E s' t x:=by
 unfold MF;rw[←eG (E:=E) h hx]
 cases hat:at_ E s x with
 |rsub p z lo hi=>
  have hr:W p.root.loc:=dY (E:=E) hx (by rw[hat];simp[T.sD,T.loc]);simp only[];rw[fH h hr];simp only[iJ h hr]
 |_=>rfl
theorem Sj (h:Agree W s s') {x:Operand} (hx:wC W s x) (t:TypeId) (lo hi:Option Int):sliceT E s t x lo hi=sliceT E s' t x lo hi:=by
 unfold sliceT;rw[←eG (E:=E) h hx]
 cases hat:at_ E s x with
 |ref p ag n=>
  have hr:W p.root.loc:=dY (E:=E) hx (by rw[hat];simp[T.sD,T.loc])
  match ag,n with
  |true,_=>rfl
  |false,0=>rfl
  |false,1=>simp only[fH h hr]
  |false,_+2=>rfl
 |val ag cs=>
  match ag,cs with
  |true,_=>rfl
  |false,[]=>rfl
  |false,⟨sh,tg,y⟩::_::_=>cases sh<;>cases tg<;>rfl
  |false,[⟨sh,tg,y⟩]=>cases sh<;>cases tg<;>rfl
 |_=>rfl
theorem Gi (h:Agree W s s') (x:Option Operand) (hx: ∀y,x=some y->wC W s y):JI E s x=JI E s' x:=by
 cases x with
 |none=>rfl
 |some y=>simp only[JI];rw[mV h (hx y rfl)]
theorem Ut (h:Agree W s s') {x:Operand} (hx:wC W s x) (exp:List Sh):LG E s x exp=LG E s' x exp:=by
 unfold LG;rw[←eG (E:=E) h hx]
 cases x with
 |tmp n=>
  have e:=h.tm n (hx _ (by simp[qc]));cases at_ E s (.tmp n)with
  |val ag cs=>simp only[e]
  |_=>rfl
 |_=>rfl
theorem aeJ {n d:Nat} (h:SQ (s.tm n) (s'.tm n)) (exp:List Sh):
 (match LG E s (.tmp n) exp with
  |some t=>Dyn.ret [.tm d t]
  |none=>match at_ E s (.tmp n),Operand.tmp n with
   | .tup ts,.tmp n=> .ret [.keep n .dead,.tm d (.tup ts)]
   |_,_=> .fail:Dyn (List Upd))=
 (match LG E s' (.tmp n) exp with
  |some t=>Dyn.ret [.tm d t]
  |none=>match at_ E s' (.tmp n),Operand.tmp n with
   | .tup ts,.tmp n=> .ret [.keep n .dead,.tm d (.tup ts)]
   |_,_=> .fail:Dyn (List Upd)):=by
 rcases h with e|⟨h1,h2⟩
 ·have e1:at_ E s (.tmp n)=at_ E s' (.tmp n):=congrArg Prod.fst e;have e2:(s.tm n).2=(s'.tm n).2:=congrArg Prod.snd e;unfold LG;rw[e1];cases at_ E s' (.tmp n)with
  |val ag cs=>simp only[e2]
  |_=>rfl
 ·obtain⟨ag,cs,cs',e1,e2,k1,k2,k3⟩:=ql.1 h2;have e1':at_ E s (.tmp n)= .val ag cs:=e1;have e2':at_ E s' (.tmp n)= .val ag cs':=e2;unfold LG;rw[e1',e2'];simp only[k1,k2,cond_false,h1,k3]
  have:cs.map (λ _=>(s'.tm n).2)=cs'.map (λ _=>(s'.tm n).2):=by
   rw[List.map_const',List.map_const',k3]
  rw[this]
theorem JF (h:Agree W s s') {d:Nat} (hd:W (.bx d)) (cs:List CV):Uw s d cs=Uw s' d cs:=by
 unfold Uw;rw[h.bx d hd]
theorem Rq {s2 s2':St} (h:Agree W s s') (h2:Agree W s2 s2') {y:Operand} (hy:wC W s y) (hy2:wC W s2 y) (exp:List Sh):Rn E s s2 y exp=Rn E s' s2' y exp:=by
 unfold Rn;rw[←eG (E:=E) h hy,y8 h2 hy2]
theorem EC (h:Agree W s s') {p:Pl} {n k:Nat} (hp:p.root= .box n) (hi:W (.bi n)) (hc: ∀i,i<max k p.vers.length->W (.bc n (p.cell+i))):aW s p k=aW s' p k/\AO s p k=AO s' p k:=by
 have h1:=h.bi n hi;have h2: ∀i,i<max k p.vers.length->bxC s n (p.cell+i)=bxC s' n (p.cell+i):=λ i hk=>h.bc n _ (hc i hk);unfold bxI at h1;unfold bxC at h2;unfold aW AO;simp only[hp,aB]
 cases hb:s.bx n with
 |none=>
  cases hb':s'.bx n with
  |none=>exact⟨rfl,rfl⟩
  |some b'=>rw[hb,hb']at h1;cases h1
 |some b=>
  cases hb':s'.bx n with
  |none=>rw[hb,hb']at h1;cases h1
  |some b'=>
   rw[hb,hb']at h1;simp only[aaK,aae,aas]at h1;simp only[hb,hb',aai]at h2
   have ht:(b.cells.drop p.cell).take k=(b'.cells.drop p.cell).take k:=by
    apply aaP;intro i;simp only[aaj,aan];split
    ·exact h2 i (by omega)
    ·rfl
   have hv:Dw p.vers ((b.cells.drop p.cell).map (·.2))=Dw p.vers ((b'.cells.drop p.cell).map (·.2)):=by
    rw[acu,BQ,BQ]
    have: ∀(i x:Nat),p.vers[i]? =some x->((b.cells.drop p.cell).map (·.2))[i]? =((b'.cells.drop p.cell).map (·.2))[i]? :=by
     intro i x hx
     have hi:i<p.vers.length:=by
      rcases aaE i p.vers.length with h|h
      ·exact h
      ·simp[aah h]at hx
     simp only[aar,aan];rw[h2 i (by omega)]
    constructor
    ·intro hh i x hx;rw[←this i x hx];exact hh i x hx
    ·intro hh i x hx;rw[this i x hx];exact hh i x hx
   simp only[h1.1,h1.2,hv,ht,and_self]
theorem MW (h:Agree W s s') {p:Pl} {n:Nat} (hp:p.root= .box n) (hsub:p.sub=none) (hi:W (.bi n)):zy s p=zy s' p:=by
 have h1:=h.bi n hi;unfold bxI at h1;unfold zy;simp only[hp,hsub,aB]
 cases hb:s.bx n with
 |none=>
  cases hb':s'.bx n with
  |none=>rfl
  |some b'=>rw[hb,hb']at h1;cases h1
 |some b=>
  cases hb':s'.bx n with
  |none=>rw[hb,hb']at h1;cases h1
  |some b'=>
   rw[hb,hb']at h1;simp only[aaK,aae,aas]at h1;simp only[h1.1]
theorem ZV {t k:Nat} (hs: ∀L,L∈BG s t k->W L):wC W s (.tmp t)\/ ∃p n,(s.tm t).1= .addr p/\p.root= .box n/\p.sub=none/\W (.tm t)/\W (.bi n)/\ ∀i,i<max k p.vers.length->W (.bc n (p.cell+i)):=by
 unfold BG at hs;split at hs
 ·rename_i p hx;split at hs
  ·rename_i n hp hsub
   exact .inr ⟨p,n,hx,hp,hsub,hs _ (by simp),hs _ (by simp),λ i hi=>hs _ (by
    refine aaX _ (aaX _ (aaL.2 ⟨i,abW.2 hi,rfl⟩)))⟩
  ·exact .inl λ L hL=>hs L (by simp only[qc,hx]at hL;exact hL)
 ·exact .inl λ L hL=>hs L (by simp only[qc]at hL;exact hL)
theorem DU (h:Agree W s s') (hs: ∀L,L∈uV E s o->W L) (hmv: ¬∃ n,o.op= .move (.tmp n)) (see: ∀x,x∈o.op.operands->wC W s x):(plan E o s).run=(plan E o s').run:=by
 have box: ∀d,o.dst=some d->(∃t,o.op= .alloc t)\/(∃t x,o.op= .box t x)->W (.bx d):=λ d hd ho=>hs _ (by
  unfold uV;refine abl _ ?_;rcases ho with⟨t,ho⟩|⟨t,x,ho⟩<;>simp[ho,hd])
 unfold plan
 cases ho:o.op with
 |store t a x=>
  rw[ho]at see;have sa:=see a (by simp[Op.operands]);have sx:=see x (by simp[Op.operands]);simp only[]
  cases o.dst with
  |some d=>rfl
  |none=>
   simp only[];refine bind_congr (by rw[sN h sx]) λ r hr=> ?_;obtain⟨ag,cs,us⟩:=r;simp only[];have hm:=yG (W:=W) hr;have sa2:=sa.dM us s hm;have h2:=h.dM us;rw[←eG (E:=E) h2 sa2]
   cases hat:at_ E (s.dM us) a with
   |addr p=>
    have hr:W p.root.loc:=dY (E:=E) sa2 (by rw[hat];simp[T.sD,T.loc]);simp only[];simp only[Py h2 hr,LU h2 hr,rX h2 hr,RD h2 hr]
   |addr2 p k j=>
    have hr:W p.root.loc:=dY (E:=E) sa2 (by rw[hat];simp[T.sD,T.loc]);simp only[];rw[SK h2 hr]
   |_=>rfl
 |move x=>
  rw[ho]at see;have sx:=see x (by simp[Op.operands]);simp only[]
  cases o.dst with
  |none=>rfl
  |some d=>
   simp only[];rw[Ut h sx,←eG (E:=E) h sx]
 |assign x=>
  rw[ho]at see;have sx:=see x (by simp[Op.operands]);simp only[]
  cases o.dst with
  |none=>rfl
  |some d=>
   simp only[];rw[sN h sx,←eG (E:=E) h sx]
 |pick c x y=>
  rw[ho]at see;have sc:=see c (by simp[Op.operands]);have sx:=see x (by simp[Op.operands]);have sy:=see y (by simp[Op.operands]);simp only[]
  cases o.dst with
  |none=>rfl
  |some d=>
   simp only[];rw[LH h sc,←eG (E:=E) h sx,←eG (E:=E) h sy]
 |alloc t=>
  simp only[]
  cases hd:o.dst with
  |none=>rfl
  |some d=>
   simp only[]
   cases E.ty t with
   |none=>rfl
   |some i=>simp only[];rw[JF h (box d hd (.inl ⟨t,ho⟩))]
 |box t x=>
  rw[ho]at see;have sx:=see x (by simp[Op.operands]);simp only[]
  cases hd:o.dst with
  |none=>rfl
  |some d=>
   simp only[];refine bind_congr (by rw[sN h sx]) λ r hr=> ?_;obtain⟨ag,cs,us⟩:=r;simp only[];rw[JF (h.dM us) (box d hd (.inr ⟨t,x,ho⟩))]
 |build t ps=>
  rw[ho]at see;simp only[]
  cases o.dst with
  |none=>rfl
  |some d=>
   simp only[]
   cases E.ty t with
   |none=>rfl
   |some i=>
    simp only[]
    exact bind_congr (Ad _ _ _ _ _ _ _ h λ p hp=>see p.2 (by
     simp only[Op.operands,List.mem_toArray,aaL];exact⟨p,hp,rfl⟩)) λ r hr=>rfl
 |buildSlice t n ps=>
  rw[ho]at see;simp only[]
  cases o.dst with
  |none=>rfl
  |some d=>
   simp only[];split
   ·exact bind_congr (Dk _ _ _ _ _ _ _ _ h λ p hp=>see p.2 (by
     simp only[Op.operands,List.mem_toArray,aaL];exact⟨p,hp,rfl⟩)) λ r hr=>rfl
   ·rfl
 |load t x=>
  rw[ho]at see;have sx:=see x (by simp[Op.operands]);simp only[]
  cases o.dst with
  |none=>rfl
  |some d=>
   simp only[];rw[←eG (E:=E) h sx]
   cases hat:at_ E s x with
   |addr p=>
    have hr:W p.root.loc:=dY (E:=E) sx (by rw[hat];simp[T.sD,T.loc])
    cases E.ty t with
    |none=>rfl
    |some i=>simp only[];rw[rX h hr,fH h hr];simp only[Rt h hr,iJ h hr]
   |paddr cs off=>cases E.ty t<;>rfl
   |_=>rfl
 |nilCheck x=>
  rw[ho]at see;have sx:=see x (by simp[Op.operands]);simp only[]
  cases o.dst with
  |none=>rfl
  |some d=>
   simp only[];rw[←eG (E:=E) h sx]
   cases hat:at_ E s x with
   |addr p=>
    have hr:W p.root.loc:=dY (E:=E) sx (by rw[hat];simp[T.sD,T.loc]);simp only[];rw[Gm h hr]
   |_=>rfl
 |makeFunc f xs ys=>
  rw[ho]at see;simp only[]
  cases o.dst with
  |none=>rfl
  |some d=>
   have hc:=MG (E:=E) h ys.toList λ y hy=>see y (by simp only[Op.operands,Array.mem_append];exact .inr (by simpa using hy))
   cases f with
   |func k=>simp only[hc]
   |_=>rfl
 |binOp op t x y u=>
  rw[ho]at see;have sx:=see x (by simp[Op.operands]);have sy:=see y (by simp[Op.operands]);simp only[]
  cases o.dst with
  |none=>rfl
  |some d=>simp only[];rw[←eG (E:=E) h sx,←eG (E:=E) h sy,Ux h sx]
 |unOp op t x=>
  rw[ho]at see;have sx:=see x (by simp[Op.operands]);simp only[]
  cases o.dst with
  |none=>rfl
  |some d=>simp only[];rw[←eG (E:=E) h sx]
 |convert u t x=>
  rw[ho]at see;have sx:=see x (by simp[Op.operands]);simp only[]
  cases o.dst with
  |none=>rfl
  |some d=>simp only[];rw[←eG (E:=E) h sx,PW h sx]
 |makeMap t r=>cases r<;>rfl
 |lookup t m x ok=>
  rw[ho]at see;have sm:=see m (by simp[Op.operands]);have sx:=see x (by simp[Op.operands]);simp only[]
  cases o.dst with
  |none=>rfl
  |some d=>simp only[];rw[Ur h sm sx]
 |mapUpdate t m x v=>
  rw[ho]at see;have sm:=see m (by simp[Op.operands]);have sx:=see x (by simp[Op.operands]);have sv:=see v (by simp[Op.operands]);simp only[]
  cases o.dst with
  |none=>simp only[];rw[UM h sm sx sv]
  |some d=>rfl
 |makeSlice t x y=>
  rw[ho]at see;have sx:=see x (by simp[Op.operands]);have sy:=see y (by simp[Op.operands]);simp only[]
  cases o.dst with
  |none=>rfl
  |some d=>simp only[];rw[mV h sx,mV h sy]
 |slice t x lo hi mx=>
  rw[ho]at see;have sx:=see x (by simp[Op.operands]);have slo:=Gi (E:=E) h lo λ y hy=>see y (by simp[Op.operands,hy]);have shi:=Gi (E:=E) h hi λ y hy=>see y (by simp[Op.operands,hy]);simp only[]
  cases o.dst with
  |none=>rfl
  |some d=>
   simp only[];rw[slo,shi];simp only[Sj h sx]
 |fieldAddr t x f=>
  rw[ho]at see;have sx:=see x (by simp[Op.operands]);simp only[]
  cases o.dst with
  |none=>rfl
  |some d=>
   simp only[];rw[←eG (E:=E) h sx]
   cases E.ty t with
   |none=>rfl
   |some i=>
    simp only[]
    cases hat:at_ E s x with
    |addr p=>
     have hr:W p.root.loc:=dY (E:=E) sx (by rw[hat];simp[T.sD,T.loc])
     cases i.fields[f]? with
     |none=>rfl
     |some on=>simp only[];rw[Gm h hr]
    |_=>cases i.fields[f]? <;>rfl
 |indexAddr t x i=>
  rw[ho]at see;have sx:=see x (by simp[Op.operands]);have si:=see i (by simp[Op.operands]);simp only[]
  cases o.dst with
  |none=>rfl
  |some d=>
   simp only[];rw[mV h si];simp only[QM h sx]
 |index t x i=>
  rw[ho]at see;have sx:=see x (by simp[Op.operands]);have si:=see i (by simp[Op.operands]);simp only[]
  cases o.dst with
  |none=>rfl
  |some d=>simp only[];rw[←eG (E:=E) h sx,mV h si]
 |field t x f=>
  rw[ho]at see;have sx:=see x (by simp[Op.operands]);simp only[]
  cases o.dst with
  |none=>rfl
  |some d=>simp only[];rw[←eG (E:=E) h sx]
 |extract x i=>
  rw[ho]at see;have sx:=see x (by simp[Op.operands]);simp only[]
  cases o.dst with
  |none=>rfl
  |some d=>simp only[];rw[←eG (E:=E) h sx]
 |call c=>
  rw[ho]at see
  have sa: ∀x,x∈c.args.toList->wC W s x:=λ x hx=>see x (by
   simp only[Op.operands,Call.operands,Array.mem_append];exact .inr (by simpa using hx))
  simp only[]
  cases o.dst with
  |none=>
   simp only[];split
   ·rename_i x t e1 e2 e3;rw[PY h (sa x (by rw[e2];simp))]
   ·rfl
  |some d=>
   simp only[]
   cases hc:c.callee with
   |value f=>
    have sf:=see f (by simp[Op.operands,Call.operands,hc]);simp only[];rw[←eG (E:=E) h sf]
    cases hf:at_ E s f with
    |fn k=>
     simp only[]
     cases Nat.beq (E.sig (E.spec d)).fn k with
     |false=>rfl
     |true=>exact IC h d _ _ _ sa (λ t ht=>by cases ht)
    |clo k ts=>
     simp only[]
     cases Nat.beq (E.sig (E.spec d)).fn k with
     |false=>rfl
     |true=>exact IC h d _ _ _ sa (λ t ht L hL=>yD (E:=E) sf L (by rw[hf];exact acr.2 ⟨t,ht,hL⟩))
    |_=>rfl
   |invoke r m=>rfl
   |builtin b=>
    match hx:c.args.toList with
    | []=>cases b<;>rfl
    | [x]=>
      rw[hx]at sa;have sx:=sa x (by simp);cases b<;>first|rfl|(simp only[];rw[y8 h sx])
    | [x,y]=>
      rw[hx]at sa;have sx:=sa x (by simp);have sy:=sa y (by simp);by_cases hb:b= .append
      ·subst hb;simp only[];refine bind_congr (by rw[sN h sx]) λ r hr=> ?_;obtain⟨ag,cs,us⟩:=r;simp only[];rw[Rq h (h.dM us) sy (sy.dM us s (yG hr)),sN (h.dM us) (sy.dM us s (yG hr)) []];simp only[WE (h.dM us) (sx.dM us s (yG hr))]
      ·by_cases hb2:b= .copy
       ·subst hb2;simp only[];refine bind_congr (by rw[y8 h sy]) λ ds hds=> ?_;rw[←eG (E:=E) h sx];split
        ·rename_i e t u p z lo hi hat hax;exact congrArg Dyn.run (CU h (dY (E:=E) sx (by rw[hax];simp[T.sD,T.loc])) _ _ _ _ _ _)
        ·rename_i e t u p hat hax;exact congrArg Dyn.run (CU h (dY (E:=E) sx (by rw[hax];simp[T.sD,T.loc])) _ _ _ _ _ _)
        ·rfl
       cases b<;>first|exact absurd rfl hb|exact absurd rfl hb2|(simp only[];rw[mV h sx,mV h sy])
    |x::y::z::r=>cases b<;>rfl
 |_=>rfl
theorem YD (h:Agree W s s') (hs: ∀L,L∈uV E s o->W L) (hmv: ¬∃ n,o.op= .move (.tmp n)) {t:Nat} (hl:YC o.op=some t) (hw: ∀L,L∈Un s t->W L):(plan E o s).run=(plan E o s').run:=by
 unfold YC at hl;split at hl
 ·rename_i c ho;split at hl
  ·rename_i hc hx;cases hl
   have plain:wC W s (.tmp t)->(plan E o s).run=(plan E o s').run:=λ hsee=>DU h hs hmv λ x hx'=>by
    rw[ho]at hx'
    have:x= .tmp t:=by
     simp only[Op.operands,Call.operands,hc]at hx';have:x∈c.args.toList:=by simpa using hx'
     rw[hx]at this;simpa using this
    rw[this];exact hsee
   unfold Un at hw;split at hw
   ·rename_i p ag k hat;split at hw
    ·rename_i n hp hsub;have h4:W (.tm t):=hw _ (by simp);obtain⟨q1,_⟩:=EC (k:=k) h hp (hw _ (by simp)) λ i hi=>hw _ (aaX _ (aaX _ (aaL.2 ⟨i,abW.2 hi,rfl⟩)));have hat':(s'.tm t).1= .ref p ag k:=by rw[←h.tm t h4];exact hat
     have hpk:Hz E s (.tmp t)=Hz E s' (.tmp t):=by
      unfold Hz content;simp only[at_,hat,hat'];cases ag<;>simp only[hsub,q1]
     unfold plan;simp only[ho,hc,hx]
     cases o.dst with
     |none=>rfl
     |some d=>simp only[hpk]
    ·exact plain λ L hL=>hw L (by simp only[qc,hat]at hL;exact hL)
   ·exact plain λ L hL=>hw L (by simp only[qc]at hL;exact hL)
  ·cases hl
 ·cases hl
theorem MX (h:Agree W s s') (hs: ∀L,L∈uV E s o->W L):(plan E o s).run=(plan E o s').run:=by
 by_cases hmv: ∃n,o.op= .move (.tmp n)
 ·obtain⟨n,ho⟩:=hmv;have hid:SQ (s.tm n) (s'.tm n):=h.id n (hs _ (by simp[uV,Q8,YC,Uz,ho]));unfold plan;simp only[ho]
  cases o.dst with
  |none=>rfl
  |some d=>simp only[];exact congrArg Dyn.run (aeJ hid _)
 have hs2: ∀L,L∈Q8 E s o.op->W L:=λ L hL=>hs L (aaH _ hL)
 have adr: ∀(t k:Nat),o.op.operands= #[.tmp t]->(∀L,L∈BG s t k->W L)->(∀p n,(s.tm t).1= .addr p->p.root= .box n->p.sub=none->W (.tm t)->W (.bi n)->(∀i,i<max k p.vers.length->W (.bc n (p.cell+i)))->(plan E o s).run=(plan E o s').run)->(plan E o s).run=(plan E o s').run:=by
  intro t k hop hl hx;rcases ZV hl with hsee|⟨p,n,h1,h2,h3,h4,h5,h6⟩
  ·exact DU h hs hmv λ x hx=>by
    rw[hop]at hx;have:x= .tmp t:=by simpa using hx
    rw[this];exact hsee
  ·exact hx p n h1 h2 h3 h4 h5 h6
 have gen:Q8 E s o.op=o.op.operands.toList.flatMap (qc s)->(plan E o s).run=(plan E o s').run:=λ e=>DU h hs hmv λ x hx L hL=>hs2 L (by
  rw[e];exact acr.2 ⟨x,by simpa using hx,hL⟩)
 unfold Q8 at hs2 gen
 cases hlen:YC o.op with
 |some t=>
  rw[hlen]at hs2;exact YD h hs hmv hlen hs2
 |none=>
 rw[hlen]at hs2 gen;simp only[]at hs2 gen;unfold Uz at hs2 gen;split at hs2
 ·rename_i n ho;exact absurd ⟨n,ho⟩ hmv
 ·rename_i ty t ho;refine adr t _ (by rw[ho];rfl) hs2 λ p n h1 h2 h3 h4 h5 h6=> ?_;have ht:=h.tm t h4;have h1':(s'.tm t).1= .addr p:=by rw[←ht];exact h1
  unfold plan;simp only[ho]
  cases o.dst with
  |none=>rfl
  |some d=>
   simp only[at_,h1,h1']
   cases hE:E.ty ty with
   |none=>rfl
   |some i=>
    simp only[];have hk:(fV E ty).length=i.cells.length:=by simp only[fV,hE]
    rw[hk]at h6;obtain⟨q1,q2⟩:=EC h h2 h5 h6;have d1:KN s p=none:=by unfold KN;simp only[h3]
    have d2:KN s' p=none:=by unfold KN;simp only[h3]
    have c1:content s p i.cells.length=content s' p i.cells.length:=by unfold content;simp only[h3,q1]
    simp only[d1,d2,c1,q2]
 ·rename_i t ho;refine adr t _ (by rw[ho];rfl) hs2 λ p n h1 h2 h3 h4 h5 h6=> ?_;have ht:=h.tm t h4;have h1':(s'.tm t).1= .addr p:=by rw[←ht];exact h1
  unfold plan;simp only[ho]
  cases o.dst with
  |none=>rfl
  |some d=>simp only[at_,h1,h1',MW h h2 h3 h5]
 ·rename_i ty t f ho;refine adr t _ (by rw[ho];rfl) hs2 λ p n h1 h2 h3 h4 h5 h6=> ?_;have ht:=h.tm t h4;have h1':(s'.tm t).1= .addr p:=by rw[←ht];exact h1
  unfold plan;simp only[ho]
  cases o.dst with
  |none=>rfl
  |some d=>
   simp only[at_,h1,h1']
   cases E.ty ty with
   |none=>rfl
   |some i=>
    simp only[]
    cases i.fields[f]? with
    |none=>rfl
    |some off=>simp only[MW h h2 h3 h5]
 ·rename_i k1 k2 k3 k4;refine gen ?_;split
  ·rename_i n ho;exact absurd ho (k1 n)
  ·rename_i ty t ho;exact absurd ho (k2 ty t)
  ·rename_i t ho;exact absurd ho (k3 t)
  ·rename_i ty t f ho;exact absurd ho (k4 ty t f)
  ·rfl
end
end Go.AM
end
section
namespace Go.AM
open Go
section
variable {P:Program} {E:Env} {C:Ctx} {s s':St} {a a':Act} {w w':World} {g g':Gh} {o:Oper} {Q:Exit->Act->World->Prop}
def Loc.cov (M L:Loc):Prop:=M=L\/ ∃n,M= .bx n/\(L= .bi n\/ ∃i,L= .bc n i)
def Cov (ls:List Loc) (L:Loc):Prop:= ∃M,M∈ls/\M.cov L
theorem Cov.of {ls:List Loc} {L:Loc} (h:L∈ls):Cov ls L:=⟨L,h,.inl rfl⟩
def adI (E:Env) (all:List Oper) (o:Oper) (s:St) (us:List Upd):Prop:=
 IW E o=true/\match o.guard with
  |none=>(plan E o s).run=some us
  |some (i,want)=> ∃d x,Wu all i=some d/\Ai s (some d)=some x/\((x=some want/\(plan E o s).run=some us)\/(x≠some want/\us=uz o))
def Reads (E:Env) (all:List Oper) (o:Oper) (s:St) (us:List Upd) (r:List Loc):Prop:=
 (∀n t,.keep n t∈us-> .id n∈r)/\match o.guard with
  |none=> ∀L,L∈uV E s o->L∈r
  |some (i,want)=> ∃d,Wu all i=some d/\ .tm d∈r/\(Ai s (some d)=some (some want)-> ∀L,L∈uV E s o->L∈r)
theorem Oi {W:Loc->Prop} (h:Agree W s s') {d:Nat} (hd:W (.tm d)):Ai s (some d)=Ai s' (some d):=by
 simp only[Ai,h.tm d hd]
theorem Wh {all:List Oper} {us:List Upd} {r:List Loc} (h:Agree (Cov r) s s') (ha:adI E all o s us) (hr:Reads E all o s us r):adI E all o s' us:=by
 obtain⟨h1,h2⟩:=ha;refine⟨h1,?_⟩
 replace hr:=hr.2
 cases hg:o.guard with
 |none=>
  rw[hg]at h2 hr;simp only at h2 hr ⊢;rw[←MX h λ L hL=>Cov.of (hr L hL)];exact h2
 |some iw=>
  obtain⟨i,want⟩:=iw;rw[hg]at h2 hr;simp only at h2 hr ⊢;obtain⟨d,x,k1,k2,k3⟩:=h2;obtain⟨d',q1,q2,q3⟩:=hr;rw[k1]at q1;cases q1;refine⟨d,x,k1,by rw[←Oi h (Cov.of q2)];exact k2,?_⟩;rcases k3 with⟨rfl,k3⟩|k3
  ·exact .inl ⟨rfl,by rw[←MX h λ L hL=>Cov.of (q3 k2 L hL)];exact k3⟩
  ·exact .inr k3
theorem afc (h:Rel E C s a w g) (hd:IW E o=true): ∃g',Rel E C (s.dM (uz o)) (a.put o.dst undef) w g':=by
 unfold uz
 cases ho:o.dst with
 |none=>exact⟨g,h⟩
 |some d=>
  simp only[IW,ho]at hd;simp only[aad,abj]at hd;exact⟨g,h.O8 (mk:= .hand) ⟨hd.1,(Nat.blt_eq ..).mp hd.2⟩ rfl (show undef=undef from rfl)⟩
theorem Yj (h:Rel E C s a w g) {ops:Array Oper} {i d:Nat} {x:Option Bool} (h1:Wu ops.toList i=some d) (h2:Ai s (some d)=some x):yielded ops a.tmps i=x:=by
 have hd:(ops[i]?).bind (·.dst)=some d:=by
  unfold Wu at h1;simp only[aaO]at h1
  cases ho:ops[i]? with
  |none=>rw[ho]at h1;cases h1
  |some o=>rw[ho]at h1;exact h1
 have ht:=h.tm d;unfold Ai at h2;simp only at h2;unfold yielded;rw[hd];simp only[aai];have heval:a.eval (.tmp d)=(a.tmps[d]?).getD undef:=by simp[Act.eval,aa4]
 rw[heval]at ht;split at h2
 ·rename_i b hb;cases h2;rw[hb]at ht;obtain⟨u,_,hr,hu⟩:=BZ.one ht;have:(a.tmps[d]?).getD undef= .bool b:=by rw[←hu rfl];exact hr
  cases hq:a.tmps[d]? with
  |none=>rw[hq]at this;cases this
  |some v=>rw[hq]at this;simp only[abq]at this;rw[this]
 ·rename_i hb;cases h2;rw[hb]at ht;have:(a.tmps[d]?).getD undef=undef:=ht
  cases hq:a.tmps[d]? with
  |none=>rfl
  |some v=>
   rw[hq]at this;simp only[abq]at this;subst this;rfl
 ·cases h2
theorem XD (hE:PD P E) (h:Rel E C s a w g) {ops:Array Oper} {i:Nat} (hi:ops[i]? =some o) {us:List Upd} (ha:adI E ops.toList o s us) {K:Act->World->Prop} (hK: ∀a' w' g',Rel E C (s.dM us) a' w' g'->K a' w'):wpOp P ops Q i K a w:=by
 obtain⟨h1,h2⟩:=ha;unfold wpOp;rw[hi];simp only[];have run:(plan E o s).run=some us->o.wp P a w K Q:=λ hp=>Oper.wp_mono (λ a' w' ⟨g',hr⟩=>hK a' w' g' hr) (aeY hE h h1 hp)
 have skip:us=uz o->K (a.put o.dst undef) w:=λ hu=>by
  obtain⟨g',hr⟩:=afc h h1;subst hu;exact hK _ _ g' hr
 cases hg:o.guard with
 |none=>
  rw[hg]at h2;have:Region.wanted o (yielded ops a.tmps)=true:=by simp[Region.wanted,hg]
  rw[if_pos this];exact .inl (run h2)
 |some iw=>
  obtain⟨j,want⟩:=iw;rw[hg]at h2;obtain⟨d,x,k1,k2,k3⟩:=h2;have hy:=Yj h k1 k2;have hw:Region.wanted o (yielded ops a.tmps)=(x==some want):=by simp only[Region.wanted,hg,hy]
  rcases k3 with⟨rfl,k3⟩|⟨hne,k3⟩
  ·rw[if_pos (by rw[hw];simp)];exact .inl (run k3)
  ·rw[if_neg (by rw[hw];simpa using hne)];exact skip k3
theorem SG {ρ:Type} {d:Option Tmp} {k:St->Option ρ} {r:ρ} (h:splitAt s d k=some r):k s=some r:=by
 unfold splitAt at h
 have same: ∀(n:Nat) (t:T) (v:Nat),s.tm n=(t,v)->({s with tm:=put s.tm n (t,v)}:St)=s:=by
  intro n t v e
  have:put s.tm n (t,v)=s.tm:=by
   funext m;by_cases hm:m=n
   ·subst hm;rw[bg,e]
   ·rw[bF _ _ _ hm]
  rw[this]
 cases d with
 |none=>exact h
 |some d=>
  simp only at h;split at h
  ·rename_i b v hb
   cases b with
   |true=>simp only[cond_true]at h;rw[same d _ v hb]at h;exact h
   |false=>simp only[cond_false]at h;rw[same d _ v hb]at h;exact h
  ·exact h
def Iu (E:Env) (draw:Bool) (all:List Oper) (ah:List (List Nat)):List Oper->Nat->List BF->St->List BF->(Nat->St)->(Nat->List Upd)->Prop
 | [],j,fs,s,fs',S,U=>fs'=fs/\S j=s
 |o::os,j,fs,s,fs',S,U=>S j=s/\adI E all o s (U j)/\ ∃f,Reads E all o s (U j) f.r/\f.w=zU s (U j)/\(draw=true->ordered (ah.getD j []) f fs 0=true)/\Iu E draw all ah os (j+1) (fs++[f]) (s.dM (U j)) fs' S U
theorem Iu.congr {E:Env} {draw:Bool} {all:List Oper} {ah:List (List Nat)}: ∀{os:List Oper} {j:Nat} {fs:List BF} {s:St} {fs':List BF} {S S':Nat->St} {U U':Nat->List Upd},(∀i,j<=i->S' i=S i)->(∀i,j<=i->U' i=U i)->
 Iu E draw all ah os j fs s fs' S U->Iu E draw all ah os j fs s fs' S' U'
 | [],j,fs,s,fs',S,S',U,U',hS,hU,⟨h1,h2⟩=>⟨h1,by rw[hS j (aaq _)];exact h2⟩
 |o::os,j,fs,s,fs',S,S',U,U',hS,hU,⟨h1,h2,f,h3,h4,h5,h6⟩=>by
  refine⟨by rw[hS j (aaq _)];exact h1,by rw[hU j (aaq _)];exact h2,f,by rw[hU j (aaq _)];exact h3,by rw[hU j (aaq _)];exact h4,h5,?_⟩;rw[hU j (aaq _)];exact h6.congr (λ i hi=>hS i (by omega)) (λ i hi=>hU i (by omega))
theorem Vw {L:List Loc} {us:List Upd} (n:Nat) (t:T) (h: .keep n t∈us): .id n∈L++Uh us:=
 abl _ (acr.2 ⟨_,h,by simp⟩)
theorem RZ {r:List Loc} (n:Nat) (t:T) (h: .keep n t∈uz o): .id n∈r:=by
 unfold uz at h;split at h<;>simp at h
theorem Gz {draw:Bool} {all:List Oper} {ah:List (List Nat)} {ρ:Type} {k:St->Option ρ} {r:ρ}: ∀(os:List Oper) (j:Nat) (fs:List BF) (s:St),Gy E draw all ah os j fs s k=some r->
 ∃fs' S U,Iu E draw all ah os j fs s fs' S U/\k (S (j+os.length))=some r
 | [],j,fs,s,h=>⟨fs,λ _=>s,λ _=>[],⟨rfl,rfl⟩,h⟩
 |o::os,j,fs,s,h=>by
  simp only[Gy]at h
  have step: ∀(us:List Upd) (f:BF),adI E all o s us->Reads E all o s us f.r->f.w=zU s us->
   (bif IW E o&&(!draw||ordered (ah.getD j []) f fs 0)then
    bif guards all j then splitAt (s.dM us) o.dst (λ s'=>Gy E draw all ah os (j+1) (fs++[f]) s' k)
    else Gy E draw all ah os (j+1) (fs++[f]) (s.dM us) k else none)=some r->
   ∃fs' S U,Iu E draw all ah (o::os) j fs s fs' S U/\k (S (j+(o::os).length))=some r:=by
   intro us f hA hR hW hh;simp only[cond_eq_ite]at hh;split at hh
   ·rename_i hc;simp only[aad]at hc
    have hrun:Gy E draw all ah os (j+1) (fs++[f]) (s.dM us) k=some r:=by
     split at hh
     ·exact SG hh
     ·exact hh
    obtain⟨fs',S,U,hs,hk⟩:=Gz os (j+1) (fs++[f]) (s.dM us) hrun;refine⟨fs',λ i=>if i=j then s else S i,λ i=>if i=j then us else U i,⟨by simp,by simp only[if_true];exact hA,f,by simp only[if_true];exact hR,by simp only[if_true];exact hW,λ hdr=> ?_,?_⟩,?_⟩
    ·have:=hc.2;rw[hdr]at this;simpa using this
    ·simp only[if_true];exact hs.congr (λ i hi=>by rw[if_neg (by omega)]) (λ i hi=>by rw[if_neg (by omega)])
    ·simp only[abe];rw[if_neg (by omega),show j+(os.length+1)=j+1+os.length by omega];exact hk
   ·cases hh
  have hdst: ∀{X:Option ρ},(bif IW E o&&X.isSome then X else none)=some r->IW E o=true:=by
   intro X hX;simp only[cond_eq_ite,aad]at hX;split at hX
   ·rename_i hc;exact hc.1
   ·cases hX
  have hdst2: ∀{b:Bool} {X:Option ρ},(bif IW E o&&b then X else none)=some r->IW E o=true:=by
   intro b X hX;simp only[cond_eq_ite,aad]at hX;split at hX
   ·rename_i hc;exact hc.1
   ·cases hX
  split at h
  ·rename_i hg;rw[Dyn.UQ]at h;obtain⟨us,hp,hh⟩:=aaZ.1 h;exact step us _ ⟨hdst2 hh,by rw[hg];exact hp⟩ ⟨Vw,by rw[hg];exact λ L hL=>aaH _ hL⟩ rfl hh
  ·rename_i i want hg;split at h
   ·rename_i b d hga hd;rw[hd]at hga;simp only[cond_eq_ite]at h;split at h
    ·rename_i hb;have hb:b=want:=by simpa using hb
     subst hb;rw[Dyn.UQ]at h;obtain⟨us,hp,hh⟩:=aaZ.1 h;simp only[←cond_eq_ite]at hh;exact step us _ ⟨hdst2 hh,by rw[hg];exact⟨d,_,hd,hga,.inl ⟨rfl,hp⟩⟩⟩ ⟨λ n t hm=>aaX _ (Vw n t hm),by rw[hg];exact⟨d,hd,by simp,λ _ L hL=>aaX _ (aaH _ hL)⟩⟩ rfl hh
    ·rename_i hb;have hb:b≠want:=by simpa using hb
     simp only[←cond_eq_ite]at h;exact step (uz o) _ ⟨hdst2 h,by rw[hg];exact⟨d,_,hd,hga,.inr ⟨by simpa using hb,rfl⟩⟩⟩ ⟨RZ,by rw[hg];exact⟨d,hd,by simp,λ e=>by rw[hga]at e;simp only[aae]at e;exact absurd e hb⟩⟩ rfl h
   ·rename_i d hga hd;rw[hd]at hga;exact step (uz o) _ ⟨hdst2 h,by rw[hg];exact⟨d,_,hd,hga,.inr ⟨by simp,rfl⟩⟩⟩ ⟨RZ,by rw[hg];exact⟨d,hd,by simp,λ e=>by rw[hga]at e;simp at e⟩⟩ rfl h
   ·cases h
end
end Go.AM
end
section
namespace Go.AM
open Go
section
variable {P:Program} {E:Env} {C:Ctx} {s s':St} {a a':Act} {w w':World} {g g':Gh} {o:Oper} {Q:Exit->Act->World->Prop}
theorem Loc.RY (L:Loc):L.same L=true:=by cases L<;>simp[Loc.same]
theorem U2 {M N L:Loc} (hm:M.cov L) (hn:N.cov L):M.same N=true:=by
 rcases hm with rfl|⟨n,rfl,rfl|⟨i,rfl⟩⟩
 ·rcases hn with rfl|⟨m,rfl,rfl|⟨j,rfl⟩⟩
  ·exact Loc.RY _
  ·simp[Loc.same]
  ·simp[Loc.same]
 ·rcases hn with rfl|⟨m,rfl,h|⟨j,h⟩⟩
  ·simp[Loc.same]
  ·cases h;simp[Loc.same]
  ·cases h
 ·rcases hn with rfl|⟨m,rfl,h|⟨j,h⟩⟩
  ·simp[Loc.same]
  ·cases h
  ·cases h;simp[Loc.same]
theorem Ig {L:Loc} {aZ bs:List Loc} (ha:Cov aZ L) (hb:Cov bs L):meets aZ bs=true:=by
 obtain⟨M,h1,h2⟩:=ha;obtain⟨N,h3,h4⟩:=hb;unfold meets;rw[abV];exact⟨M,h1,abV.2 ⟨N,h3,U2 h2 h4⟩⟩
theorem Cov.left {L:Loc} {aZ bs:List Loc} (h:Cov aZ L):Cov (aZ++bs) L:=let⟨M,h1,h2⟩:=h; ⟨M,aaH _ h1,h2⟩
theorem Cov.right {L:Loc} {aZ bs:List Loc} (h:Cov bs L):Cov (aZ++bs) L:=let⟨M,h1,h2⟩:=h; ⟨M,abl _ h1,h2⟩
def Loc.atom:Loc->Prop| .bx _=>False|_=>True
def qh (L:Loc) (s s':St):Prop:=Agree (· =L) s s'
theorem qh.refl (L:Loc) (s:St):qh L s s:=⟨λ _ _=>rfl,λ _ _=>rfl,λ _ _=> .inl rfl,λ _ _=>rfl,λ _ _ _=>rfl⟩
theorem qh.symm {L:Loc} (h:qh L s s'):qh L s' s:=⟨λ n e=>(h.tm n e).symm,λ n e=>(h.bx n e).symm,λ n e=>(h.id n e).symm,λ n e=>(h.bi n e).symm,λ n i e=>(h.bc n i e).symm⟩
theorem qh.trans {L:Loc} {s1 s2 s3:St} (h:qh L s1 s2) (k:qh L s2 s3):qh L s1 s3:=⟨λ n e=>(h.tm n e).trans (k.tm n e),λ n e=>(h.bx n e).trans (k.bx n e),λ n e=>(h.id n e).trans (k.id n e),λ n e=>(h.bi n e).trans (k.bi n e),λ n i e=>(h.bc n i e).trans (k.bc n i e)⟩
def wG (s s':St) (us:List Upd):Prop:= ∀n t,.keep n t∈us->SQ (s.tm n) (s'.tm n)
theorem wG.refl (s:St) (us:List Upd):wG s s us:=λ _ _ _=> .inl rfl
theorem KF {L:Loc} (ha:L.atom): ∀{us:List Upd} {s s':St},wG s s' us-> ¬Cov (zU s us) L->qh L (s'.dM us) s'
 | [],s,s',_,_=>qh.refl L s'
 |u::us,s,s',hk,h=>by
  have h: ¬Cov (u.sD s) L/\ ¬Cov (zU (u.on s) us) L:=⟨λ hc=>h hc.left,λ hc=>h hc.right⟩
  have hk2:wG (u.on s) (u.on s') us:=by
   intro n t hm;have h0:=hk n t (by simp[hm])
   cases u with
   |bx k b=>exact h0
   |cl k l=>exact h0
   |tm k t'=>
    simp only[Upd.on];by_cases hn:n=k
    ·subst hn;rw[bg,bg,h0.ver];exact .inl rfl
    ·rw[bF _ _ _ hn,bF _ _ _ hn];exact h0
   |keep k t'=>
    simp only[Upd.on];by_cases hn:n=k
    ·subst hn;rw[bg,bg,h0.ver];exact .inl rfl
    ·rw[bF _ _ _ hn,bF _ _ _ hn];exact h0
  refine(KF ha (us:=us) (s:=u.on s) (s':=u.on s') hk2 h.2).trans ?_;have h1:=h.1
  cases u with
  |tm k t=>
   refine⟨λ n e=> ?_,λ n _=>rfl,λ n e=> ?_,λ n _=>rfl,λ n i _=>rfl⟩
   ·have:n≠k:=by intro e2;subst e2;exact h1 (Cov.of (by simp[Upd.sD,e]))
    simp only[Upd.on];rw[bF _ _ _ this]
   ·have:n≠k:=by intro e2;subst e2;exact h1 (Cov.of (by simp[Upd.sD,e]))
    simp only[Upd.on];rw[bF _ _ _ this];exact .inl rfl
  |keep k t=>
   refine⟨λ n e=> ?_,λ n _=>rfl,λ n e=> ?_,λ n _=>rfl,λ n i _=>rfl⟩
   ·have:n≠k:=by
     intro e2;subst e2;refine h1 (Cov.of ?_);unfold Upd.sD;simp only[cond_eq_ite];split<;>simp[e]
    simp only[Upd.on];rw[bF _ _ _ this]
   ·by_cases hn:n=k
    ·subst hn
     have hs:Jt (s.tm n).1 t=true:=by
      cases hb:Jt (s.tm n).1 t with
      |true=>rfl
      |false=>exact absurd (Cov.of (by simp only[Upd.sD];rw[hb];simp[e])) h1
     have h0:=hk n t (by simp);simp only[Upd.on];rw[bg]
     have e1:SQ (t,(s'.tm n).2) (s.tm n):= .inr ⟨h0.ver.symm,by
      obtain⟨ag,cs,cs',k1,k2,k3,k4,k5⟩:=ql.1 hs;exact ql.2 ⟨ag,cs',cs,k2,k1,k4,k3,k5.symm⟩⟩
     exact e1.trans h0
    ·simp only[Upd.on];rw[bF _ _ _ hn];exact .inl rfl
  |bx k b=>
   have hn: ∀n,n=k-> ¬(Loc.bx k).cov L:=λ n _ hc=>h1 ⟨.bx k,by simp[Upd.sD],hc⟩;refine⟨λ n _=>rfl,λ n e=> ?_,λ n _=> .inl rfl,λ n e=> ?_,λ n i e=> ?_⟩
   ·rw[←e]at ha;exact ha.elim
   ·have:n≠k:=by intro e2;subst e2;exact hn n rfl (.inr ⟨n,rfl,.inl e.symm⟩)
    unfold bxI;simp only[Upd.on];rw[bF _ _ _ this]
   ·have:n≠k:=by intro e2;subst e2;exact hn n rfl (.inr ⟨n,rfl,.inr ⟨i,e.symm⟩⟩)
    unfold bxC;simp only[Upd.on];rw[bF _ _ _ this]
  |cl k l=>
   refine⟨λ n _=>rfl,λ n e=> ?_,λ n _=> .inl rfl,λ n e=>XQ _ _ _ _,λ n i e=> ?_⟩
   ·rw[←e]at ha;exact ha.elim
   ·rw[XP];split
    ·rename_i hn;subst hn;have: ∀c,c∈l->c.1≠i:=λ c hc hi=>h1 (Cov.of (by rw[←e];exact aaL.2 ⟨c,hc,by rw[hi]⟩))
     cases bxC s' n i with
     |none=>rfl
     |some x=>simp[OT l i x this]
    ·rfl
theorem St.afY {s s':St} (h: ∀L,L.atom->qh L s s'):s=s':=by
 have h1:s.tm=s'.tm:=funext λ n=>(h (.tm n) trivial).tm n rfl;have h2:s.bx=s'.bx:=funext λ n=>adQ ((h (.bi n) trivial).bi n rfl) λ i=>(h (.bc n i) trivial).bc n i rfl;cases s;cases s';simp only at h1 h2;subst h1 h2;rfl
def lG (U:Nat->List Upd) (s:St) (L:Nat->Bool):Nat->St
 |0=>s
 |n+1=>bif L n then(lG U s L n).dM (U n)else lG U s L n
def FZ (S:Nat->St) (U:Nat->List Upd) (s:St) (L:Nat->Bool) (n:Nat):Prop:= ∀j,j<n->L j=true->wG (S j) (lG U s L j) (U j)
theorem FZ.one {S:Nat->St} {U:Nat->List Upd} {L:Nat->Bool} {l:Loc} (ha:l.atom) {n m:Nat} (h:FZ S U s L n) (hm:m<n) (hl: ¬Cov (zU (S m) (U m)) l):qh l (lG U s L (m+1)) (lG U s L m):=by
 simp only[lG]
 cases hb:L m with
 |true=>exact KF ha (h m hm hb) hl
 |false=>exact qh.refl _ _
theorem yc {s:St} {S:Nat->St} {U:Nat->List Upd} {L L':Nat->Bool} {l:Loc} (ha:l.atom): ∀{n:Nat},FZ S U s L n->FZ S U s L' n->(∀j,j<n->Cov (zU (S j) (U j)) l->L j=L' j)->qh l (lG U s L n) (lG U s L' n)
 |0,_,_,_=>qh.refl _ _
 |n+1,h1,h2,h=>by
  have ih:=yc ha (s:=s) (S:=S) (U:=U) (L:=L) (L':=L') (l:=l) (n:=n) (λ j hj=>h1 j (by omega)) (λ j hj=>h2 j (by omega)) λ j hj=>h j (by omega);by_cases hm:Cov (zU (S n) (U n)) l
  ·have e:=h n (by omega) hm;simp only[lG,e]
   cases L' n with
   |true=>exact Agree.dM ih _
   |false=>exact ih
  ·exact((h1.one ha (by omega) hm).trans ih).trans (h2.one ha (by omega) hm).symm
theorem Qo {S:Nat->St} {U:Nat->List Upd} {L L':Nat->Bool} {i:Nat}: ∀{n:Nat},i<n->L i=false->(∀j,L' j=(L j||Nat.beq j i))->FZ S U s L n->FZ S U s L' n->wG (S i) (lG U s L n) (U i)->
 (∀j,i<j->L j=true-> ∀l,Cov (zU (S j) (U j)) l-> ¬Cov (zU (S i) (U i)) l)->lG U s L' n=(lG U s L n).dM (U i):=by
 intro n hi hL hL' hk hk' hki hc;refine St.afY λ l ha=> ?_;by_cases hm:Cov (zU (S i) (U i)) l
 ·
  have key: ∀m,m<=n->i<m->qh l (lG U s L' m) ((lG U s L i).dM (U i))/\qh l (lG U s L m) (lG U s L i):=by
   intro m
   induction m with
   |zero=>intro _ h;omega
   |succ m ih=>
    intro hmn h;by_cases hmi:m=i
    ·subst hmi;have e1:L' m=true:=by rw[hL' m];simp
     have e2:lG U s L' (m+1)=(lG U s L' m).dM (U m):=by simp only[lG,e1,cond_true]
     have e3:lG U s L (m+1)=lG U s L m:=by simp only[lG,hL,cond_false]
     rw[e2,e3];refine⟨Agree.dM (yc ha (S:=S) (λ j hj=>hk' j (by omega)) (λ j hj=>hk j (by omega)) λ j hj _=> ?_) _,qh.refl _ _⟩;rw[hL' j];have:Nat.beq j m=false:=by rw[←abU];intro hb;have:=aal hb;omega
     simp[this]
    ·have him:i<m:=by omega
     obtain⟨k1,k2⟩:=ih (by omega) him
     have e1:L' m=L m:=by
      rw[hL' m];have:Nat.beq m i=false:=by rw[←abU];intro hb;exact hmi (aal hb)
      simp[this]
     cases hlm:L m with
     |false=>
      have e2:lG U s L' (m+1)=lG U s L' m:=by simp only[lG,e1,hlm,cond_false]
      have e3:lG U s L (m+1)=lG U s L m:=by simp only[lG,hlm,cond_false]
      rw[e2,e3];exact⟨k1,k2⟩
     |true=>
      have hn: ¬Cov (zU (S m) (U m)) l:=λ hq=>hc m him hlm l hq hm;exact⟨(hk'.one ha (by omega) hn).trans k1,(hk.one ha (by omega) hn).trans k2⟩
  obtain⟨k1,k2⟩:=key n (aaq _) hi;exact k1.trans (Agree.dM k2.symm _)
 ·refine(yc ha (S:=S) (L':=L) hk' hk λ j hj hq=> ?_).trans (KF ha hki hm).symm;rw[hL' j];have:Nat.beq j i=false:=by rw[←abU];intro hb;have:=aal hb;subst this;exact hm hq
  simp[this]
structure NC (E:Env) (all:List Oper) (ah:List (List Nat)) (N:Nat) (S:Nat->St) (U:Nat->List Upd) (F:Nat->BF):Prop where
 next: ∀i,i<N->S (i+1)=(S i).dM (U i)
 acts: ∀i o,i<N->all[i]? =some o->adI E all o (S i) (U i)
 reads: ∀i o,i<N->all[i]? =some o->Reads E all o (S i) (U i) (F i).r
 writes: ∀i,i<N->(F i).w=zU (S i) (U i)
 ahead: ∀i k,i<N->k<i->BF.clash (F k) (F i)=true->k∈ah.getD i []
theorem JJ {ahead:List Nat} {f:BF}: ∀{fs:List BF} {i:Nat},ordered ahead f fs i=true-> ∀k g,fs[k]? =some g->BF.clash g f=true->i+k∈ahead
 | [],_,_,k,g,hk,_=>by simp at hk
 |x::xs,i,h,k,g,hk,hc=>by
  simp only[ordered,aad]at h
  cases k with
  |zero=>
   simp only[aaM,aae]at hk;subst hk;have h1:=h.1;rw[hc]at h1;simp only[aa9,Bool.false_or,abV]at h1;obtain⟨y,hy,he⟩:=h1;have:=aal he;subst this;exact hy
  |succ k=>
   have:=JJ h.2 k g (by simpa using hk) hc;rw[show i+(k+1)=i+1+k by omega];exact this
theorem VY {draw:Bool} {all:List Oper} {ah:List (List Nat)}: ∀(os:List Oper) (j:Nat) (fs:List BF) (s:St) (fs':List BF) (S:Nat->St) (U:Nat->List Upd) (F0:Nat->BF),Iu E draw all ah os j fs s fs' S U->
 (∀i,os[i]? =all[j+i]?)->fs.length=j->(∀k,k<j->fs[k]? =some (F0 k))->
 ∃F:Nat->BF,(∀k,k<j->F k=F0 k)/\S j=s/\(∀i,j<=i->i<j+os.length->S (i+1)=(S i).dM (U i)/\(∀o,all[i]? =some o->adI E all o (S i) (U i)/\Reads E all o (S i) (U i) (F i).r)/\(F i).w=zU (S i) (U i)/\(draw=true-> ∀k,k<i->BF.clash (F k) (F i)=true->k∈ah.getD i []))
 | [],j,fs,s,fs',S,U,F0,h,_,_,_=>⟨F0,λ _ _=>rfl,h.2,λ i h1 h2=>by simp at h2;omega⟩
 |o::os,j,fs,s,fs',S,U,F0,⟨h1,h2,f,h3,h4,h5,h6⟩,hall,hlen,hfs=>by
  obtain⟨F,q1,q2,q3⟩:=VY os (j+1) (fs++[f]) (s.dM (U j)) fs' S U (λ k=>if k=j then f else F0 k) h6
   (λ i=>by have:=hall (i+1);rw[show j+1+i=j+(i+1) by omega,←this];simp) (by simp[hlen]) (λ k hk=>by
    by_cases hkj:k=j
    ·subst hkj;simp[hlen]
    ·rw[if_neg hkj,aax (by omega)];exact hfs k (by omega))
  have hFj:F j=f:=by rw[q1 j (by omega)];simp
  have hFk: ∀k,k<j->F k=F0 k:=λ k hk=>by rw[q1 k (by omega)];simp[show k≠j by omega]
  refine⟨F,hFk,h1,λ i hi1 hi2=> ?_⟩;by_cases hij:i=j
  ·subst hij;have ho:all[i]? =some o:=by have:=hall 0;simpa using this.symm
   refine⟨by rw[q2,h1],λ o' ho'=> ?_,by rw[hFj,h1];exact h4,λ hd k hk hc=> ?_⟩
   ·rw[ho]at ho';cases ho';rw[h1,hFj];exact⟨h2,h3⟩
   ·rw[hFj,hFk k hk]at hc;have:=JJ (h5 hd) k _ (hfs k hk) hc;simpa using this
  ·exact q3 i (by omega) (by simp at hi2 ⊢;omega)
def Closed (ops:List Oper) (L:Nat->Bool):Prop:= ∀i o,ops[i]? =some o->L i=true-> ∀e,e∈o.after.toList->Region.binds .any e=true->L e.on=true
theorem NG {ops:List Oper} {L:Nat->Bool} (hc:Closed ops L) {acc:List (List Nat)} (hacc: ∀i k,k∈acc.getD i []->L i=true->L k=true): ∀{es:List Edge} {k:Nat},k∈xu acc es->(∀e,e∈es->Region.binds .any e=true->L e.on=true)->L k=true
 | [],_,h,_=>by simp[xu]at h
 |e::es,k,h,he=>by
  simp only[xu,cond_eq_ite]at h;split at h
  ·rename_i hb;have hon:=he e (by simp) hb;simp only[aaR,aau]at h;rcases h with rfl|h|h
   ·exact hon
   ·exact hacc _ _ h hon
   ·exact NG hc hacc h λ e' h'=>he e' (by simp[h'])
  ·exact NG hc hacc h λ e' h'=>he e' (by simp[h'])
theorem PL {ops:List Oper} {L:Nat->Bool} (hc:Closed ops L): ∀(os:List Oper) (acc:List (List Nat)),(∀i,os[i]? =ops[acc.length+i]?)->(∀i k,k∈acc.getD i []->L i=true->L k=true)->
 ∀i k,k∈(Md os acc).getD i []->L i=true->L k=true
 | [],acc,_,h=>h
 |o::os,acc,hall,h=>by
  refine PL hc os _ (λ i=> ?_) λ i k hk hi=> ?_
  ·have:=hall (i+1);simp only[aap,abe,acy];rw[show acc.length+(0+1)+i=acc.length+(i+1) by omega,←this];simp
  ·have ho:ops[acc.length]? =some o:=by have:=hall 0;simpa using this.symm
   rcases acE i acc.length with hlt|heq|hgt
   ·have:(acc++[xu acc o.after.toList]).getD i []=acc.getD i []:=by
     simp[abB,aax hlt]
    rw[this]at hk;exact h i k hk hi
   ·subst heq
    have:(acc++[xu acc o.after.toList]).getD acc.length []=xu acc o.after.toList:=by
     simp[abB]
    rw[this]at hk;exact NG hc h hk λ e he hb=>hc _ o ho hi e he hb
   ·have:(acc++[xu acc o.after.toList]).getD i []= []:=by
     rw[abB,aah (by simp;omega)];rfl
    rw[this]at hk;cases hk
theorem I8: ∀{os:List Oper} {j:Nat},Fe os j=true-> ∀i o,os[i]? =some o-> ∀e,e∈o.after.toList->Region.binds .any e=true->e.on<j+i
 | [],_,_,i,o,h,_,_,_=>by simp at h
 |x::xs,j,h,i,o,hi,e,he,hb=>by
  simp only[Fe,aad,aaV]at h
  cases i with
  |zero=>
   simp only[aaM,aae]at hi;subst hi;have:=h.1 e he;rw[hb]at this;have:=(Nat.blt_eq ..).mp (by simpa using this);omega
  |succ i=>
   have:=I8 h.2 i o (by simpa using hi) e he hb;omega
def jU (listed:Array Bool):Nat->Bool:=λ i=>listed.getD i false
theorem JY {ops:Array Oper} {listed:Array Bool} (hsz:listed.size=ops.size) {i:Nat}:i∈Region.ready .any ops listed ↔ ∃o,ops[i]? =some o/\jU listed i=false/\ ∀e,e∈o.after.toList->Region.binds .any e=true->jU listed e.on=true:=by
 unfold Region.ready jU;simp only[List.mem_filter,abW,aad,abj];constructor
 ·rintro⟨h1,h2,h3⟩;have hi:ops[i]? =some ops[i]:=aa1 h1;rw[hi]at h3;simp only[aaK,abq,Array.all_eq_true_iff_forall_mem,abO,abj]at h3;refine⟨_,hi,?_,λ e he hb=> ?_⟩
  ·have hl:i<listed.size:=by omega
   simp only[aa4,aa1 hl,abq]at h2 ⊢;exact h2
  ·rcases h3 e (by simpa using he)with h|h
   ·rw[hb]at h;cases h
   ·exact h
 ·rintro⟨o,ho,h2,h3⟩
  have hlt:i<ops.size:=by
   rw[abo]at ho;exact ho.1
  refine⟨hlt,?_,?_⟩
  ·have hl:i<listed.size:=by omega
   simp only[aa4,aa1 hl,abq]at h2 ⊢;exact h2
  ·rw[ho];simp only[aaK,abq,Array.all_eq_true_iff_forall_mem,abO,abj];intro e he
   cases hb:Region.binds .any e with
   |false=>exact .inl rfl
   |true=>exact .inr (h3 e (by simpa using he) hb)
theorem Wi {ops:Array Oper} {listed:Array Bool} (hsz:listed.size=ops.size) (he:Fe ops.toList 0=true) (hr:Region.ready .any ops listed= []): ∀i,i<ops.size->jU listed i=true:=by
 intro i
 induction i using Nat.strongRecOn with
 |_ i ih=>
  intro hi;rw[←Bool.not_eq_false];intro hf;have ho:ops[i]? =some ops[i]:=aa1 hi
  have:i∈Region.ready .any ops listed:=(JY hsz).2 ⟨_,ho,hf,λ e hee hb=>by
   have:=I8 he i ops[i] (by simp) e hee hb;exact ih e.on (by omega) (by omega)⟩
  rw[hr]at this;cases this
theorem xZ {E:Env} {all:List Oper} {ah:List (List Nat)} {N:Nat} {S:Nat->St} {U:Nat->List Upd} {F:Nat->BF} (h:NC E all ah N S U F) {L:Nat->Bool}: ∀n,n<=N->(∀j,j<n->L j=true)->lG U (S 0) L n=S n
 |0,_,_=>rfl
 |n+1,hn,hl=>by
  simp only[lG,hl n (by omega),cond_true];rw[xZ h n (by omega) λ j hj=>hl j (by omega),h.next n (by omega)]
theorem TG {E:Env} {all:List Oper} {ah:List (List Nat)} {N:Nat} {S:Nat->St} {U:Nat->List Upd} {F:Nat->BF} (h:NC E all ah N S U F) (hall: ∀i,i<N-> ∃o,all[i]? =some o) {L:Nat->Bool} (hL: ∀i k,k∈ah.getD i []->L i=true->L k=true):
 ∀n,n<=N->FZ S U (S 0) L n
 |0,_=>λ j hj=>absurd hj (by omega)
 |n+1,hn=>by
  have ih:=TG h hall hL n (by omega);intro j hj hlj;by_cases hjn:j<n
  ·exact ih j hjn hlj
  obtain rfl:j=n:=by omega
  intro m t hm;obtain⟨o,ho⟩:=hall j (by omega);have hr:=(h.reads j o (by omega) ho).1 m t hm
  have hall2:FZ S U (S 0) (λ _=>true) j:=λ k hk _=>by
   rw[xZ h k (by omega) λ _ _=>rfl];exact wG.refl _ _
  have hsame:=yc (l:= .id m) trivial (S:=S) hall2 ih λ k hk hw=>by
   rw[←h.writes k (by omega)]at hw
   have hc:BF.clash (F k) (F j)=true:=by
    unfold BF.clash;rw[Ig hw (Cov.of (aaH _ hr))];rfl
   exact(hL j k (h.ahead j k (by omega) hk hc) hlj).symm
  rw[xZ h j (by omega) λ _ _=>rfl]at hsame;exact hsame.id m rfl
theorem any_ok (hE:PD P E) {ops:Array Oper} {S:Nat->St} {U:Nat->List Upd} {F:Nat->BF} (hs:NC E ops.toList (Md ops.toList []) ops.size S U F) (he:Fe ops.toList 0=true)
 (hQ: ∀a w g,Rel E C (S ops.size) a w g->Q .normal a w): ∀(fuel:Nat) (listed:Array Bool) (a:Act) (w:World) (g:Gh),listed.size=ops.size->listed.toList.countP (! ·)<=fuel->Closed ops.toList (jU listed)->
  Rel E C (lG U (S 0) (jU listed) ops.size) a w g->wpAny P .any ops Q fuel listed a w:=by
 have fin: ∀(listed:Array Bool) (a:Act) (w:World) (g:Gh),listed.size=ops.size->Rel E C (lG U (S 0) (jU listed) ops.size) a w g->Region.ready .any ops listed= []->Q .normal a w:=by
  intro listed a w g hsz hr hn;have:=Wi hsz he hn;rw[xZ hs _ (aaq _) this]at hr;exact hQ a w g hr
 intro fuel
 induction fuel with
 |zero=>
  intro listed a w g hsz hc hcl hr
  have hn:Region.ready .any ops listed= []:=by
   rw[List.eq_nil_iff_forall_not_mem];intro i hi;obtain⟨o,ho,hf,_⟩:=(JY hsz).1 hi;have hlt:i<listed.size:=by rw[hsz];rw[abo]at ho;exact ho.1
   have h0:listed.toList.countP (! ·)=0:=by omega
   rw[List.countP_eq_zero]at h0;have:=h0 listed[i] (by simp);simp only[jU,aa4,aa1 hlt,abq]at hf;rw[hf]at this;simp at this
  exact⟨hn,fin listed a w g hsz hr hn⟩
 |succ fuel ih=>
  intro listed a w g hsz hc hcl hr;refine⟨fin listed a w g hsz hr,λ i hi=> ?_⟩;obtain⟨o,ho,hf,hpre⟩:=(JY hsz).1 hi;have hlt:i<ops.size:=by rw[abo]at ho;exact ho.1
  have hll:i<listed.size:=by omega
  have hol:ops.toList[i]? =some o:=by simpa using ho
  have hah: ∀(L:Nat->Bool),Closed ops.toList L-> ∀i k,k∈(Md ops.toList []).getD i []->L i=true->L k=true:=λ L hL=>PL hL ops.toList [] (λ i=>by simp) (λ i k hk=>by simp at hk)
  let listed':=listed.setIfInBounds i true
  have hL': ∀j,jU listed' j=(jU listed j||Nat.beq j i):=by
   intro j;simp only[jU,listed',aa4,Array.getElem?_setIfInBounds];by_cases hj:i=j
   ·subst hj;simp[hll]
   ·have:Nat.beq j i=false:=by rw[←abU];intro hb;exact hj (aal hb).symm
    simp[hj,this]
  have hcl':Closed ops.toList (jU listed'):=by
   intro k o' hk hl e hee hb;rw[hL' k]at hl;rw[hL' e.on];simp only[abO]at hl ⊢;rcases hl with hl|hl
   ·exact .inl (hcl k o' hk hl e hee hb)
   ·have:=aal hl;subst this;rw[hol]at hk;cases hk;exact .inl (hpre e hee hb)
  have hi':jU listed' i=true:=by rw[hL' i];simp
  have hbef: ∀k,k<i->BF.clash (F k) (F i)=true->jU listed k=true:=by
   intro k hk hcl2;have h1:=hs.ahead i k hlt hk hcl2;have h2:=hah _ hcl' i k h1 hi';rw[hL' k]at h2;have:Nat.beq k i=false:=by rw[←abU];intro hb;have:=aal hb;omega
   simpa [this]using h2
  have haft: ∀j,i<j->j<ops.size->jU listed j=true->BF.clash (F i) (F j)=false:=by
   intro j hj hjs hl;rw[←abU];intro hcl2;have h1:=hs.ahead j i hjs hj hcl2;have h2:=hah _ hcl j i h1 hl;rw[hf]at h2;cases h2
  have out: ∀j,ops.size<=j->jU listed j=false:=by
   intro j hj;simp only[jU,aa4];rw[ab1 (by omega)];rfl
  have hall: ∀i,i<ops.size-> ∃o,ops.toList[i]? =some o:=λ i hi=>⟨ops[i],by simp[hi]⟩;have hfo:=TG hs hall (hah _ hcl) ops.size (aaq _);have hfo':=TG hs hall (hah _ hcl') ops.size (aaq _);have hacts:=hs.acts i o hlt hol;have hreads:=hs.reads i o hlt hol
  have hagree:Agree (Cov (F i).r) (S i) (lG U (S 0) (jU listed) ops.size):=by
   have hSi:S i=lG U (S 0) (λ j=>decide (j<i)) ops.size:=by
    have h1:=xZ hs (L:=λ j=>decide (j<i)) i (by omega) (by simp);rw[←h1]
    have h2: ∀m,lG U (S 0) (λ j=>decide (j<i)) (i+m)=lG U (S 0) (λ j=>decide (j<i)) i:=by
     intro m
     induction m with
     |zero=>rfl
     |succ m ih=>rw[show i+(m+1)=(i+m)+1 by omega];simp only[lG];rw[show decide (i+m<i)=false by simp,cond_false,ih]
    have:=h2 (ops.size-i);rw[show i+(ops.size-i)=ops.size by omega]at this;exact this.symm
   have one: ∀l,l.atom->Cov (F i).r l->qh l (S i) (lG U (S 0) (jU listed) ops.size):=by
    intro l ha hl;rw[hSi];refine yc ha (S:=S) (λ j hj hji=> ?_) hfo λ j hj hw=> ?_
    ·have hji:j<i:=by simpa using hji
     have e1:lG U (S 0) (λ j=>decide (j<i)) j=S j:=xZ hs j (by omega) λ k hk=>by simp;omega
     rw[e1];exact wG.refl _ _
    rw[←hs.writes j hj]at hw;rcases acE j i with h|h|h
    ·have:BF.clash (F j) (F i)=true:=by
      unfold BF.clash;rw[Ig hw hl.left];rfl
     rw[hbef j h this];simp[h]
    ·subst h;rw[hf];simp
    ·have e1:decide (j<i)=false:=by simp;omega
     rw[e1]
     cases hlj:jU listed j with
     |false=>rfl
     |true=>
      have h1:=haft j h hj hlj;unfold BF.clash at h1;rw[Ig hw hl]at h1;simp at h1
   refine⟨λ n hn=>(one (.tm n) trivial hn).tm n rfl,λ n hn=> ?_,λ n hn=>(one (.id n) trivial hn).id n rfl,λ n hn=>(one (.bi n) trivial hn).bi n rfl,λ n i hn=>(one (.bc n i) trivial hn).bc n i rfl⟩
   have hm: .bx n∈(F i).r:=by
    obtain⟨M,h1,rfl|⟨m,_,h|⟨_,h⟩⟩⟩:=hn
    ·exact h1
    ·cases h
    ·cases h
   exact adQ ((one (.bi n) trivial ⟨_,hm,.inr ⟨n,rfl,.inl rfl⟩⟩).bi n rfl) λ i=>(one (.bc n i) trivial ⟨_,hm,.inr ⟨n,rfl,.inr ⟨i,rfl⟩⟩⟩).bc n i rfl
  have hacts':=Wh hagree hacts hreads;refine XD hE hr ho hacts' λ a' w' g' hr'=> ?_;refine ih listed' a' w' g' (by simp[listed',hsz]) ?_ hcl' ?_
  ·have hlt2:i<listed.toList.length:=by simpa using hll
   have hfi:listed.toList[i]=false:=by
    simp only[jU,aa4,aa1 hll,abq]at hf;simpa using hf
   have hpos:0<listed.toList.countP (! ·):=List.countP_pos_iff.2 ⟨false,by rw[←hfi];exact aag hlt2,rfl⟩;have:listed'.toList=listed.toList.set i true:=by simp[listed']
   rw[this,List.countP_set hlt2,hfi];simp;simp at hc hpos;omega
  ·rw[Qo (S:=S) hlt hf hL' hfo hfo' (λ m t hm=>hagree.id m (Cov.of (hreads.1 m t hm))) λ j hj hlj l hl hli=> ?_]
   ·exact hr'
   ·have hjs:j<ops.size:=by
     rcases aaE j ops.size with h|h
     ·exact h
     ·rw[out j h]at hlj;cases hlj
    have:=haft j hj hjs hlj;rw[←hs.writes j hjs]at hl;rw[←hs.writes i hlt]at hli;unfold BF.clash at this;rw[Ig hli hl.right]at this;simp at this
end
end Go.AM
end
