import Derived.Test.YtdchbjmbgecejaaGreatDoorMb
import Derived.Orders
section
set_option linter.unusedVariables false
namespace Go.AM
open Go
section
variable {P:Program} {E:Env} {C:Ctx} {s s':St} {a a':Act} {w w':World} {g g':Gh} {o:Oper} {Q:Exit→Act→World→Prop}
def Tg.moves:Tg→Bool| .own=>true| .tip=>true|_=>false
theorem nX: ∀{cs:List CV} {want:List (Sh×Tg)} {ds:List CV},weaken cs want=some ds→cs.length=want.length∧ds.length=want.length∧
 ∀(k:Nat) (c:CV),cs[k]? =some c→ ∃sh tg,want[k]? =some (sh,tg)∧ds[k]? =some (c.to tg)∧c.sh=sh∧Tg.le tg c.tg=true∧(fV cs want)[k]? =some (bif c.isPure then c else leftAs c tg)
 | [],[],ds,h=>by
   simp only[weaken,Option.some.injEq]at h;subst h
   exact⟨rfl,rfl,fun k c hc=>by simp at hc⟩
 | [],_::_,ds,h=>by simp[weaken]at h
 |_::_,[],ds,h=>by simp[weaken]at h
 |c::cs,(sh,tg)::want,ds,h=>by
  simp only[weaken,cond_eq_ite,Bool.and_eq_true]at h
  split at h
  ·rename_i hc
   obtain⟨d',hd',rfl⟩:=Option.map_eq_some_iff.1 h
   obtain⟨h1,h2,h3⟩:=nX hd'
   refine⟨by simp[h1],by simp[h2],fun k c' hc'=> ?_⟩
   cases k with
   |zero=>simp at hc';subst hc';exact⟨sh,tg,rfl,rfl,Sh.eq_of_beq hc.1.1,hc.1.2,rfl⟩
   |succ k=>
    obtain⟨sh',tg',e1,e2,e3,e4,e5⟩:=h3 k c' (by simpa using hc')
    exact⟨sh',tg',by simpa using e1,by simpa using e2,e3,e4,by simpa [fV]using e5⟩
  ·cases h
theorem Vt (c:CV) (tg:Tg) (h:(leftAs c tg).tg= .own):leftAs c tg=c:=by
 obtain⟨sh,ct,x⟩:=c
 cases tg<;>cases ct<;>simp_all [leftAs,CV.kill,CV.to]
theorem HY: ∀{cs:List CV} {want:List (Sh×Tg)} {i:Nat} {d:CV},(fV cs want)[i]? =some d→d.tg= .own→cs[i]? =some d
 | [],_,i,d,h,_=>by simp[fV]at h
 |_::_,[],i,d,h,_=>by simp[fV]at h
 |c::cs,(sh,tg)::want,0,d,h,ho=>by
  simp only[fV,List.getElem?_cons_zero,Option.some.injEq]at h ⊢
  cases hp:c.isPure with
  |true=>rw[hp]at h;exact h
  |false=>
   rw[hp]at h
   simp only[cond_false]at h
   rw[←h]at ho ⊢
   exact(Vt c tg ho).symm
 |c::cs,(sh,tg)::want,i+1,d,h,ho=>by
  simpa using HY (cs:=cs) (want:=want) (i:=i) (by simpa [fV]using h) ho
theorem jl.aaR {ρ:aF→aF} {ow ow':aF} {c:CV} {v:Value} (hc:c.tg= .pure) (h:jl w g ow c v):jl w (g.ren ρ) ow' c v:=by
 have:=h.pure (w':=w) (g':=g.ren ρ) (ow':=ow') (show Keeps w w g.F (g.ren ρ).F from Keeps.refl w g.F) (by unfold CV.isPure;rw[hc];rfl)
 exact this
theorem aC.frB {K:aF→Prop} {w w':World} {g g':Gh} (f:Fr K w w' g g') {mk:Nat→aF}: ∀(cs:List CV) (i:Nat) (vs:List Value),(∀j,i≤j→j<i+cs.length→K (mk j))→aC w g mk i cs vs→aC w' g' mk i cs vs
 | [],_,_,_,h=>h
 |c::cs,i,_,hk,⟨v,ws,e,h1,h⟩=>⟨v,ws,e,h1.fr f (hk i (Nat.le_refl _) (by simp)),aC.frB f cs (i+1) ws (fun j h1 h2=>hk j (by omega) (by simp;omega)) h⟩
theorem zC (h:Rel E C s a w g) {hs:List CV} {hv:List Value} (hh:aC w g .hand 0 hs hv) {p:Pl} {m:Nat} {cs ds:List CV} {want:List (Sh×Tg)} {us:List Upd} (hc:aU s p m=some cs) (hw:weaken cs want=some ds)
 (hu:iY s p (fV cs want) false=some us):
 ∃g',Rel E C (s.dI us) a w g'∧aC w g' .hand 0 (hs++ds) (hv++((aB a w g p.root).drop p.cell).take m)∧g'.at_=g.at_∧Keeps w w g.F g'.F∧(∀b n,g.own b=some (.box n)→g'.own b=some (.box n)):=by
 obtain⟨hp,hl⟩:=h.pl hc
 obtain⟨hwl,hdl,hget⟩:=nX hw
 obtain⟨g1,f1,b1,o1,a1,hd1,hl1,_,_,hsh1⟩:=Au (uD p.root) cs want ds p.cell _ g h.base hw hp
 let mv:Nat→Bool:=fun j=>decide (p.cell≤j∧j<p.cell+m)&&(match want[j-p.cell]? with|some (_,tg)=>tg.moves|none=>false)
 let ρ:aF→aF:=fun o=>match p.root,o with
  | .tmp n,.tm k j=>if k=n∧mv j=true then .hand (hs.length+(j-p.cell))else o
  | .box n,.cell k j=>if k=n∧mv j=true then .hand (hs.length+(j-p.cell))else o
  |_,o=>o
 have hmv: ∀j,mv j=true→p.cell≤j∧j<p.cell+m:=fun j hj=>by
  simp only[mv,Bool.and_eq_true,decide_eq_true_eq]at hj;exact hj.1
 have hfix: ∀o,(∀j,mv j=true→o≠dF p.root j)→ρ o=o:=by
  intro o ho
  simp only[ρ]
  cases hr:p.root with
  |tmp n=>
   cases o<;>simp only
   rename_i k j
   split
   ·rename_i hk;exact absurd (by rw[hr,hk.1];rfl) (ho j hk.2)
   ·rfl
  |box n=>
   cases o<;>simp only
   rename_i k j
   split
   ·rename_i hk;exact absurd (by rw[hr,hk.1];rfl) (ho j hk.2)
   ·rfl
 have hhand: ∀i,ρ (.hand i)= .hand i:=fun i=>hfix _ (fun j _=>by cases p.root<;>simp[dF])
 have hmove: ∀k,mv (p.cell+k)=true→ρ (dF p.root (p.cell+k))= .hand (hs.length+k):=by
  intro k hk
  simp only[ρ]
  cases hr:p.root with
  |tmp n=>simp only[dF];rw[if_pos ⟨trivial,hk⟩];congr 1;omega
  |box n=>simp only[dF];rw[if_pos ⟨trivial,hk⟩];congr 1;omega
 have hlen:(fV cs want).length=cs.length:=by have:=congrArg List.length hsh1;simpa using this
 have hvl:=hp.length
 have hleft:aC w (g1.ren ρ) (dF p.root) p.cell (fV cs want) (((aB a w g p.root).drop p.cell).take m):=by
  refine aC.of _ _ _ (by rw[hlen];exact hvl) fun k c v hk hv=> ?_
  have hkl:k<cs.length:=by
   rw[←hlen];rcases Nat.lt_or_ge k (fV cs want).length with h|h
   ·exact h
   ·simp[List.getElem?_eq_none h]at hk
  obtain⟨sh,tg,e1,e2,_,e4,e5⟩:=hget k cs[k] (List.getElem?_eq_getElem hkl)
  obtain⟨u,hu',hr⟩:=hl1.get _ p.cell _ k c hk
  rw[hu']at hv;cases hv
  rw[e5]at hk;cases hk
  cases hmvk:tg.moves with
  |true=>
   have hnp:cs[k].isPure=false:=by
    unfold CV.isPure
    cases htg:cs[k].tg<;>rw[htg]at e4<;>first|rfl|(cases tg<;>simp_all [Tg.moves,Tg.le])
   rw[hnp]at hr ⊢
   simp only[cond_false]at hr ⊢
   have:leftAs cs[k] tg=cs[k].kill:=by cases tg<;>first|rfl|simp[Tg.moves]at hmvk
   rw[this];exact trivial
  |false=>
   have hρ:ρ (dF p.root (p.cell+k))=dF p.root (p.cell+k):=hfix _ fun j hj e=>by
    have:=uD p.root _ _ e
    subst this
    simp only[mv,Bool.and_eq_true]at hj
    rw[show p.cell+k-p.cell=k by omega,e1]at hj
    simp only[hmvk]at hj
    exact absurd hj.2 (by simp)
   have:=hr.ren (ρ:=ρ)
   rwa [hρ]at this
 have hhd:aC w (g1.ren ρ) .hand hs.length ds (((aB a w g p.root).drop p.cell).take m):=by
  refine aC.of _ _ _ (by omega) fun k c v hk hv=> ?_
  have hkl:k<cs.length:=by
   rcases Nat.lt_or_ge k ds.length with h|h
   ·omega
   ·simp[List.getElem?_eq_none h]at hk
  obtain⟨sh,tg,e1,e2,_,e4,e5⟩:=hget k cs[k] (List.getElem?_eq_getElem hkl)
  obtain⟨u,hu',hr⟩:=hd1.get _ p.cell _ k c hk
  rw[hu']at hv;cases hv
  rw[e2]at hk;cases hk
  cases hmvk:tg.moves with
  |true=>
   have:=hr.ren (ρ:=ρ)
   rwa [hmove k (by
    simp only[mv,Bool.and_eq_true,decide_eq_true_eq]
    exact⟨by omega,by rw[show p.cell+k-p.cell=k by omega,e1];exact hmvk⟩)]at this
  |false=>
   cases tg with
   |pure=>exact jl.aaR rfl hr
   |dead=>exact trivial
   |own=>cases hmvk
   |tip=>cases hmvk
 have f2:Fr (fun o=>(∀j,p.cell≤j→j<p.cell+cs.length→o≠dF p.root j)∧ ∀j,o≠ .hand j) w w g (g1.ren ρ):=
  (f1.mono fun o ho=>ho.1).trans (Fr.ren w g1 fun o ho=>hfix o fun j hj e=>by
   obtain⟨h1,h2⟩:=hmv j hj
   exact ho.1 j h1 (by omega) e)
 refine⟨g1.ren ρ,?_,?_,a1,f1.keeps,fun b n e=> ?_⟩
 ·refine jD h (ds:=fV cs want) (by rw[hlen,hl];exact hc) hu hsh1 (by rw[hlen];exact f2) (b1.ren ρ) a1 ?_ (fun i es l' hi=>⟨l',HY hi rfl,fun _ _ _ _=>rfl⟩)
  rw[hlen,hl];exact hleft
 ·refine aC.append hs 0 hv ds _ ?_ (by rw[Nat.zero_add];exact hhd)
  have h1:aC w g1 .hand 0 hs hv:=aC.fr (K:=fun o=> ∃i,o= .hand i) (f1.mono fun o ⟨i,e⟩ j _ _=>by subst e;cases p.root<;>simp[dF]) hs 0 hv (fun j=>⟨j,rfl⟩) hh
  exact aC.ren hs 0 0 hv (fun k _=>by simpa using hhand (0+k)) h1
 ·have e1:g1.own b=some (.box n):=by rw[o1];exact e
  simp only[Gh.ren,e1,Option.map_some]
  rw[hfix _ fun j _=>by cases p.root<;>simp[dF]]
theorem Sh.beq_refl: ∀sh:Sh,Sh.beq sh sh=true:=by
 intro sh
 induction sh using Sh.rec (motive_2:=fun aZ=>Sh.Hq aZ aZ=true)with
 |int k=>simp[Sh.beq]
 |bool=>rfl
 |str=>rfl
 |sl es ih=>simpa [Sh.beq]using ih
 |rsl es ih=>simpa [Sh.beq]using ih
 |dl es ih=>simpa [Sh.beq]using ih
 |mp k e ih1 ih2=>simp[Sh.beq,ih1,ih2]
 |nil=>rfl
 |cons s ss ih1 ih2=>simp[Sh.Hq,ih1,ih2]
theorem uO {mk mk':Nat→aF} {cs ds:List CV} {want:List (Sh×Tg)} {i j:Nat} {vs:List Value} (hp:bg cs=true) (hw:weaken cs want=some ds) (h:aC w g mk i cs vs):aC w g mk' j ds vs:=by
 obtain⟨hwl,hdl,hget⟩:=nX hw
 have hvl:=h.length
 refine aC.of _ _ _ (by omega) fun k c v hk hv=> ?_
 have hkl:k<cs.length:=by
  rcases Nat.lt_or_ge k ds.length with h|h
  ·omega
  ·simp[List.getElem?_eq_none h]at hk
 obtain⟨sh,tg,e1,e2,_,e4,_⟩:=hget k cs[k] (List.getElem?_eq_getElem hkl)
 obtain⟨u,hu,hr⟩:=h.get _ i _ k _ (List.getElem?_eq_getElem hkl)
 rw[hu]at hv;cases hv
 rw[e2]at hk;cases hk
 have hpc:=qQ hp cs[k] (List.getElem_mem hkl)
 rw[hpc]at e4
 cases tg with
 |dead=>exact trivial
 |pure=>exact(pY rfl).2 ((pY hpc).1 hr)
 |own=>simp[Tg.le]at e4
 |tip=>simp[Tg.le]at e4
def Tagged (cs:List CV) (want:List (Sh×Tg)):Prop:=cs.map (fun c=>(c.sh,c.tg))=want
theorem dV {cs ds:List CV} {want:List (Sh×Tg)} (hw:weaken cs want=some ds):Tagged ds want:=by
 obtain⟨hwl,hdl,hget⟩:=nX hw
 apply List.ext_getElem?
 intro k
 rw[List.getElem?_map]
 rcases Nat.lt_or_ge k cs.length with hk|hk
 ·obtain⟨sh,tg,e1,e2,e3,_,_⟩:=hget k cs[k] (List.getElem?_eq_getElem hk)
  rw[e1,e2,←e3];rfl
 ·rw[List.getElem?_eq_none (by omega),List.getElem?_eq_none (by omega)];rfl
theorem MK {ow:aF} {sh:Sh} (hpl:sh.oG=true) (tg:Tg):jl w g ow ((GU sh).to tg) (.slice none 0 0):=by
 have hsl:=eH hpl
 have hl:aP sh (jR sh)=0:=by cases sh<;>first|rfl|(simp[Sh.oN]at hsl)
 cases tg with
 |dead=>exact trivial
 |pure=>
  show iR w g.F sh (jR sh) _
  rw[vW hpl];exact⟨none,0,by rw[hl],by omega,.inl hl⟩
 |own=>
  show if sh.oN=true then yA w g ow false sh (jR sh) _ else _
  rw[if_pos hsl];exact .inl ⟨rfl,hl⟩
 |tip=>
  show if sh.oN=true then yA w g ow true sh (jR sh) _ else _
  rw[if_pos hsl];exact .inl ⟨rfl,hl⟩
theorem UR {want:List (Sh×Tg)} {ds:List CV} (h:(Y7 want).run=some ds): ∃sh tg,want= [(sh,tg)]∧sh.oG=true∧ds= [(GU sh).to tg]:=by
 unfold Y7 at h
 split at h
 ·obtain⟨h1,h⟩:=aV h
  exact⟨_,_,rfl,h1,(ak h).symm⟩
 ·exact(aj h).elim
theorem Ld {d:CV} {want:List (Sh×Tg)} {ds:List CV} (h:weaken [d] want=some ds): ∃tg,want= [(d.sh,tg)]∧ds= [d.to tg]∧Tg.le tg d.tg=true:=by
 match want,h with
 | [],h=>simp[weaken]at h
 | [(sh,tg)],h=>
   simp only[weaken,cond_eq_ite,Bool.and_eq_true]at h
   split at h
   ·rename_i hc
    simp only[Option.map_some,Option.some.injEq]at h
    exact⟨tg,by rw[Sh.eq_of_beq hc.1.1],h.symm,hc.1.2⟩
   ·cases h
 |(sh,tg)::y::ys,h=>
  simp only[weaken,cond_eq_ite,Bool.and_eq_true]at h
  split at h
  ·simp at h
  ·cases h
theorem Y1 (h:Rel E C s a w g) {hs:List CV} {hv:List Value} (hh:aC w g .hand 0 hs hv) {n:Nat} {p:Pl} {q c:CV} (hx:(s.tm n).1= .ext p q c) (hc:c.tg= .own):
 ∃g',Rel E C (s.dI [.keep n (.ext p q c.kill)]) a w g'∧aC w g' .hand 0 (hs++[c]) (hv++(a.eval (.tmp n)).cells.toList)∧g'.at_=g.at_∧Keeps w w g.F g'.F∧(∀b n,g.own b=some (.box n)→g'.own b=some (.box n))∧isAgg (a.eval (.tmp n))=false:=by
 have ht:=h.tm n
 rw[hx]at ht
 obtain⟨h0,h1,h2,h3,h4,h5,h6,h7,h8⟩:=ht
 let ρ:aF→aF:=fun o=>if o= .tm n 0 then .hand hs.length else o
 have hρ: ∀o,o≠ .tm n 0→ρ o=o:=fun o ho=>by simp only[ρ,if_neg ho]
 have hρ0:ρ (.tm n 0)= .hand hs.length:=by simp only[ρ,if_pos rfl]
 have hs1:s.dI [.keep n (.ext p q c.kill)]= {s with tm:=put s.tm n (.ext p q c.kill,(s.tm n).2)}:=rfl
 refine⟨g.ren ρ,h.IJ (Fr.ren w g fun o ho=>hρ o (ho.1 0)) (h.base.ren ρ) rfl (fun _ _ e=>by cases e) ?_,?_,rfl,Keeps.refl _ _,fun b m e=>by simp only[Gh.ren,e,Option.map_some,hρ _ (by simp:aF.box m≠ .tm n 0)],h3⟩
 ·rw[hs1]
  refine⟨⟨?_,h0.vers⟩,h1,h2,h3,?_,h5,h6,h7,fun e he=> ?_⟩
  ·refine Nat.le_trans h0.inst (Nat.le_of_eq ?_)
   cases p.root with
   |box m=>rfl
   |tmp m=>
    simp only[pF]
    by_cases hm:m=n
    ·subst hm;rw[aX]
    ·rw[bC _ _ _ hm]
  ·trivial
  ·have he':aU s p 1=some [e]:=by
    rw[←he]
    unfold aU
    cases hr:p.root with
    |box m=>rfl
    |tmp m=>
     simp only[aA]
     by_cases hm:m=n
     ·subst hm
      rw[aX]
      have:s.tm m=(.ext p q c,(s.tm m).2):=by rw[←hx]
      rw[this]
     ·rw[bC _ _ _ hm]
   obtain⟨u,hu,hx⟩:=h8 e he'
   refine⟨u,?_,?_⟩
   ·rw[←hu];cases p.root<;>rfl
   ·rcases hx with hx|hx
    ·exact .inl hx
    ·refine .inr ?_
     have:=hx.ren (ρ:=ρ)
     rwa [hρ _ (by simp)]at this
 ·refine aC.append hs 0 hv _ _ (aC.ren hs 0 0 _ (fun k _=>hρ _ (by simp)) hh) ?_
  rw[aH h3]
  refine⟨_,[],rfl,?_,rfl⟩
  have:=h4.ren (ρ:=ρ)
  rw[hρ0]at this
  simpa using this
theorem He (h:Rel E C s a w g) {hs:List CV} {hv:List Value} (hh:aC w g .hand 0 hs hv) {x:Operand} {ag:Bool} {want:List (Sh×Tg)} {ds:List CV} {us:List Upd} (hg:(Jr s (at_ E s x) x ag want).run=some (ds,us)):
 ∃g',Rel E C (s.dI us) a w g'∧aC w g' .hand 0 (hs++ds) (hv++(a.eval x).cells.toList)∧g'.at_=g.at_∧Keeps w w g.F g'.F∧(∀b n,g.own b=some (.box n)→g'.own b=some (.box n))∧isAgg (a.eval x)=ag∧Tagged ds want:=by
 unfold Jr at hg
 have stay: ∀{mk:Nat→aF} {i:Nat} {cs:List CV} {vs:List Value},aC w g mk i cs vs→bg cs=true→weaken cs want=some ds→us= []→vs=(a.eval x).cells.toList→isAgg (a.eval x)=ag→
  ∃g',Rel E C (s.dI us) a w g'∧aC w g' .hand 0 (hs++ds) (hv++(a.eval x).cells.toList)∧g'.at_=g.at_∧Keeps w w g.F g'.F∧(∀b n,g.own b=some (.box n)→g'.own b=some (.box n))∧isAgg (a.eval x)=ag∧Tagged ds want:=by
  intro mk i cs vs hc hp hw hu hvs hag
  subst hu;rw[←hvs]
  exact⟨g,h,aC.append hs 0 hv _ _ hh (uO hp hw hc),rfl,Keeps.refl _ _,fun _ _ e=>e,hag,dV hw⟩
 split at hg
 ·rename_i ag' cs hx
  have hv:=aK h hx (by simp)
  obtain⟨hag,hg⟩:=aV hg
  have hag:ag'=ag:=by simpa using hag
  split at hg
  ·exact(aj hg).elim
  ·rename_i ds' hw
   simp only[cond_eq_ite]at hg
   split at hg
   ·rename_i hp
    have:=ak hg
    simp only[Prod.mk.injEq]at this
    obtain⟨rfl,rfl⟩:=this
    exact stay hv.2 hp hw rfl rfl (hv.1.trans hag)
   ·cases x with
    |tmp n=>
     have:=ak hg
     simp only[Prod.mk.injEq]at this
     obtain⟨rfl,rfl⟩:=this
     have hx':(s.tm n).1= .val ag' cs:=hx
     have e:s.tm n=(.val ag' cs,(s.tm n).2):=by rw[←hx']
     have hpl:aU s ⟨.tmp n,(s.tm n).2,[],0,none⟩ cs.length=some cs:=by
      rw[bG]
      refine⟨cs.map fun c=>(c,(s.tm n).2),?_,by simp,by simp,by rw[←ou,lU];simp⟩
      simp only[aA];rw[e]
     have hll:(fV cs want).length=cs.length:=by
      obtain⟨h1,_,h3⟩:=nX hw
      have: ∀(cs:List CV) (want:List (Sh×Tg)),cs.length=want.length→(fV cs want).length=cs.length:=by
       intro cs
       induction cs with
       |nil=>intro want _;cases want<;>rfl
       |cons c cs ih=>
        intro want hl
        cases want with
        |nil=>simp at hl
        |cons y ys=>obtain⟨_,_⟩:=y;simp[fV,ih ys (by simpa using hl)]
      exact this cs want h1
     have hput:iY s ⟨.tmp n,(s.tm n).2,[],0,none⟩ (fV cs want) false=some [.keep n (.val ag' (fV cs want))]:=by
      simp only[iY];rw[e]
      simp only[cond_false,Nat.beq_refl,cond_true,vV _ _ hll]
     obtain⟨g',r,k,ea,kp,kb⟩:=zC h hh hpl hw hput
     have hlen:=hv.2.length
     have:((aB a w g (.tmp n)).drop 0).take cs.length=(a.eval (.tmp n)).cells.toList:=by
      simp only[aB,List.drop_zero];exact List.take_of_length_le (by omega)
     rw[this]at k
     exact⟨g',r,k,ea,kp,kb,hv.1.trans hag,dV hw⟩
    |const v=>exact(aj hg).elim
    |global v=>exact(aj hg).elim
    |func v=>exact(aj hg).elim
 ·rename_i p ag' n hx
  obtain⟨_,_,hsub,hv⟩:=aK h hx (by simp)
  obtain⟨hag,hg⟩:=aV hg
  have hag:ag'=ag:=by simpa using hag
  obtain⟨cs,hc,hg⟩:=aS hg
  have hc:=fO hsub hc
  obtain⟨h1,h2⟩:=hv _ hc
  unfold H9 at hg
  split at hg
  ·exact(aj hg).elim
  ·rename_i ds' hw
   simp only[cond_eq_ite]at hg
   split at hg
   ·rename_i hp
    have:=ak hg
    simp only[Prod.mk.injEq]at this
    obtain⟨rfl,rfl⟩:=this
    exact stay (h.pl hc).1 hp hw rfl h2.symm (h1.trans hag)
   ·rw[hsub]at hg
    simp only[]at hg
    split at hg
    ·rename_i us' hu
     have:=ak hg
     simp only[Prod.mk.injEq]at this
     obtain⟨rfl,rfl⟩:=this
     obtain⟨g',r,k,ea,kp,kb⟩:=zC h hh hc hw hu
     rw[←h2]at k
     rw[←OD hu]at r
     exact⟨g',r,k,ea,kp,kb,h1.trans hag,dV hw⟩
    ·exact(aj hg).elim
 ·rename_i p z lo hi hx
  obtain⟨_,_,hsub,_,hv⟩:=aK h hx (by simp)
  cases hag0:ag with
  |true=>rw[hag0]at hg;exact(aj hg).elim
  |false=>
   rw[hag0]at hg
   simp only[cond_false]at hg
   obtain⟨cs,hc,hg⟩:=aS hg
   have hc:=fO hsub hc
   obtain⟨c,rfl⟩:=DT hc
   simp only[]at hg
   split at hg
   ·exact(aj hg).elim
   ·rename_i d hd
    split at hg
    ·exact(aj hg).elim
    ·rename_i ds' hw
     obtain⟨hpu,hg⟩:=aV hg
     rw[hsub]at hg
     simp only[]at hg
     split at hg
     ·rename_i us' hu
      have:=ak hg
      simp only[Prod.mk.injEq]at this
      obtain⟨rfl,rfl⟩:=this
      obtain⟨hsl,hnd,rfl⟩:=qA hd
      obtain⟨tg,rfl,rfl,hle⟩:=Ld hw
      have htg:tg= .pure:=by
       have:=qQ hpu _ (List.mem_singleton.2 rfl);exact this
      subst htg
      obtain⟨A,l,k,e1,h1,h2,h3,h4⟩:=hv c hc
      have hw1:weaken [c] [(c.sh,.pure)]=some [c.to .pure]:=by
       have hle':Tg.le .pure c.tg=true:=hle
       have hdl:c.sh.YM .pure=true:=by cases hs:c.sh<;>first|rfl|(rw[hs]at hsl;simp[Sh.oG]at hsl)
       simp[weaken,Sh.beq_refl,hle',hdl]
      obtain⟨g',r,hcs,ea,kp,kb⟩:=zC h hh hc hw1 hu
      obtain⟨u,e2,_,e3⟩:=nT h hc
      rw[e1]at e2;cases e2
      rw[e3]at hcs
      obtain⟨l1,l2,l3⟩:=qy.1 hcs
      have hagx:isAgg (a.eval x)=false:=by rw[h4];rfl
      refine⟨g',r,?_,ea,kp,kb,hagx,dV hw⟩
      rw[aH hagx]
      refine qy.2 ⟨l1,l2,?_⟩
      rw[h4]
      exact iR.sub hsl l3 h1 h2
     ·exact(aj hg).elim
 ·rename_i hx
  cases hag0:ag with
  |true=>rw[hag0]at hg;exact(aj hg).elim
  |false=>
   rw[hag0]at hg
   simp only[cond_false]at hg
   obtain⟨ds',hn,hg⟩:=aS hg
   have:=ak hg
   simp only[Prod.mk.injEq]at this
   obtain⟨rfl,rfl⟩:=this
   obtain⟨sh,tg,rfl,hsl,rfl⟩:=UR hn
   have hval:a.eval x= .slice none 0 0:=by
    rcases h.at_ x with⟨_,e⟩|e
    ·exact e
    ·rw[hx]at e;exact e.elim
   rw[hval]
   exact⟨g,h,qy.2 ⟨hh.length,hh,MK hsl tg⟩,rfl,Keeps.refl _ _,fun _ _ e=>e,rfl,rfl⟩
 ·rename_i p ag' n hx
  have hv:=aK h hx (by simp)
  obtain⟨hagg,hg⟩:(ag'=false∧ag=false)∧_:=by
   cases ag'<;>cases ag<;>first|exact⟨⟨rfl,rfl⟩,hg⟩|exact(aj hg).elim
  obtain⟨rfl,rfl⟩:=hagg
  simp only[Bool.or_self,cond_false]at hg
  split at hg
  ·rename_i c i j hd
   obtain⟨cs,hrp,hg⟩:=aS hg
   split at hg
   ·rename_i e sh tg c' hm q1 q2
    split at hg
    ·rename_i ds' us' hw hu
     have:=ak hg
     simp only[Prod.mk.injEq]at this
     obtain⟨rfl,rfl⟩:=this
     obtain⟨g',r,hag2,k,ea,kp,kb⟩:=Oa (mk:=UC x) h hh hv hd hrp hm hu
     have htag:=dV hw
     simp only[weaken,cond_eq_ite,Option.map_some]at hw
     split at hw
     ·rename_i hc
      simp only[Bool.and_eq_true]at hc
      simp only[Option.some.injEq]at hw
      subst hw
      rw[aH hag2]at k ⊢
      obtain⟨hl,hhs,hr⟩:=qy.1 k
      obtain⟨g1,f1,b1,o1,a1,p1,_⟩:=hr.weak r.base hc.1.2 (by rw[Sh.eq_of_beq hc.1.1];exact hc.2)
      refine⟨g1,r.world (f1.mono fun o ho=>ho _) b1 a1,qy.2 ⟨hl,aC.frB f1 hs 0 _ (fun q _ hq e=>by simp at e;omega) hhs,p1⟩,a1.trans ea,kp.trans f1.keeps,fun b n e=>by rw[o1];exact kb b n e,hag2,htag⟩
     ·cases hw
    ·exact(aj hg).elim
   ·exact(aj hg).elim
  ·exact(aj hg).elim
 ·rename_i p q c hx
  split at hg
  ·rename_i sh n
   obtain⟨hc,hg⟩:=aV hg
   simp only[Bool.and_eq_true,Bool.not_eq_true']at hc
   obtain⟨⟨hag,hsh⟩,hco⟩:=hc
   have:=ak hg
   simp only[Prod.mk.injEq]at this
   obtain⟨rfl,rfl⟩:=this
   have hct:c.tg= .own:=by unfold Tg.Dv at hco;split at hco<;>simp_all
   obtain⟨g',r,k,ea,kp,kb,h3⟩:=Y1 h hh hx hct
   exact⟨g',r,k,ea,kp,kb,h3.trans hag.symm,by simp[Tagged,Sh.eq_of_beq hsh,hct]⟩
  ·exact(aj hg).elim
 ·exact(aj hg).elim
def KY (w:World) (g:Gh):PK→Option Nat→Value→List Value→Prop
 | .val ag _,none,v,sg=>isAgg v=ag∧v.cells.toList=sg
 | .rptr want,none,v,sg=>(∃b off,v= .pointer (some ⟨b,off,none⟩)∧NZ w g.F ⟨b,off,none⟩ sg)∧want.all (·.2.isPure)=true
 | .ptr _,some n,v,sg=>v= .pointer (some ⟨g.at_ n,0,none⟩)∧g.own (g.at_ n)=some (.box n)∧ ∃cur et,w.heap[g.at_ n]? =some (.cells cur et (0,0))∧sg=cur.toList
 | .fn f,none,v,_=>v= .func (.func f) #[] #[]
 | .io _,none,v,sg=>isAgg v=false∧v.cells.toList=sg
 |_,_,_,_=>False
def wK (w:World) (g:Gh):List PK→List (Option Nat)→List Value→List (List Value)→Prop
 | [],[],[],[]=>True
 |p::ps,b::bs,v::vs,sg::sgs=>KY w g p b v sg∧sg.length=p.cells.length∧wK w g ps bs vs sgs
 |_,_,_,_=>False
theorem KY.mono (k:Keeps w w g.F g'.F) (hat:g'.at_=g.at_) (hb: ∀b n,g.own b=some (.box n)→g'.own b=some (.box n)) {p:PK} {b:Option Nat} {v:Value} {sg:List Value} (h:KY w g p b v sg):KY w g' p b v sg:=by
 cases p with
 |val ag want=>cases b<;>exact h
 |fn f=>cases b<;>exact h
 |clo f want=>cases b<;>exact h
 |io want=>cases b<;>exact h
 |rptr want=>
  cases b with
  |none=>obtain⟨⟨b,off,e,hr⟩,hp⟩:=h;exact⟨⟨b,off,e,hr.keeps k⟩,hp⟩
  |some n=>exact h
 |ptr want=>
  cases b with
  |none=>exact h
  |some n=>obtain⟨e,ho,cur,et,h1,h2⟩:=h;exact⟨by rw[hat];exact e,by rw[hat];exact hb _ _ ho,cur,et,by rw[hat];exact h1,h2⟩
theorem Keeps.same {F F':Fz} (h: ∀b o,F b o→F' b o):Keeps w w F F':=⟨h,fun _ _ _=>rfl⟩
theorem Tagged.append {aZ bs:List CV} {xs ys:List (Sh×Tg)} (h1:Tagged aZ xs) (h2:Tagged bs ys):Tagged (aZ++bs) (xs++ys):=by
 simp only[Tagged,List.map_append]at *;rw[h1,h2]
theorem XI {n:Nat} {bs:List (Option Nat)} (h:ab8 n bs=true):n∉bs.filterMap id:=by
 intro hm
 obtain⟨b,hb,e⟩:=List.mem_filterMap.1 hm
 simp only[id]at e;subst e
 have:=List.all_eq_true.1 h _ hb
 simp at this
theorem SE {cs:List CV} {want:List (Sh×Tg)} (h:Tagged cs want) (hp:bg cs=true):want.all (·.2.isPure)=true:=by
 rw[←h,List.all_eq_true]
 intro x hx
 obtain⟨c,hc,rfl⟩:=List.mem_map.1 hx
 exact List.all_eq_true.1 hp c hc
theorem TA {cs:List CV} {want:List (Sh×Tg)} (h:Tagged cs want) (hp:want.all (·.2.isPure)=true):bg cs=true:=by
 rw[←h,List.all_map]at hp
 exact hp
theorem Y2 (h:Rel E C s a w g) {hs:List CV} {hv:List Value} (hh:aC w g .hand 0 hs hv) {x:Operand} {want:List (Sh×Tg)} {ds:List CV} (hg:(XO (at_ E s x) want).run=some ds):
 ∃sg,KY w g (.rptr want) none (a.eval x) sg∧aC w g .hand 0 (hs++ds) (hv++sg)∧Tagged ds want∧bg ds=true:=by
 unfold XO at hg
 split at hg
 ·rename_i cs off hx
  obtain⟨ad,vs,e,hrow,hp,hc⟩:=aK h hx (by simp)
  obtain⟨hle,hg⟩:=aV hg
  have hle:=Nat.le_of_ble_eq_true hle
  split at hg
  ·rename_i ds' hw
   obtain⟨hpd,hg⟩:=aV hg
   obtain rfl:=ak hg
   have hvl:=hc.length
   have hsub:=hc.sub off want.length
   have hp2:bg ((cs.drop off).take want.length)=true:=by
    rw[bg,List.all_eq_true]at hp ⊢
    intro c hc
    exact hp c (List.mem_of_mem_drop (List.mem_of_mem_take hc))
   refine⟨(vs.drop off).take want.length,⟨⟨ad.block,ad.off+off,e,fun j hj=> ?_⟩,SE (dV hw) hpd⟩,aC.append hs 0 hv _ _ hh (uO hp2 hw hsub),dV hw,hpd⟩
   have hlt:j<want.length∧off+j<vs.length:=by simp at hj;omega
   have:=hrow (off+j) hlt.2
   simp only at this ⊢
   rw[List.getElem?_take,if_pos hlt.1,List.getElem?_drop,Nat.add_assoc];exact this
  ·exact(aj hg).elim
 ·exact(aj hg).elim
theorem Jl {n:Nat}: ∀(us:List Upd) (s:St),(s.bx n).isSome=true→((s.dI us).bx n).isSome=true
 | [],_,h=>h
 |u::us,s,h=>by
  refine Jl us (u.on s) ?_
  cases u with
  |tm k t=>exact h
  |keep k t=>exact h
  |bx k b=>
   simp only[Upd.on,put]
   cases Nat.beq n k<;>simp[h]
  |cl k l=>
   simp only[Upd.on,put]
   cases hb:Nat.beq n k with
   |false=>exact h
   |true=>have:=Nat.eq_of_beq_eq_true hb;subst this;simpa using h
theorem wI {α:Type}: ∀(l:List (Nat×α)) (cs:List α),(setMany cs l).length=cs.length
 | [],_=>rfl
 |(i,c)::l,cs=>by simp only[setMany];rw[wI l];simp
def over {α:Type}:List (Nat×α)→Nat→α→α
 | [],_,x=>x
 |(j,c)::l,i,x=>over l i (if j=i then c else x)
theorem yP {α:Type}: ∀(l:List (Nat×α)) (cs:List α) (i:Nat),(setMany cs l)[i]? =(cs[i]?).map (over l i)
 | [],cs,i=>by simp[setMany,over]
 |(j,c)::l,cs,i=>by
  simp only[setMany]
  rw[yP l]
  by_cases hj:j=i
  ·subst hj
   by_cases hl:j<cs.length
   ·simp[over,hl]
   ·rw[List.getElem?_eq_none (by simp;omega),List.getElem?_eq_none (by omega)];rfl
  ·simp only[List.getElem?_set,if_neg hj]
   cases cs[i]? with
   |none=>rfl
   |some x=>simp[over,if_neg hj]
theorem MW {α:Type}: ∀(l:List (Nat×α)) (i:Nat) (x:α),(∀c,c∈l→c.1≠i)→over l i x=x
 | [],_,_,_=>rfl
 |(j,c)::l,i,x,h=>by
  simp only[over,if_neg (h (j,c) (by simp))]
  exact MW l i x fun d hd=>h d (by simp[hd])
theorem Xc {e:Nat}: ∀{want:List (Sh×Tg)} {j:Nat} {cs:List CV} {old:List (CV×Nat)} {c:Nat×CV×Nat},c∈gB e j cs old want→j≤c.1
 | [],j,cs,old,c,h=>by cases cs<;>cases old<;>simp[gB]at h
 |(sh,tg)::want,j,[],old,c,h=>by simp[gB]at h
 |(sh,tg)::want,j,_::_,[],c,h=>by simp[gB]at h
 |(sh,tg)::want,j,c0::cs,(o0,v0)::old,c,h=>by
  have hrec:c∈gB e (j+1) cs old want→j≤c.1:=fun hh=>Nat.le_of_succ_le (Xc hh)
  cases tg<;>simp only[gB,List.mem_cons]at h<;>first|exact hrec h|(rcases h with rfl|h;exact Nat.le_refl _;exact hrec h)
def aam (tg:Tg) (x y:CV×Nat):CV×Nat:=match tg with| .dead=>x|_=>y
theorem Iq {e:Nat}: ∀{want:List (Sh×Tg)} {j:Nat} {cs:List CV} {old:List (CV×Nat)} {i:Nat} {sh:Sh} {tg:Tg} {c:CV} {o:CV×Nat} (x:CV×Nat),want[i]? =some (sh,tg)→cs[i]? =some c→old[i]? =some o→
 over (gB e j cs old want) (j+i) x=aam tg x (c,o.2+e)
 | [],_,_,_,_,_,_,_,_,_,h,_,_=>by simp at h
 |_::_,_,[],_,_,_,_,_,_,_,_,h,_=>by simp at h
 |_::_,_,_::_,[],_,_,_,_,_,_,_,_,h=>by simp at h
 |(sh0,tg0)::want,j,c0::cs,(o0,v0)::old,0,sh,tg,c,o,x,hw,hc,ho=>by
  simp only[List.getElem?_cons_zero,Option.some.injEq,Prod.mk.injEq]at hw hc ho
  obtain⟨rfl,rfl⟩:=hw
  subst hc ho
  have out: ∀y,over (gB e (j+1) cs old want) (j+0) y=y:=fun y=>MW _ _ _ fun d hd=>by have:=Xc hd;omega
  cases tg0<;>simp only[gB,over,Nat.add_zero,if_true,aam]<;>exact out _
 |(sh0,tg0)::want,j,c0::cs,(o0,v0)::old,i+1,sh,tg,c,o,x,hw,hc,ho=>by
  have hrec: ∀y,over (gB e (j+1) cs old want) (j+(i+1)) y=aam tg y (c,o.2+e):=fun y=>by
   have:=Iq (e:=e) (j:=j+1) y (by simpa using hw) (by simpa using hc) (by simpa using ho)
   rwa [show j+1+i=j+(i+1) by omega]at this
  have hne: ¬j=j+(i+1):=by omega
  cases tg0<;>simp only[gB,over,if_neg hne]<;>exact hrec x
theorem Y0 {n:Nat} {b:Bx} {new:List CV} {want:List (Sh×Tg)} (hb:s.bx n=some b) (h1:new.length=want.length) (h2:b.cells.length=want.length) (hk: ∀(i:Nat) (sh:Sh),want[i]? =some (sh,Tg.dead)→new[i]? =(b.cells[i]?).map (fun x=>x.1)):
 s.dI [.cl n (gB 0 0 new b.cells want)]=s.dI [.bx n ⟨b.inst,(new.zip b.cells).map fun x=>(x.1,x.2.2)⟩]:=by
 have e:setMany b.cells (gB 0 0 new b.cells want)=(new.zip b.cells).map fun x=>(x.1,x.2.2):=by
  apply List.ext_getElem?
  intro i
  rw[yP]
  rcases Nat.lt_or_ge i want.length with hi|hi
  ·have e1:new[i]? =some (new[i]'(by omega)):=List.getElem?_eq_getElem (by omega)
   have e2:b.cells[i]? =some (b.cells[i]'(by omega)):=List.getElem?_eq_getElem (by omega)
   have e3:want[i]? =some ((want[i]'hi).1,(want[i]'hi).2):=List.getElem?_eq_getElem hi
   have e4:(new.zip b.cells)[i]? =some (new[i]'(by omega),b.cells[i]'(by omega)):=List.getElem?_zip_eq_some.2 ⟨e1,e2⟩
   have:=Iq (e:=0) (j:=0) (b.cells[i]'(by omega)) e3 e1 e2
   rw[Nat.zero_add]at this
   rw[List.getElem?_map,e4,e2]
   simp only[Option.map_some,this,Option.some.injEq]
   unfold aam
   split
   ·rename_i hd
    have:=hk i _ (by rw[e3,hd])
    rw[e1,e2]at this
    simp only[Option.map_some,Option.some.injEq]at this
    rw[this]
   ·rfl
  ·rw[List.getElem?_eq_none (by omega),List.getElem?_eq_none (by simp;omega)];rfl
 simp only[St.dI,List.foldl_cons,List.foldl_nil,Upd.on,hb,Option.map_some,e]
theorem Zv (h:Rel E C s a w g) {hs:List CV} {hv:List Value} (hh:aC w g .hand 0 hs hv) {x:Operand} {pk:PK} {bs:List (Option Nat)} {ds:List CV} {us:List Upd} {b:Option Nat} (hg:(QU s bs pk (at_ E s x) x).run=some (ds,us,b)):
 ∃g' sg,Rel E C (s.dI us) a w g'∧aC w g' .hand 0 (hs++ds) (hv++sg)∧g'.at_=g.at_∧Keeps w w g.F g'.F∧(∀b n,g.own b=some (.box n)→g'.own b=some (.box n))∧KY w g' pk b (a.eval x) sg∧Tagged ds pk.cells∧
  (∀n,b=some n→n∉bs.filterMap id∧(s.bx n).isSome=true):=by
 unfold QU at hg
 cases pk with
 |val ag want=>
  simp only[]at hg
  obtain⟨⟨ds',us'⟩,hgt,hg⟩:=aS hg
  have:=ak hg
  simp only[Prod.mk.injEq]at this
  obtain⟨rfl,rfl,rfl⟩:=this
  obtain⟨g',r,k,ea,kp,kb,hag,ht⟩:=He h hh hgt
  exact⟨g',_,r,k,ea,kp,kb,⟨hag,rfl⟩,ht,fun n e=>by cases e⟩
 |io want=>
  simp only[]at hg
  obtain⟨⟨ds',us'⟩,hgt,hg⟩:=aS hg
  have:=ak hg
  simp only[Prod.mk.injEq]at this
  obtain⟨rfl,rfl,rfl⟩:=this
  obtain⟨g',r,k,ea,kp,kb,hag,ht⟩:=He h hh hgt
  exact⟨g',_,r,k,ea,kp,kb,⟨hag,rfl⟩,ht,fun n e=>by cases e⟩
 |rptr want=>
  simp only[]at hg
  obtain⟨ds',hgt,hg⟩:=aS hg
  have:=ak hg
  simp only[Prod.mk.injEq]at this
  obtain⟨rfl,rfl,rfl⟩:=this
  obtain⟨sg,k1,k2,k3,_⟩:=Y2 h hh hgt
  exact⟨g,sg,h,k2,rfl,Keeps.refl _ _,fun _ _ e=>e,k1,k3,fun n e=>by cases e⟩
 |clo f want=>exact(aj hg).elim
 |fn f=>
  simp only[]at hg
  split at hg
  ·rename_i f' hx
   have hg2:=aV hg
   have hf:=Nat.eq_of_beq_eq_true hg2.1
   have:=ak hg2.2
   simp only[Prod.mk.injEq]at this
   obtain⟨rfl,rfl,rfl⟩:=this
   have hv:=aK h hx (by simp)
   subst hf
   exact⟨g,[],h,by simpa using hh,rfl,Keeps.refl _ _,fun _ _ e=>e,hv,rfl,fun n e=>by cases e⟩
  ·exact(aj hg).elim
 |ptr want=>
  simp only[]at hg
  split at hg
  ·rename_i p hx
   split at hg
   ·rename_i n cs hr hs0 hc
    obtain⟨hcond,hg⟩:=aV hg
    simp only[Bool.and_eq_true]at hcond
    obtain⟨⟨hc0,hni⟩,hbl⟩:=hcond
    have hc0:=Nat.eq_of_beq_eq_true hc0
    split at hg
    ·rename_i ds' us' hw hu
     have:=ak hg
     simp only[Prod.mk.injEq]at this
     obtain⟨rfl,rfl,rfl⟩:=this
     obtain⟨_,hv⟩:=aK h hx (by simp)
     rw[hs0]at hv
     obtain⟨n',hn',hv⟩:=hv
     rw[hr]at hn';cases hn'
     obtain⟨g',r,k,ea,kp,kb⟩:=zC h hh hc hw hu
     have hb: ∃b,s.bx n=some b∧b.inst=p.inst:=by
      have:=hc
      rw[bG]at this
      obtain⟨cells,e,_⟩:=this
      rw[hr]at e;simp only[aA]at e
      cases hb:s.bx n with
      |none=>rw[hb]at e;simp at e
      |some b=>rw[hb]at e;simp only[Option.some.injEq,Prod.mk.injEq]at e;exact⟨b,rfl,e.1⟩
     obtain⟨b,hb,hbi⟩:=hb
     obtain⟨cur,et,h1,h2,_,h4⟩:=h.bx n b hb
     rw[hb]at hbl
     simp only at hbl
     have hbl:=Nat.eq_of_beq_eq_true hbl
     have hsame:s.dI (bif oW want then[.cl n (gB 0 0 (fV cs want) (yO s n) want)]else us')=s.dI us':=by
      cases oW want with
      |false=>rfl
      |true=>
       obtain⟨hwl,_,hget⟩:=nX hw
       have hcs:cs=b.cells.map (·.1):=by
        have hc':=hc
        rw[bG]at hc'
        obtain⟨cells,e,q1,q2,q3⟩:=hc'
        rw[hr]at e;simp only[aA,hb,Option.some.injEq,Prod.mk.injEq]at e
        obtain⟨_,rfl⟩:=e
        rw[q3,hc0,List.drop_zero,List.take_of_length_le (by omega)]
       have hll:(fV cs want).length=want.length:=by
        have: ∀(cs:List CV) (want:List (Sh×Tg)),cs.length=want.length→(fV cs want).length=cs.length:=by
         intro cs
         induction cs with
         |nil=>intro want _;cases want<;>rfl
         |cons c cs ih=>
          intro want hl
          cases want with
          |nil=>simp at hl
          |cons y ys=>obtain⟨_,_⟩:=y;simp[fV,ih ys (by simpa using hl)]
        rw[this cs want hwl,hwl]
       have hus:us'= [.bx n ⟨b.inst,((fV cs want).zip b.cells).map fun x=>(x.1,x.2.2)⟩]:=by
        unfold iY at hu
        simp only[hr,hb,hc0,cond_eq_ite]at hu
        split at hu
        ·cases hu
         simp only[List.take_zero,List.drop_zero,List.nil_append,Nat.zero_add,Bool.false_eq_true,if_false]
         rw[List.drop_of_length_le (by omega),List.append_nil]
        ·cases hu
       rw[hus]
       simp only[cond_true,yO,hb]
       refine Y0 hb hll hbl fun i sh hd=> ?_
       have hi:i<cs.length:=by
        rw[hwl]
        rcases Nat.lt_or_ge i want.length with h|h
        ·exact h
        ·simp[List.getElem?_eq_none h]at hd
       obtain⟨sh',tg',e1,_,_,_,e5⟩:=hget i cs[i] (List.getElem?_eq_getElem hi)
       rw[hd]at e1
       simp only[Option.some.injEq,Prod.mk.injEq]at e1
       obtain⟨_,rfl⟩:=e1
       rw[e5,←List.getElem?_map,←hcs,List.getElem?_eq_getElem hi]
       congr 1
       unfold leftAs
       cases cs[i].isPure<;>rfl
     rw[hsame]
     have hcl:=h4.length
     simp only[List.length_map,Array.length_toList]at hcl
     refine⟨g',_,r,k,ea,kp,kb,⟨by rw[ea,←hc0];exact hv b hb hbi,by rw[ea];exact kb _ _ h2,cur,et,by rw[ea];exact h1,?_⟩,dV hw,fun m e=>by cases e;exact⟨XI hni,by rw[hb];rfl⟩⟩
     rw[hr,hc0,vP h1,List.drop_zero]
     exact List.take_of_length_le (by simp;omega)
    ·exact(aj hg).elim
   ·exact(aj hg).elim
  ·exact(aj hg).elim
theorem wK.mono (k:Keeps w w g.F g'.F) (hat:g'.at_=g.at_) (hb: ∀b n,g.own b=some (.box n)→g'.own b=some (.box n)): ∀{ps:List PK} {bs:List (Option Nat)} {vs:List Value} {sgs:List (List Value)},wK w g ps bs vs sgs→wK w g' ps bs vs sgs
 | [],[],[],[],_=>trivial
 |p::ps,b::bs,v::vs,sg::sgs,⟨h1,h2,h3⟩=>⟨h1.mono k hat hb,h2,wK.mono k hat hb h3⟩
theorem LZ: ∀(ps:List PK) (xs:List Operand) (bs:List (Option Nat)) (s:St) (g:Gh) (hs:List CV) (hv:List Value) (us:List Upd) (cs':List CV) (us':List Upd) (bs':List (Option Nat)),Rel E C s a w g→aC w g .hand 0 hs hv→
 (bs.filterMap id).Nodup→(vg E ps xs bs s hs us).run=some (cs',us',bs')→
 ∃us2 bs2 ds g' sgs,us'=us++us2∧bs'=bs++bs2∧cs'=hs++ds∧Rel E C (s.dI us2) a w g'∧aC w g' .hand 0 cs' (hv++sgs.flatten)∧g'.at_=g.at_∧Keeps w w g.F g'.F∧(∀b n,g.own b=some (.box n)→g'.own b=some (.box n))∧
  wK w g' ps bs2 (xs.map a.eval) sgs∧Tagged ds (ps.flatMap PK.cells)∧(bs'.filterMap id).Nodup∧(∀n,some n∈bs2→((s.dI us2).bx n).isSome=true)
 | [],[],bs,s,g,hs,hv,us,cs',us',bs',h,hh,hnd,hg=>by
   have:=ak hg
   simp only[Prod.mk.injEq]at this
   obtain⟨rfl,rfl,rfl⟩:=this
   exact⟨[],[],[],g,[],by simp,by simp,by simp,h,by simpa using hh,rfl,Keeps.refl _ _,fun _ _ e=>e,trivial,rfl,hnd,fun n hn=>by cases hn⟩
 | [],_::_,_,_,_,_,_,_,_,_,_,_,_,_,hg=>(aj hg).elim
 |_::_,[],_,_,_,_,_,_,_,_,_,_,_,_,hg=>(aj hg).elim
 |p::ps,x::xs,bs,s,g,hs,hv,us,cs',us',bs',h,hh,hnd,hg=>by
  simp only[vg]at hg
  obtain⟨⟨ds,us1,b⟩,hgp,hg⟩:=aS hg
  simp only[]at hg
  obtain⟨g1,sg,r1,k1,a1,kp1,kb1,pv,ht,hb⟩:=Zv h hh hgp
  obtain⟨us2,bs2,ds2,g',sgs,e1,e2,e3,r2,k2,a2,kp2,kb2,pvs,ht2,hnd2,hsome⟩:=LZ ps xs (bs++[b]) (s.dI us1) g1 (hs++ds) (hv++sg) (us++us1) cs' us' bs' r1 k1 (by
   cases b with
   |none=>simpa using hnd
   |some n=>
    have:=(hb n rfl).1
    simp only[List.filterMap_append,List.filterMap_cons,id,List.filterMap_nil]
    rw[List.nodup_append]
    refine⟨hnd,by simp,fun y hy z hz=> ?_⟩
    simp only[List.mem_singleton]at hz;subst hz
    rintro rfl;exact this hy) hg
  have hdl:ds.length=sg.length:=by
   have h1:=k1.length;have h2:=hh.length
   simp only[List.length_append]at h1;omega
  have htl:ds.length=p.cells.length:=by have:=congrArg List.length ht;simpa using this
  refine⟨us1++us2,b::bs2,ds++ds2,g',sg::sgs,by rw[e1,List.append_assoc],by rw[e2];simp,by rw[e3,List.append_assoc],by rw[dM];exact r2,?_,a2.trans a1,kp1.trans kp2,fun b n e=>kb2 b n (kb1 b n e),⟨pv.mono kp2 a2 kb2,by omega,pvs⟩,?_,hnd2,fun n hn=> ?_⟩
  ·rw[List.flatten_cons,←List.append_assoc];exact k2
  ·rw[List.flatMap_cons];exact ht.append ht2
  ·rw[dM]
   rcases List.mem_cons.1 hn with rfl|hn
   ·exact Jl us2 _ (Jl us1 _ (hb n rfl).2)
   ·exact hsome n hn
end
end Go.AM
end
section
set_option linter.unusedVariables false
namespace Go.AM
open Go
section
variable {P:Program} {E:Env} {C:Ctx} {s s':St} {a a':Act} {w w':World} {g g':Gh} {o:Oper} {Q:Exit→Act→World→Prop}
theorem Iw (ag:Bool) (want:List (Sh×Tg)): ∀(ps:List (Nat×Operand)) (k:Nat) (s:St) (g:Gh) (hs:List CV) (hv:List Value) (rows:List (List CV)) (us0:List Upd) (rows':List (List CV)) (us':List Upd),
 Rel E C s a w g→aC w g .hand 0 hs hv→rows.reverse.flatten=hs→(wF E ag want ps k s rows us0).run=some (rows',us')→
 ∃us2 g' rest,us'=us0++us2∧Rel E C (s.dI us2) a w g'∧aC w g' .hand 0 rows'.flatten (hv++ps.flatMap fun x=>(a.eval x.2).cells.toList)∧rows'=rows.reverse++rest∧
  rest.map List.length=ps.map (fun x=>(a.eval x.2).cells.size)∧ps.map (·.1)=List.range' k ps.length∧ ∀r,r∈rest→Tagged r want
 | [],k,s,g,hs,hv,rows,us0,rows',us',h,hh,hrs,hr=>by
   simp only[wF]at hr
   have:=ak hr
   simp only[Prod.mk.injEq]at this
   obtain⟨rfl,rfl⟩:=this
   exact⟨[],g,[],by simp,h,by rw[hrs];simpa using hh,by simp,rfl,rfl,fun r hr=>by cases hr⟩
 |(i,x)::ps,k,s,g,hs,hv,rows,us0,rows',us',h,hh,hrs,hr=>by
  simp only[wF]at hr
  obtain⟨hik,hr⟩:=aV hr
  have hik:=Nat.eq_of_beq_eq_true hik
  subst hik
  obtain⟨⟨ds,us1⟩,ht,hr⟩:=aS hr
  simp only[]at hr
  obtain⟨g1,r1,hh1,_,_,_,_,htg⟩:=He h hh ht
  obtain⟨us2,g',rest,e,r2,hh2,er,hl,hi,hta⟩:=Iw ag want ps (i+1) (s.dI us1) g1 (hs++ds) _ (ds::rows) (us0++us1) rows' us' r1 hh1 (by simp[hrs]) hr
  have hdl:ds.length=(a.eval x).cells.size:=by
   have h1:=hh1.length
   have h2:=hh.length
   simp only[List.length_append]at h1
   have:(a.eval x).cells.toList.length=(a.eval x).cells.size:=by simp
   omega
  refine⟨us1++us2,g',ds::rest,by rw[e,List.append_assoc],by rw[dM];exact r2,?_,by rw[er];simp,by simp[hdl,hl],?_,fun r hr=>by
   rcases List.mem_cons.1 hr with rfl|hr
   ·exact htg
   ·exact hta r hr⟩
  ·rw[List.flatMap_cons,←List.append_assoc];exact hh2
  ·simp only[List.map_cons,hi,List.length_cons];rfl
theorem Hu {α:Type} {N:Nat}: ∀(rows:List (List α)),(∀r,r∈rows→r.length=N)→ ∀(i k:Nat),k<N→rows.flatten[i*N+k]? =rows[i]?.bind (·[k]?)
 | [],_,i,k,_=>by simp
 |r::rs,h,0,k,hk=>by
  rw[List.flatten_cons,List.getElem?_append_left (by rw[h r (by simp)];omega)];simp
 |r::rs,h,i+1,k,hk=>by
  have hr:=h r (by simp)
  have e:(i+1)*N+k=N+(i*N+k):=by rw[Nat.succ_mul];omega
  rw[List.flatten_cons,e,List.getElem?_append_right (by omega),hr,Nat.add_sub_cancel_left,Hu rs (fun r hr=>h r (by simp[hr])) i k hk]
  simp
theorem FZ {α:Type} {f:List CV→Option α}: ∀{rows:List (List CV)} {l:List α},jo f rows=some l→ ∀(i:Nat) (e:α),l[i]? =some e→ ∃r,rows[i]? =some r∧BG r=true∧f r=some e
 | [],l,h,i,e,he=>by simp[jo]at h;subst h;simp at he
 |r::rs,l,h,i,e,he=>by
  obtain⟨e0,l',h1,h2,h3,rfl⟩:=nZ h
  cases i with
  |zero=>simp at he;subst he;exact⟨r,rfl,h1,h2⟩
  |succ i=>simpa using FZ h3 i e (by simpa using he)
theorem Yq (h:Rel E C s a w g) {d:Nat} (hd:DOk E d) {es:List Sh} {rows:List (List CV)} {l:List (ElA es)} {vs:List Value} (hh:aC w g .hand 0 rows.flatten vs) (htag: ∀r,r∈rows→ ∀c,c∈r→c.tg=c.sh.top)
 (hl:jo (fH es) rows=some l) (hlen: ∀r,r∈rows→r.length=es.length) (e:TypeId) (hsm:l.length≤maxLen):
 ∃g',Rel E C (s.dI [.tm d (.val false [⟨.dl es,.own,List.map some l⟩])]) (a.put (some d) (.slice (some ⟨w.heap.size,0,none⟩) l.length l.length)) (w.alloc (.cells vs.toArray e)) g':=by
 have hown: ∀b ow,g.own b=some ow→b<w.heap.size:=fun b ow e=>(h.base.own b ow e).2
 have hF: ∀b o,g.F b o→b<w.heap.size:=fun b o e=>(h.base.fz b o e).2
 let ρ:aF→aF:=fun o=>match o with| .hand _=> .hand 0|o=>o
 have f:=Fr.new (K:=fun o=> ∀i,o≠ .hand i) hown hF (ρ:=ρ) (fun o ho=>by
  cases o with
  |hand i=>exact absurd rfl (ho i)
  |_=>rfl) (.cells vs.toArray e) (.hand 0)
 have r1:=h.world f (h.base.new _ _ (fun _ _ _ e=>by cases e;rfl) _) rfl
 let w1:=w.alloc (.cells vs.toArray e)
 let g1:=g.new ρ w.heap.size (.hand 0)
 have hrl:l.length=rows.length:=(qp hl).2
 have hfl: ∀(rows:List (List CV)),(∀r,r∈rows→r.length=es.length)→rows.flatten.length=rows.length*es.length:=by
  intro rows
  induction rows with
  |nil=>intro _;simp
  |cons r rs ih=>
   intro h
   rw[List.flatten_cons,List.length_append,h r (by simp),ih (fun r hr=>h r (by simp[hr])),List.length_cons,Nat.succ_mul,Nat.add_comm]
 have hvl:vs.length=l.length*es.length:=by rw[hh.length,hfl rows hlen,hrl]
 let B:Nat→Option Nat:=fun k=>(vs[k]?).bind fun v=>(blk v).filter fun z=>decide (g.own z=some (.hand k))
 have hB: ∀k z,B k=some z→g.own z=some (.hand k):=by
  intro k z hz
  simp only[B,Option.bind_eq_some_iff,Option.filter_eq_some_iff,decide_eq_true_eq]at hz
  obtain⟨v,_,_,h⟩:=hz
  exact h
 have hrows:iF w1 g1 (.hand 0) w.heap.size es (List.map some l) vs:=by
  refine⟨by rw[List.length_map];exact hvl,B,fun k hz=> ?_,fun i j z hi hj=> ?_,fun i x hx=> ?_⟩
  ·have:=hown _ _ (hB k _ hz);omega
  ·have a1:=hB i z hi
   rw[hB j z hj]at a1
   simpa using a1.symm
  ·rw[List.getElem?_map]at hx
   have hx:l[i]? =some x:=by
    cases hli:l[i]? with
    |none=>rw[hli]at hx;cases hx
    |some y=>rw[hli]at hx;simpa using hx
   obtain⟨r,hr,hfz,hof⟩:=FZ hl i x hx
   have hil:i<l.length:=by
    rcases Nat.lt_or_ge i l.length with h|h
    ·exact h
    ·simp[List.getElem?_eq_none h]at hx
   have hcells:=yw es r x hof
   have hrN:=hlen r (List.mem_of_getElem? hr)
   have hle:i*es.length+es.length≤vs.length:=by rw[hvl,←Nat.succ_mul];exact Nat.mul_le_mul_right _ hil
   refine⟨by rw[List.length_take,List.length_drop];omega,fun k c0 v hc0 hv=> ?_⟩
   rw[←hcells,List.getElem?_map]at hc0
   cases hck:r[k]? with
   |none=>rw[hck]at hc0;cases hc0
   |some c=>
    rw[hck]at hc0
    have hc0:c.to .pure=c0:=by simpa using hc0
    subst hc0
    have hkN:k<es.length:=by
     rw[←hrN]
     rcases Nat.lt_or_ge k r.length with h|h
     ·exact h
     ·simp[List.getElem?_eq_none h]at hck
    rw[List.getElem?_take,if_pos hkN,List.getElem?_drop]at hv
    have hfg:rows.flatten[i*es.length+k]? =some c:=by
     rw[Hu rows hlen i k hkN,hr];exact hck
    obtain⟨u,hu,hcr⟩:=hh.get _ 0 _ _ c hfg
    have hv':vs[i*es.length+k]? =some v:=hv
    rw[hv']at hu;cases hu
    rw[Nat.zero_add]at hcr
    have hcm:c∈r:=List.mem_of_getElem? hck
    have htg:=htag r (List.mem_of_getElem? hr) c hcm
    have hnd:c.sh.Zp=false∧c.sh.Hr=false:=by
     have:=List.all_eq_true.1 hfz c hcm
     simp only[Bool.and_eq_true,Bool.not_eq_true']at this
     exact⟨this.1.2,this.2⟩
    show qo w1 g1 (.hand 0) (B (i*es.length+k)) c.sh c.x v
    obtain⟨csh,ct,cx⟩:=c
    simp only at htg hnd hcr ⊢
    subst htg
    unfold qo
    split
    ·rename_i hs
     have hpl:csh.oG=true:=by
      rcases SN hs with e|⟨es',e⟩
      ·exact e
      ·subst e;simp[Sh.Zp]at hnd
     have e:csh.top= .own:=by cases csh<;>first|rfl|simp[Sh.oN]at hs
     rw[e]at hcr
     simp only[jl,if_pos hs]at hcr
     have hp:=(nO hpl).1 hcr
     refine⟨hpl,hp.move f.keeps fun z hz=> ?_,?_⟩
     ·have ho:=hp.l9 hz
      have hlt:=hown _ _ ho
      refine⟨?_,lV hlt,fun o=>Iff.rfl⟩
      simp only[g1,Gh.new]
      rw[if_neg (by omega),ho];rfl
     ·cases hz:blk v with
      |none=>simp only[B,hv',Option.bind_some,hz,Option.filter_none]
      |some z=>
       have ho:=hp.l9 hz
       symm
       simp only[B,hv',Option.bind_some,hz,Option.filter_eq_some_iff,decide_eq_true_eq,true_and]
       exact ho
    ·rename_i hs
     have e:csh.top= .pure:=by cases csh<;>first|rfl|(simp[Sh.oN]at hs;done)|cases hnd.2
     rw[e]at hcr
     exact iR.keeps f.keeps _ _ _ hcr
 have hcr:jl w1 g1 (.hand 0) ⟨.dl es,.own,List.map some l⟩ (.slice (some ⟨w.heap.size,0,none⟩) l.length l.length):=by
  simp only[jl,Sh.oN,if_true]
  have hll:(List.map some l).length=l.length:=List.length_map ..
  refine .inr ⟨w.heap.size,l.length,vs.toArray,e,by simp only[aP];rw[hll],by simp only[aP];rw[hll];exact Nat.le_refl _,hsm,by simp[g1,Gh.new],lN,by simp only[Sh.n];simpa using hvl,⟨⟨rfl,?_⟩,?_⟩,fun o=>⟨fun hf=> ?_,fun hf=>by cases hf.1⟩⟩
  ·simp only[aP,Sh.n];rw[hll]
   rw[List.take_of_length_le (by simpa using Nat.le_of_eq hvl)]
   exact hrows.one
  ·simp only[aP,Sh.n];rw[hll]
   rw[List.take_of_length_le (by simpa using Nat.le_of_eq hvl)]
   exact hrows
  ·have hf:g.F w.heap.size o:=hf
   have:=hF _ _ hf;omega
 obtain⟨g2,r2,_,_⟩:=r1.wQ hd (v:= .slice (some ⟨w.heap.size,0,none⟩) l.length l.length) (ag:=false) (cs:=[⟨.dl es,.own,List.map some l⟩]) rfl ⟨_,[],rfl,hcr,rfl⟩
 exact⟨g2,r2⟩
theorem NJ (hT:vI P E.ty) {t:TypeId} {n:Nat} {ps:Array (Nat×Operand)} (ho:o.op= .buildSlice t n ps):pW P E C o:=by
 intro s a w g us d Q h hdst hd hp
 simp only[plan,ho,hdst]at hp
 split at hp
 ·rename_i ag sh fl ft e hi
  obtain⟨⟨rows,us'⟩,hf,hp⟩:=aS hp
  obtain⟨hc,hp⟩:=aV hp
  simp only[Bool.and_eq_true]at hc
  have hrn:=Nat.eq_of_beq_eq_true hc.1.1
  have hpos:=Nat.le_of_ble_eq_true hc.1.2
  have hsm:=Nat.le_of_ble_eq_true hc.2
  obtain⟨info,de,z,hat⟩:=hT.at_ hi
  obtain⟨sh',j,rfl,_,hcs,hsl,hj,hjc⟩:=hat.elem rfl
  simp only[List.cons.injEq,and_true]at hcs;subst hcs
  obtain⟨ie,de',z',hate⟩:=hT.at_ hj
  have hsa:fF E e=uN sh:=by simp only[fF,hj,hjc]
  have hlen:(fF E e).length=sh.n:=by rw[hsa,jL]
  have hisz:ie.size=sh.n:=by rw[hate.size,hjc,jL]
  rw[hlen]at hpos hsm
  obtain⟨us2,g1,rest,eu,r1,hh,er,hrl,hidx,htga⟩:=Iw (aeM E e) _ ps.toList 0 s g [] [] [] [] rows us' h rfl rfl hf
  simp only[List.nil_append,List.reverse_nil]at eu er hh
  subst eu er
  have hpl:ps.toList.length=n:=by have:=congrArg List.length hrl;simp only[List.length_map]at this;omega
  let vals:=(ps.map fun x=>(x.1,a.eval x.2)).toList
  have hvl:vals.length=n:=by simp only[vals,Array.toList_map,List.length_map];exact hpl
  have hflat:(ps.toList.flatMap fun x=>(a.eval x.2).cells.toList)=vals.flatMap fun v=>v.2.cells.toList:=by
   simp only[vals,Array.toList_map,List.flatMap_map]
  have hrun:(∀r,r∈rows→r.length=sh.n)→(Instr.buildSlice t n (ps.map fun x=>(x.1,a.eval x.2))).run P w= .ok (.slice (some ⟨w.heap.size,0,none⟩) n n) (w.alloc (.cells (vals.flatMap fun v=>v.2.cells.toList).toArray e)):=by
   intro hrows
   by_cases hn0:n=0
   ·have e0:(ps.map fun x=>(x.1,a.eval x.2))= #[]:=by
     apply Array.toList_inj.1
     show vals= []
     exact List.eq_nil_of_length_eq_zero (by rw[hvl];exact hn0)
    have ev:vals= []:=by simp only[vals];rw[e0]
    rw[e0,ev,hn0]
    exact Ir w t e ie hat.und hate.inf
   ·refine run_buildSlice w t e n _ _ ie z' hat.und hate.inf hate.zero (by rw[hisz];omega) (by rw[hisz];have:=Nat.mul_pos (Nat.pos_of_ne_zero hn0) hpos;omega) ?_
    rw[hisz]
    refine Wu hpos (n:=n) vals ?_ _ ?_ (by rw[hvl];simp)
    ·have e1:vals.map (·.1)=ps.toList.map (·.1):=by simp only[vals,Array.toList_map,List.map_map];rfl
     rw[e1,hvl,←hpl];exact hidx
    ·intro v hv
     simp only[vals,Array.toList_map,List.mem_map]at hv
     obtain⟨p,hp',rfl⟩:=hv
     have:(a.eval p.2).cells.size∈rows.map List.length:=by rw[hrl];exact List.mem_map.2 ⟨p,hp',rfl⟩
     obtain⟨r,hr1,hr2⟩:=List.mem_map.1 this
     rw[←hr2];exact hrows r hr1
  have main: ∀(x:El sh),BG rows.flatten=true→aP sh x=n→(∀(g:Gh) vs,aC w g .hand 0 (rows.flatten.map (·.to .pure)) vs→uq w g.F sh x vs)→(∀r,r∈rows→r.length=sh.n)→us=us'++[.tm d (.val false [⟨sh,.own,x⟩])]→
   o.wp P a w (fun a' w'=> ∃g',Rel E C (s.dI us) a' w' g') Q:=by
   intro x hdead hxl hels hrows hus
   obtain⟨g2,f2,b2,o2,a2,c2⟩:=LJ (by intro i j e;cases e;rfl) r1.base hdead hh
   have r2:Rel E C (s.dI us') a w g2:=r1.world (f2.mono fun o ho j _ _=>ho j) b2 a2
   have hx:=hels g2 _ c2
   have hxlen:=hx.length
   rw[hxl]at hxlen
   have hrun:=hrun hrows
   rw[hflat]at hx hxlen
   obtain⟨g3,r3⟩:=U9 r2 hd hsl (x:=x) (cells:=(vals.flatMap fun v=>v.2.cells.toList).toArray) (c:=n) e (by
    rw[hxl,List.take_of_length_le (by simpa using Nat.le_of_eq hxlen)];exact hx) (by omega) (by
    have:n≤n*sh.n:=Nat.le_mul_of_pos_right n hpos
    have:n≤16777216:=by omega
    exact Nat.le_trans this (by decide)) (by simpa using hxlen)
   have hex:(execOp a.eval o).run P w= .ok (.value (.slice (some ⟨w.heap.size,0,none⟩) n n)) (w.alloc (.cells (vals.flatMap fun v=>v.2.cells.toList).toArray e)):=by
    simp only[execOp,ho,Sem.run_bind,hrun,Result.andThen_ok,Sem.run_pure]
   unfold Oper.wp
   rw[hex,Oper.upon_value,hdst,hus,dM]
   rw[hxl]at r3
   exact⟨g3,r3⟩
  cases sh with
  |sl es=>
   simp only[]at hp
   split at hp
   ·rename_i l hl
    rw[PS]at hl
    have hlr: ∀r,r∈rows→r.length=es.length:=by
     have: ∀(rows:List (List CV)) (l:List (ElA es)),jo (fH es) rows=some l→ ∀r,r∈rows→r.length=es.length:=by
      intro rows
      induction rows with
      |nil=>intro l _ r hr;cases hr
      |cons r0 rs ih=>
       intro l hl r hr
       obtain⟨e,l',_,h2,h3,rfl⟩:=nZ hl
       rcases List.mem_cons.1 hr with rfl|hr
       ·have:=congrArg List.length (ER es r e h2);simpa using this
       ·exact ih l' h3 r hr
     exact this rows l hl
    cases hdp:qN E d with
    |true=>
     rw[hdp]at hp
     obtain rfl:=ak hp
     have hln:l.length=n:=by rw[(qp hl).2];exact hrn
     rw[hflat]at hh
     obtain⟨g3,r3⟩:=Yq r1 hd hh (fun r hr c hc=>by
      have:=htga r hr
      rw[hdp]at this
      have hm:(c.sh,c.tg)∈(fF E e).map fun sh=>(sh,bif true then sh.top else .pure):=by
       rw[←this];exact List.mem_map.2 ⟨c,hc,rfl⟩
      obtain⟨sh,_,e1⟩:=List.mem_map.1 hm
      simp only[cond_true,Prod.mk.injEq]at e1
      rw[←e1.1,←e1.2]) hl hlr e (by
      have:n≤n*(Sh.sl es).n:=Nat.le_mul_of_pos_right n hpos
      have:n≤16777216:=by omega
      rw[hln]
      exact Nat.le_trans this (by decide))
     have hex:(execOp a.eval o).run P w= .ok (.value (.slice (some ⟨w.heap.size,0,none⟩) n n)) (w.alloc (.cells (vals.flatMap fun v=>v.2.cells.toList).toArray e)):=by
      simp only[execOp,ho,Sem.run_bind,hrun hlr,Result.andThen_ok,Sem.run_pure]
     unfold Oper.wp
     rw[hex,Oper.upon_value,hdst,dM]
     rw[hln]at r3
     exact⟨g3,r3⟩
    |false=>
    rw[hdp]at hp
    obtain rfl:=ak hp
    obtain⟨k1,k2⟩:=qp hl
    refine main l k1 (by show List.length l=n;rw[k2];exact hrn) (fun g vs hv=>C9 (iW es) (fun r e i vs hf hv=>Bc .hand es _ e i vs (by rw[Ba];exact hf) (fun c hc=>by
     obtain⟨c',_,rfl⟩:=List.mem_map.1 hc;rfl) hv) rows l 0 vs hl hv) (fun r hr=> ?_) rfl
    have: ∀(rows:List (List CV)) (l:List (ElA es)),jo (fH es) rows=some l→ ∀r,r∈rows→r.length=es.length:=by
     intro rows
     induction rows with
     |nil=>intro l _ r hr;cases hr
     |cons r0 rs ih=>
      intro l hl r hr
      obtain⟨e,l',_,h2,h3,rfl⟩:=nZ hl
      rcases List.mem_cons.1 hr with rfl|hr
      ·have:=congrArg List.length (ER es r e h2);simpa using this
      ·exact ih l' h3 r hr
    exact this rows l hl r hr
   ·exact(aj hp).elim
  |rsl ss=>
   simp only[]at hp
   split at hp
   ·rename_i l hl
    cases hdp:qN E d with
    |true=>rw[hdp]at hp;exact(aj hp).elim
    |false=>
    rw[hdp]at hp
    obtain rfl:=ak hp
    rw[Mc]at hl
    obtain⟨k1,k2⟩:=qp hl
    refine main l k1 (by show List.length l=n;rw[k2];exact hrn) (fun g vs hv=>C9 (jA ss) (fun r e i vs hf hv=>RI .hand ss _ e i vs (by rw[PV];exact hf) (fun c hc=>by
     obtain⟨c',_,rfl⟩:=List.mem_map.1 hc;rfl) hv) rows l 0 vs hl hv) (fun r hr=> ?_) rfl
    have: ∀(rows:List (List CV)) (l:List (RT (ElA ss))),jo (vG ss) rows=some l→ ∀r,r∈rows→r.length=ss.length+1:=by
     intro rows
     induction rows with
     |nil=>intro l _ r hr;cases hr
     |cons r0 rs ih=>
      intro l hl r hr
      obtain⟨e,l',_,h2,h3,rfl⟩:=nZ hl
      rcases List.mem_cons.1 hr with rfl|hr
      ·unfold vG at h2
       split at h2
       ·rename_i hk
        have:=congrArg List.length hk
        simp at this;omega
       ·cases h2
      ·exact ih l' h3 r hr
    exact this rows l hl r hr
   ·exact(aj hp).elim
  |int k=>exact(aj hp).elim
  |bool=>exact(aj hp).elim
  |str=>exact(aj hp).elim
  |dl _=>exact(aj hp).elim
  |mp _ _=>exact(aj hp).elim
 ·exact(aj hp).elim
end
end Go.AM
end
section
set_option linter.unusedVariables false
namespace Go.AM
open Go
section
variable {P:Program} {E:Env} {C:Ctx} {s s':St} {a a':Act} {w w':World} {g g':Gh} {o:Oper} {Q:Exit→Act→World→Prop}
def Bg (w:World) (g:Gh):List PK→Nat→List CV→List Value→Prop
 | [],_,cs,vs=>cs= []∧vs= []
 | .val ag want::ps,i,cs,vs=> ∃v ws,vs=v::ws∧BH w g (.tm i) 0 ag (cs.take want.length) v∧Bg w g ps (i+1) (cs.drop want.length) ws
 | .ptr want::ps,i,cs,vs=> ∃v ws,vs=v::ws∧(v= .pointer (some ⟨g.at_ i,0,none⟩)∧BD w g i ⟨0,(cs.take want.length).map fun c=>(c,0)⟩)∧Bg w g ps (i+1) (cs.drop want.length) ws
 | .rptr want::ps,i,cs,vs=> ∃v ws,vs=v::ws∧(∃b off sg,v= .pointer (some ⟨b,off,none⟩)∧NZ w g.F ⟨b,off,none⟩ sg∧bg (cs.take want.length)=true∧aC w g (.tm i) 0 (cs.take want.length) sg)∧Bg w g ps (i+1) (cs.drop want.length) ws
 | .fn f::ps,i,cs,vs=> ∃v ws,vs=v::ws∧v= .func (.func f) #[] #[]∧Bg w g ps (i+1) cs ws
 | .io want::ps,i,cs,vs=> ∃v ws,vs=v::ws∧BH w g (.tm i) 0 false (cs.take want.length) v∧Bg w g ps (i+1) (cs.drop want.length) ws
 | .clo f want::ps,i,cs,vs=> ∃v ws,vs=v::ws∧(∃b off sg,v= .func (.func f) #[] #[.pointer (some ⟨b,off,none⟩)]∧NZ w g.F ⟨b,off,none⟩ sg∧bg (cs.take want.length)=true∧aC w g (.tm i) 0 (cs.take want.length) sg)∧Bg w g ps (i+1) (cs.drop want.length) ws
def O8 (glob:Nat→Option (List CV)) (w:World) (g:Gh):Prop:= ∀gl cs,glob gl=some cs→bg cs=true∧ ∃vs,NZ w g.F ⟨gl,0,none⟩ vs∧aC w g .hand 0 cs vs
def YP (w:World) (g g':Gh):List PK→Nat→List Value→List CV→Prop
 | [],_,_,_=>True
 | .ptr want::ps,i,vs,cs=>(g'.at_ i=g.at_ i∧BD w g' i ⟨0,(cs.take want.length).map fun c=>(c,0)⟩)∧YP w g g' ps (i+1) vs.tail (cs.drop want.length)
 | .io want::ps,i,vs,cs=>(∃v,vs.head? =some v∧BH w g' (.tm i) 0 false (cs.take want.length) v)∧YP w g g' ps (i+1) vs.tail (cs.drop want.length)
 |_::ps,i,vs,cs=>YP w g g' ps (i+1) vs.tail cs
def YO (w:World) (g:Gh) (mk:Nat→aF) (ts:List (Bool×List CV)) (v:Value):Prop:=
 match ts with
 | [(ag,cs)]=>BH w g mk 0 ag cs v
 |ts=> ∃vs,v= .tuple vs.toArray∧lg w g mk 0 ts vs
def Enters (P:Program) (f:FuncId):Prop:= ∃fn,P.funcs[f]? =some fn∧fn.body.isNone=false∧(fn.name== "runtime.NumGoroutine")=false
def UN (w:World) (g:Gh) (i j:Nat):Option Value:=match w.heap[g.at_ i]? with|some (.cells cur _ _)=>cur.toList[j]? |_=>none
def abR (w w':World) (g:Gh) (ps:List PK):Prop:= ∀(i:Nat) (want:List (Sh×Tg)) (j:Nat) (sh:Sh) (v:Value),ps[i]? =some (.ptr want)→want[j]? =some (sh,.dead)→UN w g i j=some v→UN w' g i j=some v
def Good (P:Program) (glob:Nat→Option (List CV)) (sig:Sig) (f:sig.In→Option sig.Out):Prop:=
 ∀x r,f x=some r→Enters P sig.fn∧ ∀(w:World) (g:Gh) (vals:List Value),Bg w g sig.params 0 (retag sig.ins (cellsOf _ x)) vals→O8 glob w g→(∀b ow,g.own b=some ow→b<w.heap.size)→(∀b o,g.F b o→b<w.heap.size)→(∀b ow cs t f,g.own b=some ow→w.heap[b]? =some (.cells cs t f)→f=(0,0))→
  Calls P sig.fn vals.toArray w fun e w'=> ∃v g',e= .returned v∧Base w g.F (fun b=> ∃ow,g.own b=some ow) w' g'∧
   YO w' g' .hand (resT sig.res (retag sig.outs (cellsOf _ r))).1 v∧YP w' g g' sig.params 0 vals (resT sig.res (retag sig.outs (cellsOf _ r))).2∧abR w w' g sig.params
theorem Bg.length: ∀{ps:List PK} {i:Nat} {cs:List CV} {vs:List Value},Bg w g ps i cs vs→vs.length=ps.length
 | [],_,_,_,h=>by simp[h.2]
 | .val _ _::ps,i,cs,_,⟨v,ws,e,_,h⟩=>by simp[e,h.length]
 | .ptr _::ps,i,cs,_,⟨v,ws,e,_,h⟩=>by simp[e,h.length]
 | .rptr _::ps,i,cs,_,⟨v,ws,e,_,h⟩=>by simp[e,h.length]
 | .fn _::ps,i,cs,_,⟨v,ws,e,_,h⟩=>by simp[e,h.length]
 | .clo _ _::ps,i,cs,_,⟨v,ws,e,_,h⟩=>by simp[e,h.length]
 | .io _::ps,i,cs,_,⟨v,ws,e,_,h⟩=>by simp[e,h.length]
def xY (F:Fz):Gh:=⟨fun _=>0,fun _=>none,F⟩
theorem aC.xY {F:Fz} {mk mk':Nat→aF} {cs:List CV} {i j:Nat} {vs:List Value} (hF: ∀b o,g.F b o→F b o) (hp:bg cs=true) (h:aC w g mk i cs vs):aC w (xY F) mk' j cs vs:=
 aC.sZ (g':=AM.xY F) (show Keeps w w g.F F from Keeps.same hF) cs i j vs hp h
theorem abL {c:CV} (h:c.sh.oG=true) {shs:List Sh} {ds:List CV} (ht:(thaw [c] shs).run=some ds):ds= [c]:=by
 cases shs with
 |nil=>exact(ak ht).symm
 |cons sh shs=>
  have h1:abh c sh= .ret c:=by
   obtain⟨csh,ct,cx⟩:=c
   cases csh<;>first|rfl|simp[Sh.oG]at h
  simp only[thaw,h1]at ht
  cases shs<;>exact(ak ht).symm
theorem NP (h:Base C.w0 C.F0 C.X w g) {mk:Nat→aF} (hinj: ∀i j,mk i=mk j→i=j) {cs ds:List CV} {want:List (Sh×Tg)} {i:Nat} {vs:List Value} (hc:aC w g mk i cs vs) (hp:(SG cs want).run=some ds):
 ∃F':Fz,(∀b o,g.F b o→F' b o)∧(∀b o,F' b o→b<w.heap.size)∧bg ds=true∧Tagged ds want∧ ∀(mk':Nat→aF) j,aC w (xY F') mk' j ds vs:=by
 unfold SG at hp
 obtain⟨cs2,hth,hp⟩:=aS hp
 obtain⟨g0,f0,b0,_,_,hc0,_⟩:=Sj hinj cs _ cs2 i vs g h hth hc
 split at hp
 ·rename_i ds' hw
  obtain⟨hpu,hp⟩:=aV hp
  obtain rfl:=ak hp
  obtain⟨g1,f1,b1,_,_,hd,_⟩:=Au hinj cs2 want _ i vs g0 b0 hw hc0
  exact⟨g1.F,fun b o hf=>f1.keeps.sub b o (f0.keeps.sub b o hf),fun b o hf=>(b1.fz b o hf).2,hpu,dV hw,fun mk' j=>hd.xY (fun _ _ h=>h) hpu⟩
 ·exact(aj hp).elim
theorem Zm {x:Operand}: ∀i j,UC x i=UC x j→i=j:=by cases x<;>simp[UC]
theorem Na (h:Rel E C s a w g) {t:T} {v:Value} {mk:Nat→aF} (hv:TV s a w g mk t v) {want:List (Sh×Tg)} {ds:List CV} (hl:(PX s t want).run=some ds):
 ∃F':Fz,(∀b o,g.F b o→F' b o)∧(∀b o,F' b o→b<w.heap.size)∧Tagged ds (PK.rptr want).cells∧ ∀F,(∀b o,F' b o→F b o)→ ∀i (ps:List PK) cs vs,Bg w (xY F) ps (i+1) cs vs→Bg w (xY F) (.rptr want::ps) i (ds++cs) (v::vs):=by
 have hbF: ∀b o,g.F b o→b<w.heap.size:=fun b o e=>(h.base.fz b o e).2
 have fin2: ∀{F':Fz} {sg:List Value} {b off:Nat},v= .pointer (some ⟨b,off,none⟩)→NZ w F' ⟨b,off,none⟩ sg→(∀b o,g.F b o→F' b o)→(∀b o,F' b o→b<w.heap.size)→bg ds=true→Tagged ds want→(∀(mk':Nat→aF) j,aC w (xY F') mk' j ds sg)→
  ∃F':Fz,(∀b o,g.F b o→F' b o)∧(∀b o,F' b o→b<w.heap.size)∧Tagged ds (PK.rptr want).cells∧ ∀F,(∀b o,F' b o→F b o)→ ∀i (ps:List PK) cs vs,Bg w (xY F) ps (i+1) cs vs→Bg w (xY F) (.rptr want::ps) i (ds++cs) (v::vs):=by
  intro F' sg b off hv hrow h1 h2 hpu htg hrep
  have hlen:ds.length=want.length:=by have:=congrArg List.length htg;simpa using this
  refine⟨F',h1,h2,htg,fun F hF i ps cs vs he=>⟨_,vs,rfl,⟨b,off,sg,hv,hrow.keeps (show Keeps w w F' F from Keeps.same hF),?_,?_⟩,?_⟩⟩
  ·rw[←hlen,List.take_left];exact hpu
  ·rw[←hlen,List.take_left]
   exact aC.xY (g:=xY F') hF hpu (hrep (.tm i) 0)
  ·rw[←hlen,List.drop_left];exact he
 unfold PX at hl
 split at hl
 ·rename_i p
  split at hl
  ·rename_i hsub
   obtain⟨cs,hc,hl⟩:=aS hl
   have hc:=fO hsub hc
   obtain⟨_,hv⟩:Old s p∧_:=hv
   rw[hsub]at hv
   obtain⟨n,hn,hv⟩:=hv
   obtain⟨hroot,hlen⟩:=h.pl hc
   have hb: ∃b,s.bx n=some b∧b.inst=p.inst:=by
    have:=hc
    rw[bG]at this
    obtain⟨cells,e,_⟩:=this
    rw[hn]at e;simp only[aA]at e
    cases hb:s.bx n with
    |none=>rw[hb]at e;simp at e
    |some b=>rw[hb]at e;simp only[Option.some.injEq,Prod.mk.injEq]at e;exact⟨b,rfl,e.1⟩
   obtain⟨b,hb,hbi⟩:=hb
   obtain⟨cur,et,h1,h2,_,h4⟩:=h.bx n b hb
   have hrv:aB a w g p.root=cur.toList:=by rw[hn];exact vP h1
   obtain⟨F',k1,k2,k3,k4,k5⟩:=NP h.base (uD _) hroot hl
   rw[hrv]at k5
   refine fin2 (F':=fun b o=>F' b o∨b=g.at_ n) (hv b hb hbi) (fun j hj=>⟨?_,.inr rfl⟩) (fun b o hf=> .inl (k1 b o hf)) (fun b o hf=> ?_) k3 k4 fun mk' j=>aC.xY (g:=xY F') (fun _ _ h=> .inl h) k3 (k5 .hand 0)
   ·have hj':j<want.length:=by simp at hj;omega
    simp only
    rw[cell_of_heap h1,List.getElem?_take,if_pos hj',List.getElem?_drop];simp
   ·rcases hf with hf|rfl
    ·exact k2 b o hf
    ·exact lt_of_heap h1
  ·exact(aj hl).elim
 ·unfold XO at hl
  split at hl
  ·rename_i cs0 off _
   obtain⟨hle,hl⟩:=aV hl
   have hle:=Nat.le_of_ble_eq_true hle
   split at hl
   ·rename_i ds' hw
    obtain⟨hpu,hl⟩:=aV hl
    obtain rfl:=ak hl
    obtain⟨ad,vs,e1,hrow,hpure,hcs⟩: ∃(ad:Addr) (vs:List Value),v= .pointer (some ⟨ad.block,ad.off+off,none⟩)∧NZ w g.F ad vs∧bg cs0=true∧aC w g mk 0 cs0 vs:=hv
    have hsub:=hcs.sub off want.length
    have hlv:=hcs.length
    have hp2:bg ((cs0.drop off).take want.length)=true:=by
     unfold bg at hpure ⊢
     rw[List.all_eq_true]at hpure ⊢
     exact fun c hc=>hpure c (List.mem_of_mem_drop (List.mem_of_mem_take hc))
    refine fin2 (F':=g.F) (sg:=(vs.drop off).take want.length) e1 (fun j hj=> ?_) (fun _ _ h=>h) hbF hpu (dV hw) fun mk' j=>aC.xY (fun _ _ h=>h) hpu (uO (mk':=mk') (j:=j) hp2 hw hsub)
    have hj':j<want.length:=by simp at hj;omega
    have:=hrow (off+j) (by omega)
    simp only at this ⊢
    rw[List.getElem?_take,if_pos hj',List.getElem?_drop,Nat.add_assoc]
    exact this
   ·exact(aj hl).elim
  ·exact(aj hl).elim
theorem Y5 (h:Rel E C s a w g) {x:Operand} {pk:PK} {ds:List CV} (hl:(Wv E s pk x).run=some ds):
 ∃F':Fz,(∀b o,g.F b o→F' b o)∧(∀b o,F' b o→b<w.heap.size)∧Tagged ds pk.cells∧ ∀F,(∀b o,F' b o→F b o)→ ∀i (ps:List PK) cs vs,Bg w (xY F) ps (i+1) cs vs→Bg w (xY F) (pk::ps) i (ds++cs) (a.eval x::vs):=by
 have hbF: ∀b o,g.F b o→b<w.heap.size:=fun b o e=>(h.base.fz b o e).2
 unfold Wv at hl
 have fin: ∀{ag:Bool} {want:List (Sh×Tg)} {F':Fz},isAgg (a.eval x)=ag→(∀b o,g.F b o→F' b o)→(∀b o,F' b o→b<w.heap.size)→bg ds=true→Tagged ds want→(∀(mk':Nat→aF) j,aC w (xY F') mk' j ds (a.eval x).cells.toList)→
  ∃F':Fz,(∀b o,g.F b o→F' b o)∧(∀b o,F' b o→b<w.heap.size)∧Tagged ds (PK.val ag want).cells∧ ∀F,(∀b o,F' b o→F b o)→ ∀i (ps:List PK) cs vs,Bg w (xY F) ps (i+1) cs vs→Bg w (xY F) (.val ag want::ps) i (ds++cs) (a.eval x::vs):=by
  intro ag want F' hag h1 h2 hpu htg hrep
  have hlen:ds.length=want.length:=by have:=congrArg List.length htg;simpa using this
  refine⟨F',h1,h2,htg,fun F hF i ps cs vs he=>⟨_,vs,rfl,⟨hag,?_⟩,?_⟩⟩
  ·rw[←hlen,List.take_left]
   exact aC.xY (g:=xY F') hF hpu (hrep (.tm i) 0)
  ·rw[←hlen,List.drop_left];exact he
 cases pk with
 |val ag0 want=>
  simp only[]at hl
  split at hl
  ·rename_i ag cs hx
   obtain⟨hag,hl⟩:=aV hl
   have hag:ag=ag0:=by simpa using hag
   have hv:=aK h hx (by simp)
   obtain⟨F',h1,h2,h3,h4,h5⟩:=NP h.base Zm hv.2 hl
   exact fin (hv.1.trans hag) h1 h2 h3 h4 h5
  ·rename_i p ag n hx
   obtain⟨hag,hl⟩:=aV hl
   have hag:ag=ag0:=by simpa using hag
   obtain⟨_,_,hsub,hv⟩:=aK h hx (by simp)
   obtain⟨cs,hc,hl⟩:=aS hl
   have hc:=fO hsub hc
   obtain⟨k1,k2⟩:=hv _ hc
   obtain⟨F',h1,h2,h3,h4,h5⟩:=NP h.base (uD _) (h.pl hc).1 hl
   rw[←k2]at h5
   exact fin (k1.trans hag) h1 h2 h3 h4 h5
  ·rename_i p z lo hi hx
   cases hag0:ag0 with
   |true=>rw[hag0]at hl;exact(aj hl).elim
   |false=>
    rw[hag0]at hl
    simp only[cond_false]at hl
    obtain⟨_,_,hsub,_,hv⟩:=aK h hx (by simp)
    obtain⟨cs,hc,hl⟩:=aS hl
    have hc:=fO hsub hc
    obtain⟨c,rfl⟩:=DT hc
    simp only[]at hl
    split at hl
    ·rename_i d hd
     obtain⟨hsl,hnd,rfl⟩:=qA hd
     have hdl:c.sh.YM .pure=true:=by cases hs:c.sh<;>first|rfl|(rw[hs]at hsl;simp[Sh.oG]at hsl)
     obtain⟨A,l,k,e1,k1,k2,k3,k4⟩:=hv c hc
     obtain⟨u,e2,hcr,_⟩:=nT h hc
     rw[e1]at e2;cases e2
     have hle:Tg.le .pure c.tg=true:=by
      cases htg:c.tg<;>first|rfl|exact absurd htg hnd
     obtain⟨g1,f1,b1,_,_,hp1,_⟩:=hcr.weak h.base hle hdl
     have hpc:iR w g1.F c.sh (EI c.sh c.x lo hi) (y9 A k lo hi c.sh.n):=iR.sub hsl hp1 k1 k2
     unfold SG at hl
     obtain⟨cs2,hth,hl⟩:=aS hl
     obtain rfl:=abL (c:=⟨c.sh,c.tg,EI c.sh c.x lo hi⟩) hsl hth
     split at hl
     ·rename_i ds' hw
      obtain⟨hpu,hl⟩:=aV hl
      obtain rfl:=ak hl
      obtain⟨tg,rfl,rfl,_⟩:=Ld hw
      have htg:tg= .pure:=qQ hpu _ (List.mem_singleton.2 rfl)
      subst htg
      have hagx:isAgg (a.eval x)=false:=by rw[k4];rfl
      refine fin hagx f1.keeps.sub (fun b o hf=>(b1.fz b o hf).2) hpu (dV hw) fun mk' j=> ?_
      rw[aH hagx,k4]
      exact⟨_,[],rfl,hpc,rfl⟩
     ·exact(aj hl).elim
    ·exact(aj hl).elim
  ·rename_i hx
   cases hag0:ag0 with
   |true=>rw[hag0]at hl;exact(aj hl).elim
   |false=>
    rw[hag0]at hl
    simp only[cond_false]at hl
    obtain⟨ds',hn,hl⟩:=aS hl
    obtain⟨hpu,hl⟩:=aV hl
    obtain rfl:=ak hl
    obtain⟨sh,tg,rfl,hsl,rfl⟩:=UR hn
    have hval:a.eval x= .slice none 0 0:=by
     rcases h.at_ x with⟨_,e⟩|e
     ·exact e
     ·rw[hx]at e;exact e.elim
    refine fin (F':=g.F) (by rw[hval];rfl) (fun _ _ h=>h) hbF hpu rfl fun mk' j=> ?_
    rw[hval]
    exact⟨_,[],rfl,MK hsl tg,rfl⟩
  ·exact(aj hl).elim
 |ptr want=>exact(aj hl).elim
 |io want=>exact(aj hl).elim
 |fn f=>
  simp only[]at hl
  split at hl
  ·rename_i f' hx
   have hl2:=aV hl
   have hf:=Nat.eq_of_beq_eq_true hl2.1
   obtain rfl:=ak hl2.2
   have hv:=aK h hx (by simp)
   subst hf
   exact⟨g.F,fun _ _ h=>h,hbF,rfl,fun F hF i ps cs vs he=>⟨_,vs,rfl,hv,he⟩⟩
  ·exact(aj hl).elim
 |clo f want=>
  simp only[]at hl
  split at hl
  ·rename_i f' t hx
   have hl2:=aV hl
   have hf:=Nat.eq_of_beq_eq_true hl2.1
   obtain⟨vs0,hv,v0,ws0,rfl,hk,ht,hws⟩:=aK h hx (by simp)
   have hws:ws0= []:=hws
   subst hws;subst hf
   obtain⟨F',h1,h2,h3,h4⟩:=Na h (show TV s a w g (UC x) t v0 from by cases t<;>first|exact ht|exact hk.elim) hl2.2
   refine⟨F',h1,h2,h3,fun F hF i ps cs vs he=> ?_⟩
   obtain⟨v,ws,e,⟨b,off,sg,e1,k1,k2,k3⟩,k4⟩:=h4 F hF i ps cs vs he
   cases e
   exact⟨_,_,rfl,⟨b,off,sg,by rw[hv,e1],k1,k2,k3⟩,k4⟩
  ·exact(aj hl).elim
 |rptr want=>
  rcases h.at_ x with⟨e,_⟩|e
  ·simp only[e]at hl
   exact(aj hl).elim
  ·exact Na h e hl
theorem EY (h:Rel E C s a w g) {mk:Nat→aF}: ∀{ts:List T} {cvs:List Value},ny s a w g mk ts cvs→ ∀(ps:List PK) (xs:List Operand) (cs:List CV),(wL E s ps xs ts).run=some cs→
 ∃F':Fz,(∀b o,g.F b o→F' b o)∧(∀b o,F' b o→b<w.heap.size)∧Tagged cs (ps.flatMap PK.cells)∧ ∀F,(∀b o,F' b o→F b o)→ ∀i,Bg w (xY F) ps i cs (xs.map a.eval++cvs)
 | [],cvs,hcap,[],[],cs,hl=>by
   obtain rfl:=ak hl
   have hcap:cvs= []:=hcap
   subst hcap
   exact⟨g.F,fun _ _ h=>h,fun b o e=>(h.base.fz b o e).2,rfl,fun F hF i=>⟨rfl,rfl⟩⟩
 |_::_,_,_,[],[],_,hl=>(aj hl).elim
 |_,_,_,[],_::_,_,hl=>(aj hl).elim
 | [],_,_,p::_,[],_,hl=>by cases p<;>exact(aj hl).elim
 |ts,cvs,hcap,p::ps,x::xs,cs,hl=>by
  simp only[wL]at hl
  obtain⟨ds,h1,hl⟩:=aS hl
  obtain⟨es,h2,hl⟩:=aS hl
  obtain rfl:=ak hl
  obtain⟨F1,a1,b1,c1,d1⟩:=Y5 h h1
  obtain⟨F2,a2,b2,c2,d2⟩:=EY h hcap ps xs es h2
  refine⟨fun b o=>F1 b o∨F2 b o,fun b o e=> .inl (a1 b o e),fun b o e=>e.elim (b1 b o) (b2 b o),by rw[List.flatMap_cons];exact c1.append c2,fun F hF i=> ?_⟩
  exact d1 F (fun b o e=>hF b o (.inl e)) i ps es _ (d2 F (fun b o e=>hF b o (.inr e)) (i+1))
 |t::ts,cvs,⟨v,ws,e,hk,ht,hcap⟩,.rptr want::ps,[],cs,hl=>by
  subst e
  simp only[wL]at hl
  obtain⟨ds,h1,hl⟩:=aS hl
  obtain⟨es,h2,hl⟩:=aS hl
  obtain rfl:=ak hl
  obtain⟨F1,a1,b1,c1,d1⟩:=Na h (show TV s a w g mk t v from by cases t<;>first|exact ht|exact hk.elim) h1
  obtain⟨F2,a2,b2,c2,d2⟩:=EY h hcap ps [] es h2
  refine⟨fun b o=>F1 b o∨F2 b o,fun b o e=> .inl (a1 b o e),fun b o e=>e.elim (b1 b o) (b2 b o),by rw[List.flatMap_cons];exact c1.append c2,fun F hF i=> ?_⟩
  exact d1 F (fun b o e=>hF b o (.inl e)) i ps es _ (d2 F (fun b o e=>hF b o (.inr e)) (i+1))
 |_::_,_,_,.val _ _::_,[],_,hl=>(aj hl).elim
 |_::_,_,_,.ptr _::_,[],_,hl=>(aj hl).elim
 |_::_,_,_,.fn _::_,[],_,hl=>(aj hl).elim
 |_::_,_,_,.clo _ _::_,[],_,hl=>(aj hl).elim
 |_::_,_,_,.io _::_,[],_,hl=>(aj hl).elim
end
end Go.AM
end
section
set_option linter.unusedVariables false
namespace Go.AM
open Go
section
variable {P:Program} {E:Env} {C:Ctx} {s s':St} {a a':Act} {w w':World} {g g':Gh} {o:Oper} {Q:Exit→Act→World→Prop}
theorem QC {cl:Call} {fo:Operand} {f:FuncId} (ho:o.op= .call cl) (hc:cl.callee= .value fo) {vs:Array Value} (hf:a.eval fo= .func (.func f) #[] vs) (he:Enters P f):
 (execOp a.eval o).run P w= .ok (.enter f (cl.args.map a.eval++vs)) w:=by
 obtain⟨fn,h1,h2,h3⟩:=he
 have h4:(invoke (.fn (.func f) vs) (cl.args.map a.eval)).run P w= .ok (.enter f (cl.args.map a.eval++vs)) w:=by
  simp only[invoke,callFunc,Sem.run_bind,run_program,Result.andThen_ok,h1,h2,h3,Bool.false_eq_true,if_false,Sem.run_pure]
 simp only[execOp,ho,resolve,hc,hf,Deferred.ofValue]
 simpa using h4
theorem aaJ {c:CV} {tg:Tg} (h:c.tg=tg):c.to tg=c:=by
 obtain⟨sh,ct,x⟩:=c
 simp only at h;subst h;rfl
theorem JM {c:CV} {sh:Sh} {y:El sh} (h:jd c sh=some y):(⟨sh,.pure,y⟩:CV)=c.to .pure:=by
 obtain⟨e,rfl⟩:=jZ h
 obtain⟨csh,ct,cx⟩:=c
 simp only at e;subst e;rfl
theorem qC: ∀(es:List Sh) (cs:List CV) (x:ElA es),fH es cs=some x→cellsOf es x=cs.map (·.to .pure)
 | [],[],_,_=>rfl
 | [],_::_,_,ho=>(aO ho rfl).elim
 | [s],[],_,ho=>(aO ho rfl).elim
 | [s],[c],x,ho=>by
   have:=JM (c:=c) (sh:=s) (y:=x) ho
   show[(⟨s,.pure,x⟩:CV)]=_
   rw[this];rfl
 | [s],_::_::_,_,ho=>(aO ho rfl).elim
 |s::t::ss,[],_,ho=>(aO ho rfl).elim
 |s::t::ss,c::cs,x,ho=>by
  obtain⟨y,z,hy,hz,rfl⟩:=nU ho
  have h1:=JM hy
  have h2:=qC (t::ss) cs z hz
  show(⟨s,.pure,y⟩:CV)::cellsOf (t::ss) z=_
  rw[h1,h2];rfl
theorem wC: ∀{cs:List CV} {want:List (Sh×Tg)},Tagged cs want→retag want (cs.map (·.to .pure))=cs
 | [],want,h=>by cases want<;>simp[Tagged]at h<;>rfl
 |c::cs,[],h=>by simp[Tagged]at h
 |c::cs,(sh,tg)::want,h=>by
  simp only[Tagged,List.map_cons,List.cons.injEq,Prod.mk.injEq]at h
  simp only[List.map_cons,retag]
  rw[wC h.2]
  congr 1
  obtain⟨csh,ct,cx⟩:=c
  simp only at h
  obtain⟨⟨_,rfl⟩,_⟩:=h
  rfl
theorem LQ {cs:List CV} {sig:Sig} (h:Tagged cs (sig.params.flatMap PK.cells)):Tagged cs sig.ins:=h
theorem Vj {cs:List CV} {sig:Sig} (h:Tagged cs sig.ins) {x:sig.In} (hx:fH (sig.ins.map (·.1)) cs=some x):retag sig.ins (cellsOf _ x)=cs:=by
 rw[qC _ _ _ hx,wC h]
theorem UW {ts:List (Bool×List CV)} {v:Value} {mk:Nat→aF} (h:YO w g mk ts v):TV s a w g mk (afc ts) v:=by
 match ts,h with
 | [],h=>exact h
 | [(ag,cs)],h=>exact h
 |_::_::_,h=>exact h
theorem Sl {g2:Gh} {w2:World} {ow ow':aF} {c:CV} {v:Value} (hs:c.sh.scalar=true) (h:jl w g ow c v):jl w2 g2 ow' c v:=by
 obtain⟨sh,ct,x⟩:=c
 cases sh with
 |sl es=>simp[Sh.scalar]at hs
 |rsl ss=>simp[Sh.scalar]at hs
 |dl ss=>simp[Sh.scalar]at hs
 |mp k e=>simp[Sh.scalar]at hs
 |int k=>cases ct<;>first|exact trivial|exact h
 |bool=>cases ct<;>first|exact trivial|exact h
 |str=>cases ct<;>first|exact trivial|exact h
theorem aC.free {g2:Gh} {w2:World} {mk mk':Nat→aF}: ∀{cs:List CV} {i j:Nat} {vs:List Value},(∀c,c∈cs→c.sh.scalar=true)→aC w g mk i cs vs→aC w2 g2 mk' j cs vs
 | [],_,_,_,_,h=>h
 |c::cs,i,j,_,hs,⟨v,ws,e,h1,h⟩=>⟨v,ws,e,Sl (hs c (by simp)) h1,aC.free (fun c hc=>hs c (by simp[hc])) h⟩
theorem lg.free {g2:Gh} {w2:World} {mk mk':Nat→aF}: ∀{ts:List (Bool×List CV)} {i j:Nat} {vs:List Value},(∀t,t∈ts→ ∀c,c∈t.2→c.sh.scalar=true)→lg w g mk i ts vs→lg w2 g2 mk' j ts vs
 | [],_,_,_,_,h=>h
 |(ag,cs)::ts,i,j,_,hs,⟨v,ws,e,⟨h0,h1⟩,h⟩=>⟨v,ws,e,⟨h0,aC.free (fun c hc=>hs (ag,cs) (by simp) c hc) h1⟩,lg.free (fun t ht=>hs t (by simp[ht])) h⟩
theorem UQ: ∀{rs:List (Bool×List (Sh×Tg))} {cs:List CV} {t:Bool×List CV},t∈(resT rs cs).1→ ∀c,c∈t.2→c∈cs
 | [],cs,t,h,_,_=>by simp[resT]at h
 |(ag,want)::rs,cs,t,h,c,hc=>by
  simp only[resT]at h
  rcases List.mem_cons.1 h with rfl|h
  ·exact List.mem_of_mem_take hc
  ·exact List.mem_of_mem_drop (UQ h c hc)
theorem UK: ∀{want:List (Sh×Tg)} {cs:List CV} {c:CV},c∈retag want cs→ ∃c',c'∈cs∧c.sh=c'.sh
 | [],_,_,h=>by simp[retag]at h
 |_::_,[],_,h=>by simp[retag]at h
 |(sh,tg)::want,c0::cs,c,h=>by
  simp only[retag]at h
  rcases List.mem_cons.1 h with rfl|h
  ·exact⟨c0,by simp,rfl⟩
  ·obtain⟨c',h1,h2⟩:=UK h
   exact⟨c',by simp[h1],h2⟩
theorem QG {i:Nat} (hG:Good P E.glob (E.sig i) (E.call i)) (h:Rel E C s a w g) {cl:Call} {fo:Operand} (ho:o.op= .call cl) (hc:cl.callee= .value fo) {ts:List T} {cvs:List Value} {mk:Nat→aF} (hcap:ny s a w g mk ts cvs) (hf:a.eval fo= .func (.func (E.sig i).fn) #[] cvs.toArray)
 (hsc:(E.sig i).scalar=true) {d:Nat} (hdst:o.dst=some d) (hd:DOk E d) {us:List Upd} (hp:(Ko E s d cl.args.toList ts i).run=some us):
 o.wp P a w (fun a' w'=> ∃g',Rel E C (s.dI us) a' w' g') Q:=by
 unfold Ko at hp
 rw[hsc]at hp
 simp only[cond_true]at hp
 obtain⟨cs,hl,hp⟩:=aS hp
 split at hp
 ·exact(aj hp).elim
 ·rename_i x hx
  obtain⟨r,hr,hp⟩:=yE hp
  obtain rfl:=ak hp
  obtain⟨F',h1,h2,htg,hent⟩:=EY h hcap _ _ cs hl
  obtain⟨hen,hcall⟩:=hG x r hr
  have hret:=Vj (LQ htg) hx
  have hE:Bg w (xY F') (E.sig i).params 0 (retag (E.sig i).ins (cellsOf _ x)) (cl.args.toList.map a.eval++cvs):=by rw[hret];exact hent F' (fun _ _ h=>h) 0
  have hglob:O8 E.glob w (xY F'):=fun gl cs hg=>by
   obtain⟨k1,vs,k2,k3⟩:=h.glob gl cs hg
   exact⟨k1,vs,k2.keeps (show Keeps w w g.F F' from Keeps.same h1),k3.xY h1 k1⟩
  have hC:=hcall w (xY F') _ hE hglob (fun b ow e=>by cases e) (fun b o e=>h2 b o e) (fun b ow cs t f e=>by cases e)
  have hargs:(cl.args.toList.map a.eval++cvs).toArray=cl.args.map a.eval++cvs.toArray:=by apply Array.toList_inj.1;simp
  rw[hargs]at hC
  unfold Oper.wp
  rw[QC ho hc hf hen,Oper.upon_enter]
  refine hC.mono fun e w' hR=> ?_
  obtain⟨v,g0,rfl,hb,hres,_⟩:=hR
  have hheap: ∀b,b<w.heap.size→w'.heap[b]? =w.heap[b]? :=fun b hb'=>hb.blk b hb' (fun⟨ow,e⟩=>by cases e)
  have hkeep:Keeps w w' g.F g.F:=⟨fun _ _ h=>h,fun b o hf=>hb.keeps.cell b o (h1 b o hf)⟩
  have hfr:Fr (fun _=>True) w w' g g:=⟨hkeep,fun b ow _ e=>⟨e,hheap b (h.base.own b ow e).2,fun _ h=>h⟩⟩
  have hbase:Base C.w0 C.F0 C.X w' g:=⟨hb.os.trans h.base.os,hb.tape.trans h.base.tape,hb.output.trans h.base.output,Nat.le_trans h.base.size hb.size,fun b hb' hx'=>by
   rw[hheap b (Nat.lt_of_lt_of_le hb' h.base.size)];exact h.base.blk b hb' hx',fun b ow e=>⟨(h.base.own b ow e).1,Nat.lt_of_lt_of_le (h.base.own b ow e).2 hb.size⟩,
   h.base.keeps.trans hkeep,fun b o hf=>⟨(h.base.fz b o hf).1,Nat.lt_of_lt_of_le (h.base.fz b o hf).2 hb.size⟩,fun b ow cs t f hx hc=>by
    rw[hheap b (h.base.own b ow hx).2]at hc;exact h.base.frz b ow cs t f hx hc⟩
  have r1:Rel E C s a w' g:=h.world (hfr.mono fun _ _=>trivial) hbase rfl
  have hsco: ∀t,t∈(resT (E.sig i).res (retag (E.sig i).outs (cellsOf ((E.sig i).outs.map (·.1)) r))).1→ ∀c,c∈t.2→c.sh.scalar=true:=by
   intro t ht c hc
   have hm:=UQ ht c hc
   obtain⟨c',h3,h4⟩:=UK hm
   rw[h4]
   have:c'.sh∈(cellsOf ((E.sig i).outs.map (·.1)) r).map CV.sh:=List.mem_map.2 ⟨c',h3,rfl⟩
   rw[rV]at this
   obtain⟨y,hy,hy2⟩:=List.mem_map.1 this
   have hsc':=hsc
   simp only[Sig.scalar,Bool.and_eq_true]at hsc'
   have:=List.all_eq_true.1 hsc'.1 y hy
   rw[←hy2];exact this
  have hres2:YO w' g (.tm d) (resT (E.sig i).res (retag (E.sig i).outs (cellsOf ((E.sig i).outs.map (·.1)) r))).1 v:=by
   generalize (resT (E.sig i).res (retag (E.sig i).outs (cellsOf ((E.sig i).outs.map (·.1)) r))).1=ts at hres hsco
   unfold YO at hres ⊢
   split at hres
   ·rename_i ag cs
    exact⟨hres.1,aC.free (fun c hc=>hsco (ag,cs) (by simp) c hc) hres.2⟩
   ·obtain⟨vs,e,ht⟩:=hres
    exact⟨vs,e,lg.free hsco ht⟩
  refine⟨g,?_⟩
  rw[hdst]
  exact r1.SC hd (Fr.refl _ _ _) hbase rfl (UW hres2)
end
end Go.AM
end
section
set_option linter.unusedVariables false
namespace Go.AM
open Go
section
variable {P:Program} {E:Env} {C:Ctx} {s s':St} {a a':Act} {w w':World} {g g':Gh} {o:Oper} {Q:Exit→Act→World→Prop}
theorem VG.via {ow ow':aF} (ho: ∀b,g.own b=some ow→g'.own b=some ow') (hF:g'.F=g.F) {b:Nat} {tip:Bool} {sh:Sh} {x:El sh} {cs:List Value} (h:VG w g ow b tip sh x cs):VG w g' ow' b tip sh x cs:=by
 cases sh with
 |dl es=>exact⟨h.1,iF.imp (g:=g) (g':=g') (by rw[hF];exact Keeps.refl _ _) (fun sh x v _ hp=>uy.owner hF (fun z hz=>ho z (hp.l9 hz)) hp) h.2⟩
 |sl es=>show uq w g'.F (.sl es) x cs;rw[hF];exact h
 |rsl es=>show uq w g'.F (.rsl es) x cs;rw[hF];exact h
 |_=>exact h.elim
theorem jl.via {ow ow':aF} (ho: ∀b,g.own b=some ow→g'.own b=some ow') (hF:g'.F=g.F) {c:CV} {v:Value} (h:jl w g ow c v):jl w g' ow' c v:=by
 unfold jl at h ⊢
 have hown: ∀tip,yA w g ow tip c.sh c.x v→yA w g' ow' tip c.sh c.x v:=by
  intro tip h
  rcases h with h|⟨b,k,cur,et,hv,hl,hc,h1,h2,hs,he,hf⟩
  ·exact .inl h
  ·exact .inr ⟨b,k,cur,et,hv,hl,hc,ho b h1,h2,hs,he.via ho hF,fun o=>by rw[hF];exact hf o⟩
 split at h
 ·trivial
 ·rw[hF];exact h
 ·split
  ·rename_i hs;rw[if_pos hs]at h;exact hown _ h
  ·rename_i hs;rw[if_neg hs]at h
   split
   ·rename_i hm;rw[if_pos hm]at h
    obtain⟨sh,tg,x⟩:=c
    cases sh with
    |mp k e=>
     rcases h with h|⟨b,l,hx,hv,h1,h2,hf⟩
     ·exact .inl h
     ·exact .inr ⟨b,l,hx,hv,ho b h1,h2,fun o=>by rw[hF];exact hf o⟩
    |_=>exact h.elim
   ·rename_i hm;rw[if_neg hm]at h;rw[hF];exact h
 ·split
  ·rename_i hs;rw[if_pos hs]at h;exact hown _ h
  ·rename_i hs;rw[if_neg hs]at h;rw[hF];exact h
theorem aC.via (hF:g'.F=g.F) {mk mk':Nat→aF}: ∀{cs:List CV} {i i':Nat} {vs:List Value},(∀j b,j<cs.length→g.own b=some (mk (i+j))→g'.own b=some (mk' (i'+j)))→aC w g mk i cs vs→aC w g' mk' i' cs vs
 | [],_,_,_,_,h=>h
 |c::cs,i,i',_,ho,⟨v,ws,e,h1,h⟩=>⟨v,ws,e,h1.via (fun b hb=>by have:=ho 0 b (by simp) (by simpa using hb);simpa using this) hF,
  aC.via hF (fun j b hj hb=>by
   have:=ho (j+1) b (by simp;omega) (by rw[show i+(j+1)=i+1+j by omega];exact hb)
   rwa [show i'+(j+1)=i'+1+j by omega]at this) h⟩
theorem lg.via (hF:g'.F=g.F) {mk mk':Nat→aF} (ho: ∀j b,g.own b=some (mk j)→g'.own b=some (mk' j)): ∀{ts:List (Bool×List CV)} {i:Nat} {vs:List Value},lg w g mk i ts vs→lg w g' mk' i ts vs
 | [],_,_,h=>h
 |(ag,cs)::ts,i,_,⟨v,ws,e,⟨h0,h1⟩,h⟩=>⟨v,ws,e,⟨h0,h1.via hF fun j b _ hb=>ho _ b hb⟩,lg.via hF ho h⟩
theorem YO.via (hF:g'.F=g.F) {mk mk':Nat→aF} (ho: ∀j b,g.own b=some (mk j)→g'.own b=some (mk' j)) {ts:List (Bool×List CV)} {v:Value} (h:YO w g mk ts v):YO w g' mk' ts v:=by
 match ts,h with
 | [],⟨vs,e,h⟩=>exact⟨vs,e,h⟩
 | [(ag,cs)],h=>exact⟨h.1,h.2.via hF fun j b _ hb=>ho _ b hb⟩
 |_::_::_,⟨vs,e,h⟩=>exact⟨vs,e,h.via hF ho⟩
def MX:List PK→Nat→Nat→aF
 | [],_,k=> .hand k
 |p::ps,i,k=>if k<p.cells.length then(match p with| .ptr _=> .cell i k|_=> .tm i k)else MX ps (i+1) (k-p.cells.length)
def FV:List (Option Nat)→Nat→Nat→Option Nat
 | [],_,_=>none
 |b::bs,i,n=>if b=some n then some i else FV bs (i+1) n
def Tz (bs:List (Option Nat)) (i:Nat):Option Nat:=match bs[i]? with|some (some n)=>some n|_=>none
theorem QJ: ∀{bs:List (Option Nat)} {i j n:Nat},(bs.filterMap id).Nodup→bs[j]? =some (some n)→FV bs i n=some (i+j)
 | [],_,_,_,_,h=>by simp at h
 |b::bs,i,0,n,hnd,h=>by
  simp at h;subst h
  simp[FV]
 |b::bs,i,j+1,n,hnd,h=>by
  have hj:bs[j]? =some (some n):=by simpa using h
  have hb:b≠some n:=by
   rintro rfl
   simp only[List.filterMap_cons,id,List.nodup_cons]at hnd
   exact hnd.1 (List.mem_filterMap.2 ⟨some n,List.mem_of_getElem? hj,rfl⟩)
  have hnd2:(bs.filterMap id).Nodup:=by
   cases b with
   |none=>simpa using hnd
   |some m=>simp only[List.filterMap_cons,id,List.nodup_cons]at hnd;exact hnd.2
  simp only[FV,if_neg hb]
  rw[QJ hnd2 hj];congr 1;omega
theorem L6: ∀{bs:List (Option Nat)} {i n k:Nat},FV bs i n=some k→some n∈bs
 | [],_,_,_,h=>by simp[FV]at h
 |b::bs,i,n,k,h=>by
  simp only[FV]at h
  split at h
  ·rename_i e;subst e;simp
  ·exact List.mem_cons_of_mem _ (L6 h)
def callee (ps:List PK) (bs:List (Option Nat)) (g:Gh):Gh:=
 ⟨fun i=>match Tz bs i with|some n=>g.at_ n|none=>0,fun b=>match g.own b with|some (.hand k)=>some (MX ps 0 k)|some (.box n)=>(FV bs 0 n).map .box|_=>none,g.F⟩
theorem XW {g0:Gh} (hF:g0.F=g.F): ∀(ps:List PK) (i k:Nat) (bs:List (Option Nat)) (cs:List CV) (vs:List Value) (sgs:List (List Value)),
 (∀b k',g.own b=some (.hand (k+k'))→g0.own b=some (MX ps i k'))→(∀j n,bs[j]? =some (some n)→g0.at_ (i+j)=g.at_ n∧(g.own (g.at_ n)=some (.box n)→g0.own (g.at_ n)=some (.box (i+j)))∧ ∀o,¬g.F (g.at_ n) o)→
 aC w g .hand k cs sgs.flatten→Tagged cs (ps.flatMap PK.cells)→wK w g ps bs vs sgs→Bg w g0 ps i cs vs
 | [],i,k,[],cs,[],[],_,_,hc,ht,_=>⟨by simpa [Tagged]using ht,rfl⟩
 |p::ps,i,k,b::bs,cs,v::vs,sg::sgs,ho,hb,hc,ht,⟨hp,hl,hps⟩=>by
  rw[List.flatten_cons]at hc
  rw[List.flatMap_cons]at ht
  have hcl:=hc.length
  have htl:cs.length=p.cells.length+(ps.flatMap PK.cells).length:=by have:=congrArg List.length ht;simpa using this
  have c1:aC w g .hand k (cs.take p.cells.length) sg:=by
   have:=hc.sub 0 p.cells.length
   simp only[Nat.add_zero,List.drop_zero]at this
   rwa [←hl,List.take_left,hl]at this
  have c2:aC w g .hand (k+p.cells.length) (cs.drop p.cells.length) sgs.flatten:=by
   have:=hc.sub p.cells.length (cs.length-p.cells.length)
   rw[List.take_of_length_le (by simp),List.take_of_length_le (by simp only[List.length_drop];omega)]at this
   rwa [←hl,List.drop_left,hl]at this
  have t1:Tagged (cs.take p.cells.length) p.cells:=by
   simp only[Tagged,List.map_take]at ht ⊢;rw[ht,List.take_left]
  have t2:Tagged (cs.drop p.cells.length) (ps.flatMap PK.cells):=by
   simp only[Tagged,List.map_drop]at ht ⊢;rw[ht,List.drop_left]
  have ih:Bg w g0 ps (i+1) (cs.drop p.cells.length) vs:=XW hF ps (i+1) (k+p.cells.length) bs _ vs sgs (fun b' k' e=>by
   have:=ho b' (p.cells.length+k') (by rw[←Nat.add_assoc];exact e)
   simp only[MX]at this
   rw[if_neg (by omega)]at this
   rwa [show p.cells.length+k'-p.cells.length=k' by omega]at this)
   (fun j n e=>by have:=hb (j+1) n (by simpa using e);rwa [show i+(j+1)=i+1+j by omega]at this) c2 t2 hps
  have hl1:(cs.take p.cells.length).length=p.cells.length:=by simp;omega
  have move: ∀(mk:Nat→aF),(∀j,j<p.cells.length→MX (p::ps) i j=mk j)→aC w g0 mk 0 (cs.take p.cells.length) sg:=by
   intro mk hmk
   refine c1.via hF fun j b hj e=> ?_
   rw[hl1]at hj
   have:=ho b j e
   rw[hmk j hj]at this
   simpa using this
  cases p with
  |val ag want=>
   cases b with
   |some n=>exact hp.elim
   |none=>
    refine⟨v,vs,rfl,⟨hp.1,?_⟩,ih⟩
    rw[hp.2]
    exact move (.tm i) fun j hj=>by simp only[MX];rw[if_pos hj]
  |rptr want=>
   cases b with
   |some n=>exact hp.elim
   |none=>
    obtain⟨⟨b,off,e,hrow⟩,hpw⟩:=hp
    refine⟨v,vs,rfl,⟨b,off,sg,e,by rw[hF];exact hrow,TA t1 hpw,?_⟩,ih⟩
    exact move (.tm i) fun j hj=>by simp only[MX];rw[if_pos hj]
  |fn f=>
   cases b with
   |some n=>exact hp.elim
   |none=>exact⟨v,vs,rfl,hp,ih⟩
  |clo f want=>cases b<;>exact hp.elim
  |io want=>
   cases b with
   |some n=>exact hp.elim
   |none=>
    refine⟨v,vs,rfl,⟨hp.1,?_⟩,ih⟩
    rw[hp.2]
    exact move (.tm i) fun j hj=>by simp only[MX];rw[if_pos hj]
  |ptr want=>
   cases b with
   |none=>exact hp.elim
   |some n=>
    obtain⟨hv,hown,cur,et,hheap,hsg⟩:=hp
    obtain⟨e1,e2,e3⟩:=hb 0 n rfl
    simp only[Nat.add_zero]at e1 e2
    refine⟨v,vs,rfl,⟨by rw[e1];exact hv,cur,et,by rw[e1];exact hheap,by rw[e1];exact e2 hown,fun o ho'=>e3 o (by rw[e1,hF]at ho';exact ho'),?_⟩,ih⟩
    simp only[lU]
    rw[←hsg]
    exact move (.cell i) fun j hj=>by simp only[MX];rw[if_pos hj]
theorem Jg {bs:List (Option Nat)} {i n:Nat}:Tz bs i=some n ↔ bs[i]? =some (some n):=by
 unfold Tz
 split
 ·rename_i m h;rw[h];simp
 ·rename_i h
  constructor
  ·intro e;cases e
  ·intro e;exact absurd e (h n)
theorem X5 {want:List (Sh×Tg)} (h:oW want=false) {i:Nat} {sh:Sh} {tg:Tg} (hw:want[i]? =some (sh,tg)):tg≠ .dead:=by
 rintro rfl
 have:oW want=true:=by
  unfold oW
  rw[List.any_eq_true]
  exact⟨_,List.mem_of_getElem? hw,rfl⟩
 rw[this]at h;cases h
def qj (new:List CV) (b:Bx) (want:List (Sh×Tg)):List (CV×Nat):=bif oW want then setMany b.cells (gB 1 0 new b.cells want)else(new.zip b.cells).map fun x=>(x.1,x.2.2+1)
theorem oV {new:List CV} {b:Bx} {want:List (Sh×Tg)} (h1:new.length=want.length) (h2:b.cells.length=want.length):(qj new b want).length=want.length:=by
 unfold qj
 cases oW want with
 |true=>simp only[cond_true,wI,h2]
 |false=>simp only[cond_false,List.length_map,List.length_zip];omega
theorem Ey {new:List CV} {b:Bx} {want:List (Sh×Tg)} (h1:new.length=want.length) (h2:b.cells.length=want.length) {i:Nat} (hi:i<want.length):
 (qj new b want)[i]? =some (aam (want[i]).2 (b.cells[i]'(by omega)) (new[i]'(by omega),(b.cells[i]'(by omega)).2+1)):=by
 have e1:new[i]? =some (new[i]'(by omega)):=List.getElem?_eq_getElem (by omega)
 have e2:b.cells[i]? =some (b.cells[i]'(by omega)):=List.getElem?_eq_getElem (by omega)
 have e3:want[i]? =some ((want[i]'hi).1,(want[i]'hi).2):=List.getElem?_eq_getElem hi
 unfold qj
 cases hd:oW want with
 |true=>
  have:=Iq (e:=1) (j:=0) (b.cells[i]'(by omega)) e3 e1 e2
  rw[Nat.zero_add]at this
  simp only[cond_true,yP,e2,Option.map_some,this]
 |false=>
  have e4:(new.zip b.cells)[i]? =some (new[i]'(by omega),b.cells[i]'(by omega)):=List.getElem?_zip_eq_some.2 ⟨e1,e2⟩
  have hne:=X5 hd e3
  simp only[cond_false,List.getElem?_map,e4,Option.map_some]
  congr 1
  unfold aam
  split
  ·rename_i h;exact absurd h hne
  ·rfl
theorem ZL {s0:St} {m:Nat} {b:Bx} {new:List CV} {want:List (Sh×Tg)} (hb:s0.bx m=some b):
 (s0.dI [bif oW want then .cl m (gB 1 0 new b.cells want)else .bx m ⟨b.inst,(new.zip b.cells).map fun x=>(x.1,x.2.2+1)⟩])= {s0 with bx:=put s0.bx m (some ⟨b.inst,qj new b want⟩)}:=by
 unfold qj
 cases oW want with
 |true=>simp only[cond_true,St.dI,List.foldl_cons,List.foldl_nil,Upd.on,hb,Option.map_some]
 |false=>rfl
theorem Dl {g2 gF:Gh} (hF:gF.F=g2.F) {Kp:Nat→Nat→Prop}
 (hold: ∀(n:Nat) (b:Bx) (i:Nat) (c:CV) (v:Nat),Kp n i→s.bx n=some b→b.cells[i]? =some (c,v)→ ∃cur et f u,w'.heap[gF.at_ n]? =some (.cells cur et f)∧cur.toList[i]? =some u∧jl w' gF (.cell n i) c u):
 ∀(ps:List PK) (i:Nat) (bs:List (Option Nat)) (av:List Value) (cs:List CV) (us:List Upd) (s0:St),ni s ps bs cs=some us→YP w' g g2 ps i av cs→
 (∀n,some n∈bs→s0.bx n=s.bx n)→(bs.filterMap id).Nodup→(∀(j n:Nat) (want:List (Sh×Tg)) (k:Nat) (sh:Sh),bs[j]? =some (some n)→ps[j]? =some (.ptr want)→want[k]? =some (sh,.dead)→Kp n k)→
 (∀j n,bs[j]? =some (some n)→gF.at_ n=g.at_ (i+j)∧(∀b,g2.own b=some (.box (i+j))→gF.own b=some (.box n))∧ ∀b k,g2.own b=some (.cell (i+j) k)→gF.own b=some (.cell n k))→
 (s0.dI us).tm=s0.tm∧ ∀n,(some n∉bs→(s0.dI us).bx n=s0.bx n)∧(some n∈bs→ ∃b b',s.bx n=some b∧(s0.dI us).bx n=some b'∧b'.inst=b.inst∧b'.cells.length=b.cells.length∧
  (∀(i:Nat) (c':CV) (v':Nat),b'.cells[i]? =some (c',v')→(∃(c:CV) (v:Nat),b.cells[i]? =some (c,v)∧v'=v+1)∨(Kp n i∧b.cells[i]? =some (c',v')))∧BD w' gF n b')
 | [],i,bs,av,cs,us,s0,hb,_,_,_,_,_=>by
   cases bs with
   |cons b bs=>cases hb
   |nil=>
    simp only[ni,Option.some.injEq]at hb;subst hb
    exact⟨rfl,fun n=>⟨fun _=>rfl,fun h=>by cases h⟩⟩
 | .ptr want::ps,i,[],av,cs,us,s0,hb,_,_,_,_,_=>by cases hb
 | .ptr want::ps,i,none::bs,av,cs,us,s0,hb,_,_,_,_,_=>by cases hb
 | .ptr want::ps,i,some m::bs,av,cs,us,s0,hb,⟨⟨hat,hrep⟩,hp⟩,hs0,hnd,hK,ho=>by
   simp only[ni]at hb
   split at hb
   ·rename_i b us' hbx hba
    simp only[cond_eq_ite]at hb
    split at hb
    ·rename_i hlen
     simp only[Bool.and_eq_true]at hlen
     obtain⟨hlen,hbl⟩:=hlen
     have hlen:=Nat.eq_of_beq_eq_true hlen
     have hbl:=Nat.eq_of_beq_eq_true hbl
     simp only[←cond_eq_ite]at hb
     cases hb
     simp only[List.filterMap_cons,id,List.nodup_cons]at hnd
     have hsm:s0.bx m=some b:=by rw[hs0 m (by simp)];exact hbx
     obtain⟨cur,et,r1,r2,r3,r4⟩:=hrep
     simp only[lU]at r4
     have hone:=ZL (s0:=s0) (new:=cs.take want.length) (want:=want) hsm
     have hsplit: ∀us',s0.dI ((bif oW want then .cl m (gB 1 0 (cs.take want.length) b.cells want)else .bx m ⟨b.inst,((cs.take want.length).zip b.cells).map fun x=>(x.1,x.2.2+1)⟩)::us')=St.dI {s0 with bx:=put s0.bx m (some ⟨b.inst,qj (cs.take want.length) b want⟩)} us':=fun us'=>by rw[←hone];rfl
     have hnot:some m∉bs:=fun h=>hnd.1 (List.mem_filterMap.2 ⟨some m,h,rfl⟩)
     obtain⟨e1,e2⟩:=Dl hF hold ps (i+1) bs av.tail _ us' {s0 with bx:=put s0.bx m (some ⟨b.inst,qj (cs.take want.length) b want⟩)} hba hp
      (fun n hn=>by
       have:n≠m:=by rintro rfl;exact hnot hn
       show put s0.bx m _ n=_
       rw[bC _ _ _ this];exact hs0 n (by simp[hn])) hnd.2 (fun j n want' k sh h1 h2 h3=>hK (j+1) n want' k sh (by simpa using h1) (by simpa using h2) h3) (fun j n e=>by
      have:=ho (j+1) n (by simpa using e)
      rwa [show i+(j+1)=i+1+j by omega]at this)
     refine⟨by rw[hsplit];exact e1,fun n=> ?_⟩
     obtain⟨k1,k2⟩:=e2 n
     rw[hsplit]
     refine⟨fun hn=> ?_,fun hn=> ?_⟩
     ·have h1:n≠m:=by rintro rfl;exact hn (by simp)
      rw[k1 (fun h=>hn (by simp[h]))]
      show put s0.bx m _ n=_
      rw[bC _ _ _ h1]
     ·by_cases hin:some n∈bs
      ·exact k2 hin
      ·have h1:n=m:=by
        rcases List.mem_cons.1 hn with e|e
        ·cases e;rfl
        ·exact absurd e hin
       subst h1
       have hwl:(cs.take want.length).length=want.length:=by omega
       obtain⟨q1,q2,q3⟩:=ho 0 n rfl
       simp only[Nat.add_zero]at q1 q2 q3
       rw[hat]at r1 r2 r3
       have hcl:=r4.length
       refine⟨b,⟨b.inst,qj (cs.take want.length) b want⟩,hbx,?_,rfl,?_,fun k c' v' hk=> ?_,?_⟩
       ·rw[k1 hin]
        show put s0.bx n _ n=_
        rw[aX]
       ·rw[oV hwl hbl,hbl]
       ·have hki:k<want.length:=by
         rcases Nat.lt_or_ge k want.length with h|h
         ·exact h
         ·rw[List.getElem?_eq_none (by rw[oV hwl hbl];exact h)]at hk;cases hk
        rw[Ey hwl hbl hki]at hk
        unfold aam at hk
        split at hk
        ·rename_i hd
         refine .inr ⟨hK 0 n want k (want[k]).1 rfl rfl ?_,?_⟩
         ·rw[List.getElem?_eq_getElem hki,←hd]
         ·rw[List.getElem?_eq_getElem (by omega)];exact hk
        ·simp only[Option.some.injEq,Prod.mk.injEq]at hk
         exact .inl ⟨(b.cells[k]'(by omega)).1,(b.cells[k]'(by omega)).2,List.getElem?_eq_getElem (by omega),hk.2.symm⟩
       ·refine⟨cur,et,by rw[q1];exact r1,by rw[q1];exact q2 _ r2,fun o ho'=>r3 o (by rw[q1,hF]at ho';exact ho'),?_⟩
        refine aC.of _ _ _ (by simp only[List.length_map,oV hwl hbl];omega) fun k c v hk hv=> ?_
        simp only[List.getElem?_map,Option.map_eq_some_iff]at hk
        obtain⟨⟨c',v'⟩,hk,rfl⟩:=hk
        have hki:k<want.length:=by
         rcases Nat.lt_or_ge k want.length with h|h
         ·exact h
         ·rw[List.getElem?_eq_none (by rw[oV hwl hbl];exact h)]at hk;cases hk
        rw[Ey hwl hbl hki]at hk
        rw[Nat.zero_add]
        unfold aam at hk
        split at hk
        ·rename_i hd
         obtain⟨cur2,et2,f2,u,p1,p2,p3⟩:=hold n b k c' v' (hK 0 n want k (want[k]).1 rfl rfl (by rw[List.getElem?_eq_getElem hki,←hd])) hbx (by rw[List.getElem?_eq_getElem (by omega)];exact hk)
         rw[q1,r1]at p1
         cases p1
         rw[hv]at p2;cases p2
         exact p3
        ·simp only[Option.some.injEq,Prod.mk.injEq]at hk
         obtain⟨rfl,_⟩:=hk
         obtain⟨u,p1,p2⟩:=r4.get _ 0 _ k _ (List.getElem?_eq_getElem (by omega))
         rw[hv]at p1;cases p1
         rw[Nat.zero_add]at p2
         exact p2.via (fun b hb=>q3 b k hb) hF
    ·cases hb
   ·cases hb
 | .val ag want::ps,i,bs,av,cs,us,s0,hb,hp,hs0,hnd,hK,ho=>by
   cases bs with
   |nil=>cases hb
   |cons b bs=>
    cases b with
    |some m=>cases hb
    |none=>
     obtain⟨e1,e2⟩:=Dl hF hold ps (i+1) bs av.tail cs us s0 hb hp (fun n hn=>hs0 n (by simp[hn])) (by simpa using hnd) (fun j n want' k sh h1 h2 h3=>hK (j+1) n want' k sh (by simpa using h1) (by simpa using h2) h3) (fun j n e=>by
      have:=ho (j+1) n (by simpa using e)
      rwa [show i+(j+1)=i+1+j by omega]at this)
     exact⟨e1,fun n=>⟨fun hn=>(e2 n).1 (fun h=>hn (by simp[h])),fun hn=>(e2 n).2 (by simpa using hn)⟩⟩
 | .rptr want::ps,i,bs,av,cs,us,s0,hb,hp,hs0,hnd,hK,ho=>by
   cases bs with
   |nil=>cases hb
   |cons b bs=>
    cases b with
    |some m=>cases hb
    |none=>
     obtain⟨e1,e2⟩:=Dl hF hold ps (i+1) bs av.tail cs us s0 hb hp (fun n hn=>hs0 n (by simp[hn])) (by simpa using hnd) (fun j n want' k sh h1 h2 h3=>hK (j+1) n want' k sh (by simpa using h1) (by simpa using h2) h3) (fun j n e=>by
      have:=ho (j+1) n (by simpa using e)
      rwa [show i+(j+1)=i+1+j by omega]at this)
     exact⟨e1,fun n=>⟨fun hn=>(e2 n).1 (fun h=>hn (by simp[h])),fun hn=>(e2 n).2 (by simpa using hn)⟩⟩
 | .fn f::ps,i,bs,av,cs,us,s0,hb,hp,hs0,hnd,hK,ho=>by
   cases bs with
   |nil=>cases hb
   |cons b bs=>
    cases b with
    |some m=>cases hb
    |none=>
     obtain⟨e1,e2⟩:=Dl hF hold ps (i+1) bs av.tail cs us s0 hb hp (fun n hn=>hs0 n (by simp[hn])) (by simpa using hnd) (fun j n want' k sh h1 h2 h3=>hK (j+1) n want' k sh (by simpa using h1) (by simpa using h2) h3) (fun j n e=>by
      have:=ho (j+1) n (by simpa using e)
      rwa [show i+(j+1)=i+1+j by omega]at this)
     exact⟨e1,fun n=>⟨fun hn=>(e2 n).1 (fun h=>hn (by simp[h])),fun hn=>(e2 n).2 (by simpa using hn)⟩⟩
 | .clo f want::ps,i,bs,av,cs,us,s0,hb,hp,hs0,hnd,hK,ho=>by
   cases bs with
   |nil=>cases hb
   |cons b bs=>
    cases b with
    |some m=>cases hb
    |none=>
     obtain⟨e1,e2⟩:=Dl hF hold ps (i+1) bs av.tail cs us s0 hb hp (fun n hn=>hs0 n (by simp[hn])) (by simpa using hnd) (fun j n want' k sh h1 h2 h3=>hK (j+1) n want' k sh (by simpa using h1) (by simpa using h2) h3) (fun j n e=>by
      have:=ho (j+1) n (by simpa using e)
      rwa [show i+(j+1)=i+1+j by omega]at this)
     exact⟨e1,fun n=>⟨fun hn=>(e2 n).1 (fun h=>hn (by simp[h])),fun hn=>(e2 n).2 (by simpa using hn)⟩⟩
 | .io want::ps,i,bs,av,cs,us,s0,hb,hp,hs0,hnd,hK,ho=>by
   cases bs with
   |nil=>cases hb
   |cons b bs=>
    cases b with
    |some m=>cases hb
    |none=>
     obtain⟨e1,e2⟩:=Dl hF hold ps (i+1) bs av.tail (cs.drop want.length) us s0 hb hp.2 (fun n hn=>hs0 n (by simp[hn])) (by simpa using hnd) (fun j n want' k sh h1 h2 h3=>hK (j+1) n want' k sh (by simpa using h1) (by simpa using h2) h3) (fun j n e=>by
      have:=ho (j+1) n (by simpa using e)
      rwa [show i+(j+1)=i+1+j by omega]at this)
     exact⟨e1,fun n=>⟨fun hn=>(e2 n).1 (fun h=>hn (by simp[h])),fun hn=>(e2 n).2 (by simpa using hn)⟩⟩
theorem Rel.acE (h:Rel E C s a w g) {N:Nat→Prop} {Kp:Nat→Nat→Prop} (f:Fr (fun o=>(∀i,o≠ .hand i)∧ ∀n,N n→o≠ .box n) w w' g g') (hb:Base C.w0 C.F0 C.X w' g') (hat:g'.at_=g.at_) (htm:s'.tm=s.tm)
 (hval: ∀(n i:Nat) (u:Value),N n→Kp n i→(aB a w g (.box n))[i]? =some u→(aB a w' g' (.box n))[i]? =some u)
 (hbx: ∀n,(¬N n→s'.bx n=s.bx n)∧(N n→ ∃b b',s.bx n=some b∧s'.bx n=some b'∧b'.inst=b.inst∧b'.cells.length=b.cells.length∧
  (∀(i:Nat) (c':CV) (v':Nat),b'.cells[i]? =some (c',v')→(∃(c:CV) (v:Nat),b.cells[i]? =some (c,v)∧v'=v+1)∨(Kp n i∧b.cells[i]? =some (c',v')))∧BD w' g' n b')):Rel E C s' a w' g':=by
 refine h.gen f hb (fun r=> ?_) rfl rfl (fun n=> .inl ⟨fun i=>⟨fun j=>by simp,fun m _=>by simp⟩,by rw[htm],rfl⟩) (fun n b hn=> ?_)
 ·cases r with
  |tmp n=>exact Bl.same (by simp only[pF,htm]) (by simp only[aA,htm]) (fun k e=>by cases e) (fun _=>rfl) (fun p es l hp hc b len k hv=>h.uX f ⟨fun i=>iK _ _ _,fun m _=>by rw[hp];simp[dF]⟩ hc (by rw[hp];exact hv))
  |box n=>
   by_cases hN:N n
   ·obtain⟨b,b',h1,h2,h3,h4,h5,h6⟩:=(hbx n).2 hN
    have stay: ∀(p:Pl) (m:Nat) cs',p.root= .box n→Old s p→aU s' p m=some cs'→ ∀i,i<p.vers.length→Kp n (p.cell+i)∧b.cells[p.cell+i]? =b'.cells[p.cell+i]? :=by
     intro p m cs' hp ho hc i hi
     rw[bG]at hc
     obtain⟨cells,e,q1,q2,q3⟩:=hc
     rw[hp]at e;simp only[aA,h2,Option.some.injEq,Prod.mk.injEq]at e
     obtain⟨e1,rfl⟩:=e
     have hx:p.vers[i]? =some (p.vers[i]'hi):=List.getElem?_eq_getElem hi
     have:=q2 i _ hx
     simp only[Option.map_eq_some_iff]at this
     obtain⟨⟨c',v'⟩,k1,k2⟩:=this
     rcases h5 _ _ _ k1 with⟨c0,v0,k3,k4⟩|⟨k3,k4⟩
     ·have:=ho.vers n b hp h1 (by rw[←e1,h3]) i _ c0 v0 hx k3
      simp only at k2;omega
     ·exact⟨k3,k4.trans k1.symm⟩
    have pl: ∀(p:Pl) (m:Nat) cs',p.root= .box n→Old s p→p.vers.length=m→aU s' p m=some cs'→aU s p m=some cs':=by
     intro p m cs' hp ho hv hc
     have hst:=stay p m cs' hp ho hc
     rw[bG]at hc ⊢
     obtain⟨cells,e,q1,q2,q3⟩:=hc
     rw[hp]at e ⊢;simp only[aA,h2,Option.some.injEq,Prod.mk.injEq]at e
     obtain⟨e1,rfl⟩:=e
     refine⟨b.cells,by simp only[aA,h1];rw[←e1,h3],by omega,fun i x hx=> ?_,?_⟩
     ·have hi:i<p.vers.length:=by
       rcases Nat.lt_or_ge i p.vers.length with h|h
       ·exact h
       ·simp[List.getElem?_eq_none h]at hx
      rw[(hst i hi).2];exact q2 i x hx
     ·rw[q3]
      congr 1
      apply List.ext_getElem?
      intro i
      simp only[List.getElem?_take,List.getElem?_drop]
      split
      ·exact(hst i (by omega)).2.symm
      ·rfl
    refine⟨fun p hp ho=>⟨?_,fun k b1 e k1 k2 i x c v hx hv=> ?_⟩,fun p m cs' hp ho hv hc=>⟨cs',pl p m cs' hp ho hv hc,rfl,?_⟩,fun k b1 p e k1 hp ho k2=> ?_,fun p es l hp ho hv hc=>⟨l,pl p 1 _ hp ho hv hc,fun b0 len k hv0=> ?_⟩⟩
    ·have:=ho.inst;rw[hp]at this ⊢;simp only[pF,h1,h2]at this ⊢;omega
    ·rw[hp]at e;cases e
     rw[h2]at k1;cases k1
     rcases h5 _ _ _ hv with⟨c0,v0,q1,q2⟩|⟨_,q1⟩
     ·have:=ho.vers n b hp h1 (by rw[k2,h3]) i x c0 v0 hx q1
      omega
     ·exact ho.vers n b hp h1 (by rw[k2,h3]) i x c v hx q1
    ·have hst:=stay p m cs' hp ho hc
     have hc0:=pl p m cs' hp ho hv hc
     rw[bG]at hc0
     obtain⟨cells,e,q1,_,_⟩:=hc0
     rw[hp]at e;simp only[aA,h1,Option.some.injEq,Prod.mk.injEq]at e
     obtain⟨_,rfl⟩:=e
     obtain⟨cur,et,r1,_,_,r4⟩:=h.bx n b h1
     have hrl:(aB a w g (.box n)).length=b.cells.length:=by
      have:=r4.length
      simp only[aB,r1]
      simpa using this
     apply List.ext_getElem?
     intro i
     simp only[List.getElem?_take,List.getElem?_drop]
     split
     ·have hlt:p.cell+i<(aB a w g (.box n)).length:=by omega
      have:=hval n (p.cell+i) _ hN (hst i (by omega)).1 (List.getElem?_eq_getElem hlt)
      rw[this,List.getElem?_eq_getElem hlt]
     ·rfl
    ·cases e
     rw[h2]at k1;cases k1
     exact⟨b,h1,by rw[←h3];exact k2,by rw[hat]⟩
    ·exact h.uX f ⟨fun i=>iK _ _ _,fun m _=>by rw[hp];simp[dF]⟩ (pl p 1 _ hp ho hv hc) (by rw[hp];exact hv0)
   ·have hs:=(hbx n).1 hN
    refine Bl.same (by simp only[pF,hs]) (by simp only[aA,hs]) (fun k e=>by cases e;exact⟨hs,fun _=>by rw[hat]⟩) (fun hsm=> ?_) (fun p es l hp hc b len k hv=>h.uX f ⟨fun i=>iK _ _ _,fun m hm=>by rw[hp];simp[dF]⟩ hc (by rw[hp];exact hv))
    exact h.G7 f ⟨fun i=>by simp,fun m hm=>by rintro e;cases e;exact hN hm⟩ (by rw[hat]) hsm
 ·by_cases hN:N n
  ·obtain⟨b0,b',_,h2,_,_,_,h6⟩:=(hbx n).2 hN
   rw[h2]at hn;cases hn
   exact .inr h6
  ·rw[(hbx n).1 hN]at hn
   exact .inl ⟨hn,fun i=>⟨fun j=>by simp,fun m hm=>by simp⟩,⟨fun j=>by simp,fun m hm=>by rintro e;cases e;exact hN hm⟩,by rw[hat]⟩
end
end Go.AM
end
section
set_option linter.unusedVariables false
namespace Go.AM
open Go
section
variable {P:Program} {E:Env} {C:Ctx} {s s':St} {a a':Act} {w w':World} {g g':Gh} {o:Oper} {Q:Exit→Act→World→Prop}
theorem wK.boxes: ∀{ps:List PK} {bs:List (Option Nat)} {vs:List Value} {sgs:List (List Value)},wK w g ps bs vs sgs→ ∀n,some n∈bs→g.own (g.at_ n)=some (.box n)
 | [],[],[],[],_,n,hn=>by cases hn
 |p::ps,b::bs,v::vs,sg::sgs,⟨h1,_,h3⟩,n,hn=>by
  rcases List.mem_cons.1 hn with rfl|hn
  ·cases p with
   |ptr want=>exact h1.2.1
   |_=>exact h1.elim
  ·exact wK.boxes h3 n hn
theorem RZ {g2:Gh}: ∀(ps:List PK) (i:Nat) (xs:List Operand) (av:List Value) (cs:List CV),av=xs.map a.eval→YP w' g g2 ps i av cs→ ∀x cs0,(x,cs0)∈WA ps xs cs→ ∃j,BH w' g2 (.tm j) 0 false cs0 (a.eval x)
 | [],_,xs,_,_,_,_,x,cs0,hm=>by cases xs<;>simp[WA]at hm
 |p::_,_,[],_,_,_,_,x,cs0,hm=>by cases p<;>simp[WA]at hm
 | .val ag want::ps,i,y::xs,av,cs,e,hp,x,cs0,hm=>RZ ps (i+1) xs av.tail cs (by rw[e];rfl) hp x cs0 hm
 | .rptr want::ps,i,y::xs,av,cs,e,hp,x,cs0,hm=>RZ ps (i+1) xs av.tail cs (by rw[e];rfl) hp x cs0 hm
 | .fn f::ps,i,y::xs,av,cs,e,hp,x,cs0,hm=>RZ ps (i+1) xs av.tail cs (by rw[e];rfl) hp x cs0 hm
 | .clo f _::ps,i,y::xs,av,cs,e,hp,x,cs0,hm=>RZ ps (i+1) xs av.tail cs (by rw[e];rfl) hp x cs0 hm
 | .ptr want::ps,i,y::xs,av,cs,e,hp,x,cs0,hm=>RZ ps (i+1) xs av.tail _ (by rw[e];rfl) hp.2 x cs0 hm
 | .io want::ps,i,y::xs,av,cs,e,hp,x,cs0,hm=>by
   obtain⟨⟨v,hv,hr⟩,hp⟩:=hp
   simp only[WA]at hm
   rcases List.mem_cons.1 hm with h1|h1
   ·simp only[Prod.mk.injEq]at h1
    obtain⟨rfl,rfl⟩:=h1
    rw[e]at hv
    simp only[List.map_cons,List.head?_cons,Option.some.injEq]at hv
    subst hv
    exact⟨i,hr⟩
   ·exact RZ ps (i+1) xs av.tail _ (by rw[e];rfl) hp x cs0 h1
theorem pre_eq {m l:List Int} (h:pre m l=true):l.take m.length=m:=of_decide_eq_true h
theorem acj {m l:List Int} (h:pre m l=true):m.length≤l.length:=by
 have:=congrArg List.length (pre_eq h)
 simp only[List.length_take]at this
 omega
theorem I9.ahead {α:Type} {n:Nat} {R:α→List Value→Prop} {L:List α→List Value→Prop} (h:I9 n R L) {x m:List α} {cs:List Value} (hle:m.length≤x.length) (ht:x.take m.length=m) (hx:L x (cs.take (x.length*n))):L m (cs.take (m.length*n)):=by
 have:=h.take x _ m.length hx
 rwa [ht,List.take_take,Nat.min_eq_left (Nat.mul_le_mul_right _ hle)]at this
theorem uy.ahead {ow:aF} {c q:CV} {b l k:Nat} (hsh:c.sh=q.sh) (ht:XB c q=true) (h:uy w g ow false c.sh c.x (.slice (some ⟨b,0,none⟩) l k)):uy w g ow false q.sh q.x (.slice (some ⟨b,0,none⟩) (aP q.sh q.x) k):=by
 unfold XB at ht
 split at ht
 ·rename_i k1 t1 x1 k2 t2 x2
  obtain rfl:k1=k2:=by simpa using hsh
  have hle:=acj (m:=x2) (l:=x1) ht
  have ht:=pre_eq (m:=x2) (l:=x1) ht
  rcases h with⟨hv,_⟩|⟨b',k',cur,et,hv,hl,hk,ho,hh,hs,he,hF⟩
  ·cases hv
  ·cases hv
   refine .inr ⟨b,k,cur,et,rfl,Nat.le_trans hle hl,hk,ho,hh,hs,?_,fun o=>by simpa using hF o⟩
   exact(iW (w:=w) (F:=g.F) [.int k1]).ahead (x:=x1) (m:=x2) hle ht he
 ·cases ht
theorem aaV (h:Rel E C s a w g) {p:Pl} {sh:Sh} {l:List (Option (ElA [sh]))} {i:Nat} {d:Nat} (hd:Kz s p=some (⟨.dl [sh],.own,l⟩,i,0)) (hpl:sh.oG=true) {y:El sh} {v:Value} (hop:uy w g (.hand 0) false sh y v)
 (hag:isAgg v=false) {mk:Nat→aF} (hv:TV s a w g mk (.rowr p false 1) v) {us:List Upd} (hu:iY s p [⟨.dl [sh],.own,List.set l i (some y)⟩] false=some us):
 ∃gG:Gh,Rel E C (s.dI us) a w gG∧gG.F=g.F∧gG.at_=g.at_∧ ∀k b,g.own b=some (.tm d k)→gG.own b=some (.tm d k):=by
 obtain⟨hsub,es,l0,e0,hc⟩:=xG hd
 cases e0
 obtain⟨_,_,i',j',hsub',hrow⟩:=hv
 rw[hsub]at hsub';cases hsub'
 obtain⟨b,len,k,cur,et,f,m1,m2,m3,hag2,hvc⟩:=hrow [sh] l hc
 have hi:i<l.length:=by
  obtain⟨u,q1,q2,_⟩:=nT h hc
  rw[m1]at q1;cases q1
  simp only[jl,Sh.oN,if_true]at q2
  rcases q2 with⟨e,_⟩|⟨_,_,_,_,e,_⟩
  ·cases e
  ·simp only[Value.slice.injEq]at e;obtain⟨_,e,_⟩:=e;rw[e]at m2;exact m2
 obtain⟨b1,k1,cur1,et1,e1,e2,hlk,hk,ho,hheap,hsz,hdl,hF,hone⟩:=h.I8 hc hi
 rw[m1]at e1;cases e1
 rw[hheap]at m3;cases m3
 simp only[List.length_singleton,Nat.mul_one,Nat.add_zero]at hvc hsz hdl
 rw[aH hag]at hvc
 have hcv:(cur.toList.take l.length)[i]? =some v:=by
  rw[List.getElem?_take,if_pos hi]
  have:=congrArg (fun l=>l[0]?) hvc
  simp only[List.getElem?_take,List.getElem?_drop,Nat.add_zero]at this
  simpa using this.symm
 let ρ:aF→aF:=fun o=>if o= .hand 0 then dF p.root p.cell else o
 have hρ: ∀o,o≠ .hand 0→ρ o=o:=fun o ho=>by simp only[ρ,if_neg ho]
 have hρ0:ρ (.hand 0)=dF p.root p.cell:=by simp only[ρ,if_pos rfl]
 have hne:dF p.root p.cell≠ .hand 0:=iK _ _ _
 have hown: ∀z ow,g.own z=some ow→ow≠ .hand 0→(g.ren ρ).own z=some ow:=fun z ow e hn=>by simp only[Gh.ren,e,Option.map_some,hρ ow hn]
 have hset:(cur.toList.take l.length).set i v=cur.toList.take l.length:=by
  apply List.ext_getElem?
  intro q
  rw[List.getElem?_set]
  split
  ·rename_i hq;subst hq
   split
   ·exact hcv.symm
   ·rename_i hn;rw[List.getElem?_eq_none (by omega)]
  ·rfl
 refine⟨g.ren ρ,?_,rfl,rfl,fun k b e=>hown b _ e (by simp)⟩
 refine jD h (ds:=[⟨.dl [sh],.own,List.set l i (some y)⟩]) hc hu rfl (Fr.ren w g fun o ho=>hρ o (ho.2 0)) (h.base.ren ρ) rfl ?_ (fun q es' l' hq=> ?_)
 ·show aC w (g.ren ρ) _ _ _ (((aB a w g p.root).drop p.cell).take 1)
  rw[e2]
  refine⟨_,[],rfl,?_,rfl⟩
  simp only[jl,Sh.oN,if_true]
  have hll:(List.set l i (some y)).length=l.length:=List.length_set
  refine .inr ⟨b,k,cur,et,by simp only[aP];rw[hll],by simp only[aP];rw[hll];exact hlk,hk,hown b _ ho hne,hheap,by simpa [Sh.n]using hsz,⟨⟨rfl,by simp only[aP,Sh.n];rw[hll];exact hone⟩,?_⟩,fun o=>⟨fun hf=>(hF o hf).elim,fun hf=>by cases hf.1⟩⟩
  simp only[aP,Sh.n,List.length_singleton,Nat.mul_one];rw[hll]
  have:=hdl.set1 (w':=w) (g':=g.ren ρ) hpl hi hop hne (fun e=>by have:=hop.l9 e;rw[ho]at this;exact hne (Option.some.inj this)) (Keeps.refl _ _)
   (fun z hz=>⟨by simp only[Gh.ren,hop.l9 hz,Option.map_some,hρ0],rfl,fun _=>Iff.rfl⟩) (fun z _ hz=>⟨hown z _ hz hne,rfl,fun _=>Iff.rfl⟩)
  rwa [hset]at this
 ·have hq0:q=0:=by
   rcases Nat.eq_zero_or_pos q with h|h
   ·exact h
   ·rw[List.getElem?_eq_none (by simp;omega)]at hq;cases hq
  subst hq0
  simp only[List.getElem?_cons_zero,Option.some.injEq]at hq
  cases hq
  exact⟨l,rfl,fun _ _ _ _=>rfl⟩
theorem ZO {g2:Gh} {d:Nat} {l:List (Operand×List CV)} {vs:List Upd} (hput:(Vw E s d l).run=some vs) (hl: ∀x cs0,(x,cs0)∈l→ ∃j,BH w' g2 (.tm j) 0 false cs0 (a.eval x)):
 ∃io:Option (Nat×aF),∀gF:Gh,gF.F=g2.F→gF.at_=g.at_→Rel E C s a w' gF→(∀j ow,io=some (j,ow)→ ∀b,g2.own b=some (.tm j 0)→gF.own b=some ow)→
  ∃gG:Gh,Rel E C (s.dI vs) a w' gG∧gG.F=gF.F∧gG.at_=gF.at_∧ ∀k b,gF.own b=some (.tm d k)→gG.own b=some (.tm d k):=by
 unfold Vw at hput
 split at hput
 ·obtain rfl:=ak hput
  exact⟨none,fun gF _ _ h _=>⟨gF,h,rfl,rfl,fun _ _ e=>e⟩⟩
 ·rename_i x c
  obtain⟨j,hag,hrep⟩:=hl x [c] (by simp)
  have via: ∀{gF:Gh} {mk:Nat→aF} {k:Nat},gF.F=g2.F→(∀b,g2.own b=some (.tm j 0)→gF.own b=some (mk k))→aC w' gF mk k [c] (a.eval x).cells.toList:=fun hF ho=>
   hrep.via hF fun i b hi e=>by
    obtain rfl:i=0:=by simpa using hi
    exact ho b (by simpa using e)
  have nodl: ∀(i:Nat) (es:List Sh) (l':List (Option (ElA es))),c.sh.oG=true→[c][i]? ≠some (⟨.dl es,.own,l'⟩:CV):=by
   intro i es l' hpl e
   have:=List.mem_of_getElem? e
   rw[←List.mem_singleton.1 this]at hpl
   simp[Sh.oG]at hpl
  unfold TY at hput
  split at hput
  ·obtain rfl:=ak hput
   exact⟨none,fun gF _ _ h _=>⟨gF,h,rfl,rfl,fun _ _ e=>e⟩⟩
  ·rename_i q hx
   split at hput
   ·rename_i n
    obtain⟨hcond,hput⟩:=aV hput
    obtain rfl:=ak hput
    ·simp only[Bool.and_eq_true]at hcond
     obtain⟨hsh,hpl⟩:=hcond
     have hsh:=Sh.eq_of_beq hsh
     have hx':(s.tm n).1= .val false [q]:=hx
     refine⟨some (j,.tm n 0),fun gF hF _ h ho=>⟨gF,?_,rfl,rfl,fun _ _ e=>e⟩⟩
     refine h.IJ (Fr.refl _ _ _) h.base rfl (fun ag' cs' e=> ?_) ⟨hag,via hF (ho j _ rfl)⟩
     cases e
     exact⟨false,[q],hx',by simp[hsh],fun i es l' hi=>absurd hi (nodl i es l' hpl)⟩
   ·exact(aj hput).elim
  ·rename_i p hx
   split at hput
   ·rename_i q hsub hc
    obtain⟨hcond,hput⟩:=aV hput
    have hput:=D6 hput
    ·simp only[Bool.and_eq_true]at hcond
     obtain⟨hsh,hpl⟩:=hcond
     have hsh:=Sh.eq_of_beq hsh
     refine⟨some (j,dF p.root p.cell),fun gF hF _ h ho=>⟨gF,?_,rfl,rfl,fun _ _ e=>e⟩⟩
     obtain⟨_,_,_,hv⟩:=aK h hx (by simp)
     obtain⟨_,hvals⟩:=hv _ hc
     refine jD h (ds:=[c]) hc hput (by simp[hsh]) (Fr.refl _ _ _) h.base rfl ?_ (yQ.of fun d hd _=> .inl (by rw[List.mem_singleton.1 hd];exact hpl))
     show aC w' gF (dF p.root) p.cell [c] (((aB a w' gF p.root).drop p.cell).take 1)
     rw[←hvals]
     exact via hF (ho j _ rfl)
   ·exact(aj hput).elim
  ·rename_i p hx
   split at hput
   ·rename_i sh l i jj hd
    have hcond:=(aV hput).1
    replace hput:=(aV hput).2
    simp only[Bool.and_eq_true]at hcond
    obtain⟨⟨hj,hpl⟩,hco⟩:=hcond
    obtain rfl:=Nat.eq_of_beq_eq_true hj
    have hco:c.tg= .own:=by unfold Tg.Dv at hco;split at hco<;>simp_all
    split at hput
    ·rename_i y hy
     have hu:=D6 hput
     obtain⟨e,rfl⟩:=jZ hy
     obtain⟨csh,ct,cx⟩:=c
     simp only at e hco;subst e hco
     refine⟨some (j,.hand 0),fun gF hF _ h ho=> ?_⟩
     have k1:=via (gF:=gF) (mk:=fun _=> .hand 0) (k:=0) hF (ho j _ rfl)
     rw[aH hag]at k1
     obtain⟨v,ws,ev,hcr,_⟩:=k1
     obtain rfl:a.eval x=v:=by simpa using(List.cons.inj ev).1
     unfold jl at hcr
     simp only[if_pos (eH hpl)]at hcr
     exact aaV h hd hpl ((nO hpl).1 hcr) hag (aK h hx (by simp)) hu
    ·exact(aj hput).elim
   ·exact(aj hput).elim
  ·rename_i p q c0 hx
   split at hput
   ·rename_i n e hsub hc
    obtain⟨hcond,hput⟩:=aV hput
    simp only[Bool.and_eq_true,Bool.not_eq_true']at hcond
    obtain⟨⟨⟨hesh,hsh⟩,hco⟩,hnd⟩:=hcond
    have hesh:=Sh.eq_of_beq hesh
    have hsh:=Sh.eq_of_beq hsh
    have hco:c.tg= .own:=by unfold Tg.Dv at hco;split at hco<;>simp_all
    have hnd:n≠d:=fun e=>by rw[e,Nat.beq_refl]at hnd;cases hnd
    split at hput
    ·rename_i us hu
     obtain⟨hte,hput⟩:=ku hput
     obtain rfl:=ak hput
     have hx':(s.tm n).1= .ext p q c0:=hx
     have hroot: ∀m,p.root= .tmp m→m≠n:=by
      rintro m hm rfl
      obtain⟨cells,hcs,_⟩:=bG.1 hc
      rw[hm]at hcs
      simp only[aA]at hcs
      have e1:s.tm m=(.ext p q c0,(s.tm m).2):=by rw[←hx']
      rw[e1]at hcs
      cases hcs
     have hs1:s.dI [.keep n .dead]= {s with tm:=put s.tm n (.dead,(s.tm n).2)}:=rfl
     have hu1:iY (s.dI [.keep n .dead]) p [q] false=some us:=by
      rw[←hu,hs1]
      unfold iY
      cases hr:p.root with
      |box m=>rfl
      |tmp m=>simp only[];rw[bC _ _ _ (hroot m hr)]
     have hc1:aU (s.dI [.keep n .dead]) p 1=some [e]:=by
      rw[←hc,hs1]
      unfold aU
      cases hr:p.root with
      |box m=>rfl
      |tmp m=>simp only[aA];rw[bC _ _ _ (hroot m hr)]
     have fin: ∀{gG:Gh} {u:Value},Rel E C (s.dI [.keep n .dead]) a w' gG→(aB a w' gG p.root)[p.cell]? =some u→q.sh.oG=true→q.tg= .own→uy w' gG (dF p.root p.cell) false q.sh q.x u→Rel E C (s.dI (.keep n .dead::us)) a w' gG:=by
      intro gG u r hv hpl hqo ho
      refine jD r (ds:=[q]) hc1 hu1 (by simp[hesh]) (Fr.refl _ _ _) r.base rfl ?_ (yQ.of fun d hd _=> .inl (by rw[List.mem_singleton.1 hd];exact hpl))
      refine⟨u,[],?_,?_,rfl⟩
      ·have:p.cell<(aB a w' gG p.root).length:=by
        rcases Nat.lt_or_ge p.cell (aB a w' gG p.root).length with h|h
        ·exact h
        ·simp[List.getElem?_eq_none h]at hv
       rw[List.drop_eq_getElem_cons this]
       rw[List.getElem?_eq_getElem this]at hv
       simp[Option.some.inj hv]
      ·unfold jl
       simp only[hqo,if_pos (eH hpl)]
       exact(nO hpl).2 ho
     by_cases hcase: ∃b k l,(aB a w' g p.root)[p.cell]? =some (.slice (some ⟨b,0,none⟩) (aP q.sh q.x) k)∧a.eval (.tmp n)= .slice (some ⟨b,0,none⟩) l k
     ·obtain⟨b,k,l,hv1,hv2⟩:=hcase
      refine⟨some (j,dF p.root p.cell),fun gF hF hat h ho=>⟨gF,?_,rfl,rfl,fun _ _ e=>e⟩⟩
      have ht:=h.tm n
      rw[hx']at ht
      obtain⟨_,_,_,_,_,h5,h6,h7,h8⟩:=ht
      have hpl:=MV h5
      have r1:Rel E C (s.dI [.keep n .dead]) a w' gF:=h.IJ (Fr.refl _ _ _) h.base rfl (fun _ _ e=>by cases e) trivial
      have hrv:aB a w' gF p.root=aB a w' g p.root:=by
       cases p.root with
       |tmp m=>rfl
       |box m=>simp only[aB,hat]
      refine fin r1 (by rw[hrv];exact hv1) hpl h6 ?_
      have k1:=via (gF:=gF) (mk:=fun _=>dF p.root p.cell) (k:=0) hF (ho j _ rfl)
      rw[aH hag]at k1
      obtain⟨v,ws,ev,hcr,_⟩:=k1
      obtain rfl:a.eval (.tmp n)=v:=by simpa using(List.cons.inj ev).1
      have hcpl:c.sh.oG=true:=by rw[hsh];exact hpl
      unfold jl at hcr
      simp only[hco,if_pos (eH hcpl)]at hcr
      have hcr:=(nO hcpl).1 hcr
      rw[hv2]at hcr
      exact hcr.ahead hsh hte
     ·refine⟨none,fun gF hF hat h ho=> ?_⟩
      have ht:=h.tm n
      rw[hx']at ht
      obtain⟨_,_,_,_,_,h5,h6,h7,h8⟩:=ht
      have hpl:=MV h5
      obtain⟨u,hu8,hx8⟩:=h8 e hc
      have hrv:aB a w' gF p.root=aB a w' g p.root:=by
       cases p.root with
       |tmp m=>rfl
       |box m=>simp only[aB,hat]
      have hx8:uy w' gF (.tm n 1) false q.sh q.x u:=by
       rcases hx8 with⟨b,k,l,e1,e2⟩|hx8
       ·exact absurd ⟨b,k,l,by rw[←hrv,hu8,e1],e2⟩ hcase
       ·exact hx8
      let ρ:aF→aF:=fun o=>if o= .tm n 1 then dF p.root p.cell else o
      have hρ: ∀o,o≠ .tm n 1→ρ o=o:=fun o ho=>by simp only[ρ,if_neg ho]
      have hρ1:ρ (.tm n 1)=dF p.root p.cell:=by simp only[ρ,if_pos rfl]
      have r1:Rel E C (s.dI [.keep n .dead]) a w' (gF.ren ρ):=h.IJ (Fr.ren w' gF fun o ho=>hρ o (ho.1 1)) (h.base.ren ρ) rfl (fun _ _ e=>by cases e) trivial
      refine⟨gF.ren ρ,fin r1 (u:=u) ?_ hpl h6 ?_,rfl,rfl,fun k b e=> ?_⟩
      ·rw[←hu8];cases p.root<;>rfl
      ·have:=hx8.ren (ρ:=ρ)
       rwa [hρ1]at this
      ·simp only[Gh.ren,e,Option.map_some]
       rw[hρ _ (by simp only[ne_eq,aF.tm.injEq,not_and];exact fun e=>absurd e.symm hnd)]
    ·exact(aj hput).elim
   ·exact(aj hput).elim
  ·exact(aj hput).elim
 ·exact(aj hput).elim
def Yn (io:Option (Nat×aF)) (i k:Nat):Option aF:=match io with|some (j,ow)=>if i=j∧k=0 then some ow else none|none=>none
open Classical in
noncomputable def behind (w:World) (g g0 g2:Gh) (bs:List (Option Nat)) (d:Nat) (io:Option (Nat×aF)):Gh:=
 ⟨g.at_,fun b=>if(∃ow,g0.own b=some ow)∨w.heap.size≤b then(match g2.own b with
  |some (.hand k)=>some (.tm d k)
  |some (.cell i j)=>(Tz bs i).map fun n=> .cell n j
  |some (.box i)=>(Tz bs i).map .box
  |some (.tm i k)=>Yn io i k
  |_=>none)else g.own b,g2.F⟩
theorem MH {i:Nat} (hG:Good P E.glob (E.sig i) (E.call i)) (h:Rel E C s a w g) {cl:Call} {fo:Operand} (ho:o.op= .call cl) (hc:cl.callee= .value fo) (hf:a.eval fo= .func (.func (E.sig i).fn) #[] #[])
 (hsc:(E.sig i).scalar=false) {d:Nat} (hdst:o.dst=some d) (hd:DOk E d) {us:List Upd} (hp:(Ko E s d cl.args.toList [] i).run=some us):
 o.wp P a w (fun a' w'=> ∃g',Rel E C (s.dI us) a' w' g') Q:=by
 unfold Ko at hp
 rw[hsc]at hp
 simp only[cond_false,noT,Bool.not_true]at hp
 obtain⟨⟨cs,us2,bs⟩,hl,hp⟩:=aS hp
 simp only[]at hp
 split at hp
 ·exact(aj hp).elim
 ·rename_i x hx
  obtain⟨r,hr,hp⟩:=yE hp
  split at hp
  ·exact(aj hp).elim
  ·rename_i us3 hback
   obtain⟨vs,hput,hp⟩:=aS hp
   obtain rfl:=ak hp
   obtain⟨us2',bs2,ds,g1,sgs,e1,e2,e3,r1,hh,a1,kp1,kb1,pvs,htg,hnd,hsome⟩:=LZ _ _ [] s g [] [] [] cs us2 bs h rfl (by simp) hl
   simp only[List.nil_append]at e1 e2 e3 hh
   subst e1 e2 e3
   obtain⟨hen,hcall⟩:=hG x r hr
   have hret:=Vj (LQ htg) hx
   have hnF: ∀n,some n∈bs→ ∀o,¬g1.F (g1.at_ n) o:=fun n hn o=>by
    obtain⟨b,hb⟩:=Option.isSome_iff_exists.1 (hsome n hn)
    obtain⟨_,_,_,_,h3,_⟩:=r1.bx n b hb
    exact h3 o
   let g0:=callee (E.sig i).params bs g1
   have hbox:=pvs.boxes
   have hE:Bg w g0 (E.sig i).params 0 (retag (E.sig i).ins (cellsOf _ x)) (cl.args.toList.map a.eval):=by
    rw[hret]
    refine XW (g:=g1) (g0:=g0) rfl _ 0 0 bs cs _ sgs (fun b k' e=> ?_) (fun j n e=> ?_) hh htg pvs
    ·rw[Nat.zero_add]at e
     simp only[g0,callee,e]
    ·have hm:some n∈bs:=List.mem_of_getElem? e
     refine⟨?_,fun e2=> ?_,hnF n hm⟩
     ·simp only[g0,callee,Nat.zero_add,Jg.2 e]
     ·simp only[g0,callee,e2,QJ hnd e,Option.map_some]
   have hglob:O8 E.glob w g0:=fun gl cs hg=>by
    obtain⟨k1,vs,k2,k3⟩:=r1.glob gl cs hg
    exact⟨k1,vs,k2,aC.sZ (g':=g0) (show Keeps w w g1.F g1.F from Keeps.refl _ _) cs 0 0 vs k1 k3⟩
   have hown0: ∀b ow,g0.own b=some ow→ ∃ow',g1.own b=some ow'∧((∃k,ow'= .hand k)∨ ∃n,some n∈bs∧ow'= .box n):=by
    intro b ow e
    simp only[g0,callee]at e
    split at e
    ·rename_i k hk;exact⟨_,hk,.inl ⟨k,rfl⟩⟩
    ·rename_i n hn
     obtain⟨q,hq,_⟩:=Option.map_eq_some_iff.1 e
     exact⟨_,hn,.inr ⟨n,L6 hq,rfl⟩⟩
    ·cases e
   have hC:=hcall w g0 _ hE hglob (fun b ow e=>by
    obtain⟨ow',e',_⟩:=hown0 b ow e;exact(r1.base.own b ow' e').2) (fun b o e=>(r1.base.fz b o e).2) (fun b ow cs t f e hc=>by
    obtain⟨ow',e',_⟩:=hown0 b ow e;exact r1.base.frz b ow' cs t f e' hc)
   have hargs:(cl.args.toList.map a.eval).toArray=cl.args.map a.eval++ #[]:=by apply Array.toList_inj.1;simp
   rw[hargs]at hC
   unfold Oper.wp
   rw[QC ho hc hf hen,Oper.upon_enter]
   refine hC.mono fun e w' hR=> ?_
   obtain⟨v,g2,rfl,hb,hres,hptr,hkv⟩:=hR
   obtain⟨io,hio⟩:=ZO (C:=C) (a:=a) (w':=w') (g:=g1) (g2:=g2) hput (RZ (g:=g0) _ 0 _ _ _ rfl hptr)
   let gF:=behind w g1 g0 g2 bs d io
   have hstand: ∀b,b<w.heap.size→(¬ ∃ow,g0.own b=some ow)→gF.own b=g1.own b∧w'.heap[b]? =w.heap[b]? ∧ ∀o,gF.F b o→g1.F b o:=by
    intro b hb' hx'
    refine⟨?_,hb.blk b hb' hx',fun o hf'=> ?_⟩
    ·simp only[gF,behind]
     rw[if_neg (fun hh=>hh.elim (fun h=>hx' h) (fun h=>by omega))]
    ·rcases(hb.fz b o hf').1 with h|h|h
     ·exact h
     ·exact absurd h hx'
     ·omega
   have hturn: ∀b ow,g2.own b=some ow→gF.own b=(match ow with
    | .hand k=>some (.tm d k)
    | .cell i j=>(Tz bs i).map fun n=> .cell n j
    | .box i=>(Tz bs i).map .box
    | .tm i k=>Yn io i k):=by
    intro b ow e
    have:=(hb.own b ow e).1
    simp only[gF,behind]
    rw[if_pos this,e]
    cases ow<;>rfl
   have hfr:Fr (fun o=>(∀i,o≠ .hand i)∧ ∀n,some n∈bs→o≠ .box n) w w' g1 gF:=⟨hb.keeps,fun b ow k e=>by
    have hx': ¬ ∃ow,g0.own b=some ow:=by
     rintro⟨ow2,e2⟩
     obtain⟨ow',e',hw'⟩:=hown0 b ow2 e2
     rw[e]at e';cases e'
     rcases hw' with⟨k',rfl⟩|⟨n,hn,rfl⟩
     ·exact k.1 k' rfl
     ·exact k.2 n hn rfl
    obtain⟨q1,q2,q3⟩:=hstand b (r1.base.own b ow e).2 hx'
    exact⟨q1.trans e,q2,q3⟩⟩
   have hX: ∀b,(∃ow,g0.own b=some ow)→(C.X b∨C.w0.heap.size≤b)∧b<w.heap.size:=by
    rintro b ⟨ow,e⟩
    obtain⟨ow',e',_⟩:=hown0 b ow e
    exact r1.base.own b ow' e'
   have hbase:Base C.w0 C.F0 C.X w' gF:=⟨hb.os.trans r1.base.os,hb.tape.trans r1.base.tape,hb.output.trans r1.base.output,Nat.le_trans r1.base.size hb.size,fun b hb' hx'=>by
    have hlt:=Nat.lt_of_lt_of_le hb' r1.base.size
    rw[hb.blk b hlt (fun hh'=>(hX b hh').1.elim (fun h=>hx' h) (fun h=>by omega))]
    exact r1.base.blk b hb' hx',fun b ow e=>by
    by_cases hc':(∃ow,g0.own b=some ow)∨w.heap.size≤b
    ·simp only[gF,behind]at e
     rw[if_pos hc']at e
     have hlt:b<w'.heap.size:=by
      cases h2:g2.own b with
      |none=>rw[h2]at e;cases e
      |some ow2=>exact(hb.own b ow2 h2).2
     refine⟨?_,hlt⟩
     rcases hc' with hc'|hc'
     ·exact(hX b hc').1
     ·exact .inr (Nat.le_trans r1.base.size hc')
    ·simp only[gF,behind]at e
     rw[if_neg hc']at e
     obtain⟨q1,q2⟩:=r1.base.own b ow e
     exact⟨q1,Nat.lt_of_lt_of_le q2 hb.size⟩,
    r1.base.keeps.trans hb.keeps,fun b o hf'=>by
     obtain⟨q1,q2⟩:=hb.fz b o hf'
     refine⟨?_,q2⟩
     rcases q1 with q1|q1|q1
     ·exact(r1.base.fz b o q1).1
     ·exact .inr (hX b q1).1
     ·exact .inr (.inr (Nat.le_trans r1.base.size q1)),fun b ow cs t f hx hc=>by
     by_cases hc':(∃ow,g0.own b=some ow)∨w.heap.size≤b
     ·simp only[gF,behind]at hx
      rw[if_pos hc']at hx
      cases h2:g2.own b with
      |none=>rw[h2]at hx;cases hx
      |some ow2=>exact hb.frz b ow2 cs t f h2 hc
     ·simp only[gF,behind]at hx
      rw[if_neg hc']at hx
      rw[hb.blk b (by omega) (fun hh'=>hc' (.inl hh'))]at hc
      exact r1.base.frz b ow cs t f hx hc⟩
   let Kp:Nat→Nat→Prop:=fun n k=> ∃(j:Nat) (want:List (Sh×Tg)) (sh:Sh),bs[j]? =some (some n)∧(E.sig i).params[j]? =some (.ptr want)∧want[k]? =some (sh,.dead)
   have hkept: ∀n k u,Kp n k→UN w g1 n k=some u→UN w' gF n k=some u:=by
    rintro n k u ⟨j,want,sh,k1,k2,k3⟩ hu
    have hat0:g0.at_ j=g1.at_ n:=by simp only[g0,callee,Jg.2 k1]
    have:=hkv j want k sh u k2 k3 (by simp only[UN,hat0];exact hu)
    simp only[UN,hat0]at this
    exact this
   obtain⟨t1,t2⟩:=Dl (s:=s.dI us2) (gF:=gF) (g2:=g2) (g:=g0) rfl (Kp:=Kp) (fun n b k c v hK hbn hc=>by
    obtain⟨cur,et,q1,q2,q3,q4⟩:=r1.bx n b hbn
    obtain⟨u,p1,p2⟩:=q4.get _ 0 _ k c (by rw[List.getElem?_map,hc];rfl)
    rw[Nat.zero_add]at p2
    have:=hkept n k u hK (by simp only[UN,q1];exact p1)
    simp only[UN]at this
    split at this
    ·rename_i cur' et' f' hh
     exact⟨cur',et',f',u,hh,this,p2.fr hfr ⟨fun i=>by simp,fun m _=>by simp⟩⟩
    ·cases this) (E.sig i).params 0 bs _ _ us3 (s.dI us2) hback hptr (fun _ _=>rfl) hnd (fun j n want k sh k1 k2 k3=>⟨j,want,sh,k1,k2,k3⟩) (fun j n e=>by
    have hb':=Jg.2 e
    refine⟨?_,fun b e2=> ?_,fun b k e2=> ?_⟩
    ·simp only[gF,behind,g0,callee,Nat.zero_add,hb']
    ·rw[hturn b _ e2];simp only[Nat.zero_add,hb',Option.map_some]
    ·rw[hturn b _ e2];simp only[Nat.zero_add,hb',Option.map_some])
   have r2:Rel E C ((s.dI us2).dI us3) a w' gF:=r1.acE (N:=fun n=>some n∈bs) (Kp:=Kp) hfr hbase rfl t1 (fun n k u _ hK hu=>by
    have hb1:UN w g1 n k=some u:=by
     simp only[aB]at hu
     simp only[UN]
     split at hu
     ·rename_i hh;simp only[hh];exact hu
     ·simp at hu
    have:=hkept n k u hK hb1
    simp only[UN]at this
    simp only[aB]
    split at this
    ·rename_i hh;simp only[hh];exact this
    ·cases this) t2
   have hres2:YO w' gF (.tm d) (resT (E.sig i).res (retag (E.sig i).outs (cellsOf ((E.sig i).outs.map (·.1)) r))).1 v:=
    YO.via (g:=g2) (g':=gF) (mk:= .hand) rfl (fun j b e=>by rw[hturn b _ e]) hres
   obtain⟨gG,r3,hGF,_,hGo⟩:=hio gF rfl rfl r2 fun j ow e b e2=>by
    rw[hturn b _ e2]
    simp[Yn,e]
   refine⟨gG,?_⟩
   rw[hdst,dM,dM,dM]
   exact r3.SC hd (Fr.refl _ _ _) r3.base rfl (UW (hres2.via (g:=gF) (g':=gG) hGF fun k b e=>hGo k b e))
def O9 (P:Program) (E:Env):Prop:=vI P E.ty∧ ∀i,Good P E.glob (E.sig i) (E.call i)
theorem aaD (hE:O9 P E) {cl:Call} {fo:Operand} (ho:o.op= .call cl) (hc:cl.callee= .value fo):pW P E C o:=by
 intro s a w g us d Q h hdst hd hp
 simp only[plan,ho,hdst,hc]at hp
 split at hp
 ·rename_i f hx
  obtain⟨hf,hp⟩:=aV hp
  have hf:=Nat.eq_of_beq_eq_true hf
  have hv:a.eval fo= .func (.func f) #[] #[]:=aK h hx (by simp)
  rw[←hf]at hv
  cases hsc:(E.sig (E.spec d)).scalar with
  |true=>exact QG (hE.2 _) h ho hc (ts:=[]) (cvs:=[]) (mk:= .hand) rfl hv hsc hdst hd hp
  |false=>exact MH (hE.2 _) h ho hc hv hsc hdst hd hp
 ·rename_i f ts hx
  obtain⟨hf,hp⟩:=aV hp
  have hf:=Nat.eq_of_beq_eq_true hf
  obtain⟨vs,hv,hcap⟩: ∃vs:List Value,a.eval fo= .func (.func f) #[] vs.toArray∧ny s a w g (UC fo) ts vs:=aK h hx (by simp)
  rw[←hf]at hv
  cases hsc:(E.sig (E.spec d)).scalar with
  |true=>exact QG (hE.2 _) h ho hc hcap hv hsc hdst hd hp
  |false=>
   match ts,hcap,hp with
   | [],hcap,hp=>
     have hvs:vs= []:=hcap
     subst hvs
     exact MH (hE.2 _) h ho hc hv hsc hdst hd hp
   |t::ts,_,hp=>
    exfalso
    unfold Ko at hp
    rw[hsc]at hp
    exact aj hp
 ·exact(aj hp).elim
end
end Go.AM
end
section
set_option linter.unusedVariables false
namespace Go.AM
open Go
section
variable {P:Program} {E:Env} {C:Ctx} {s s':St} {a a':Act} {w w':World} {g g':Gh} {o:Oper} {Q:Exit→Act→World→Prop}
theorem pW.fin (h:pW P E C o) (hns: ∀t x y,o.op≠ .store t x y) (hmu: ∀t m x v,o.op≠ .mapUpdate t m x v) (hcl: ∀c,o.op= .call c→c.callee≠ .builtin .clear):Y3 P E C o:=by
 intro s a w g us Q hr hdst hp
 cases hd:o.dst with
 |none=>
  exfalso
  unfold plan at hp
  split at hp
  ·rename_i t x y ho;exact hns t x y ho
  ·rw[hd]at hp
   simp only[]at hp
   split at hp
   ·rename_i c ho
    split at hp
    ·rename_i hc _ _;exact hcl c ho hc
    ·exact aj hp
   ·rename_i t m x v ho;exact hmu t m x v ho
   ·exact aj hp
 |some d=>
  refine h hr hd ?_ hp
  simp only[Jc,hd,Bool.and_eq_true,Bool.not_eq_true']at hdst
  exact⟨hdst.1,(Nat.blt_eq ..).mp hdst.2⟩
theorem abg (hE:O9 P E):Y3 P E C o:=by
 intro s a w g us Q h hdst hp
 have hp0:=hp
 cases ho:o.op with
 |store t x y=>exact Zu hE.1 ho h hdst hp
 |move x=>exact pW.fin (C:=C) (aa6 ho) (by simp[ho]) (by simp[ho]) (by simp[ho]) h hdst hp
 |assign x=>exact pW.fin (C:=C) (Ye ho) (by simp[ho]) (by simp[ho]) (by simp[ho]) h hdst hp
 |pick c x y=>exact pW.fin (C:=C) (abz ho) (by simp[ho]) (by simp[ho]) (by simp[ho]) h hdst hp
 |alloc t=>exact pW.fin (C:=C) (YV hE.1 ho) (by simp[ho]) (by simp[ho]) (by simp[ho]) h hdst hp
 |box t x=>exact pW.fin (C:=C) (acH hE.1 ho) (by simp[ho]) (by simp[ho]) (by simp[ho]) h hdst hp
 |build t ps=>exact pW.fin (C:=C) (ZI hE.1 ho) (by simp[ho]) (by simp[ho]) (by simp[ho]) h hdst hp
 |buildSlice t n ps=>exact pW.fin (C:=C) (NJ hE.1 ho) (by simp[ho]) (by simp[ho]) (by simp[ho]) h hdst hp
 |load t x=>exact pW.fin (C:=C) (aau hE.1 ho) (by simp[ho]) (by simp[ho]) (by simp[ho]) h hdst hp
 |nilCheck x=>exact pW.fin (C:=C) (TL ho) (by simp[ho]) (by simp[ho]) (by simp[ho]) h hdst hp
 |makeInterface t x=>exact pW.fin (C:=C) (Gx hE.1 ho) (by simp[ho]) (by simp[ho]) (by simp[ho]) h hdst hp
 |makeFunc f xs ys=>exact pW.fin (C:=C) (TM ho) (by simp[ho]) (by simp[ho]) (by simp[ho]) h hdst hp
 |binOp op t x y u=>exact pW.fin (C:=C) (ZE hE.1 ho) (by simp[ho]) (by simp[ho]) (by simp[ho]) h hdst hp
 |unOp op t x=>exact pW.fin (C:=C) (aaL ho) (by simp[ho]) (by simp[ho]) (by simp[ho]) h hdst hp
 |convert u t x=>exact pW.fin (C:=C) (Wq hE.1 ho) (by simp[ho]) (by simp[ho]) (by simp[ho]) h hdst hp
 |makeMap t r=>exact pW.fin (C:=C) (Vx hE.1 ho) (by simp[ho]) (by simp[ho]) (by simp[ho]) h hdst hp
 |lookup t m x ok=>exact pW.fin (C:=C) (Yc hE.1 ho) (by simp[ho]) (by simp[ho]) (by simp[ho]) h hdst hp
 |mapUpdate t m x v=>
  simp only[plan,ho]at hp
  cases hd:o.dst with
  |none=>rw[hd]at hp;exact Rt hE.1 ho hd h hp
  |some d=>rw[hd]at hp;exact(aj hp).elim
 |makeSlice t x y=>exact pW.fin (C:=C) (Qv hE.1 ho) (by simp[ho]) (by simp[ho]) (by simp[ho]) h hdst hp
 |slice t x lo hi mx=>exact pW.fin (C:=C) (YR hE.1 ho) (by simp[ho]) (by simp[ho]) (by simp[ho]) h hdst hp
 |fieldAddr t x f=>exact pW.fin (C:=C) (Pg hE.1 ho) (by simp[ho]) (by simp[ho]) (by simp[ho]) h hdst hp
 |indexAddr t x i=>exact pW.fin (C:=C) (Py hE.1 ho) (by simp[ho]) (by simp[ho]) (by simp[ho]) h hdst hp
 |index t x i=>exact pW.fin (C:=C) (Zw hE.1 ho) (by simp[ho]) (by simp[ho]) (by simp[ho]) h hdst hp
 |field t x f=>exact pW.fin (C:=C) (Y6 hE.1 ho) (by simp[ho]) (by simp[ho]) (by simp[ho]) h hdst hp
 |extract x i=>exact pW.fin (C:=C) (Ws ho) (by simp[ho]) (by simp[ho]) (by simp[ho]) h hdst hp
 |call cl=>
  have hns: ∀t x y,o.op≠ .store t x y:=by simp[ho]
  have hmu: ∀t m x v,o.op≠ .mapUpdate t m x v:=by simp[ho]
  cases hc:cl.callee with
  |value fo=>exact pW.fin (C:=C) (aaD hE ho hc) hns hmu (fun c e=>by rw[ho]at e;cases e;rw[hc];simp) h hdst hp
  |invoke r m=>
   exfalso
   simp only[plan,ho,hc]at hp
   cases hd:o.dst<;>rw[hd]at hp<;>exact aj hp
  |builtin b=>
   have hlen:b= .len→Y3 P E C o:=by
    rintro rfl
    match hx:cl.args.toList with
    | [x]=>intro s a w g us Q h hdst hp;exact pW.fin (C:=C) (acO hE.1 ho hc hx) hns hmu (fun c e=>by rw[ho]at e;cases e;rw[hc];simp) h hdst hp
    | []=>
      intro s a w g us Q h hdst hp;exfalso
      simp only[plan,ho,hc,hx]at hp
      cases hd:o.dst<;>rw[hd]at hp<;>exact aj hp
    | [x,y]=>
      intro s a w g us Q h hdst hp;exfalso
      simp only[plan,ho,hc,hx]at hp
      cases hd:o.dst with
      |none=>rw[hd]at hp;exact aj hp
      |some d=>
       rw[hd]at hp
       simp only[]at hp
       split at hp
       ·simp only[UY]at hp;exact aj hp
       ·exact aj hp
    |x::y::z::r=>
     intro s a w g us Q h hdst hp;exfalso
     simp only[plan,ho,hc,hx]at hp
     cases hd:o.dst<;>rw[hd]at hp<;>exact aj hp
   by_cases h1:b= .len
   ·exact hlen h1 h hdst hp
   ·match hx:cl.args.toList with
    | [x,y]=>
      by_cases h2:b= .append
      ·subst h2;exact pW.fin (C:=C) (Xf hE.1 ho hc hx) hns hmu (fun c e=>by rw[ho]at e;cases e;rw[hc];simp) h hdst hp
      ·by_cases h4:b= .copy
       ·subst h4;exact pW.fin (C:=C) (aaY hE.1 ho hc hx) hns hmu (fun c e=>by rw[ho]at e;cases e;rw[hc];simp) h hdst hp
       by_cases h3:b= .min∨b= .max
       ·exact pW.fin (C:=C) (Yr ho hc h3 hx) hns hmu (fun c e=>by rw[ho]at e;cases e;rw[hc];rcases h3 with rfl|rfl<;>simp) h hdst hp
       ·exfalso
        simp only[plan,ho,hc,hx]at hp
        cases hd:o.dst with
        |none=>rw[hd]at hp;exact aj hp
        |some d=>
         rw[hd]at hp
         cases b<;>simp only[reduceCtorEq,not_true_eq_false,or_false,or_true,not_false_eq_true]at h1 h2 h3 h4<;>simp only[]at hp<;>(split at hp)<;>first|exact aj hp|(simp only[UY]at hp;exact aj hp)
    | []=>
      exfalso
      simp only[plan,ho,hc,hx]at hp
      cases hd:o.dst with
      |none=>rw[hd]at hp;exact aj hp
      |some d=>rw[hd]at hp;cases b<;>exact aj hp
    | [x]=>
      by_cases hcc:o.dst=none∧b= .clear∧ ∃t,cl.argTypes.toList= [t]
      ·obtain⟨hd,rfl,t,ht⟩:=hcc
       simp only[plan,ho,hc,hx,hd,ht]at hp
       exact ZM hE.1 ho hc hx ht hd h hp
      exfalso
      simp only[plan,ho,hc,hx]at hp
      cases hd:o.dst with
      |none=>
       rw[hd]at hp
       simp only[]at hp
       split at hp
       ·rename_i x' t' e1 e2 e3
        cases e1
        exact hcc ⟨hd,rfl,t',e3⟩
       ·exact aj hp
      |some d=>rw[hd]at hp;cases b<;>first|exact absurd rfl h1|exact aj hp
    |x::y::z::r=>
     exfalso
     simp only[plan,ho,hc,hx]at hp
     cases hd:o.dst with
     |none=>rw[hd]at hp;exact aj hp
     |some d=>rw[hd]at hp;cases b<;>exact aj hp
 |_=>
  exfalso
  simp only[plan,ho]at hp
  cases hd:o.dst<;>rw[hd]at hp<;>exact aj hp
end
end Go.AM
end
section
set_option linter.unusedVariables false
namespace Go.AM
open Go
section
variable {P:Program} {E:Env} {C:Ctx} {s s':St} {o:Oper} {W:Loc→Prop}
def Ry (x y:T×Nat):Prop:=x=y∨(x.2=y.2∧Ii x.1 y.1=true)
theorem pI {t u:T}:Ii t u=true ↔ ∃ag cs cs',t= .val ag cs∧u= .val ag cs'∧bg cs=false∧bg cs'=false∧cs.length=cs'.length:=by
 constructor
 ·intro h
  unfold Ii at h
  split at h
  ·rename_i ag cs ag' cs'
   simp only[Bool.and_eq_true,Bool.not_eq_true',beq_iff_eq]at h
   obtain⟨⟨⟨rfl,h1⟩,h2⟩,h3⟩:=h
   exact⟨ag,cs,cs',rfl,rfl,h1,h2,Nat.eq_of_beq_eq_true h3⟩
  ·cases h
 ·rintro⟨ag,cs,cs',rfl,rfl,h1,h2,h3⟩
  simp[Ii,h1,h2,h3]
theorem Ry.refl (x:T×Nat):Ry x x:= .inl rfl
theorem Ry.symm {x y:T×Nat} (h:Ry x y):Ry y x:=by
 rcases h with rfl|⟨h1,h2⟩
 ·exact .inl rfl
 ·obtain⟨ag,cs,cs',e1,e2,k1,k2,k3⟩:=pI.1 h2
  exact .inr ⟨h1.symm,pI.2 ⟨ag,cs',cs,e2,e1,k2,k1,k3.symm⟩⟩
theorem Ry.trans {x y z:T×Nat} (h:Ry x y) (k:Ry y z):Ry x z:=by
 rcases h with rfl|⟨h1,h2⟩
 ·exact k
 rcases k with rfl|⟨k1,k2⟩
 ·exact .inr ⟨h1,h2⟩
 obtain⟨ag,cs,cs',e1,e2,a1,a2,a3⟩:=pI.1 h2
 obtain⟨ag2,ds,ds',e3,e4,b1,b2,b3⟩:=pI.1 k2
 rw[e2]at e3;cases e3
 exact .inr ⟨h1.trans k1,pI.2 ⟨ag,cs,ds',e1,e4,a1,b2,a3.trans b3⟩⟩
def bxI (s:St) (n:Nat):Option (Nat×Nat):=(s.bx n).map fun b=>(b.inst,b.cells.length)
def bxC (s:St) (n i:Nat):Option (CV×Nat):=(s.bx n).bind fun b=>b.cells[i]?
theorem YG (s:St) (k:Nat) (l:List (Nat×CV×Nat)) (n:Nat):bxI ((Upd.cl k l).on s) n=bxI s n:=by
 unfold bxI
 simp only[Upd.on,put]
 cases hb:Nat.beq n k with
 |false=>rfl
 |true=>
  have:=Nat.eq_of_beq_eq_true hb
  subst this
  simp only[cond_true]
  cases s.bx n with
  |none=>rfl
  |some b=>simp[wI]
theorem Xn (s:St) (k:Nat) (l:List (Nat×CV×Nat)) (n i:Nat):bxC ((Upd.cl k l).on s) n i=if n=k then(bxC s n i).map (over l i)else bxC s n i:=by
 unfold bxC
 simp only[Upd.on,put]
 cases hb:Nat.beq n k with
 |false=>
  have:n≠k:=fun e=>by rw[e,Nat.beq_refl]at hb;cases hb
  simp[this]
 |true=>
  have:=Nat.eq_of_beq_eq_true hb
  subst this
  simp only[cond_true,if_true]
  cases s.bx n with
  |none=>rfl
  |some b=>simp[yP]
theorem aal {s s':St} {n:Nat} (h1:bxI s n=bxI s' n) (h2: ∀i,bxC s n i=bxC s' n i):s.bx n=s'.bx n:=by
 unfold bxI at h1
 unfold bxC at h2
 cases hb:s.bx n with
 |none=>
  cases hb':s'.bx n with
  |none=>rfl
  |some b'=>rw[hb,hb']at h1;cases h1
 |some b=>
  cases hb':s'.bx n with
  |none=>rw[hb,hb']at h1;cases h1
  |some b'=>
   rw[hb,hb']at h1
   simp only[hb,hb',Option.bind_some]at h2
   simp only[Option.map_some,Option.some.injEq,Prod.mk.injEq]at h1
   obtain⟨i,cs⟩:=b
   obtain⟨i',cs'⟩:=b'
   simp only at h1 h2
   rw[h1.1,List.ext_getElem? h2]
structure Agree (W:Loc→Prop) (s s':St):Prop where
 tm: ∀n,W (.tm n)→s.tm n=s'.tm n
 bx: ∀n,W (.bx n)→s.bx n=s'.bx n
 id: ∀n,W (.id n)→Ry (s.tm n) (s'.tm n)
 bi: ∀n,W (.bi n)→bxI s n=bxI s' n
 bc: ∀n i,W (.bc n i)→bxC s n i=bxC s' n i
theorem Ry.ver {x y:T×Nat} (h:Ry x y):x.2=y.2:=by
 rcases h with rfl|⟨h,_⟩
 ·rfl
 ·exact h
theorem Agree.dI (h:Agree W s s'): ∀us:List Upd,Agree W (s.dI us) (s'.dI us):=by
 intro us
 induction us generalizing s s' with
 |nil=>exact h
 |cons u us ih=>
  refine ih (s:=u.on s) (s':=u.on s') ?_
  cases u with
  |tm k t=>
   refine⟨fun n hn=> ?_,h.bx,fun n hn=> ?_,h.bi,h.bc⟩
   ·simp only[Upd.on,put]
    cases hb:Nat.beq n k with
    |false=>exact h.tm n hn
    |true=>have:=Nat.eq_of_beq_eq_true hb;subst this;simp only[cond_true];rw[h.tm n hn]
   ·simp only[Upd.on,put]
    cases hb:Nat.beq n k with
    |false=>exact h.id n hn
    |true=>have:=Nat.eq_of_beq_eq_true hb;subst this;simp only[cond_true];rw[(h.id n hn).ver];exact .inl rfl
  |keep k t=>
   refine⟨fun n hn=> ?_,h.bx,fun n hn=> ?_,h.bi,h.bc⟩
   ·simp only[Upd.on,put]
    cases hb:Nat.beq n k with
    |false=>exact h.tm n hn
    |true=>have:=Nat.eq_of_beq_eq_true hb;subst this;simp only[cond_true];rw[h.tm n hn]
   ·simp only[Upd.on,put]
    cases hb:Nat.beq n k with
    |false=>exact h.id n hn
    |true=>have:=Nat.eq_of_beq_eq_true hb;subst this;simp only[cond_true];rw[(h.id n hn).ver];exact .inl rfl
  |bx k b=>
   refine⟨h.tm,fun n hn=> ?_,h.id,fun n hn=> ?_,fun n i hn=> ?_⟩
   ·simp only[Upd.on,put]
    cases hb:Nat.beq n k with
    |false=>exact h.bx n hn
    |true=>rfl
   ·have:=h.bi n hn
    unfold bxI at this ⊢
    simp only[Upd.on,put]
    cases hb:Nat.beq n k with
    |false=>exact this
    |true=>rfl
   ·have:=h.bc n i hn
    unfold bxC at this ⊢
    simp only[Upd.on,put]
    cases hb:Nat.beq n k with
    |false=>exact this
    |true=>rfl
  |cl k l=>
   refine⟨h.tm,fun n hn=> ?_,h.id,fun n hn=>by rw[YG,YG];exact h.bi n hn,fun n i hn=>by rw[Xn,Xn,h.bc n i hn]⟩
   simp only[Upd.on,put]
   cases hb:Nat.beq n k with
   |false=>exact h.bx n hn
   |true=>have:=Nat.eq_of_beq_eq_true hb;subst this;simp only[cond_true];rw[h.bx n hn]
def vJ (W:Loc→Prop) (s:St) (x:Operand):Prop:= ∀L,L∈pq s x→W L
def Upd.mild (W:Loc→Prop):Upd→Prop
 | .keep _ t=> ∀L,L∈t.rG→W L
 | .bx _ _=>True
 | .cl _ _=>True
 | .tm _ _=>False
theorem Ij {n:Nat} {t:T} (h:t.rG= []):(Upd.keep n t).mild W:=fun L hL=>by rw[h]at hL;cases hL
theorem vJ.dI {x:Operand}: ∀(us:List Upd) (s:St),(∀u,u∈us→u.mild W)→vJ W s x→vJ W (s.dI us) x
 | [],_,_,h=>h
 |u::us,s,hm,h=>by
  refine vJ.dI us (u.on s) (fun v hv=>hm v (by simp[hv])) ?_
  have hu:=hm u (by simp)
  cases x with
  |tmp t=>
   intro L hL
   cases u with
   |tm k t'=>exact hu.elim
   |bx k b=>exact h L hL
   |cl k l=>exact h L hL
   |keep k t'=>
    simp only[pq,Upd.on,put]at hL
    cases hb:Nat.beq t k with
    |false=>rw[hb]at hL;exact h L hL
    |true=>
     rw[hb]at hL
     simp only[cond_true,List.mem_cons]at hL
     rcases hL with rfl|hL
     ·exact h _ (by simp[pq])
     ·exact hu L hL
  |_=>intro L hL;simp[pq]at hL
theorem dX (h:Agree W s s') {x:Operand} (hx:vJ W s x):at_ E s x=at_ E s' x:=by
 cases x with
 |tmp n=>simp only[at_];rw[h.tm n (hx _ (by simp[pq]))]
 |_=>rfl
theorem dS {x:Operand} {p:Pl} (hx:vJ W s x) (h:p.root.loc∈(at_ E s x).rG):W p.root.loc:=by
 cases x with
 |tmp n=>exact hx _ (by simp only[pq];exact List.mem_cons_of_mem _ h)
 |const v=>
  exfalso
  simp only[at_]at h
  unfold MF at h
  split at h<;>simp[T.rG,T.loc]at h
 |global g=>
  exfalso
  simp only[at_]at h
  split at h<;>simp[T.rG,T.loc]at h
 |func f=>simp[at_,T.rG,T.loc]at h
theorem uK (h:Agree W s s') {r:Root} (hr:W r.loc):aA s r=aA s' r:=by
 cases r with
 |tmp n=>simp only[aA];rw[h.tm n hr]
 |box n=>simp only[aA];rw[h.bx n hr]
theorem iI (h:Agree W s s') {p:Pl} (hr:W p.root.loc) (n:Nat):aU s p n=aU s' p n:=by
 unfold aU;rw[uK h hr]
theorem gZ (h:Agree W s s') {p:Pl} (hr:W p.root.loc) (ds:List CV) (f:Bool):iY s p ds f=iY s' p ds f:=by
 unfold iY
 cases hp:p.root with
 |tmp n=>rw[hp]at hr;simp only[];rw[h.tm n hr]
 |box n=>rw[hp]at hr;simp only[];rw[h.bx n hr]
theorem FP (h:Agree W s s') {p:Pl} (hr:W p.root.loc):yV s p=yV s' p:=by
 unfold yV
 rw[uK h hr,iI h hr]
theorem PW (h:Agree W s s') {p:Pl} (hr:W p.root.loc) (n:Nat):Ak s p n=Ak s' p n:=by
 unfold Ak;rw[uK h hr]
theorem eY (h:Agree W s s') {p:Pl} (hr:W p.root.loc) (n:Nat):content s p n=content s' p n:=by
 unfold content;rw[iI h hr,iI h hr]
theorem CQ (h:Agree W s s') {p:Pl} (hr:W p.root.loc) (ds:List CV) (f:Bool):JW s p ds f=JW s' p ds f:=by
 funext us
 unfold JW
 cases hp:p.root with
 |tmp n=>rfl
 |box n=>rw[hp]at hr;simp only[yO,h.bx n hr]
theorem MR (h:Agree W s s') {p:Pl} (hr:W p.root.loc) (ds:List CV):JH s p ds=JH s' p ds:=by
 have e: ∀(ds:List CV) (f:Bool),iY s p ds f=iY s' p ds f:=gZ h hr
 have e2:=CQ h hr ds true
 unfold JH
 rw[iI h hr,iI h hr]
 simp only[e,e2]
theorem rF (h:Agree W s s') {p:Pl} (hr:W p.root.loc):Kz s p=Kz s' p:=by
 unfold Kz;rw[iI h hr]
theorem Qz (h:Agree W s s') {p:Pl} (hr:W p.root.loc) (k q:Nat) (ds:List CV):LP s p k q ds=LP s' p k q ds:=by
 have e: ∀(ds:List CV) (f:Bool),iY s p ds f=iY s' p ds f:=gZ h hr
 unfold LP
 rw[rF h hr]
 simp only[e]
theorem KL (h:Agree W s s') {p:Pl} (hr:W p.root.loc) (n:Nat) (t:List Sh):G5 s p n t=G5 s' p n t:=by
 unfold G5;rw[iI h hr]
theorem FD (h:Agree W s s') {p:Pl} (hr:W p.root.loc) (cs:List CV):Ae s p cs=Ae s' p cs:=by
 unfold Ae;rw[gZ h hr,CQ h hr]
theorem uz {p:Pl} {ds:List CV} {f:Bool} {us:List Upd} (h:iY s p ds f=some us): ∀u,u∈us→u.mild W:=by
 unfold iY at h
 split at h
 ·split at h
  ·cases f with
   |true=>simp at h
   |false=>
    simp only[cond_eq_ite,Bool.false_eq_true,if_false]at h
    split at h
    ·cases h;intro u hu;simp only[List.mem_singleton]at hu;subst hu;exact Ij rfl
    ·cases h
  ·cases h
 ·split at h
  ·simp only[cond_eq_ite]at h
   split at h
   ·cases h;intro u hu;simp only[List.mem_singleton]at hu;subst hu;exact trivial
   ·cases h
  ·cases h
theorem Me {p:Pl} {ds:List CV} {f:Bool} {us:List Upd} (h: ∀u,u∈us→u.mild W): ∀u,u∈JW s p ds f us→u.mild W:=by
 unfold JW
 split
 ·intro u hu;rw[List.mem_singleton.1 hu];trivial
 ·exact h
theorem H7 {p:Pl} {cs:List CV} {us:List Upd} (h:Ae s p cs=some us): ∀u,u∈us→u.mild W:=by
 unfold Ae at h
 simp only[cond_eq_ite]at h
 split at h
 ·cases h;intro u hu;cases hu
 ·split at h
  ·obtain⟨us0,h0,rfl⟩:=Option.map_eq_some_iff.1 h
   exact Me (uz h0)
  ·cases h
theorem bind_congr {α β:Type} {d d':Dyn α} {q q':α→Dyn β} (h:d.run=d'.run) (hq: ∀a,d.run=some a→(q a).run=(q' a).run):(d.bind q).run=(d'.bind q').run:=by
 rw[Dyn.run_bind,Dyn.run_bind,←h]
 cases hd:d.run with
 |none=>rfl
 |some a=>exact hq a hd
theorem qR (h:Agree W s s') {x:Operand} (hx:vJ W s x) (exp:List Sh):zA E s x exp=zA E s' x exp:=by
 unfold zA
 rw[←dX (E:=E) h hx]
 cases hat:at_ E s x with
 |ref p ag n=>
  have hr:W p.root.loc:=dS (E:=E) hx (by rw[hat];simp[T.rG,T.loc])
  simp only[]
  rw[eY h hr]
  simp only[FD h hr]
 |rsub p z lo hi=>
  have hr:W p.root.loc:=dS (E:=E) hx (by rw[hat];simp[T.rG,T.loc])
  simp only[]
  rw[eY h hr]
  simp only[FD h hr]
 |rowr p ag n=>
  have hr:W p.root.loc:=dS (E:=E) hx (by rw[hat];simp[T.rG,T.loc])
  simp only[]
  rw[rF h hr]
  simp only[gZ h hr]
 |_=>rfl
theorem xu {x:Operand} {exp:List Sh} {ag:Bool} {cs:List CV} {us:List Upd} (h:(zA E s x exp).run=some (ag,cs,us)): ∀u,u∈us→u.mild W:=by
 unfold zA at h
 have none: ∀u:Upd,u∈([]:List Upd)→u.mild W:=fun u hu=>by cases hu
 split at h
 ·simp only[cond_eq_ite]at h
  split at h
  ·have:=ak h;simp only[Prod.mk.injEq]at this;obtain⟨_,_,rfl⟩:=this;exact none
  ·split at h
   ·have:=ak h;simp only[Prod.mk.injEq]at this;obtain⟨_,_,rfl⟩:=this
    intro u hu;simp only[List.mem_singleton]at hu;subst hu;exact Ij rfl
   ·exact(aj h).elim
 ·obtain⟨cs',_,h⟩:=aS h
  split at h
  ·rename_i us' hk
   have:=ak h;simp only[Prod.mk.injEq]at this;obtain⟨_,_,rfl⟩:=this
   exact H7 hk
  ·exact(aj h).elim
 ·obtain⟨cs',_,h⟩:=aS h
  split at h
  ·split at h
   ·rename_i hk
    have:=ak h;simp only[Prod.mk.injEq]at this;obtain⟨_,_,rfl⟩:=this
    exact H7 hk
   ·exact(aj h).elim
  ·exact(aj h).elim
 ·split at h
  ·obtain⟨_,h⟩:=aV h
   have:=ak h;simp only[Prod.mk.injEq]at this;obtain⟨_,_,rfl⟩:=this;exact none
  ·exact(aj h).elim
 ·split at h
  ·obtain⟨cs',_,h⟩:=aS h
   split at h
   ·split at h
    ·rename_i us' hk
     have:=ak h;simp only[Prod.mk.injEq]at this;obtain⟨_,_,rfl⟩:=this
     exact uz hk
    ·exact(aj h).elim
   ·exact(aj h).elim
  ·exact(aj h).elim
 ·exact(aj h).elim
theorem yt (h:Agree W s s') {x:Operand} (hx:vJ W s x):GK E s x=GK E s' x:=by
 unfold GK
 rw[←dX (E:=E) h hx]
 cases hat:at_ E s x with
 |ref p ag n=>
  have hr:W p.root.loc:=dS (E:=E) hx (by rw[hat];simp[T.rG,T.loc])
  cases ag
  ·simp only[];rw[eY h hr]
  ·rfl
 |rsub p z lo hi=>
  have hr:W p.root.loc:=dS (E:=E) hx (by rw[hat];simp[T.rG,T.loc])
  simp only[]
  rw[eY h hr]
 |val ag cs=>cases ag<;>rfl
 |_=>rfl
theorem lM (h:Agree W s s') {x:Operand} (hx:vJ W s x):qg E s x=qg E s' x:=by
 unfold qg;rw[←dX (E:=E) h hx]
theorem Ky (h:Agree W s s') {x:Operand} (hx:vJ W s x):uo E s x=uo E s' x:=by
 unfold uo;rw[←dX (E:=E) h hx]
theorem zS (fields:List (Nat×Nat)) (cells:List Sh): ∀(ps:List (Nat×Operand)) (s s':St) (cs:List CV) (us:List Upd),Agree W s s'→(∀p,p∈ps→vJ W s p.2)→(rY E fields cells ps s cs us).run=(rY E fields cells ps s' cs us).run
 | [],_,_,_,_,_,_=>rfl
 |(i,x)::ps,s,s',cs,us,h,hx=>by
  simp only[rY]
  cases fields[i]? with
  |none=>rfl
  |some on=>
   obtain⟨off,n⟩:=on
   refine bind_congr (by rw[qR h (hx (i,x) (by simp))]) fun r hr=> ?_
   obtain⟨ag,ds,vs⟩:=r
   simp only[]
   cases(Nat.beq ds.length n&&DZ ds ((cs.drop off).take n))with
   |false=>rfl
   |true=>exact zS fields cells ps _ _ _ _ (h.dI vs) fun p hp=>(hx p (by simp[hp])).dI vs s (xu hr)
theorem MG (h:Agree W s s'): ∀(xs:List Operand),(∀x,x∈xs→vJ W s x)→Za E s xs=Za E s' xs
 | [],_=>rfl
 |x::xs,hx=>by
  simp only[Za]
  rw[←dX (E:=E) h (hx x (by simp)),MG h xs fun y hy=>hx y (by simp[hy])]
end
end Go.AM
end
section
set_option linter.unusedVariables false
namespace Go.AM
open Go
section
variable {P:Program} {E:Env} {C:Ctx} {s s':St} {o:Oper} {W:Loc→Prop}
theorem Rf (h:Agree W s s') {p:Pl} (hr:W p.root.loc) (cs:List CV) (want:List (Sh×Tg)):H9 s p cs want=H9 s' p cs want:=by
 unfold H9;simp only[gZ h hr,CQ h hr]
theorem CW (h:Agree W s s') {x:Operand} (hx:vJ W s x) (y:Operand) (ag:Bool) (want:List (Sh×Tg)):Jr s (at_ E s x) y ag want=Jr s' (at_ E s x) y ag want:=by
 unfold Jr
 cases hat:at_ E s x with
 |ref p ag n=>
  have hr:W p.root.loc:=dS (E:=E) hx (by rw[hat];simp[T.rG,T.loc])
  simp only[]
  rw[eY h hr]
  simp only[Rf h hr]
 |rsub p z lo hi=>
  have hr:W p.root.loc:=dS (E:=E) hx (by rw[hat];simp[T.rG,T.loc])
  simp only[]
  rw[eY h hr]
  simp only[gZ h hr]
 |rowr p ag n=>
  have hr:W p.root.loc:=dS (E:=E) hx (by rw[hat];simp[T.rG,T.loc])
  simp only[]
  rw[rF h hr]
  simp only[gZ h hr]
 |_=>rfl
theorem yK: ∀u:Upd,u∈([]:List Upd)→u.mild W:=fun u hu=>by cases hu
theorem Uu {p:Pl} {cs ds:List CV} {want:List (Sh×Tg)} {us:List Upd} (h:(H9 s p cs want).run=some (ds,us)): ∀u,u∈us→u.mild W:=by
 unfold H9 at h
 split at h
 ·exact(aj h).elim
 ·simp only[cond_eq_ite]at h
  split at h
  ·have:=ak h;simp only[Prod.mk.injEq]at this;obtain⟨_,rfl⟩:=this;exact yK
  ·split at h
   ·split at h
    ·rename_i hp
     have:=ak h;simp only[Prod.mk.injEq]at this;obtain⟨_,rfl⟩:=this;exact Me (uz hp)
    ·exact(aj h).elim
   ·exact(aj h).elim
theorem xQ {x:Operand} (hx:vJ W s x): ∀L,L∈(at_ E s x).rG→W L:=by
 intro L hL
 cases x with
 |tmp n=>exact hx _ (by simp only[pq];exact List.mem_cons_of_mem _ hL)
 |const v=>
  exfalso
  simp only[at_]at hL
  unfold MF at hL
  split at hL<;>simp[T.rG,T.loc]at hL
 |global g=>
  exfalso
  simp only[at_]at hL
  split at hL<;>simp[T.rG,T.loc]at hL
 |func f=>simp[at_,T.rG,T.loc]at hL
theorem EL {t:T} (ht: ∀L,L∈t.rG→W L) {y:Operand} {ag:Bool} {want:List (Sh×Tg)} {ds:List CV} {us:List Upd} (h:(Jr s t y ag want).run=some (ds,us)): ∀u,u∈us→u.mild W:=by
 unfold Jr at h
 split at h
 ·obtain⟨_,h⟩:=aV h
  split at h
  ·exact(aj h).elim
  ·simp only[cond_eq_ite]at h
   split at h
   ·have:=ak h;simp only[Prod.mk.injEq]at this;obtain⟨_,rfl⟩:=this;exact yK
   ·split at h
    ·have:=ak h;simp only[Prod.mk.injEq]at this;obtain⟨_,rfl⟩:=this
     intro u hu;simp only[List.mem_singleton]at hu;subst hu;exact Ij rfl
    ·exact(aj h).elim
 ·obtain⟨_,h⟩:=aV h
  obtain⟨cs,_,h⟩:=aS h
  exact Uu h
 ·simp only[cond_eq_ite]at h
  split at h
  ·exact(aj h).elim
  ·obtain⟨cs,_,h⟩:=aS h
   split at h
   ·split at h
    ·exact(aj h).elim
    ·split at h
     ·exact(aj h).elim
     ·split at h
      ·split at h
       ·split at h
        ·rename_i hp
         have:=ak h;simp only[Prod.mk.injEq]at this;obtain⟨_,rfl⟩:=this;exact uz hp
        ·exact(aj h).elim
       ·exact(aj h).elim
      ·exact(aj h).elim
   ·exact(aj h).elim
 ·simp only[cond_eq_ite]at h
  split at h
  ·exact(aj h).elim
  ·obtain⟨cs,_,h⟩:=aS h
   have:=ak h;simp only[Prod.mk.injEq]at this;obtain⟨_,rfl⟩:=this;exact yK
 ·simp only[cond_eq_ite]at h
  split at h
  ·exact(aj h).elim
  ·split at h
   ·obtain⟨cs,_,h⟩:=aS h
    split at h
    ·split at h
     ·rename_i hp
      have:=ak h;simp only[Prod.mk.injEq]at this;obtain⟨_,rfl⟩:=this;exact uz hp
     ·exact(aj h).elim
    ·exact(aj h).elim
   ·exact(aj h).elim
 ·split at h
  ·obtain⟨_,h⟩:=aV h
   have:=ak h;simp only[Prod.mk.injEq]at this;obtain⟨_,rfl⟩:=this
   intro u hu;simp only[List.mem_singleton]at hu;subst hu;exact ht
  ·exact(aj h).elim
 ·exact(aj h).elim
theorem CJ (ag:Bool) (want:List (Sh×Tg)): ∀(ps:List (Nat×Operand)) (k:Nat) (s s':St) (rows:List (List CV)) (us:List Upd),Agree W s s'→(∀p,p∈ps→vJ W s p.2)→(wF E ag want ps k s rows us).run=(wF E ag want ps k s' rows us).run
 | [],_,_,_,_,_,_,_=>rfl
 |(i,x)::ps,k,s,s',rows,us,h,hx=>by
  simp only[wF]
  cases Nat.beq i k with
  |false=>rfl
  |true=>
   have sx:=hx (i,x) (by simp)
   refine bind_congr (by rw[←dX (E:=E) h sx,CW h sx]) fun r hr=> ?_
   exact CJ ag want ps _ _ _ _ _ (h.dI r.2) fun p hp=>(hx p (by simp[hp])).dI r.2 s (EL (xQ (E:=E) sx) (ds:=r.1) (us:=r.2) hr)
theorem TN (h:Agree W s s') {x:Operand} (hx:vJ W s x) (bs:List (Option Nat)) (pk:PK):QU s bs pk (at_ E s x) x=QU s' bs pk (at_ E s' x) x:=by
 rw[←dX (E:=E) h hx]
 unfold QU
 cases pk with
 |val ag want=>simp only[];rw[CW h hx]
 |io want=>simp only[];rw[CW h hx]
 |ptr want=>
  simp only[]
  cases hat:at_ E s x with
  |addr p=>
   have hr:W p.root.loc:=dS (E:=E) hx (by rw[hat];simp[T.rG,T.loc])
   simp only[]
   rw[iI h hr]
   cases hp:p.root with
   |tmp n=>rfl
   |box n=>
    rw[hp]at hr
    have hb:s.bx n=s'.bx n:=h.bx n hr
    have hr':W p.root.loc:=by rw[hp];exact hr
    cases p.sub with
    |some ij=>rfl
    |none=>
     cases aU s' p want.length with
     |none=>rfl
     |some cs=>simp only[hb,yO,gZ h hr']
  |_=>rfl
 |_=>rfl
theorem CS {x:Operand} {bs:List (Option Nat)} {pk:PK} {ds:List CV} {us:List Upd} {b:Option Nat} (hx:vJ W s x) (h:(QU s bs pk (at_ E s x) x).run=some (ds,us,b)):(∀u,u∈us→u.mild W)∧ ∀n,b=some n→W (.bx n):=by
 unfold QU at h
 cases pk with
 |val ag want=>
  simp only[]at h
  obtain⟨r,hr,h⟩:=aS h
  have:=ak h;simp only[Prod.mk.injEq]at this;obtain⟨_,rfl,rfl⟩:=this
  exact⟨EL (xQ (E:=E) hx) (ds:=r.1) (us:=r.2) hr,fun n e=>by cases e⟩
 |rptr want=>
  simp only[]at h
  obtain⟨r,hr,h⟩:=aS h
  have:=ak h;simp only[Prod.mk.injEq]at this;obtain⟨_,rfl,rfl⟩:=this
  exact⟨yK,fun n e=>by cases e⟩
 |io want=>
  simp only[]at h
  obtain⟨r,hr,h⟩:=aS h
  have:=ak h;simp only[Prod.mk.injEq]at this;obtain⟨_,rfl,rfl⟩:=this
  exact⟨EL (xQ (E:=E) hx) (ds:=r.1) (us:=r.2) hr,fun n e=>by cases e⟩
 |clo f want=>exact(aj h).elim
 |fn f=>
  simp only[]at h
  split at h
  ·obtain⟨_,h⟩:=aV h
   have:=ak h;simp only[Prod.mk.injEq]at this;obtain⟨_,rfl,rfl⟩:=this
   exact⟨yK,fun n e=>by cases e⟩
  ·exact(aj h).elim
 |ptr want=>
  simp only[]at h
  split at h
  ·rename_i p hat
   have hr:W p.root.loc:=dS (E:=E) hx (by rw[hat];simp[T.rG,T.loc])
   split at h
   ·rename_i n cs hp _ _
    obtain⟨_,h⟩:=aV h
    split at h
    ·rename_i hu
     have:=ak h;simp only[Prod.mk.injEq]at this;obtain⟨_,rfl,rfl⟩:=this
     refine⟨?_,fun m e=> ?_⟩
     ·cases oW want with
      |false=>exact uz hu
      |true=>intro u hu2;simp only[cond_true,List.mem_singleton]at hu2;subst hu2;exact trivial
     cases e
     rw[hp]at hr;exact hr
    ·exact(aj h).elim
   ·exact(aj h).elim
  ·exact(aj h).elim
theorem Ew: ∀(ps:List PK) (xs:List Operand) (bs:List (Option Nat)) (s s':St) (cs:List CV) (us:List Upd),Agree W s s'→(∀x,x∈xs→vJ W s x)→(vg E ps xs bs s cs us).run=(vg E ps xs bs s' cs us).run
 | [],[],_,_,_,_,_,_,_=>rfl
 | [],_::_,_,_,_,_,_,_,_=>rfl
 |_::_,[],_,_,_,_,_,_,_=>rfl
 |p::ps,x::xs,bs,s,s',cs,us,h,hx=>by
  simp only[vg]
  refine bind_congr (by rw[TN h (hx x (by simp))]) fun r hr=> ?_
  exact Ew ps xs _ _ _ _ _ (h.dI r.2.1) fun y hy=>(hx y (by simp[hy])).dI r.2.1 s (CS (ds:=r.1) (us:=r.2.1) (b:=r.2.2) (hx x (by simp)) hr).1
theorem DW: ∀(ps:List PK) (xs:List Operand) (bs:List (Option Nat)) (s:St) (cs:List CV) (us:List Upd) (cs':List CV) (us':List Upd) (bs':List (Option Nat)),(∀x,x∈xs→vJ W s x)→(∀n,some n∈bs→W (.bx n))→
 (vg E ps xs bs s cs us).run=some (cs',us',bs')→ ∀n,some n∈bs'→W (.bx n)
 | [],[],bs,s,cs,us,cs',us',bs',_,hb,h=>by
   have:=ak h;simp only[Prod.mk.injEq]at this;obtain⟨_,_,rfl⟩:=this;exact hb
 | [],_::_,_,_,_,_,_,_,_,_,_,h=>(aj h).elim
 |_::_,[],_,_,_,_,_,_,_,_,_,h=>(aj h).elim
 |p::ps,x::xs,bs,s,cs,us,cs',us',bs',hx,hb,h=>by
  simp only[vg]at h
  obtain⟨r,hr,h⟩:=aS h
  obtain⟨k1,k2⟩:=CS (ds:=r.1) (us:=r.2.1) (b:=r.2.2) (hx x (by simp)) hr
  refine DW ps xs _ _ _ _ cs' us' bs' (fun y hy=>(hx y (by simp[hy])).dI r.2.1 s k1) (fun n hn=> ?_) h
  rcases List.mem_append.1 hn with hn|hn
  ·exact hb n hn
  ·simp only[List.mem_singleton]at hn;exact k2 n hn.symm
theorem CO (h:Agree W s s') {t:T} (ht: ∀L,L∈t.loc→W L) (want:List (Sh×Tg)):PX s t want=PX s' t want:=by
 unfold PX
 cases t with
 |addr p=>
  have hr:W p.root.loc:=ht _ (by simp[T.loc])
  simp only[];rw[eY h hr]
 |_=>rfl
theorem Zq (t:T) {L:Loc} (h:L∈t.loc):L∈t.rG:=by
 cases t with
 |clo f ts=>simp[T.loc]at h
 |_=>exact h
theorem SH (h:Agree W s s') {x:Operand} (hx:vJ W s x) (pk:PK):Wv E s pk x=Wv E s' pk x:=by
 unfold Wv
 rw[←dX (E:=E) h hx]
 cases pk with
 |val ag0 want=>
  cases hat:at_ E s x with
  |ref p ag n=>
   have hr:W p.root.loc:=dS (E:=E) hx (by rw[hat];simp[T.rG,T.loc])
   simp only[];rw[eY h hr]
  |rsub p z lo hi=>
   have hr:W p.root.loc:=dS (E:=E) hx (by rw[hat];simp[T.rG,T.loc])
   simp only[];rw[eY h hr]
  |_=>rfl
 |rptr want=>
  exact CO h (fun L hL=>xQ (E:=E) hx L (Zq _ hL)) want
 |clo f want=>
  cases hat:at_ E s x with
  |clo g ts=>
   match ts,hat with
   | [t],hat=>simp only[];rw[CO h (fun L hL=>xQ (E:=E) hx L (by rw[hat];simp[T.rG,hL])) want]
   | [],_=>rfl
   |_::_::_,_=>rfl
  |_=>rfl
 |_=>rfl
theorem yJ (h:Agree W s s'): ∀(ps:List PK) (xs:List Operand) (ts:List T),(∀x,x∈xs→vJ W s x)→(∀t,t∈ts→ ∀L,L∈t.loc→W L)→wL E s ps xs ts=wL E s' ps xs ts
 | [],[],[],_,_=>rfl
 | [],[],_::_,_,_=>rfl
 | [],_::_,_,_,_=>rfl
 |p::_,[],[],_,_=>by cases p<;>rfl
 |p::ps,x::xs,ts,hx,ht=>by
  simp only[wL]
  rw[SH h (hx x (by simp)),yJ h ps xs ts (fun y hy=>hx y (by simp[hy])) ht]
 | .rptr want::ps,[],t::ts,hx,ht=>by
   simp only[wL]
   rw[CO h (ht t (by simp)),yJ h ps [] ts hx (fun t' h'=>ht t' (by simp[h']))]
 | .val _ _::_,[],_::_,_,_=>rfl
 | .ptr _::_,[],_::_,_,_=>rfl
 | .fn _::_,[],_::_,_,_=>rfl
 | .clo _ _::_,[],_::_,_,_=>rfl
 | .io _::_,[],_::_,_,_=>rfl
theorem kL (h:Agree W s s'): ∀(ps:List PK) (bs:List (Option Nat)) (cs:List CV),(∀n,some n∈bs→W (.bx n))→ni s ps bs cs=ni s' ps bs cs
 | [],[],_,_=>rfl
 | [],_::_,_,_=>rfl
 | .ptr _::_,[],_,_=>rfl
 | .ptr _::_,none::_,_,_=>rfl
 | .ptr want::ps,some n::bs,cs,hb=>by
   simp only[ni]
   rw[h.bx n (hb n (by simp)),kL h ps bs _ fun m hm=>hb m (by simp[hm])]
 | .val _ _::ps,[],_,_=>rfl
 | .val _ _::ps,some _::_,_,_=>rfl
 | .val _ _::ps,none::bs,cs,hb=>by simp only[ni];exact kL h ps bs _ fun m hm=>hb m (by simp[hm])
 | .rptr _::ps,[],_,_=>rfl
 | .rptr _::ps,some _::_,_,_=>rfl
 | .rptr _::ps,none::bs,cs,hb=>by simp only[ni];exact kL h ps bs _ fun m hm=>hb m (by simp[hm])
 | .fn _::ps,[],_,_=>rfl
 | .fn _::ps,some _::_,_,_=>rfl
 | .fn _::ps,none::bs,cs,hb=>by simp only[ni];exact kL h ps bs _ fun m hm=>hb m (by simp[hm])
 | .clo _ _::ps,[],_,_=>rfl
 | .clo _ _::ps,some _::_,_,_=>rfl
 | .clo _ _::ps,none::bs,cs,hb=>by simp only[ni];exact kL h ps bs _ fun m hm=>hb m (by simp[hm])
 | .io _::ps,[],_,_=>rfl
 | .io _::ps,some _::_,_,_=>rfl
 | .io _::ps,none::bs,cs,hb=>by simp only[ni];exact kL h ps bs _ fun m hm=>hb m (by simp[hm])
theorem nS: ∀(ps:List PK) (bs:List (Option Nat)) (cs:List CV) (us:List Upd),ni s ps bs cs=some us→ ∀u,u∈us→u.mild W
 | [],[],_,us,h=>by simp only[ni,Option.some.injEq]at h;subst h;exact yK
 | [],_::_,_,_,h=>by cases h
 | .ptr _::_,[],_,_,h=>by cases h
 | .ptr _::_,none::_,_,_,h=>by cases h
 | .ptr want::ps,some n::bs,cs,us,h=>by
   simp only[ni]at h
   split at h
   ·rename_i b us' hb hba
    simp only[cond_eq_ite]at h
    split at h
    ·cases h
     intro u hu
     rcases List.mem_cons.1 hu with rfl|hu
     ·cases oW want<;>exact trivial
     ·exact nS ps bs _ us' hba u hu
    ·cases h
   ·cases h
 | .val _ _::ps,[],_,_,h=>by cases h
 | .val _ _::ps,some _::_,_,_,h=>by cases h
 | .val _ _::ps,none::bs,cs,us,h=>nS ps bs cs us h
 | .rptr _::ps,[],_,_,h=>by cases h
 | .rptr _::ps,some _::_,_,_,h=>by cases h
 | .rptr _::ps,none::bs,cs,us,h=>nS ps bs cs us h
 | .fn _::ps,[],_,_,h=>by cases h
 | .fn _::ps,some _::_,_,_,h=>by cases h
 | .fn _::ps,none::bs,cs,us,h=>nS ps bs cs us h
 | .clo _ _::ps,[],_,_,h=>by cases h
 | .clo _ _::ps,some _::_,_,_,h=>by cases h
 | .clo _ _::ps,none::bs,cs,us,h=>nS ps bs cs us h
 | .io _::ps,[],_,_,h=>by cases h
 | .io _::ps,some _::_,_,_,h=>by cases h
 | .io want::ps,none::bs,cs,us,h=>nS ps bs _ us h
theorem Gq: ∀(ps:List PK) (xs:List Operand) (bs:List (Option Nat)) (s:St) (cs:List CV) (us:List Upd) (cs':List CV) (us':List Upd) (bs':List (Option Nat)),(∀x,x∈xs→vJ W s x)→(∀u,u∈us→u.mild W)→
 (vg E ps xs bs s cs us).run=some (cs',us',bs')→ ∀u,u∈us'→u.mild W
 | [],[],bs,s,cs,us,cs',us',bs',_,hm,h=>by
   have:=ak h;simp only[Prod.mk.injEq]at this;obtain⟨_,rfl,_⟩:=this;exact hm
 | [],_::_,_,_,_,_,_,_,_,_,_,h=>(aj h).elim
 |_::_,[],_,_,_,_,_,_,_,_,_,h=>(aj h).elim
 |p::ps,x::xs,bs,s,cs,us,cs',us',bs',hx,hm,h=>by
  simp only[vg]at h
  obtain⟨r,hr,h⟩:=aS h
  obtain⟨k1,k2⟩:=CS (ds:=r.1) (us:=r.2.1) (b:=r.2.2) (hx x (by simp)) hr
  refine Gq ps xs _ _ _ _ cs' us' bs' (fun y hy=>(hx y (by simp[hy])).dI r.2.1 s k1) (fun u hu=> ?_) h
  rcases List.mem_append.1 hu with hu|hu
  ·exact hm u hu
  ·exact k1 u hu
theorem yI: ∀(ps:List PK) (xs:List Operand) (cs:List CV) (x:Operand) (c:List CV),(x,c)∈WA ps xs cs→x∈xs
 | [],xs,_,_,_,h=>by cases xs<;>simp[WA]at h
 |p::_,[],_,_,_,h=>by cases p<;>simp[WA]at h
 | .val _ _::ps,y::xs,cs,x,c,h=>List.mem_cons_of_mem _ (yI ps xs cs x c h)
 | .rptr _::ps,y::xs,cs,x,c,h=>List.mem_cons_of_mem _ (yI ps xs cs x c h)
 | .fn _::ps,y::xs,cs,x,c,h=>List.mem_cons_of_mem _ (yI ps xs cs x c h)
 | .clo _ _::ps,y::xs,cs,x,c,h=>List.mem_cons_of_mem _ (yI ps xs cs x c h)
 | .ptr _::ps,y::xs,cs,x,c,h=>List.mem_cons_of_mem _ (yI ps xs _ x c h)
 | .io _::ps,y::xs,cs,x,c,h=>by
   simp only[WA]at h
   rcases List.mem_cons.1 h with h|h
   ·simp only[Prod.mk.injEq]at h;rw[h.1];simp
   ·exact List.mem_cons_of_mem _ (yI ps xs _ x c h)
theorem SX (h:Agree W s s') (d:Nat) {l:List (Operand×List CV)} (hx: ∀x c,(x,c)∈l→vJ W s x):Vw E s d l=Vw E s' d l:=by
 unfold Vw
 split
 ·rfl
 ·rename_i x c
  have sx:=hx x [c] (by simp)
  unfold TY
  rw[←dX (E:=E) h sx]
  cases hat:at_ E s x with
  |ref p ag n=>
   have hr:W p.root.loc:=dS (E:=E) sx (by rw[hat];simp[T.rG,T.loc])
   match ag,n with
   |true,_=>rfl
   |false,0=>rfl
   |false,1=>simp only[iI h hr,gZ h hr]
   |false,_+2=>rfl
  |rowr p ag n=>
   have hr:W p.root.loc:=dS (E:=E) sx (by rw[hat];simp[T.rG,T.loc])
   match ag,n with
   |true,_=>rfl
   |false,0=>rfl
   |false,1=>simp only[rF h hr,gZ h hr]
   |false,_+2=>rfl
  |ext p q c=>
   have hr:W p.root.loc:=dS (E:=E) sx (by rw[hat];simp[T.rG,T.loc])
   simp only[iI h hr,gZ h hr]
  |val ag cs=>
   match ag,cs with
   |true,_=>rfl
   |false,[]=>rfl
   |false,[_]=>rfl
   |false,_::_::_=>rfl
  |_=>rfl
 ·rfl
theorem Vy (h:Agree W s s') {x:Operand} (hx:vJ W s x) (d:Nat) (q r:CV):acT E s x d q r=acT E s' x d q r:=by
 unfold acT;rw[dX (E:=E) h hx]
theorem IE (h:Agree W s s') (d:Nat) (xs:List Operand) (ts:List T) (i:Nat) (hx: ∀x,x∈xs→vJ W s x) (ht: ∀t,t∈ts→ ∀L,L∈t.loc→W L):(Ko E s d xs ts i).run=(Ko E s' d xs ts i).run:=by
 unfold Ko
 cases(E.sig i).scalar with
 |true=>simp only[cond_true];rw[yJ h _ _ _ hx ht]
 |false=>
  simp only[cond_false]
  cases noT ts with
  |false=>rfl
  |true=>
  simp only[Bool.not_true,cond_false]
  refine bind_congr (Ew _ _ _ _ _ _ _ h hx) fun r hr=> ?_
  have hb:=DW (W:=W) (E.sig i).params xs [] s [] [] r.1 r.2.1 r.2.2 hx (fun n hn=>by cases hn) hr
  cases fH ((E.sig i).ins.map (·.1)) r.1 with
  |none=>rfl
  |some a=>
   simp only[Dyn.run]
   congr 1
   funext q
   have hm:=Gq (W:=W) (E.sig i).params xs [] s [] [] r.1 r.2.1 r.2.2 hx yK hr
   simp only[kL (h.dI r.2.1) _ _ _ hb]
   split
   ·rfl
   ·rename_i us hus
    rw[SX ((h.dI r.2.1).dI us) d fun x c hxc=>((hx x (yI _ _ _ x c hxc)).dI r.2.1 s hm).dI us _ ?_]
    rw[←kL (h.dI r.2.1) _ _ _ hb]at hus
    exact nS _ _ _ us hus
theorem CG (h:Agree W s s') {p:Pl} (hr:W p.root.loc) (d:Nat) (t u:TypeId) (e:CV) (lo:Nat) (hi:Option Nat):vU E s d t u e p lo hi=vU E s' d t u e p lo hi:=by
 unfold vU
 rw[eY h hr]
 simp only[gZ h hr]
theorem Qi (h:Agree W s s') {x:Operand} (hx:vJ W s x) (t:TypeId) (i:Int):Pj E s t x i=Pj E s' t x i:=by
 unfold Pj
 rw[←dX (E:=E) h hx]
 cases hat:at_ E s x with
 |ref p ag n=>
  have hr:W p.root.loc:=dS (E:=E) hx (by rw[hat];simp[T.rG,T.loc])
  cases ag
  ·simp only[];rw[eY h hr]
  ·rfl
 |val ag cs=>
  match ag,cs with
  |true,_=>rfl
  |false,[]=>rfl
  |false,_::_::_=>rfl
  |false,[c]=>
   cases x with
   |tmp n=>
    have e:=h.tm n (hx _ (by simp[pq]))
    simp only[e]
   |_=>rfl
 |rowr p ag n=>
  have hr:W p.root.loc:=dS (E:=E) hx (by rw[hat];simp[T.rG,T.loc])
  cases ag
  ·simp only[];rw[rF h hr]
  ·rfl
 |rsub p z lo hi=>
  have hr:W p.root.loc:=dS (E:=E) hx (by rw[hat];simp[T.rG,T.loc])
  simp only[];rw[eY h hr]
 |_=>rfl
theorem PE (h:Agree W s s') {p:Pl} (hr:W p.root.loc) (c:CV) (i j:Nat) (ds:List CV):Md s p c i j ds=Md s' p c i j ds:=by
 unfold Md
 cases hp:p.root with
 |tmp n=>
  rw[hp]at hr
  simp only[h.tm n hr]
 |box n=>rfl
theorem Fq (h:Agree W s s') {x:Operand} (hx:vJ W s x):Xo E s x=Xo E s' x:=by
 unfold Xo
 rw[←dX (E:=E) h hx]
 cases hat:at_ E s x with
 |ref p ag n=>
  have hr:W p.root.loc:=dS (E:=E) hx (by rw[hat];simp[T.rG,T.loc])
  have e1:=iI h hr 1
  cases ag with
  |true=>rfl
  |false=>match n with
   |1=>simp only[];rw[e1]
   |0=>rfl
   |n+2=>rfl
 |_=>rfl
theorem Xt {x:Operand} (hx:vJ W s x) {p:Pl} {c:CV} (h:Xo E s x=some (p,c)):W p.root.loc:=by
 unfold Xo at h
 split at h
 ·rename_i q hat
  split at h
  ·cases h;exact dS (E:=E) hx (by rw[hat];simp[T.rG,T.loc])
  ·cases h
 ·cases h
theorem zq (h:Agree W s s') {x:Operand} (hx:vJ W s x) (k:Sh):Ce E s x k=Ce E s' x k:=by
 unfold Ce;rw[←dX (E:=E) h hx]
theorem RY (h:Agree W s s') {m x:Operand} (hm:vJ W s m) (hx:vJ W s x) (d:Nat) (t:TypeId) (ok:Bool):XC E s d t m x ok=XC E s' d t m x ok:=by
 unfold XC
 rw[←Fq (E:=E) h hm]
 simp only[←zq (E:=E) h hx]
theorem Sm (h:Agree W s s') {m x v:Operand} (hm:vJ W s m) (hx:vJ W s x) (hv:vJ W s v) (t:TypeId):Vu E s t m x v=Vu E s' t m x v:=by
 unfold Vu
 rw[←Fq (E:=E) h hm]
 simp only[←zq (E:=E) h hx,←zq (E:=E) h hv]
 cases hat:Xo E s m with
 |none=>rfl
 |some pc=>
  obtain⟨p,⟨sh,tg,l⟩⟩:=pc
  have hr:=Xt (E:=E) hm hat
  cases sh with
  |mp k e=>
   cases tg with
   |own=>
    have e1: ∀(y:El k) (z:El e),(fun l:List (El k×El e)=>Dyn.of (iY s p [⟨.mp k e,.own,some (ED (keq k) y z l)⟩] false))=fun l=>Dyn.of (iY s' p [⟨.mp k e,.own,some (ED (keq k) y z l)⟩] false):=fun y z=>funext fun l=>by rw[gZ h hr]
    show(bif aby E t k e then _ else _)=(bif aby E t k e then _ else _)
    cases aby E t k e with
    |false=>rfl
    |true=>
     simp only[cond_true]
     cases Ce E s x k with
     |none=>rfl
     |some y=>cases Ce E s v e with
      |none=>rfl
      |some z=>exact congrArg (Dyn.idx l) (e1 y z)
   |_=>rfl
  |_=>rfl
theorem RJ (h:Agree W s s') {x:Operand} (hx:vJ W s x) (d:Nat) (op:BinOp):X0 E s d op x=X0 E s' d op x:=by
 unfold X0;rw[←Fq (E:=E) h hx]
theorem O5 (h:Agree W s s') {x:Operand} (hx:vJ W s x) (d:Nat):Pq E s d x=Pq E s' d x:=by
 unfold Pq;rw[←yt h hx]
theorem PL (h:Agree W s s') {x:Operand} (hx:vJ W s x) (t:TypeId):LG E s t x=LG E s' t x:=by
 unfold LG
 rw[←dX (E:=E) h hx]
 cases hat:at_ E s x with
 |rsub p z lo hi=>
  have hr:W p.root.loc:=dS (E:=E) hx (by rw[hat];simp[T.rG,T.loc])
  simp only[]
  rw[eY h hr]
  simp only[gZ h hr]
 |_=>rfl
theorem Qu (h:Agree W s s') {x:Operand} (hx:vJ W s x) (t:TypeId) (lo hi:Option Int):sliceT E s t x lo hi=sliceT E s' t x lo hi:=by
 unfold sliceT
 rw[←dX (E:=E) h hx]
 cases hat:at_ E s x with
 |ref p ag n=>
  have hr:W p.root.loc:=dS (E:=E) hx (by rw[hat];simp[T.rG,T.loc])
  match ag,n with
  |true,_=>rfl
  |false,0=>rfl
  |false,1=>simp only[eY h hr]
  |false,_+2=>rfl
 |val ag cs=>
  match ag,cs with
  |true,_=>rfl
  |false,[]=>rfl
  |false,⟨sh,tg,y⟩::_::_=>cases sh<;>cases tg<;>rfl
  |false,[⟨sh,tg,y⟩]=>cases sh<;>cases tg<;>rfl
 |_=>rfl
theorem Gg (h:Agree W s s') (x:Option Operand) (hx: ∀y,x=some y→vJ W s y):IW E s x=IW E s' x:=by
 cases x with
 |none=>rfl
 |some y=>simp only[IW];rw[lM h (hx y rfl)]
theorem Ub (h:Agree W s s') {x:Operand} (hx:vJ W s x) (exp:List Sh):Ku E s x exp=Ku E s' x exp:=by
 unfold Ku
 rw[←dX (E:=E) h hx]
 cases x with
 |tmp n=>
  have e:=h.tm n (hx _ (by simp[pq]))
  cases at_ E s (.tmp n)with
  |val ag cs=>simp only[e]
  |_=>rfl
 |_=>rfl
theorem aa8 {n d:Nat} (h:Ry (s.tm n) (s'.tm n)) (exp:List Sh):
 (match Ku E s (.tmp n) exp with
  |some t=>Dyn.ret [.tm d t]
  |none=>match at_ E s (.tmp n),Operand.tmp n with
   | .tup ts,.tmp n=> .ret [.keep n .dead,.tm d (.tup ts)]
   |_,_=> .fail:Dyn (List Upd))=
 (match Ku E s' (.tmp n) exp with
  |some t=>Dyn.ret [.tm d t]
  |none=>match at_ E s' (.tmp n),Operand.tmp n with
   | .tup ts,.tmp n=> .ret [.keep n .dead,.tm d (.tup ts)]
   |_,_=> .fail:Dyn (List Upd)):=by
 rcases h with e|⟨h1,h2⟩
 ·have e1:at_ E s (.tmp n)=at_ E s' (.tmp n):=congrArg Prod.fst e
  have e2:(s.tm n).2=(s'.tm n).2:=congrArg Prod.snd e
  unfold Ku
  rw[e1]
  cases at_ E s' (.tmp n)with
  |val ag cs=>simp only[e2]
  |_=>rfl
 ·obtain⟨ag,cs,cs',e1,e2,k1,k2,k3⟩:=pI.1 h2
  have e1':at_ E s (.tmp n)= .val ag cs:=e1
  have e2':at_ E s' (.tmp n)= .val ag cs':=e2
  unfold Ku
  rw[e1',e2']
  simp only[k1,k2,cond_false,h1,k3]
  have:cs.map (fun _=>(s'.tm n).2)=cs'.map (fun _=>(s'.tm n).2):=by
   rw[List.map_const',List.map_const',k3]
  rw[this]
theorem Jp (h:Agree W s s') {d:Nat} (hd:W (.bx d)) (cs:List CV):Tc s d cs=Tc s' d cs:=by
 unfold Tc;rw[h.bx d hd]
theorem QV {s2 s2':St} (h:Agree W s s') (h2:Agree W s2 s2') {y:Operand} (hy:vJ W s y) (hy2:vJ W s2 y) (exp:List Sh):P5 E s s2 y exp=P5 E s' s2' y exp:=by
 unfold P5
 rw[←dX (E:=E) h hy,yt h2 hy2]
theorem D9 (h:Agree W s s') {p:Pl} {n k:Nat} (hp:p.root= .box n) (hi:W (.bi n)) (hc: ∀i,i<max k p.vers.length→W (.bc n (p.cell+i))):aU s p k=aU s' p k∧Ak s p k=Ak s' p k:=by
 have h1:=h.bi n hi
 have h2: ∀i,i<max k p.vers.length→bxC s n (p.cell+i)=bxC s' n (p.cell+i):=fun i hk=>h.bc n _ (hc i hk)
 unfold bxI at h1
 unfold bxC at h2
 unfold aU Ak
 simp only[hp,aA]
 cases hb:s.bx n with
 |none=>
  cases hb':s'.bx n with
  |none=>exact⟨rfl,rfl⟩
  |some b'=>rw[hb,hb']at h1;cases h1
 |some b=>
  cases hb':s'.bx n with
  |none=>rw[hb,hb']at h1;cases h1
  |some b'=>
   rw[hb,hb']at h1
   simp only[Option.map_some,Option.some.injEq,Prod.mk.injEq]at h1
   simp only[hb,hb',Option.bind_some]at h2
   have ht:(b.cells.drop p.cell).take k=(b'.cells.drop p.cell).take k:=by
    apply List.ext_getElem?
    intro i
    simp only[List.getElem?_take,List.getElem?_drop]
    split
    ·exact h2 i (by omega)
    ·rfl
   have hv:Cm p.vers ((b.cells.drop p.cell).map (·.2))=Cm p.vers ((b'.cells.drop p.cell).map (·.2)):=by
    rw[Bool.eq_iff_iff,AP,AP]
    have: ∀(i x:Nat),p.vers[i]? =some x→((b.cells.drop p.cell).map (·.2))[i]? =((b'.cells.drop p.cell).map (·.2))[i]? :=by
     intro i x hx
     have hi:i<p.vers.length:=by
      rcases Nat.lt_or_ge i p.vers.length with h|h
      ·exact h
      ·simp[List.getElem?_eq_none h]at hx
     simp only[List.getElem?_map,List.getElem?_drop]
     rw[h2 i (by omega)]
    constructor
    ·intro hh i x hx;rw[←this i x hx];exact hh i x hx
    ·intro hh i x hx;rw[this i x hx];exact hh i x hx
   simp only[h1.1,h1.2,hv,ht,and_self]
theorem LV (h:Agree W s s') {p:Pl} {n:Nat} (hp:p.root= .box n) (hsub:p.sub=none) (hi:W (.bi n)):yV s p=yV s' p:=by
 have h1:=h.bi n hi
 unfold bxI at h1
 unfold yV
 simp only[hp,hsub,aA]
 cases hb:s.bx n with
 |none=>
  cases hb':s'.bx n with
  |none=>rfl
  |some b'=>rw[hb,hb']at h1;cases h1
 |some b=>
  cases hb':s'.bx n with
  |none=>rw[hb,hb']at h1;cases h1
  |some b'=>
   rw[hb,hb']at h1
   simp only[Option.map_some,Option.some.injEq,Prod.mk.injEq]at h1
   simp only[h1.1]
theorem ZY {t k:Nat} (hs: ∀L,L∈AU s t k→W L):vJ W s (.tmp t)∨ ∃p n,(s.tm t).1= .addr p∧p.root= .box n∧p.sub=none∧W (.tm t)∧W (.bi n)∧ ∀i,i<max k p.vers.length→W (.bc n (p.cell+i)):=by
 unfold AU at hs
 split at hs
 ·rename_i p hx
  split at hs
  ·rename_i n hp hsub
   exact .inr ⟨p,n,hx,hp,hsub,hs _ (by simp),hs _ (by simp),fun i hi=>hs _ (by
    refine List.mem_cons_of_mem _ (List.mem_cons_of_mem _ (List.mem_map.2 ⟨i,List.mem_range.2 hi,rfl⟩)))⟩
  ·exact .inl fun L hL=>hs L (by simp only[pq,hx]at hL;exact hL)
 ·exact .inl fun L hL=>hs L (by simp only[pq]at hL;exact hL)
theorem Dq (h:Agree W s s') (hs: ∀L,L∈ug E s o→W L) (hmv: ¬∃ n,o.op= .move (.tmp n)) (see: ∀x,x∈o.op.operands→vJ W s x):(plan E o s).run=(plan E o s').run:=by
 have box: ∀d,o.dst=some d→(∃t,o.op= .alloc t)∨(∃t x,o.op= .box t x)→W (.bx d):=fun d hd ho=>hs _ (by
  unfold ug
  refine List.mem_append_right _ ?_
  rcases ho with⟨t,ho⟩|⟨t,x,ho⟩<;>simp[ho,hd])
 unfold plan
 cases ho:o.op with
 |store t a x=>
  rw[ho]at see
  have sa:=see a (by simp[Op.operands]);have sx:=see x (by simp[Op.operands])
  simp only[]
  cases o.dst with
  |some d=>rfl
  |none=>
   simp only[]
   refine bind_congr (by rw[qR h sx]) fun r hr=> ?_
   obtain⟨ag,cs,us⟩:=r
   simp only[]
   have hm:=xu (W:=W) hr
   have sa2:=sa.dI us s hm
   have h2:=h.dI us
   rw[←dX (E:=E) h2 sa2]
   cases hat:at_ E (s.dI us) a with
   |addr p=>
    have hr:W p.root.loc:=dS (E:=E) sa2 (by rw[hat];simp[T.rG,T.loc])
    simp only[]
    simp only[MR h2 hr,KL h2 hr,rF h2 hr,PE h2 hr]
   |addr2 p k j=>
    have hr:W p.root.loc:=dS (E:=E) sa2 (by rw[hat];simp[T.rG,T.loc])
    simp only[]
    rw[Qz h2 hr]
   |_=>rfl
 |move x=>
  rw[ho]at see
  have sx:=see x (by simp[Op.operands])
  simp only[]
  cases o.dst with
  |none=>rfl
  |some d=>
   simp only[]
   rw[Ub h sx,←dX (E:=E) h sx]
 |assign x=>
  rw[ho]at see
  have sx:=see x (by simp[Op.operands])
  simp only[]
  cases o.dst with
  |none=>rfl
  |some d=>
   simp only[]
   rw[qR h sx,←dX (E:=E) h sx]
 |pick c x y=>
  rw[ho]at see
  have sc:=see c (by simp[Op.operands]);have sx:=see x (by simp[Op.operands]);have sy:=see y (by simp[Op.operands])
  simp only[]
  cases o.dst with
  |none=>rfl
  |some d=>
   simp only[]
   rw[Ky h sc,←dX (E:=E) h sx,←dX (E:=E) h sy]
 |alloc t=>
  simp only[]
  cases hd:o.dst with
  |none=>rfl
  |some d=>
   simp only[]
   cases E.ty t with
   |none=>rfl
   |some i=>simp only[];rw[Jp h (box d hd (.inl ⟨t,ho⟩))]
 |box t x=>
  rw[ho]at see
  have sx:=see x (by simp[Op.operands])
  simp only[]
  cases hd:o.dst with
  |none=>rfl
  |some d=>
   simp only[]
   refine bind_congr (by rw[qR h sx]) fun r hr=> ?_
   obtain⟨ag,cs,us⟩:=r
   simp only[]
   rw[Jp (h.dI us) (box d hd (.inr ⟨t,x,ho⟩))]
 |build t ps=>
  rw[ho]at see
  simp only[]
  cases o.dst with
  |none=>rfl
  |some d=>
   simp only[]
   cases E.ty t with
   |none=>rfl
   |some i=>
    simp only[]
    exact bind_congr (zS _ _ _ _ _ _ _ h fun p hp=>see p.2 (by
     simp only[Op.operands,List.mem_toArray,List.mem_map];exact⟨p,hp,rfl⟩)) fun r hr=>rfl
 |buildSlice t n ps=>
  rw[ho]at see
  simp only[]
  cases o.dst with
  |none=>rfl
  |some d=>
   simp only[]
   split
   ·exact bind_congr (CJ _ _ _ _ _ _ _ _ h fun p hp=>see p.2 (by
     simp only[Op.operands,List.mem_toArray,List.mem_map];exact⟨p,hp,rfl⟩)) fun r hr=>rfl
   ·rfl
 |load t x=>
  rw[ho]at see
  have sx:=see x (by simp[Op.operands])
  simp only[]
  cases o.dst with
  |none=>rfl
  |some d=>
   simp only[]
   rw[←dX (E:=E) h sx]
   cases hat:at_ E s x with
   |addr p=>
    have hr:W p.root.loc:=dS (E:=E) sx (by rw[hat];simp[T.rG,T.loc])
    cases E.ty t with
    |none=>rfl
    |some i=>simp only[];rw[rF h hr,eY h hr];simp only[PW h hr,gZ h hr]
   |paddr cs off=>cases E.ty t<;>rfl
   |_=>rfl
 |nilCheck x=>
  rw[ho]at see
  have sx:=see x (by simp[Op.operands])
  simp only[]
  cases o.dst with
  |none=>rfl
  |some d=>
   simp only[]
   rw[←dX (E:=E) h sx]
   cases hat:at_ E s x with
   |addr p=>
    have hr:W p.root.loc:=dS (E:=E) sx (by rw[hat];simp[T.rG,T.loc])
    simp only[];rw[FP h hr]
   |_=>rfl
 |makeFunc f xs ys=>
  rw[ho]at see
  simp only[]
  cases o.dst with
  |none=>rfl
  |some d=>
   have hc:=MG (E:=E) h ys.toList fun y hy=>see y (by simp only[Op.operands,Array.mem_append];exact .inr (by simpa using hy))
   cases f with
   |func k=>simp only[hc]
   |_=>rfl
 |binOp op t x y u=>
  rw[ho]at see
  have sx:=see x (by simp[Op.operands]);have sy:=see y (by simp[Op.operands])
  simp only[]
  cases o.dst with
  |none=>rfl
  |some d=>simp only[];rw[←dX (E:=E) h sx,←dX (E:=E) h sy,RJ h sx]
 |unOp op t x=>
  rw[ho]at see
  have sx:=see x (by simp[Op.operands])
  simp only[]
  cases o.dst with
  |none=>rfl
  |some d=>simp only[];rw[←dX (E:=E) h sx]
 |convert u t x=>
  rw[ho]at see
  have sx:=see x (by simp[Op.operands])
  simp only[]
  cases o.dst with
  |none=>rfl
  |some d=>simp only[];rw[←dX (E:=E) h sx,O5 h sx]
 |makeMap t r=>cases r<;>rfl
 |lookup t m x ok=>
  rw[ho]at see
  have sm:=see m (by simp[Op.operands]);have sx:=see x (by simp[Op.operands])
  simp only[]
  cases o.dst with
  |none=>rfl
  |some d=>simp only[];rw[RY h sm sx]
 |mapUpdate t m x v=>
  rw[ho]at see
  have sm:=see m (by simp[Op.operands]);have sx:=see x (by simp[Op.operands]);have sv:=see v (by simp[Op.operands])
  simp only[]
  cases o.dst with
  |none=>simp only[];rw[Sm h sm sx sv]
  |some d=>rfl
 |makeSlice t x y=>
  rw[ho]at see
  have sx:=see x (by simp[Op.operands]);have sy:=see y (by simp[Op.operands])
  simp only[]
  cases o.dst with
  |none=>rfl
  |some d=>simp only[];rw[lM h sx,lM h sy]
 |slice t x lo hi mx=>
  rw[ho]at see
  have sx:=see x (by simp[Op.operands])
  have slo:=Gg (E:=E) h lo fun y hy=>see y (by simp[Op.operands,hy])
  have shi:=Gg (E:=E) h hi fun y hy=>see y (by simp[Op.operands,hy])
  simp only[]
  cases o.dst with
  |none=>rfl
  |some d=>
   simp only[]
   rw[slo,shi]
   simp only[Qu h sx]
 |fieldAddr t x f=>
  rw[ho]at see
  have sx:=see x (by simp[Op.operands])
  simp only[]
  cases o.dst with
  |none=>rfl
  |some d=>
   simp only[]
   rw[←dX (E:=E) h sx]
   cases E.ty t with
   |none=>rfl
   |some i=>
    simp only[]
    cases hat:at_ E s x with
    |addr p=>
     have hr:W p.root.loc:=dS (E:=E) sx (by rw[hat];simp[T.rG,T.loc])
     cases i.fields[f]? with
     |none=>rfl
     |some on=>simp only[];rw[FP h hr]
    |_=>cases i.fields[f]? <;>rfl
 |indexAddr t x i=>
  rw[ho]at see
  have sx:=see x (by simp[Op.operands]);have si:=see i (by simp[Op.operands])
  simp only[]
  cases o.dst with
  |none=>rfl
  |some d=>
   simp only[]
   rw[lM h si]
   simp only[Qi h sx]
 |index t x i=>
  rw[ho]at see
  have sx:=see x (by simp[Op.operands]);have si:=see i (by simp[Op.operands])
  simp only[]
  cases o.dst with
  |none=>rfl
  |some d=>simp only[];rw[←dX (E:=E) h sx,lM h si]
 |field t x f=>
  rw[ho]at see
  have sx:=see x (by simp[Op.operands])
  simp only[]
  cases o.dst with
  |none=>rfl
  |some d=>simp only[];rw[←dX (E:=E) h sx]
 |extract x i=>
  rw[ho]at see
  have sx:=see x (by simp[Op.operands])
  simp only[]
  cases o.dst with
  |none=>rfl
  |some d=>simp only[];rw[←dX (E:=E) h sx]
 |call c=>
  rw[ho]at see
  have sa: ∀x,x∈c.args.toList→vJ W s x:=fun x hx=>see x (by
   simp only[Op.operands,Call.operands,Array.mem_append];exact .inr (by simpa using hx))
  simp only[]
  cases o.dst with
  |none=>
   simp only[]
   split
   ·rename_i x t e1 e2 e3
    rw[PL h (sa x (by rw[e2];simp))]
   ·rfl
  |some d=>
   simp only[]
   cases hc:c.callee with
   |value f=>
    have sf:=see f (by simp[Op.operands,Call.operands,hc])
    simp only[]
    rw[←dX (E:=E) h sf]
    cases hf:at_ E s f with
    |fn k=>
     simp only[]
     cases Nat.beq (E.sig (E.spec d)).fn k with
     |false=>rfl
     |true=>exact IE h d _ _ _ sa (fun t ht=>by cases ht)
    |clo k ts=>
     simp only[]
     cases Nat.beq (E.sig (E.spec d)).fn k with
     |false=>rfl
     |true=>exact IE h d _ _ _ sa (fun t ht L hL=>xQ (E:=E) sf L (by rw[hf];exact List.mem_flatMap.2 ⟨t,ht,hL⟩))
    |_=>rfl
   |invoke r m=>rfl
   |builtin b=>
    match hx:c.args.toList with
    | []=>cases b<;>rfl
    | [x]=>
      rw[hx]at sa
      have sx:=sa x (by simp)
      cases b<;>first|rfl|(simp only[];rw[yt h sx])
    | [x,y]=>
      rw[hx]at sa
      have sx:=sa x (by simp);have sy:=sa y (by simp)
      by_cases hb:b= .append
      ·subst hb
       simp only[]
       refine bind_congr (by rw[qR h sx]) fun r hr=> ?_
       obtain⟨ag,cs,us⟩:=r
       simp only[]
       rw[QV h (h.dI us) sy (sy.dI us s (xu hr)),qR (h.dI us) (sy.dI us s (xu hr)) []]
       simp only[Vy (h.dI us) (sx.dI us s (xu hr))]
      ·by_cases hb2:b= .copy
       ·subst hb2
        simp only[]
        refine bind_congr (by rw[yt h sy]) fun ds hds=> ?_
        rw[←dX (E:=E) h sx]
        split
        ·rename_i e t u p z lo hi hat hax
         exact congrArg Dyn.run (CG h (dS (E:=E) sx (by rw[hax];simp[T.rG,T.loc])) _ _ _ _ _ _)
        ·rename_i e t u p hat hax
         exact congrArg Dyn.run (CG h (dS (E:=E) sx (by rw[hax];simp[T.rG,T.loc])) _ _ _ _ _ _)
        ·rfl
       cases b<;>first|exact absurd rfl hb|exact absurd rfl hb2|(simp only[];rw[lM h sx,lM h sy])
    |x::y::z::r=>cases b<;>rfl
 |_=>rfl
theorem WE (h:Agree W s s') (hs: ∀L,L∈ug E s o→W L) (hmv: ¬∃ n,o.op= .move (.tmp n)) {t:Nat} (hl:Yw o.op=some t) (hw: ∀L,L∈Tf s t→W L):(plan E o s).run=(plan E o s').run:=by
 unfold Yw at hl
 split at hl
 ·rename_i c ho
  split at hl
  ·rename_i hc hx
   cases hl
   have plain:vJ W s (.tmp t)→(plan E o s).run=(plan E o s').run:=fun hsee=>Dq h hs hmv fun x hx'=>by
    rw[ho]at hx'
    have:x= .tmp t:=by
     simp only[Op.operands,Call.operands,hc]at hx'
     have:x∈c.args.toList:=by simpa using hx'
     rw[hx]at this;simpa using this
    rw[this];exact hsee
   unfold Tf at hw
   split at hw
   ·rename_i p ag k hat
    split at hw
    ·rename_i n hp hsub
     have h4:W (.tm t):=hw _ (by simp)
     obtain⟨q1,_⟩:=D9 (k:=k) h hp (hw _ (by simp)) fun i hi=>hw _ (List.mem_cons_of_mem _ (List.mem_cons_of_mem _ (List.mem_map.2 ⟨i,List.mem_range.2 hi,rfl⟩)))
     have hat':(s'.tm t).1= .ref p ag k:=by rw[←h.tm t h4];exact hat
     have hpk:GK E s (.tmp t)=GK E s' (.tmp t):=by
      unfold GK content
      simp only[at_,hat,hat']
      cases ag<;>simp only[hsub,q1]
     unfold plan
     simp only[ho,hc,hx]
     cases o.dst with
     |none=>rfl
     |some d=>simp only[hpk]
    ·exact plain fun L hL=>hw L (by simp only[pq,hat]at hL;exact hL)
   ·exact plain fun L hL=>hw L (by simp only[pq]at hL;exact hL)
  ·cases hl
 ·cases hl
theorem Lr (h:Agree W s s') (hs: ∀L,L∈ug E s o→W L):(plan E o s).run=(plan E o s').run:=by
 by_cases hmv: ∃n,o.op= .move (.tmp n)
 ·obtain⟨n,ho⟩:=hmv
  have hid:Ry (s.tm n) (s'.tm n):=h.id n (hs _ (by simp[ug,OO,Yw,Ud,ho]))
  unfold plan
  simp only[ho]
  cases o.dst with
  |none=>rfl
  |some d=>simp only[];exact congrArg Dyn.run (aa8 hid _)
 have hs2: ∀L,L∈OO E s o.op→W L:=fun L hL=>hs L (List.mem_append_left _ hL)
 have adr: ∀(t k:Nat),o.op.operands= #[.tmp t]→(∀L,L∈AU s t k→W L)→(∀p n,(s.tm t).1= .addr p→p.root= .box n→p.sub=none→W (.tm t)→W (.bi n)→(∀i,i<max k p.vers.length→W (.bc n (p.cell+i)))→(plan E o s).run=(plan E o s').run)→(plan E o s).run=(plan E o s').run:=by
  intro t k hop hl hx
  rcases ZY hl with hsee|⟨p,n,h1,h2,h3,h4,h5,h6⟩
  ·exact Dq h hs hmv fun x hx=>by
    rw[hop]at hx
    have:x= .tmp t:=by simpa using hx
    rw[this];exact hsee
  ·exact hx p n h1 h2 h3 h4 h5 h6
 have gen:OO E s o.op=o.op.operands.toList.flatMap (pq s)→(plan E o s).run=(plan E o s').run:=fun e=>Dq h hs hmv fun x hx L hL=>hs2 L (by
  rw[e];exact List.mem_flatMap.2 ⟨x,by simpa using hx,hL⟩)
 unfold OO at hs2 gen
 cases hlen:Yw o.op with
 |some t=>
  rw[hlen]at hs2
  exact WE h hs hmv hlen hs2
 |none=>
 rw[hlen]at hs2 gen
 simp only[]at hs2 gen
 unfold Ud at hs2 gen
 split at hs2
 ·rename_i n ho;exact absurd ⟨n,ho⟩ hmv
 ·rename_i ty t ho
  refine adr t _ (by rw[ho];rfl) hs2 fun p n h1 h2 h3 h4 h5 h6=> ?_
  have ht:=h.tm t h4
  have h1':(s'.tm t).1= .addr p:=by rw[←ht];exact h1
  unfold plan
  simp only[ho]
  cases o.dst with
  |none=>rfl
  |some d=>
   simp only[at_,h1,h1']
   cases hE:E.ty ty with
   |none=>rfl
   |some i=>
    simp only[]
    have hk:(fF E ty).length=i.cells.length:=by simp only[fF,hE]
    rw[hk]at h6
    obtain⟨q1,q2⟩:=D9 h h2 h5 h6
    have d1:Kz s p=none:=by unfold Kz;simp only[h3]
    have d2:Kz s' p=none:=by unfold Kz;simp only[h3]
    have c1:content s p i.cells.length=content s' p i.cells.length:=by unfold content;simp only[h3,q1]
    simp only[d1,d2,c1,q2]
 ·rename_i t ho
  refine adr t _ (by rw[ho];rfl) hs2 fun p n h1 h2 h3 h4 h5 h6=> ?_
  have ht:=h.tm t h4
  have h1':(s'.tm t).1= .addr p:=by rw[←ht];exact h1
  unfold plan
  simp only[ho]
  cases o.dst with
  |none=>rfl
  |some d=>simp only[at_,h1,h1',LV h h2 h3 h5]
 ·rename_i ty t f ho
  refine adr t _ (by rw[ho];rfl) hs2 fun p n h1 h2 h3 h4 h5 h6=> ?_
  have ht:=h.tm t h4
  have h1':(s'.tm t).1= .addr p:=by rw[←ht];exact h1
  unfold plan
  simp only[ho]
  cases o.dst with
  |none=>rfl
  |some d=>
   simp only[at_,h1,h1']
   cases E.ty ty with
   |none=>rfl
   |some i=>
    simp only[]
    cases i.fields[f]? with
    |none=>rfl
    |some off=>simp only[LV h h2 h3 h5]
 ·rename_i k1 k2 k3 k4
  refine gen ?_
  split
  ·rename_i n ho;exact absurd ho (k1 n)
  ·rename_i ty t ho;exact absurd ho (k2 ty t)
  ·rename_i t ho;exact absurd ho (k3 t)
  ·rename_i ty t f ho;exact absurd ho (k4 ty t f)
  ·rfl
end
end Go.AM
end
section
set_option linter.unusedVariables false
namespace Go.AM
open Go
section
variable {P:Program} {E:Env} {C:Ctx} {s s':St} {a a':Act} {w w':World} {g g':Gh} {o:Oper} {Q:Exit→Act→World→Prop}
def Loc.cov (M L:Loc):Prop:=M=L∨ ∃n,M= .bx n∧(L= .bi n∨ ∃i,L= .bc n i)
def Cov (ls:List Loc) (L:Loc):Prop:= ∃M,M∈ls∧M.cov L
theorem Cov.of {ls:List Loc} {L:Loc} (h:L∈ls):Cov ls L:=⟨L,h,.inl rfl⟩
def aae (E:Env) (all:List Oper) (o:Oper) (s:St) (us:List Upd):Prop:=
 Jc E o=true∧match o.guard with
  |none=>(plan E o s).run=some us
  |some (i,want)=> ∃d x,Vk all i=some d∧zI s (some d)=some x∧((x=some want∧(plan E o s).run=some us)∨(x≠some want∧us=sW o))
def Reads (E:Env) (all:List Oper) (o:Oper) (s:St) (us:List Upd) (r:List Loc):Prop:=
 (∀n t,.keep n t∈us→ .id n∈r)∧match o.guard with
  |none=> ∀L,L∈ug E s o→L∈r
  |some (i,want)=> ∃d,Vk all i=some d∧ .tm d∈r∧(zI s (some d)=some (some want)→ ∀L,L∈ug E s o→L∈r)
theorem Nv {W:Loc→Prop} (h:Agree W s s') {d:Nat} (hd:W (.tm d)):zI s (some d)=zI s' (some d):=by
 simp only[zI,h.tm d hd]
theorem Vm {all:List Oper} {us:List Upd} {r:List Loc} (h:Agree (Cov r) s s') (ha:aae E all o s us) (hr:Reads E all o s us r):aae E all o s' us:=by
 obtain⟨h1,h2⟩:=ha
 refine⟨h1,?_⟩
 replace hr:=hr.2
 cases hg:o.guard with
 |none=>
  rw[hg]at h2 hr
  simp only at h2 hr ⊢
  rw[←Lr h fun L hL=>Cov.of (hr L hL)];exact h2
 |some iw=>
  obtain⟨i,want⟩:=iw
  rw[hg]at h2 hr
  simp only at h2 hr ⊢
  obtain⟨d,x,k1,k2,k3⟩:=h2
  obtain⟨d',q1,q2,q3⟩:=hr
  rw[k1]at q1;cases q1
  refine⟨d,x,k1,by rw[←Nv h (Cov.of q2)];exact k2,?_⟩
  rcases k3 with⟨rfl,k3⟩|k3
  ·exact .inl ⟨rfl,by rw[←Lr h fun L hL=>Cov.of (q3 k2 L hL)];exact k3⟩
  ·exact .inr k3
theorem aa2 (h:Rel E C s a w g) (hd:Jc E o=true): ∃g',Rel E C (s.dI (sW o)) (a.put o.dst undef) w g':=by
 unfold sW
 cases ho:o.dst with
 |none=>exact⟨g,h⟩
 |some d=>
  simp only[Jc,ho]at hd
  simp only[Bool.and_eq_true,Bool.not_eq_true']at hd
  exact⟨g,h.NV (mk:= .hand) ⟨hd.1,(Nat.blt_eq ..).mp hd.2⟩ rfl (show undef=undef from rfl)⟩
theorem Xi (h:Rel E C s a w g) {ops:Array Oper} {i d:Nat} {x:Option Bool} (h1:Vk ops.toList i=some d) (h2:zI s (some d)=some x):yielded ops a.tmps i=x:=by
 have hd:(ops[i]?).bind (·.dst)=some d:=by
  unfold Vk at h1
  simp only[Array.getElem?_toList]at h1
  cases ho:ops[i]? with
  |none=>rw[ho]at h1;cases h1
  |some o=>rw[ho]at h1;exact h1
 have ht:=h.tm d
 unfold zI at h2
 simp only at h2
 unfold yielded
 rw[hd]
 simp only[Option.bind_some]
 have heval:a.eval (.tmp d)=(a.tmps[d]?).getD undef:=by simp[Act.eval,Array.getD_eq_getD_getElem?]
 rw[heval]at ht
 split at h2
 ·rename_i b hb
  cases h2
  rw[hb]at ht
  obtain⟨u,_,hr,hu⟩:=BH.one ht
  have:(a.tmps[d]?).getD undef= .bool b:=by rw[←hu rfl];exact hr
  cases hq:a.tmps[d]? with
  |none=>rw[hq]at this;cases this
  |some v=>rw[hq]at this;simp only[Option.getD_some]at this;rw[this]
 ·rename_i hb
  cases h2
  rw[hb]at ht
  have:(a.tmps[d]?).getD undef=undef:=ht
  cases hq:a.tmps[d]? with
  |none=>rfl
  |some v=>
   rw[hq]at this;simp only[Option.getD_some]at this;subst this
   rfl
 ·cases h2
theorem Yb (hE:O9 P E) (h:Rel E C s a w g) {ops:Array Oper} {i:Nat} (hi:ops[i]? =some o) {us:List Upd} (ha:aae E ops.toList o s us) {K:Act→World→Prop} (hK: ∀a' w' g',Rel E C (s.dI us) a' w' g'→K a' w'):wpOp P ops Q i K a w:=by
 obtain⟨h1,h2⟩:=ha
 unfold wpOp
 rw[hi]
 simp only[]
 have run:(plan E o s).run=some us→o.wp P a w K Q:=fun hp=>Oper.wp_mono (fun a' w' ⟨g',hr⟩=>hK a' w' g' hr) (abg hE h h1 hp)
 have skip:us=sW o→K (a.put o.dst undef) w:=fun hu=>by
  obtain⟨g',hr⟩:=aa2 h h1
  subst hu
  exact hK _ _ g' hr
 cases hg:o.guard with
 |none=>
  rw[hg]at h2
  have:Region.wanted o (yielded ops a.tmps)=true:=by simp[Region.wanted,hg]
  rw[if_pos this]
  exact .inl (run h2)
 |some iw=>
  obtain⟨j,want⟩:=iw
  rw[hg]at h2
  obtain⟨d,x,k1,k2,k3⟩:=h2
  have hy:=Xi h k1 k2
  have hw:Region.wanted o (yielded ops a.tmps)=(x==some want):=by simp only[Region.wanted,hg,hy]
  rcases k3 with⟨rfl,k3⟩|⟨hne,k3⟩
  ·rw[if_pos (by rw[hw];simp)]
   exact .inl (run k3)
  ·rw[if_neg (by rw[hw];simpa using hne)]
   exact skip k3
theorem OT {ρ:Type} {d:Option Tmp} {k:St→Option ρ} {r:ρ} (h:splitAt s d k=some r):k s=some r:=by
 unfold splitAt at h
 have same: ∀(n:Nat) (t:T) (v:Nat),s.tm n=(t,v)→({s with tm:=put s.tm n (t,v)}:St)=s:=by
  intro n t v e
  have:put s.tm n (t,v)=s.tm:=by
   funext m
   by_cases hm:m=n
   ·subst hm;rw[aX,e]
   ·rw[bC _ _ _ hm]
  rw[this]
 cases d with
 |none=>exact h
 |some d=>
  simp only at h
  split at h
  ·rename_i b v hb
   cases b with
   |true=>simp only[cond_true]at h;rw[same d _ v hb]at h;exact h
   |false=>simp only[cond_false]at h;rw[same d _ v hb]at h;exact h
  ·exact h
def JB (E:Env) (draw:Bool) (all:List Oper) (ah:List (List Nat)):List Oper→Nat→List AO→St→List AO→(Nat→St)→(Nat→List Upd)→Prop
 | [],j,fs,s,fs',S,U=>fs'=fs∧S j=s
 |o::os,j,fs,s,fs',S,U=>S j=s∧aae E all o s (U j)∧ ∃f,Reads E all o s (U j) f.r∧f.w=y8 s (U j)∧(draw=true→ordered (ah.getD j []) f fs 0=true)∧JB E draw all ah os (j+1) (fs++[f]) (s.dI (U j)) fs' S U
theorem JB.congr {E:Env} {draw:Bool} {all:List Oper} {ah:List (List Nat)}: ∀{os:List Oper} {j:Nat} {fs:List AO} {s:St} {fs':List AO} {S S':Nat→St} {U U':Nat→List Upd},(∀i,j≤i→S' i=S i)→(∀i,j≤i→U' i=U i)→
 JB E draw all ah os j fs s fs' S U→JB E draw all ah os j fs s fs' S' U'
 | [],j,fs,s,fs',S,S',U,U',hS,hU,⟨h1,h2⟩=>⟨h1,by rw[hS j (Nat.le_refl _)];exact h2⟩
 |o::os,j,fs,s,fs',S,S',U,U',hS,hU,⟨h1,h2,f,h3,h4,h5,h6⟩=>by
  refine⟨by rw[hS j (Nat.le_refl _)];exact h1,by rw[hU j (Nat.le_refl _)];exact h2,f,by rw[hU j (Nat.le_refl _)];exact h3,by rw[hU j (Nat.le_refl _)];exact h4,h5,?_⟩
  rw[hU j (Nat.le_refl _)]
  exact h6.congr (fun i hi=>hS i (by omega)) (fun i hi=>hU i (by omega))
theorem Vh {L:List Loc} {us:List Upd} (n:Nat) (t:T) (h: .keep n t∈us): .id n∈L++Ug us:=
 List.mem_append_right _ (List.mem_flatMap.2 ⟨_,h,by simp⟩)
theorem Qp {r:List Loc} (n:Nat) (t:T) (h: .keep n t∈sW o): .id n∈r:=by
 unfold sW at h
 split at h<;>simp at h
theorem Gn {draw:Bool} {all:List Oper} {ah:List (List Nat)} {ρ:Type} {k:St→Option ρ} {r:ρ}: ∀(os:List Oper) (j:Nat) (fs:List AO) (s:St),FT E draw all ah os j fs s k=some r→
 ∃fs' S U,JB E draw all ah os j fs s fs' S U∧k (S (j+os.length))=some r
 | [],j,fs,s,h=>⟨fs,fun _=>s,fun _=>[],⟨rfl,rfl⟩,h⟩
 |o::os,j,fs,s,h=>by
  simp only[FT]at h
  have step: ∀(us:List Upd) (f:AO),aae E all o s us→Reads E all o s us f.r→f.w=y8 s us→
   (bif Jc E o&&(!draw||ordered (ah.getD j []) f fs 0)then
    bif guards all j then splitAt (s.dI us) o.dst (fun s'=>FT E draw all ah os (j+1) (fs++[f]) s' k)
    else FT E draw all ah os (j+1) (fs++[f]) (s.dI us) k else none)=some r→
   ∃fs' S U,JB E draw all ah (o::os) j fs s fs' S U∧k (S (j+(o::os).length))=some r:=by
   intro us f hA hR hW hh
   simp only[cond_eq_ite]at hh
   split at hh
   ·rename_i hc
    simp only[Bool.and_eq_true]at hc
    have hrun:FT E draw all ah os (j+1) (fs++[f]) (s.dI us) k=some r:=by
     split at hh
     ·exact OT hh
     ·exact hh
    obtain⟨fs',S,U,hs,hk⟩:=Gn os (j+1) (fs++[f]) (s.dI us) hrun
    refine⟨fs',fun i=>if i=j then s else S i,fun i=>if i=j then us else U i,⟨by simp,by simp only[if_true];exact hA,f,by simp only[if_true];exact hR,by simp only[if_true];exact hW,fun hdr=> ?_,?_⟩,?_⟩
    ·have:=hc.2;rw[hdr]at this;simpa using this
    ·simp only[if_true]
     exact hs.congr (fun i hi=>by rw[if_neg (by omega)]) (fun i hi=>by rw[if_neg (by omega)])
    ·simp only[List.length_cons]
     rw[if_neg (by omega),show j+(os.length+1)=j+1+os.length by omega];exact hk
   ·cases hh
  have hdst: ∀{X:Option ρ},(bif Jc E o&&X.isSome then X else none)=some r→Jc E o=true:=by
   intro X hX
   simp only[cond_eq_ite,Bool.and_eq_true]at hX
   split at hX
   ·rename_i hc;exact hc.1
   ·cases hX
  have hdst2: ∀{b:Bool} {X:Option ρ},(bif Jc E o&&b then X else none)=some r→Jc E o=true:=by
   intro b X hX
   simp only[cond_eq_ite,Bool.and_eq_true]at hX
   split at hX
   ·rename_i hc;exact hc.1
   ·cases hX
  split at h
  ·rename_i hg
   rw[Dyn.Un]at h
   obtain⟨us,hp,hh⟩:=Option.bind_eq_some_iff.1 h
   exact step us _ ⟨hdst2 hh,by rw[hg];exact hp⟩ ⟨Vh,by rw[hg];exact fun L hL=>List.mem_append_left _ hL⟩ rfl hh
  ·rename_i i want hg
   split at h
   ·rename_i b d hga hd
    rw[hd]at hga
    simp only[cond_eq_ite]at h
    split at h
    ·rename_i hb
     have hb:b=want:=by simpa using hb
     subst hb
     rw[Dyn.Un]at h
     obtain⟨us,hp,hh⟩:=Option.bind_eq_some_iff.1 h
     simp only[←cond_eq_ite]at hh
     exact step us _ ⟨hdst2 hh,by rw[hg];exact⟨d,_,hd,hga,.inl ⟨rfl,hp⟩⟩⟩ ⟨fun n t hm=>List.mem_cons_of_mem _ (Vh n t hm),by rw[hg];exact⟨d,hd,by simp,fun _ L hL=>List.mem_cons_of_mem _ (List.mem_append_left _ hL)⟩⟩ rfl hh
    ·rename_i hb
     have hb:b≠want:=by simpa using hb
     simp only[←cond_eq_ite]at h
     exact step (sW o) _ ⟨hdst2 h,by rw[hg];exact⟨d,_,hd,hga,.inr ⟨by simpa using hb,rfl⟩⟩⟩ ⟨Qp,by rw[hg];exact⟨d,hd,by simp,fun e=>by rw[hga]at e;simp only[Option.some.injEq]at e;exact absurd e hb⟩⟩ rfl h
   ·rename_i d hga hd
    rw[hd]at hga
    exact step (sW o) _ ⟨hdst2 h,by rw[hg];exact⟨d,_,hd,hga,.inr ⟨by simp,rfl⟩⟩⟩ ⟨Qp,by rw[hg];exact⟨d,hd,by simp,fun e=>by rw[hga]at e;simp at e⟩⟩ rfl h
   ·cases h
end
end Go.AM
end
section
set_option linter.unusedVariables false
namespace Go.AM
open Go
section
variable {P:Program} {E:Env} {C:Ctx} {s s':St} {a a':Act} {w w':World} {g g':Gh} {o:Oper} {Q:Exit→Act→World→Prop}
theorem Loc.OW (L:Loc):L.same L=true:=by cases L<;>simp[Loc.same]
theorem TP {M N L:Loc} (hm:M.cov L) (hn:N.cov L):M.same N=true:=by
 rcases hm with rfl|⟨n,rfl,rfl|⟨i,rfl⟩⟩
 ·rcases hn with rfl|⟨m,rfl,rfl|⟨j,rfl⟩⟩
  ·exact Loc.OW _
  ·simp[Loc.same]
  ·simp[Loc.same]
 ·rcases hn with rfl|⟨m,rfl,h|⟨j,h⟩⟩
  ·simp[Loc.same]
  ·cases h;simp[Loc.same]
  ·cases h
 ·rcases hn with rfl|⟨m,rfl,h|⟨j,h⟩⟩
  ·simp[Loc.same]
  ·cases h
  ·cases h;simp[Loc.same]
theorem G6 {L:Loc} {aZ bs:List Loc} (ha:Cov aZ L) (hb:Cov bs L):meets aZ bs=true:=by
 obtain⟨M,h1,h2⟩:=ha
 obtain⟨N,h3,h4⟩:=hb
 unfold meets
 rw[List.any_eq_true]
 exact⟨M,h1,List.any_eq_true.2 ⟨N,h3,TP h2 h4⟩⟩
theorem Cov.left {L:Loc} {aZ bs:List Loc} (h:Cov aZ L):Cov (aZ++bs) L:=let⟨M,h1,h2⟩:=h; ⟨M,List.mem_append_left _ h1,h2⟩
theorem Cov.right {L:Loc} {aZ bs:List Loc} (h:Cov bs L):Cov (aZ++bs) L:=let⟨M,h1,h2⟩:=h; ⟨M,List.mem_append_right _ h1,h2⟩
def Loc.atom:Loc→Prop| .bx _=>False|_=>True
def pJ (L:Loc) (s s':St):Prop:=Agree (· =L) s s'
theorem pJ.refl (L:Loc) (s:St):pJ L s s:=⟨fun _ _=>rfl,fun _ _=>rfl,fun _ _=> .inl rfl,fun _ _=>rfl,fun _ _ _=>rfl⟩
theorem pJ.symm {L:Loc} (h:pJ L s s'):pJ L s' s:=⟨fun n e=>(h.tm n e).symm,fun n e=>(h.bx n e).symm,fun n e=>(h.id n e).symm,fun n e=>(h.bi n e).symm,fun n i e=>(h.bc n i e).symm⟩
theorem pJ.trans {L:Loc} {s1 s2 s3:St} (h:pJ L s1 s2) (k:pJ L s2 s3):pJ L s1 s3:=⟨fun n e=>(h.tm n e).trans (k.tm n e),fun n e=>(h.bx n e).trans (k.bx n e),fun n e=>(h.id n e).trans (k.id n e),fun n e=>(h.bi n e).trans (k.bi n e),fun n i e=>(h.bc n i e).trans (k.bc n i e)⟩
def wo (s s':St) (us:List Upd):Prop:= ∀n t,.keep n t∈us→Ry (s.tm n) (s'.tm n)
theorem wo.refl (s:St) (us:List Upd):wo s s us:=fun _ _ _=> .inl rfl
theorem JG {L:Loc} (ha:L.atom): ∀{us:List Upd} {s s':St},wo s s' us→ ¬Cov (y8 s us) L→pJ L (s'.dI us) s'
 | [],s,s',_,_=>pJ.refl L s'
 |u::us,s,s',hk,h=>by
  have h: ¬Cov (u.rG s) L∧ ¬Cov (y8 (u.on s) us) L:=⟨fun hc=>h hc.left,fun hc=>h hc.right⟩
  have hk2:wo (u.on s) (u.on s') us:=by
   intro n t hm
   have h0:=hk n t (by simp[hm])
   cases u with
   |bx k b=>exact h0
   |cl k l=>exact h0
   |tm k t'=>
    simp only[Upd.on]
    by_cases hn:n=k
    ·subst hn;rw[aX,aX,h0.ver];exact .inl rfl
    ·rw[bC _ _ _ hn,bC _ _ _ hn];exact h0
   |keep k t'=>
    simp only[Upd.on]
    by_cases hn:n=k
    ·subst hn;rw[aX,aX,h0.ver];exact .inl rfl
    ·rw[bC _ _ _ hn,bC _ _ _ hn];exact h0
  refine(JG ha (us:=us) (s:=u.on s) (s':=u.on s') hk2 h.2).trans ?_
  have h1:=h.1
  cases u with
  |tm k t=>
   refine⟨fun n e=> ?_,fun n _=>rfl,fun n e=> ?_,fun n _=>rfl,fun n i _=>rfl⟩
   ·have:n≠k:=by intro e2;subst e2;exact h1 (Cov.of (by simp[Upd.rG,e]))
    simp only[Upd.on];rw[bC _ _ _ this]
   ·have:n≠k:=by intro e2;subst e2;exact h1 (Cov.of (by simp[Upd.rG,e]))
    simp only[Upd.on];rw[bC _ _ _ this];exact .inl rfl
  |keep k t=>
   refine⟨fun n e=> ?_,fun n _=>rfl,fun n e=> ?_,fun n _=>rfl,fun n i _=>rfl⟩
   ·have:n≠k:=by
     intro e2;subst e2;refine h1 (Cov.of ?_)
     unfold Upd.rG
     simp only[cond_eq_ite]
     split<;>simp[e]
    simp only[Upd.on];rw[bC _ _ _ this]
   ·by_cases hn:n=k
    ·subst hn
     have hs:Ii (s.tm n).1 t=true:=by
      cases hb:Ii (s.tm n).1 t with
      |true=>rfl
      |false=>exact absurd (Cov.of (by simp only[Upd.rG];rw[hb];simp[e])) h1
     have h0:=hk n t (by simp)
     simp only[Upd.on];rw[aX]
     have e1:Ry (t,(s'.tm n).2) (s.tm n):= .inr ⟨h0.ver.symm,by
      obtain⟨ag,cs,cs',k1,k2,k3,k4,k5⟩:=pI.1 hs
      exact pI.2 ⟨ag,cs',cs,k2,k1,k4,k3,k5.symm⟩⟩
     exact e1.trans h0
    ·simp only[Upd.on];rw[bC _ _ _ hn];exact .inl rfl
  |bx k b=>
   have hn: ∀n,n=k→ ¬(Loc.bx k).cov L:=fun n _ hc=>h1 ⟨.bx k,by simp[Upd.rG],hc⟩
   refine⟨fun n _=>rfl,fun n e=> ?_,fun n _=> .inl rfl,fun n e=> ?_,fun n i e=> ?_⟩
   ·rw[←e]at ha;exact ha.elim
   ·have:n≠k:=by intro e2;subst e2;exact hn n rfl (.inr ⟨n,rfl,.inl e.symm⟩)
    unfold bxI
    simp only[Upd.on];rw[bC _ _ _ this]
   ·have:n≠k:=by intro e2;subst e2;exact hn n rfl (.inr ⟨n,rfl,.inr ⟨i,e.symm⟩⟩)
    unfold bxC
    simp only[Upd.on];rw[bC _ _ _ this]
  |cl k l=>
   refine⟨fun n _=>rfl,fun n e=> ?_,fun n _=> .inl rfl,fun n e=>YG _ _ _ _,fun n i e=> ?_⟩
   ·rw[←e]at ha;exact ha.elim
   ·rw[Xn]
    split
    ·rename_i hn
     subst hn
     have: ∀c,c∈l→c.1≠i:=fun c hc hi=>h1 (Cov.of (by rw[←e];exact List.mem_map.2 ⟨c,hc,by rw[hi]⟩))
     cases bxC s' n i with
     |none=>rfl
     |some x=>simp[MW l i x this]
    ·rfl
theorem St.acS {s s':St} (h: ∀L,L.atom→pJ L s s'):s=s':=by
 have h1:s.tm=s'.tm:=funext fun n=>(h (.tm n) trivial).tm n rfl
 have h2:s.bx=s'.bx:=funext fun n=>aal ((h (.bi n) trivial).bi n rfl) fun i=>(h (.bc n i) trivial).bc n i rfl
 cases s;cases s';simp only at h1 h2;subst h1 h2;rfl
def kT (U:Nat→List Upd) (s:St) (L:Nat→Bool):Nat→St
 |0=>s
 |n+1=>bif L n then(kT U s L n).dI (U n)else kT U s L n
def FI (S:Nat→St) (U:Nat→List Upd) (s:St) (L:Nat→Bool) (n:Nat):Prop:= ∀j,j<n→L j=true→wo (S j) (kT U s L j) (U j)
theorem FI.one {S:Nat→St} {U:Nat→List Upd} {L:Nat→Bool} {l:Loc} (ha:l.atom) {n m:Nat} (h:FI S U s L n) (hm:m<n) (hl: ¬Cov (y8 (S m) (U m)) l):pJ l (kT U s L (m+1)) (kT U s L m):=by
 simp only[kT]
 cases hb:L m with
 |true=>exact JG ha (h m hm hb) hl
 |false=>exact pJ.refl _ _
theorem wX {s:St} {S:Nat→St} {U:Nat→List Upd} {L L':Nat→Bool} {l:Loc} (ha:l.atom): ∀{n:Nat},FI S U s L n→FI S U s L' n→(∀j,j<n→Cov (y8 (S j) (U j)) l→L j=L' j)→pJ l (kT U s L n) (kT U s L' n)
 |0,_,_,_=>pJ.refl _ _
 |n+1,h1,h2,h=>by
  have ih:=wX ha (s:=s) (S:=S) (U:=U) (L:=L) (L':=L') (l:=l) (n:=n) (fun j hj=>h1 j (by omega)) (fun j hj=>h2 j (by omega)) fun j hj=>h j (by omega)
  by_cases hm:Cov (y8 (S n) (U n)) l
  ·have e:=h n (by omega) hm
   simp only[kT,e]
   cases L' n with
   |true=>exact Agree.dI ih _
   |false=>exact ih
  ·exact((h1.one ha (by omega) hm).trans ih).trans (h2.one ha (by omega) hm).symm
theorem Rj {S:Nat→St} {U:Nat→List Upd} {L L':Nat→Bool} {i:Nat}: ∀{n:Nat},i<n→L i=false→(∀j,L' j=(L j||Nat.beq j i))→FI S U s L n→FI S U s L' n→wo (S i) (kT U s L n) (U i)→
 (∀j,i<j→L j=true→ ∀l,Cov (y8 (S j) (U j)) l→ ¬Cov (y8 (S i) (U i)) l)→kT U s L' n=(kT U s L n).dI (U i):=by
 intro n hi hL hL' hk hk' hki hc
 refine St.acS fun l ha=> ?_
 by_cases hm:Cov (y8 (S i) (U i)) l
 ·
  have key: ∀m,m≤n→i<m→pJ l (kT U s L' m) ((kT U s L i).dI (U i))∧pJ l (kT U s L m) (kT U s L i):=by
   intro m
   induction m with
   |zero=>intro _ h;omega
   |succ m ih=>
    intro hmn h
    by_cases hmi:m=i
    ·subst hmi
     have e1:L' m=true:=by rw[hL' m];simp
     have e2:kT U s L' (m+1)=(kT U s L' m).dI (U m):=by simp only[kT,e1,cond_true]
     have e3:kT U s L (m+1)=kT U s L m:=by simp only[kT,hL,cond_false]
     rw[e2,e3]
     refine⟨Agree.dI (wX ha (S:=S) (fun j hj=>hk' j (by omega)) (fun j hj=>hk j (by omega)) fun j hj _=> ?_) _,pJ.refl _ _⟩
     rw[hL' j]
     have:Nat.beq j m=false:=by rw[←Bool.not_eq_true];intro hb;have:=Nat.eq_of_beq_eq_true hb;omega
     simp[this]
    ·have him:i<m:=by omega
     obtain⟨k1,k2⟩:=ih (by omega) him
     have e1:L' m=L m:=by
      rw[hL' m]
      have:Nat.beq m i=false:=by rw[←Bool.not_eq_true];intro hb;exact hmi (Nat.eq_of_beq_eq_true hb)
      simp[this]
     cases hlm:L m with
     |false=>
      have e2:kT U s L' (m+1)=kT U s L' m:=by simp only[kT,e1,hlm,cond_false]
      have e3:kT U s L (m+1)=kT U s L m:=by simp only[kT,hlm,cond_false]
      rw[e2,e3];exact⟨k1,k2⟩
     |true=>
      have hn: ¬Cov (y8 (S m) (U m)) l:=fun hq=>hc m him hlm l hq hm
      exact⟨(hk'.one ha (by omega) hn).trans k1,(hk.one ha (by omega) hn).trans k2⟩
  obtain⟨k1,k2⟩:=key n (Nat.le_refl _) hi
  exact k1.trans (Agree.dI k2.symm _)
 ·refine(wX ha (S:=S) (L':=L) hk' hk fun j hj hq=> ?_).trans (JG ha hki hm).symm
  rw[hL' j]
  have:Nat.beq j i=false:=by rw[←Bool.not_eq_true];intro hb;have:=Nat.eq_of_beq_eq_true hb;subst this;exact hm hq
  simp[this]
structure Nu (E:Env) (all:List Oper) (ah:List (List Nat)) (N:Nat) (S:Nat→St) (U:Nat→List Upd) (F:Nat→AO):Prop where
 next: ∀i,i<N→S (i+1)=(S i).dI (U i)
 acts: ∀i o,i<N→all[i]? =some o→aae E all o (S i) (U i)
 reads: ∀i o,i<N→all[i]? =some o→Reads E all o (S i) (U i) (F i).r
 writes: ∀i,i<N→(F i).w=y8 (S i) (U i)
 ahead: ∀i k,i<N→k<i→AO.clash (F k) (F i)=true→k∈ah.getD i []
theorem IQ {ahead:List Nat} {f:AO}: ∀{fs:List AO} {i:Nat},ordered ahead f fs i=true→ ∀k g,fs[k]? =some g→AO.clash g f=true→i+k∈ahead
 | [],_,_,k,g,hk,_=>by simp at hk
 |x::xs,i,h,k,g,hk,hc=>by
  simp only[ordered,Bool.and_eq_true]at h
  cases k with
  |zero=>
   simp only[List.getElem?_cons_zero,Option.some.injEq]at hk
   subst hk
   have h1:=h.1
   rw[hc]at h1
   simp only[Bool.not_true,Bool.false_or,List.any_eq_true]at h1
   obtain⟨y,hy,he⟩:=h1
   have:=Nat.eq_of_beq_eq_true he
   subst this
   exact hy
  |succ k=>
   have:=IQ h.2 k g (by simpa using hk) hc
   rw[show i+(k+1)=i+1+k by omega];exact this
theorem U8 {draw:Bool} {all:List Oper} {ah:List (List Nat)}: ∀(os:List Oper) (j:Nat) (fs:List AO) (s:St) (fs':List AO) (S:Nat→St) (U:Nat→List Upd) (F0:Nat→AO),JB E draw all ah os j fs s fs' S U→
 (∀i,os[i]? =all[j+i]?)→fs.length=j→(∀k,k<j→fs[k]? =some (F0 k))→
 ∃F:Nat→AO,(∀k,k<j→F k=F0 k)∧S j=s∧(∀i,j≤i→i<j+os.length→S (i+1)=(S i).dI (U i)∧(∀o,all[i]? =some o→aae E all o (S i) (U i)∧Reads E all o (S i) (U i) (F i).r)∧(F i).w=y8 (S i) (U i)∧(draw=true→ ∀k,k<i→AO.clash (F k) (F i)=true→k∈ah.getD i []))
 | [],j,fs,s,fs',S,U,F0,h,_,_,_=>⟨F0,fun _ _=>rfl,h.2,fun i h1 h2=>by simp at h2;omega⟩
 |o::os,j,fs,s,fs',S,U,F0,⟨h1,h2,f,h3,h4,h5,h6⟩,hall,hlen,hfs=>by
  obtain⟨F,q1,q2,q3⟩:=U8 os (j+1) (fs++[f]) (s.dI (U j)) fs' S U (fun k=>if k=j then f else F0 k) h6
   (fun i=>by have:=hall (i+1);rw[show j+1+i=j+(i+1) by omega,←this];simp) (by simp[hlen]) (fun k hk=>by
    by_cases hkj:k=j
    ·subst hkj;simp[hlen]
    ·rw[if_neg hkj,List.getElem?_append_left (by omega)];exact hfs k (by omega))
  have hFj:F j=f:=by rw[q1 j (by omega)];simp
  have hFk: ∀k,k<j→F k=F0 k:=fun k hk=>by rw[q1 k (by omega)];simp[show k≠j by omega]
  refine⟨F,hFk,h1,fun i hi1 hi2=> ?_⟩
  by_cases hij:i=j
  ·subst hij
   have ho:all[i]? =some o:=by have:=hall 0;simpa using this.symm
   refine⟨by rw[q2,h1],fun o' ho'=> ?_,by rw[hFj,h1];exact h4,fun hd k hk hc=> ?_⟩
   ·rw[ho]at ho';cases ho'
    rw[h1,hFj];exact⟨h2,h3⟩
   ·rw[hFj,hFk k hk]at hc
    have:=IQ (h5 hd) k _ (hfs k hk) hc
    simpa using this
  ·exact q3 i (by omega) (by simp at hi2 ⊢;omega)
def Closed (ops:List Oper) (L:Nat→Bool):Prop:= ∀i o,ops[i]? =some o→L i=true→ ∀e,e∈o.after.toList→Region.binds .any e=true→L e.on=true
theorem Oh {ops:List Oper} {L:Nat→Bool} (hc:Closed ops L) {acc:List (List Nat)} (hacc: ∀i k,k∈acc.getD i []→L i=true→L k=true): ∀{es:List Edge} {k:Nat},k∈wS acc es→(∀e,e∈es→Region.binds .any e=true→L e.on=true)→L k=true
 | [],_,h,_=>by simp[wS]at h
 |e::es,k,h,he=>by
  simp only[wS,cond_eq_ite]at h
  split at h
  ·rename_i hb
   have hon:=he e (by simp) hb
   simp only[List.mem_cons,List.mem_append]at h
   rcases h with rfl|h|h
   ·exact hon
   ·exact hacc _ _ h hon
   ·exact Oh hc hacc h fun e' h'=>he e' (by simp[h'])
  ·exact Oh hc hacc h fun e' h'=>he e' (by simp[h'])
theorem Qm {ops:List Oper} {L:Nat→Bool} (hc:Closed ops L): ∀(os:List Oper) (acc:List (List Nat)),(∀i,os[i]? =ops[acc.length+i]?)→(∀i k,k∈acc.getD i []→L i=true→L k=true)→
 ∀i k,k∈(LH os acc).getD i []→L i=true→L k=true
 | [],acc,_,h=>h
 |o::os,acc,hall,h=>by
  refine Qm hc os _ (fun i=> ?_) fun i k hk hi=> ?_
  ·have:=hall (i+1)
   simp only[List.length_append,List.length_cons,List.length_nil]
   rw[show acc.length+(0+1)+i=acc.length+(i+1) by omega,←this];simp
  ·have ho:ops[acc.length]? =some o:=by have:=hall 0;simpa using this.symm
   rcases Nat.lt_trichotomy i acc.length with hlt|heq|hgt
   ·have:(acc++[wS acc o.after.toList]).getD i []=acc.getD i []:=by
     simp[List.getD_eq_getElem?_getD,List.getElem?_append_left hlt]
    rw[this]at hk
    exact h i k hk hi
   ·subst heq
    have:(acc++[wS acc o.after.toList]).getD acc.length []=wS acc o.after.toList:=by
     simp[List.getD_eq_getElem?_getD]
    rw[this]at hk
    exact Oh hc h hk fun e he hb=>hc _ o ho hi e he hb
   ·have:(acc++[wS acc o.after.toList]).getD i []= []:=by
     rw[List.getD_eq_getElem?_getD,List.getElem?_eq_none (by simp;omega)];rfl
    rw[this]at hk;cases hk
theorem Ia: ∀{os:List Oper} {j:Nat},EM os j=true→ ∀i o,os[i]? =some o→ ∀e,e∈o.after.toList→Region.binds .any e=true→e.on<j+i
 | [],_,_,i,o,h,_,_,_=>by simp at h
 |x::xs,j,h,i,o,hi,e,he,hb=>by
  simp only[EM,Bool.and_eq_true,List.all_eq_true]at h
  cases i with
  |zero=>
   simp only[List.getElem?_cons_zero,Option.some.injEq]at hi
   subst hi
   have:=h.1 e he
   rw[hb]at this
   have:=(Nat.blt_eq ..).mp (by simpa using this)
   omega
  |succ i=>
   have:=Ia h.2 i o (by simpa using hi) e he hb
   omega
def jF (listed:Array Bool):Nat→Bool:=fun i=>listed.getD i false
theorem JA {ops:Array Oper} {listed:Array Bool} (hsz:listed.size=ops.size) {i:Nat}:i∈Region.ready .any ops listed ↔ ∃o,ops[i]? =some o∧jF listed i=false∧ ∀e,e∈o.after.toList→Region.binds .any e=true→jF listed e.on=true:=by
 unfold Region.ready jF
 simp only[List.mem_filter,List.mem_range,Bool.and_eq_true,Bool.not_eq_true']
 constructor
 ·rintro⟨h1,h2,h3⟩
  have hi:ops[i]? =some ops[i]:=Array.getElem?_eq_getElem h1
  rw[hi]at h3
  simp only[Option.map_some,Option.getD_some,Array.all_eq_true_iff_forall_mem,Bool.or_eq_true,Bool.not_eq_true']at h3
  refine⟨_,hi,?_,fun e he hb=> ?_⟩
  ·have hl:i<listed.size:=by omega
   simp only[Array.getD_eq_getD_getElem?,Array.getElem?_eq_getElem hl,Option.getD_some]at h2 ⊢
   exact h2
  ·rcases h3 e (by simpa using he)with h|h
   ·rw[hb]at h;cases h
   ·exact h
 ·rintro⟨o,ho,h2,h3⟩
  have hlt:i<ops.size:=by
   rw[Array.getElem?_eq_some_iff]at ho;exact ho.1
  refine⟨hlt,?_,?_⟩
  ·have hl:i<listed.size:=by omega
   simp only[Array.getD_eq_getD_getElem?,Array.getElem?_eq_getElem hl,Option.getD_some]at h2 ⊢
   exact h2
  ·rw[ho]
   simp only[Option.map_some,Option.getD_some,Array.all_eq_true_iff_forall_mem,Bool.or_eq_true,Bool.not_eq_true']
   intro e he
   cases hb:Region.binds .any e with
   |false=>exact .inl rfl
   |true=>exact .inr (h3 e (by simpa using he) hb)
theorem VU {ops:Array Oper} {listed:Array Bool} (hsz:listed.size=ops.size) (he:EM ops.toList 0=true) (hr:Region.ready .any ops listed= []): ∀i,i<ops.size→jF listed i=true:=by
 intro i
 induction i using Nat.strongRecOn with
 |_ i ih=>
  intro hi
  rw[←Bool.not_eq_false]
  intro hf
  have ho:ops[i]? =some ops[i]:=Array.getElem?_eq_getElem hi
  have:i∈Region.ready .any ops listed:=(JA hsz).2 ⟨_,ho,hf,fun e hee hb=>by
   have:=Ia he i ops[i] (by simp) e hee hb
   exact ih e.on (by omega) (by omega)⟩
  rw[hr]at this;cases this
theorem xR {E:Env} {all:List Oper} {ah:List (List Nat)} {N:Nat} {S:Nat→St} {U:Nat→List Upd} {F:Nat→AO} (h:Nu E all ah N S U F) {L:Nat→Bool}: ∀n,n≤N→(∀j,j<n→L j=true)→kT U (S 0) L n=S n
 |0,_,_=>rfl
 |n+1,hn,hl=>by
  simp only[kT,hl n (by omega),cond_true]
  rw[xR h n (by omega) fun j hj=>hl j (by omega),h.next n (by omega)]
theorem SB {E:Env} {all:List Oper} {ah:List (List Nat)} {N:Nat} {S:Nat→St} {U:Nat→List Upd} {F:Nat→AO} (h:Nu E all ah N S U F) (hall: ∀i,i<N→ ∃o,all[i]? =some o) {L:Nat→Bool} (hL: ∀i k,k∈ah.getD i []→L i=true→L k=true):
 ∀n,n≤N→FI S U (S 0) L n
 |0,_=>fun j hj=>absurd hj (by omega)
 |n+1,hn=>by
  have ih:=SB h hall hL n (by omega)
  intro j hj hlj
  by_cases hjn:j<n
  ·exact ih j hjn hlj
  obtain rfl:j=n:=by omega
  intro m t hm
  obtain⟨o,ho⟩:=hall j (by omega)
  have hr:=(h.reads j o (by omega) ho).1 m t hm
  have hall2:FI S U (S 0) (fun _=>true) j:=fun k hk _=>by
   rw[xR h k (by omega) fun _ _=>rfl];exact wo.refl _ _
  have hsame:=wX (l:= .id m) trivial (S:=S) hall2 ih fun k hk hw=>by
   rw[←h.writes k (by omega)]at hw
   have hc:AO.clash (F k) (F j)=true:=by
    unfold AO.clash
    rw[G6 hw (Cov.of (List.mem_append_left _ hr))];rfl
   exact(hL j k (h.ahead j k (by omega) hk hc) hlj).symm
  rw[xR h j (by omega) fun _ _=>rfl]at hsame
  exact hsame.id m rfl
theorem any_ok (hE:O9 P E) {ops:Array Oper} {S:Nat→St} {U:Nat→List Upd} {F:Nat→AO} (hs:Nu E ops.toList (LH ops.toList []) ops.size S U F) (he:EM ops.toList 0=true)
 (hQ: ∀a w g,Rel E C (S ops.size) a w g→Q .normal a w): ∀(fuel:Nat) (listed:Array Bool) (a:Act) (w:World) (g:Gh),listed.size=ops.size→listed.toList.countP (! ·)≤fuel→Closed ops.toList (jF listed)→
  Rel E C (kT U (S 0) (jF listed) ops.size) a w g→wpAny P .any ops Q fuel listed a w:=by
 have fin: ∀(listed:Array Bool) (a:Act) (w:World) (g:Gh),listed.size=ops.size→Rel E C (kT U (S 0) (jF listed) ops.size) a w g→Region.ready .any ops listed= []→Q .normal a w:=by
  intro listed a w g hsz hr hn
  have:=VU hsz he hn
  rw[xR hs _ (Nat.le_refl _) this]at hr
  exact hQ a w g hr
 intro fuel
 induction fuel with
 |zero=>
  intro listed a w g hsz hc hcl hr
  have hn:Region.ready .any ops listed= []:=by
   rw[List.eq_nil_iff_forall_not_mem]
   intro i hi
   obtain⟨o,ho,hf,_⟩:=(JA hsz).1 hi
   have hlt:i<listed.size:=by rw[hsz];rw[Array.getElem?_eq_some_iff]at ho;exact ho.1
   have h0:listed.toList.countP (! ·)=0:=by omega
   rw[List.countP_eq_zero]at h0
   have:=h0 listed[i] (by simp)
   simp only[jF,Array.getD_eq_getD_getElem?,Array.getElem?_eq_getElem hlt,Option.getD_some]at hf
   rw[hf]at this;simp at this
  exact⟨hn,fin listed a w g hsz hr hn⟩
 |succ fuel ih=>
  intro listed a w g hsz hc hcl hr
  refine⟨fin listed a w g hsz hr,fun i hi=> ?_⟩
  obtain⟨o,ho,hf,hpre⟩:=(JA hsz).1 hi
  have hlt:i<ops.size:=by rw[Array.getElem?_eq_some_iff]at ho;exact ho.1
  have hll:i<listed.size:=by omega
  have hol:ops.toList[i]? =some o:=by simpa using ho
  have hah: ∀(L:Nat→Bool),Closed ops.toList L→ ∀i k,k∈(LH ops.toList []).getD i []→L i=true→L k=true:=fun L hL=>Qm hL ops.toList [] (fun i=>by simp) (fun i k hk=>by simp at hk)
  let listed':=listed.setIfInBounds i true
  have hL': ∀j,jF listed' j=(jF listed j||Nat.beq j i):=by
   intro j
   simp only[jF,listed',Array.getD_eq_getD_getElem?,Array.getElem?_setIfInBounds]
   by_cases hj:i=j
   ·subst hj;simp[hll]
   ·have:Nat.beq j i=false:=by rw[←Bool.not_eq_true];intro hb;exact hj (Nat.eq_of_beq_eq_true hb).symm
    simp[hj,this]
  have hcl':Closed ops.toList (jF listed'):=by
   intro k o' hk hl e hee hb
   rw[hL' k]at hl
   rw[hL' e.on]
   simp only[Bool.or_eq_true]at hl ⊢
   rcases hl with hl|hl
   ·exact .inl (hcl k o' hk hl e hee hb)
   ·have:=Nat.eq_of_beq_eq_true hl
    subst this
    rw[hol]at hk;cases hk
    exact .inl (hpre e hee hb)
  have hi':jF listed' i=true:=by rw[hL' i];simp
  have hbef: ∀k,k<i→AO.clash (F k) (F i)=true→jF listed k=true:=by
   intro k hk hcl2
   have h1:=hs.ahead i k hlt hk hcl2
   have h2:=hah _ hcl' i k h1 hi'
   rw[hL' k]at h2
   have:Nat.beq k i=false:=by rw[←Bool.not_eq_true];intro hb;have:=Nat.eq_of_beq_eq_true hb;omega
   simpa [this]using h2
  have haft: ∀j,i<j→j<ops.size→jF listed j=true→AO.clash (F i) (F j)=false:=by
   intro j hj hjs hl
   rw[←Bool.not_eq_true]
   intro hcl2
   have h1:=hs.ahead j i hjs hj hcl2
   have h2:=hah _ hcl j i h1 hl
   rw[hf]at h2;cases h2
  have out: ∀j,ops.size≤j→jF listed j=false:=by
   intro j hj
   simp only[jF,Array.getD_eq_getD_getElem?]
   rw[Array.getElem?_eq_none (by omega)];rfl
  have hall: ∀i,i<ops.size→ ∃o,ops.toList[i]? =some o:=fun i hi=>⟨ops[i],by simp[hi]⟩
  have hfo:=SB hs hall (hah _ hcl) ops.size (Nat.le_refl _)
  have hfo':=SB hs hall (hah _ hcl') ops.size (Nat.le_refl _)
  have hacts:=hs.acts i o hlt hol
  have hreads:=hs.reads i o hlt hol
  have hagree:Agree (Cov (F i).r) (S i) (kT U (S 0) (jF listed) ops.size):=by
   have hSi:S i=kT U (S 0) (fun j=>decide (j<i)) ops.size:=by
    have h1:=xR hs (L:=fun j=>decide (j<i)) i (by omega) (by simp)
    rw[←h1]
    have h2: ∀m,kT U (S 0) (fun j=>decide (j<i)) (i+m)=kT U (S 0) (fun j=>decide (j<i)) i:=by
     intro m
     induction m with
     |zero=>rfl
     |succ m ih=>rw[show i+(m+1)=(i+m)+1 by omega];simp only[kT];rw[show decide (i+m<i)=false by simp,cond_false,ih]
    have:=h2 (ops.size-i)
    rw[show i+(ops.size-i)=ops.size by omega]at this
    exact this.symm
   have one: ∀l,l.atom→Cov (F i).r l→pJ l (S i) (kT U (S 0) (jF listed) ops.size):=by
    intro l ha hl
    rw[hSi]
    refine wX ha (S:=S) (fun j hj hji=> ?_) hfo fun j hj hw=> ?_
    ·have hji:j<i:=by simpa using hji
     have e1:kT U (S 0) (fun j=>decide (j<i)) j=S j:=xR hs j (by omega) fun k hk=>by simp;omega
     rw[e1];exact wo.refl _ _
    rw[←hs.writes j hj]at hw
    rcases Nat.lt_trichotomy j i with h|h|h
    ·have:AO.clash (F j) (F i)=true:=by
      unfold AO.clash
      rw[G6 hw hl.left];rfl
     rw[hbef j h this];simp[h]
    ·subst h;rw[hf];simp
    ·have e1:decide (j<i)=false:=by simp;omega
     rw[e1]
     cases hlj:jF listed j with
     |false=>rfl
     |true=>
      have h1:=haft j h hj hlj
      unfold AO.clash at h1
      rw[G6 hw hl]at h1
      simp at h1
   refine⟨fun n hn=>(one (.tm n) trivial hn).tm n rfl,fun n hn=> ?_,fun n hn=>(one (.id n) trivial hn).id n rfl,fun n hn=>(one (.bi n) trivial hn).bi n rfl,fun n i hn=>(one (.bc n i) trivial hn).bc n i rfl⟩
   have hm: .bx n∈(F i).r:=by
    obtain⟨M,h1,rfl|⟨m,_,h|⟨_,h⟩⟩⟩:=hn
    ·exact h1
    ·cases h
    ·cases h
   exact aal ((one (.bi n) trivial ⟨_,hm,.inr ⟨n,rfl,.inl rfl⟩⟩).bi n rfl) fun i=>(one (.bc n i) trivial ⟨_,hm,.inr ⟨n,rfl,.inr ⟨i,rfl⟩⟩⟩).bc n i rfl
  have hacts':=Vm hagree hacts hreads
  refine Yb hE hr ho hacts' fun a' w' g' hr'=> ?_
  refine ih listed' a' w' g' (by simp[listed',hsz]) ?_ hcl' ?_
  ·have hlt2:i<listed.toList.length:=by simpa using hll
   have hfi:listed.toList[i]=false:=by
    simp only[jF,Array.getD_eq_getD_getElem?,Array.getElem?_eq_getElem hll,Option.getD_some]at hf
    simpa using hf
   have hpos:0<listed.toList.countP (! ·):=List.countP_pos_iff.2 ⟨false,by rw[←hfi];exact List.getElem_mem hlt2,rfl⟩
   have:listed'.toList=listed.toList.set i true:=by simp[listed']
   rw[this,List.countP_set hlt2,hfi]
   simp
   simp at hc hpos
   omega
  ·rw[Rj (S:=S) hlt hf hL' hfo hfo' (fun m t hm=>hagree.id m (Cov.of (hreads.1 m t hm))) fun j hj hlj l hl hli=> ?_]
   ·exact hr'
   ·have hjs:j<ops.size:=by
     rcases Nat.lt_or_ge j ops.size with h|h
     ·exact h
     ·rw[out j h]at hlj;cases hlj
    have:=haft j hj hjs hlj
    rw[←hs.writes j hjs]at hl
    rw[←hs.writes i hlt]at hli
    unfold AO.clash at this
    rw[G6 hli hl.right]at this
    simp at this
end
end Go.AM
end
