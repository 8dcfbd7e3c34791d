import Derived.Test.YtdchbjmbgecejaaGreatDoorMc
import Derived.Scope
import Derived.ChangeArms
import Derived.RowKit3
import Derived.Lib.SliceRun
import Derived.Carry
import Derived.ProofKit
import Derived.OpenShut
import Derived.RowKit
import Derived.ChangeSlices
import Derived.Lone
import Derived.RunT
import Derived.Shelf.SlSortCmp.WholeK
import Derived.Shelf.SlSortCmp.NoneTotal
import Derived.Shelf.Sort.Plain
import Derived.Shelf.Slices.In.SortNone
import Derived.Below
import Derived.Lib.AppendStr
import Derived.Lib.UnsafeStr
set_option linter.unusedVariables false
section
namespace Go.AM
open Go
section
variable {P:Program} {E:Env} {C:Ctx} {s s':St} {a a':Act} {w w':World} {g g':Gh} {o:Oper} {Q:Exit->Act->World->Prop}
theorem seq_ok (hE:PD P E) {ops:Array Oper} {S:Nat->St} {U:Nat->List Upd} (hn: ∀i,i<ops.size->S (i+1)=(S i).dM (U i)) (ha: ∀i o,i<ops.size->ops.toList[i]? =some o->adI E ops.toList o (S i) (U i))
 (hQ: ∀a w g,Rel E C (S ops.size) a w g->Q .normal a w): ∀(m j:Nat) (a:Act) (w:World) (g:Gh),j+m=ops.size->Rel E C (S j) a w g->wpOps P ops Q (List.range' j m) a w
 |0,j,a,w,g,hj,hr=>by
  simp only[List.range'_zero,wpOps];exact hQ a w g (by rw[←hj];simpa using hr)
 |m+1,j,a,w,g,hj,hr=>by
  rw[List.range'_succ,wpOps_cons];have hlt:j<ops.size:=by omega
  have ho:ops[j]? =some ops[j]:=aa1 hlt;refine XD hE hr ho (ha j _ hlt (by simp)) λ a' w' g' hr'=> ?_;exact seq_ok hE hn ha hQ m (j+1) a' w' g' (by omega) (by rw[hn j hlt];exact hr')
theorem Ry (hE:PD P E) (hm:P.follows .mixedOrders=true) {id:Nat} {ops:Array Oper} {draw:Bool} {ρ:Type} {k:St->Option ρ} {r:ρ} (h:EM E ops.toList draw s k=some r) (hr:Rel E C s a w g)
 (hQ: ∀s' a' w' g',Rel E C s' a' w' g'->k s'=some r->Q .normal a' w'):(Code.region id ops draw).wp P Q a w:=by
 unfold EM at h;simp only[cond_eq_ite]at h;split at h
 ·rename_i hd;obtain⟨fs',S,U,hs,hk⟩:=Gz _ _ _ _ h;obtain⟨F,_,h0,hF⟩:=VY _ 0 _ _ _ _ _ (λ _=>⟨[],[]⟩) hs (λ i=>by simp) rfl (λ k hk=>by omega);have hsz:0+ops.toList.length=ops.size:=by simp
  rw[hsz]at hF hk;have hfin: ∀a w g,Rel E C (S ops.size) a w g->Q .normal a w:=λ a w g hr=>hQ _ a w g hr hk
  cases draw with
  |false=>
   refine wp_region ?_;rw[List.range_eq_range'];exact seq_ok hE (λ i hi=>(hF i (abA _) hi).1) (λ i o hi ho=>((hF i (abA _) hi).2.1 o ho).1) hfin _ 0 a w g (by omega) (by rw[h0];exact hr)
  |true=>
   refine wp_region_any hm ?_;simp only[aa9,Bool.false_or]at hd
   have hst:NC E ops.toList (Md ops.toList []) ops.size S U F:=⟨λ i hi=>(hF i (abA _) hi).1,λ i o hi ho=>((hF i (abA _) hi).2.1 o ho).1,λ i o hi ho=>((hF i (abA _) hi).2.1 o ho).2,
    λ i hi=>(hF i (abA _) hi).2.2.1,λ i k hi hk hc=>by
     have:=(hF i (abA _) hi).2.2.2 rfl k hk hc;simpa using this⟩
   have hL: ∀j,jU (Array.replicate ops.size false) j=false:=by
    intro j;simp only[jU,aa4,Array.getElem?_replicate];split<;>rfl
   refine any_ok hE hst hd hfin ops.size (Array.replicate ops.size false) a {w with drawn:=w.drawn+1} g (by simp) ?_ ?_ ?_
   ·have:=ab5 (p:=(! ·)) (l:=(Array.replicate ops.size false).toList);simpa using this
   ·intro i o _ hl;rw[hL i]at hl;cases hl
   ·have:lG U (S 0) (jU (Array.replicate ops.size false)) ops.size=S 0:=by
     have: ∀n,lG U (S 0) (jU (Array.replicate ops.size false)) n=S 0:=by
      intro n
      induction n with
      |zero=>rfl
      |succ n ih=>simp only[lG,hL,cond_false];exact ih
     exact this _
    rw[this,h0];exact hr.world (Fr.drew _) hr.base.drew rfl
 ·cases h
structure rP (L:Loc) (s s':St):Prop where
 tm: ∀n,.tm n=L->s.tm n=s'.tm n
 bx: ∀n,.bx n=L->s.bx n=s'.bx n
theorem rP.refl (L:Loc) (s:St):rP L s s:=⟨λ _ _=>rfl,λ _ _=>rfl⟩
theorem rP.symm {L:Loc} (h:rP L s s'):rP L s' s:=⟨λ n e=>(h.tm n e).symm,λ n e=>(h.bx n e).symm⟩
theorem rP.trans {L:Loc} {s1 s2 s3:St} (h:rP L s1 s2) (k:rP L s2 s3):rP L s1 s3:=⟨λ n e=>(h.tm n e).trans (k.tm n e),λ n e=>(h.bx n e).trans (k.bx n e)⟩
theorem Zf {L:Loc} {n:Nat} {t:T} (h:L≠ .tm n):rP L (s.dM [.keep n t]) s:=
 ⟨λ m e=>bF _ _ _ (by rintro rfl;exact h e.symm),λ _ _=>rfl⟩
theorem ae6 {L:Loc} {n:Nat} {b:Bx} (h:L≠ .bx n):rP L (s.dM [.bx n b]) s:=
 ⟨λ _ _=>rfl,λ m e=>bF _ _ _ (by rintro rfl;exact h e.symm)⟩
def Iq (s s':St):Prop:= ∀r inst cells,aB s r=some (inst,cells)-> ∃cells',aB s' r=some (inst,cells')/\cells'.map (·.2)=cells.map (·.2)
theorem Iq.refl (s:St):Iq s s:=λ r inst cells h=>⟨cells,h,rfl⟩
theorem Iq.trans {s1 s2 s3:St} (h:Iq s1 s2) (k:Iq s2 s3):Iq s1 s3:=λ r inst cells e=>by
 obtain⟨c2,e2,h2⟩:=h r inst cells e;obtain⟨c3,e3,h3⟩:=k r inst c2 e2;exact⟨c3,e3,h3.trans h2⟩
theorem Iq.pl {p:Pl} {m:Nat} {cs:List CV} (h:Iq s s') (hc:aW s p m=some cs): ∃cs',aW s' p m=some cs':=by
 rw[bI]at hc;obtain⟨cells,e,h1,h2,h3⟩:=hc;obtain⟨cells',e',h4⟩:=h _ _ _ e;refine⟨((cells'.drop p.cell).take m).map (·.1),bI.2 ⟨cells',e',?_,λ i x hx=> ?_,rfl⟩⟩
 ·have:=congrArg List.length h4;simp only[aaN]at this;omega
 ·have:=h2 i x hx;have e5:=congrArg (λ l=>l[p.cell+i]?) h4;simp only[aar]at e5;rw[←this];exact e5
theorem zX {c:Bool} {ds:List CV} (h:(bif c then some ([]:List CV)else none)=some ds):ds= []:=by
 cases c with
 |true=>simp only[cond_true,aae]at h;exact h.symm
 |false=>simp at h
theorem D8 {c:Bool} {ds:List CV} (h:(bif c then some ([]:List CV)else none)=some ds):c=true:=by
 cases c with
 |true=>rfl
 |false=>simp at h
def nO (s:St) (e:JE) (ds:List CV):Prop:=
 match e with
 | .tm n ag _=>(s.tm n).1= .val ag ds
 | .bx n _=> ∃b,s.bx n=some b/\b.cells.map (·.1)=ds
 | .adr _ _ _=>ds= []/\lg s e=some []
 | .rf _ _ _ _ _=>ds= []/\lg s e=some []
 | .rs _ _ _ _=>lg s e=some ds
 | .fn n f=>ds= []/\(s.tm n).1= .fn f
 | .clo _ _ _=>ds= []/\lg s e=some []
 | .pad n want off=> ∃cs,(s.tm n).1= .paddr cs off/\weaken cs want=some ds/\bD ds=true
 | .cpd n f want=> ∃cs,(s.tm n).1= .clo f [.paddr cs 0]/\weaken cs want=some ds/\bD ds=true
theorem IE (hm:Iq s s'): ∀{ts:List T} {caps:List (Root×Nat)},kE s ts caps=true->kE s' ts caps=true
 | [],[],_=>rfl
 | [],_::_,h=>by simp[kE]at h
 | .addr p::ts,[],h=>by simp[kE]at h
 | .addr p::ts,(root,cell)::caps,h=>by
   simp only[kE,aad]at h ⊢;obtain⟨h1,h2⟩:=h;refine⟨?_,IE hm h2⟩;split at h1
   ·rename_i inst cells hr;obtain⟨cells',hr',_⟩:=hm _ _ _ hr;rw[hr'];exact h1
   ·cases h1
 | .dead::_,caps,h=>by cases caps<;>simp[kE]at h
 | .undef::_,caps,h=>by cases caps<;>simp[kE]at h
 | .nilc::_,caps,h=>by cases caps<;>simp[kE]at h
 | .val _ _::_,caps,h=>by cases caps<;>simp[kE]at h
 | .ref _ _ _::_,caps,h=>by cases caps<;>simp[kE]at h
 | .rsub _ _ _ _::_,caps,h=>by cases caps<;>simp[kE]at h
 | .paddr _ _::_,caps,h=>by cases caps<;>simp[kE]at h
 | .tup _::_,caps,h=>by cases caps<;>simp[kE]at h
 | .fn _::_,caps,h=>by cases caps<;>simp[kE]at h
 | .clo _ _::_,caps,h=>by cases caps<;>simp[kE]at h
theorem nO.mild {e:JE} {ds:List CV} (h:nO s e ds) (hm:Iq s s') (hs:rP e.tgt s' s):nO s' e ds:=by
 cases e with
 |tm n ag want=>
  have:s'.tm n=s.tm n:=hs.tm n rfl;simp only[nO,this];exact h
 |bx n want=>
  have:s'.bx n=s.bx n:=hs.bx n rfl;simp only[nO,this];exact h
 |adr n root cell=>
  have ht:s'.tm n=s.tm n:=hs.tm n rfl;obtain⟨h1,h⟩:=h;refine⟨h1,?_⟩;simp only[lg]at h ⊢;rw[ht];split at h
  ·rename_i p inst cells hp hr;obtain⟨cells',hr',_⟩:=hm _ _ _ hr;rw[hp,hr'];exact h
  ·cases h
 |rf n root cell ag len=>
  have ht:s'.tm n=s.tm n:=hs.tm n rfl;obtain⟨h1,h⟩:=h;refine⟨h1,?_⟩;simp only[lg]at h ⊢;rw[ht];split at h
  ·rename_i p ag' len' hp;split at h
   ·rename_i cs hc;obtain⟨cs',hc'⟩:=hm.pl hc;rw[hc'];exact h
   ·cases h
  ·cases h
 |rs n root cell z=>
  have ht:s'.tm n=s.tm n:=hs.tm n rfl;simp only[nO,lg]at h ⊢;rw[ht];split at h
  ·rename_i p z' lo hi hp;split at h
   ·rename_i cs hc;obtain⟨cs',hc'⟩:=hm.pl hc;rw[hc'];exact h
   ·cases h
  ·cases h
 |fn n f=>
  have ht:s'.tm n=s.tm n:=hs.tm n rfl;simp only[nO,ht];exact h
 |pad n want off=>
  have ht:s'.tm n=s.tm n:=hs.tm n rfl;simp only[nO,ht];exact h
 |cpd n f want=>
  have ht:s'.tm n=s.tm n:=hs.tm n rfl;simp only[nO,ht];exact h
 |clo n f caps=>
  have ht:s'.tm n=s.tm n:=hs.tm n rfl;obtain⟨h1,h⟩:=h;refine⟨h1,?_⟩;simp only[lg]at h ⊢;rw[ht];split at h
  ·rename_i g ts hq;have hc:=D8 h;simp only[aad]at hc;simp only[hc.1,IE hm hc.2,Bool.and_self,cond_true]
  ·cases h
theorem ZF (h:Rel E C s a w g) {r:Root} {inst:Nat} {cells:List (CV×Nat)} (hr:aB s r=some (inst,cells)) {want:List (Sh×Tg)} {ds:List CV} (hw:weaken (cells.map (·.1)) want=some ds) {us:List Upd}
 (hu:jB s ⟨r,inst,[],0,none⟩ ds false=some us): ∃g',Rel E C (s.dM us) a w g':=by
 obtain⟨_,hdl,hget⟩:=oU hw;obtain⟨g1,f1,b1,_,a1,p1,_,l1,m1,_⟩:=BD (vw r) _ want ds 0 _ g h.base hw (h.root hr);have hlen:ds.length=cells.length:=by rw[l1];simp
 have hpl:aW s ⟨r,inst,[],0,none⟩ ds.length=some (cells.map (·.1)):=by
  rw[bI];refine⟨cells,hr,by simp[hlen],λ i x hx=>by simp at hx,?_⟩;simp[hlen]
 have hv:=(h.root hr).length;refine⟨g1,jQ h hpl hu m1 (f1.mono λ o ho j h1 h2=>ho.1 j h1 (by simp at h2 ⊢;omega)) b1 a1 ?_ λ i es l' hi=> ?_⟩
 ·simp only[abu];rw[aaF (by rw[hv];simp[hlen])];exact p1
 ·cases hc:(cells.map (·.1))[i]? with
  |none=>
   exfalso
   have h1:i<ds.length:=by
    rcases aaE i ds.length with h|h
    ·exact h
    ·simp[aah h]at hi
   have h2:=List.getElem?_eq_none_iff.1 hc;simp at h2;omega
  |some c=>
   obtain⟨sh,tg,_,e2,_,e4,_⟩:=hget i c hc;rw[hi]at e2;have e2:(⟨.dl es,.own,l'⟩:CV)=c.to tg:=aao e2;refine⟨l',?_,λ _ _ _ _=>rfl⟩;obtain⟨csh,ct,cx⟩:=c;simp only[CV.to,CV.mk.injEq]at e2;obtain⟨rfl,rfl,e3⟩:=e2;cases ct<;>first|(exfalso;simp[Tg.le]at e4;done)|rw[eq_of_heq e3]
theorem Vz {r:Root} {inst:Nat} {cells:List (CV×Nat)} (hr:aB s r=some (inst,cells)) {ds:List CV} (hl:ds.length=cells.length) {us:List Upd} (hu:jB s ⟨r,inst,[],0,none⟩ ds false=some us):
 Iq s (s.dM us)/\(∀L,L≠r.loc->rP L (s.dM us) s)/\ ∃cells',aB (s.dM us) r=some (inst,cells')/\cells'.map (·.1)=ds:=by
 cases r with
 |tmp n=>
  simp only[jB]at hu;simp only[aB]at hr;split at hr
  ·rename_i ag cs v heq;cases hr;rw[heq]at hu;simp only[cond_eq_ite,aa3,if_false]at hu;split at hu
   ·cases hu;have hcl:setCells cs 0 ds=ds:=wZ _ _ (by simpa using hl)
    have hst:s.dM [Upd.keep n (.val ag (setCells cs 0 ds))]= {s with tm:=put s.tm n (.val ag ds,inst)}:=by
     rw[hcl];simp only[St.dM,acw,List.foldl_nil,Upd.on,heq]
    rw[hst];refine⟨λ r' inst' cells' hr'=> ?_,λ L hL=>Zf (s:=s) (n:=n) (t:= .val ag ds) hL |>.trans (rP.refl _ _)|>λ h=> ?_,ds.map λ c=>(c,inst),by simp only[aB,bg],by simp[abN,Function.comp_def]⟩
    ·cases r' with
     |tmp k=>
      by_cases hk:k=n
      ·subst hk;simp only[aB,heq]at hr';cases hr';refine⟨ds.map λ c=>(c,inst),by simp only[aB,bg],?_⟩;simp only[abN,Function.comp_def];rw[List.map_const',List.map_const'];congr 1;simpa using hl
      ·exact⟨cells',by simp only[aB,bF _ _ _ hk]at hr' ⊢;exact hr',rfl⟩
     |box k=>exact⟨cells',hr',rfl⟩
    ·have e:s.dM [Upd.keep n (.val ag ds)]= {s with tm:=put s.tm n (.val ag ds,inst)}:=by
      simp only[St.dM,acw,List.foldl_nil,Upd.on,heq]
     rw[e]at h;exact h
   ·cases hu
  ·cases hr
 |box n=>
  simp only[jB]at hu;simp only[aB]at hr;split at hr
  ·rename_i b heq;cases hr;rw[heq]at hu;simp only[cond_eq_ite,aa3,if_false]at hu;split at hu
   ·cases hu;simp only[ace,abQ,abu,aaW];have hd:b.cells.drop ds.length= []:=abn (acn hl.symm);rw[hd,aaQ]
    have hz1:((ds.zip b.cells).map λ x=>((x.1,x.2.2):CV×Nat)).map (·.1)=ds:=by
     rw[abN];show(ds.zip b.cells).map (λ x=>x.1)=ds;exact List.map_fst_zip (by omega)
    have hz2:((ds.zip b.cells).map λ x=>((x.1,x.2.2):CV×Nat)).map (·.2)=b.cells.map (·.2):=by
     rw[abN];show(ds.zip b.cells).map (λ x=>x.2.2)=_;have:(ds.zip b.cells).map (λ x=>x.2.2)=((ds.zip b.cells).map Prod.snd).map (·.2):=by rw[abN];rfl
     rw[this,List.map_snd_zip (by omega)]
    have hst: ∀c,s.dM [Upd.bx n c]= {s with bx:=put s.bx n (some c)}:=λ c=>rfl;rw[hst];refine⟨λ r' inst' cells' hr'=> ?_,λ L hL=> ?_,_,by simp only[aB,bg],hz1⟩
    ·cases r' with
     |tmp k=>exact⟨cells',hr',rfl⟩
     |box k=>
      by_cases hk:k=n
      ·subst hk;simp only[aB,heq]at hr';cases hr';exact⟨_,by simp only[aB,bg],hz2⟩
      ·exact⟨cells',by simp only[aB,bF _ _ _ hk]at hr' ⊢;exact hr',rfl⟩
    ·exact ae6 hL
   ·cases hu
  ·cases hr
theorem MV: ∀(j:J) (s1:St) (g1:Gh) (cs:List CV),jOk j=true->Rel E C s1 a w g1->Iq s s1->(∀e,e∈j->rP e.tgt s1 s)->packs s j=some cs->
 ∃s2 g2,Rel E C s2 a w g2/\Iq s1 s2/\(∀L,(∀e,e∈j->e.tgt≠L)->rP L s2 s1)/\ ∀e ds,e∈j->lg s e=some ds->nO s2 e ds
 | [],s1,g1,cs,_,hr,_,_,_=>⟨s1,g1,hr,Iq.refl _,λ L _=>rP.refl _ _,λ e ds he=>by cases he⟩
 |e::j,s1,g1,cs,hj,hr,hms,hs,hp=>by
  simp only[jOk,aad,aaV,abj]at hj;simp only[packs]at hp;split at hp
  ·rename_i ds ds' hpe hpj;have hse:rP e.tgt s1 s:=hs e (by simp)
   have one: ∃s2 g2,Rel E C s2 a w g2/\Iq s1 s2/\(∀L,e.tgt≠L->rP L s2 s1)/\ ∀ds0,lg s e=some ds0->nO s2 e ds0:=by
    cases e with
    |tm n ag want=>
     have ht:s1.tm n=s.tm n:=hse.tm n rfl;simp only[lg]at hpe;split at hpe
     ·rename_i ag' cs0 hat;simp only[cond_eq_ite]at hpe;split at hpe
      ·rename_i hag;have hag:ag=ag':=by simpa using hag
       subst hag;have hst:s1.tm n=(.val ag cs0,(s1.tm n).2):=by rw[ht,←hat]
       have hroot:aB s1 (.tmp n)=some ((s1.tm n).2,cs0.map λ c=>(c,(s1.tm n).2)):=by
        simp only[aB];rw[hst]
       have hw:weaken ((cs0.map λ c=>((c,(s1.tm n).2):CV×Nat)).map (·.1)) want=some ds:=by rw[mQ];exact hpe
       obtain⟨hwl,hdl,_⟩:=oU hpe;have hdl:ds.length=cs0.length:=hdl.trans hwl.symm
       have hu:jB s1 ⟨.tmp n,(s1.tm n).2,[],0,none⟩ ds false=some [.keep n (.val ag (setCells cs0 0 ds))]:=by
        simp only[jB];rw[hst];simp
       obtain⟨g2,hr2⟩:=ZF hr hroot hw hu;obtain⟨m1,m2,cells',m3,m4⟩:=Vz hroot (by simp[hdl]) hu;refine⟨_,g2,hr2,m1,λ L hL=>m2 L (λ e=>hL e.symm),λ ds0 hp0=> ?_⟩;simp only[lg,hat]at hp0;simp only[beq_self_eq_true,cond_true,hpe,aae]at hp0;subst hp0;show((s1.dM [.keep n (.val ag (setCells cs0 0 ds))]).tm n).1= .val ag ds;rw[wZ _ _ hdl];simp[St.dM,Upd.on,bg]
      ·cases hpe
     ·cases hpe
    |bx n want=>
     have ht:s1.bx n=s.bx n:=hse.bx n rfl;simp only[lg]at hpe;split at hpe
     ·rename_i b hb;have hb1:s1.bx n=some b:=by rw[ht];exact hb
      have hroot:aB s1 (.box n)=some (b.inst,b.cells):=by simp only[aB];rw[hb1]
      obtain⟨hwl,hdl,_⟩:=oU hpe;have hdl:ds.length=b.cells.length:=by rw[hdl,←hwl];simp
      have hu: ∃us,jB s1 ⟨.box n,b.inst,[],0,none⟩ ds false=some us:=by
       simp only[jB,hb1];simp[hdl,Nat.ble_eq_true_of_le (aaq b.cells.length)]
      obtain⟨us,hu⟩:=hu;obtain⟨g2,hr2⟩:=ZF hr hroot hpe hu;obtain⟨m1,m2,cells',m3,m4⟩:=Vz hroot hdl hu;refine⟨_,g2,hr2,m1,λ L hL=>m2 L (λ e=>hL e.symm),λ ds0 hp0=> ?_⟩;simp only[lg,hb,hpe,aae]at hp0;subst hp0;simp only[aB]at m3;split at m3
      ·rename_i b' hb';simp only[aae,aas]at m3;exact⟨b',hb',by rw[m3.2];exact m4⟩
      ·cases m3
     ·cases hpe
    |adr n root cell=>
     have h0:lg s (.adr n root cell)=some []:=by
      have:ds= []:=by
       simp only[lg]at hpe;split at hpe
       ·exact zX hpe
       ·cases hpe
      rw[hpe,this]
     exact⟨s1,g1,hr,Iq.refl _,λ L _=>rP.refl _ _,λ ds0 hp0=>by
      rw[h0]at hp0;cases hp0;exact nO.mild (s:=s) ⟨rfl,h0⟩ hms hse⟩
    |fn n f=>
     simp only[lg]at hpe;split at hpe
     ·rename_i f' hq;have hc:=aal (D8 hpe);have hd:=zX hpe;subst hc;refine⟨s1,g1,hr,Iq.refl _,λ L _=>rP.refl _ _,λ ds0 hp0=> ?_⟩;simp only[lg,hq,acj,cond_true,aae]at hp0;exact nO.mild (s:=s) ⟨hp0.symm,hq⟩ hms hse
     ·cases hpe
    |pad n want off=>
     simp only[lg]at hpe;split at hpe
     ·rename_i cs0 off' hq;simp only[cond_eq_ite]at hpe;split at hpe
      ·rename_i hoff;have hoff:=aal hoff;subst hoff;split at hpe
       ·rename_i ds1 hw;split at hpe
        ·rename_i hpu;refine⟨s1,g1,hr,Iq.refl _,λ L _=>rP.refl _ _,λ ds0 hp0=> ?_⟩;simp only[lg,hq,acj,cond_true,hw,hpu,aae]at hp0;subst hp0;exact nO.mild (s:=s) (e:= .pad n want off) ⟨cs0,hq,hw,hpu⟩ hms hse
        ·cases hpe
       ·cases hpe
      ·cases hpe
     ·cases hpe
    |cpd n f want=>
     simp only[lg]at hpe;split at hpe
     ·rename_i f' cs0 hq;simp only[cond_eq_ite]at hpe;split at hpe
      ·rename_i hoff;have hoff:=aal hoff;subst hoff;split at hpe
       ·rename_i ds1 hw;split at hpe
        ·rename_i hpu;refine⟨s1,g1,hr,Iq.refl _,λ L _=>rP.refl _ _,λ ds0 hp0=> ?_⟩;simp only[lg,hq,acj,cond_true,hw,hpu,aae]at hp0;subst hp0;exact nO.mild (s:=s) (e:= .cpd n f want) ⟨cs0,hq,hw,hpu⟩ hms hse
        ·cases hpe
       ·cases hpe
      ·cases hpe
     ·cases hpe
    |clo n f caps=>
     have h0:lg s (.clo n f caps)=some []:=by
      have:ds= []:=by
       simp only[lg]at hpe;split at hpe
       ·exact zX hpe
       ·cases hpe
      rw[hpe,this]
     exact⟨s1,g1,hr,Iq.refl _,λ L _=>rP.refl _ _,λ ds0 hp0=>by
      rw[h0]at hp0;cases hp0;exact nO.mild (s:=s) ⟨rfl,h0⟩ hms hse⟩
    |rs n root cell z=>
     exact⟨s1,g1,hr,Iq.refl _,λ L _=>rP.refl _ _,λ ds0 hp0=>nO.mild (s:=s) (e:= .rs n root cell z) hp0 hms hse⟩
    |rf n root cell ag len=>
     have h0:lg s (.rf n root cell ag len)=some []:=by
      have:ds= []:=by
       simp only[lg]at hpe;split at hpe
       ·split at hpe
        ·exact zX hpe
        ·cases hpe
       ·cases hpe
      rw[hpe,this]
     exact⟨s1,g1,hr,Iq.refl _,λ L _=>rP.refl _ _,λ ds0 hp0=>by
      rw[h0]at hp0;cases hp0;exact nO.mild (s:=s) ⟨rfl,h0⟩ hms hse⟩
   obtain⟨s2,g2,hr2,hm2,hs2,he2⟩:=one
   have hne: ∀e',e'∈j->e.tgt≠e'.tgt:=λ e' h' heq=>by
    have:=hj.1 e' h';rw[heq,Loc.RY]at this;cases this
   obtain⟨s3,g3,hr3,hm3,hs3,he3⟩:=MV j s2 g2 ds' hj.2 hr2 (hms.trans hm2) (λ e' h'=>(hs2 _ (hne e' h')).trans (hs e' (by simp[h']))) hpj;refine⟨s3,g3,hr3,hm2.trans hm3,λ L hL=>(hs3 L λ e' h'=>hL e' (by simp[h'])).trans (hs2 L (hL e (by simp))),λ e' ds0 h' hp0=> ?_⟩;rcases aaR.1 h' with rfl|h'
   ·exact(he2 ds0 hp0).mild hm3 (hs3 _ λ e'' h'' heq=>hne e'' h'' heq.symm)
   ·exact he3 e' ds0 h' hp0
  ·cases hp
end
end Go.AM
end
section
namespace Go.AM
open Go
section
variable {P:Program} {E:Env} {C:Ctx} {s s':St} {a a':Act} {w w':World} {g g':Gh} {o:Oper} {Q:Exit->Act->World->Prop}
theorem adO {α:Type} {c:Bool} {x y:α} (h:(bif c then some x else none)=some y):c=true/\x=y:=by
 cases c with
 |true=>exact⟨rfl,aao h⟩
 |false=>simp at h
theorem Gj {e:JE} {ds:List CV} (h:lg s e=some ds):Tagged ds e.cells:=by
 cases e with
 |tm n ag want=>
  simp only[lg]at h;split at h
  ·simp only[cond_eq_ite]at h;split at h
   ·exact dZ h
   ·cases h
  ·cases h
 |bx n want=>
  simp only[lg]at h;split at h
  ·exact dZ h
  ·cases h
 |adr n root cell=>
  simp only[lg]at h;split at h
  ·rw[zX h];rfl
  ·cases h
 |rf n root cell ag len=>
  simp only[lg]at h;split at h
  ·split at h
   ·rw[zX h];rfl
   ·cases h
  ·cases h
 |rs n root cell z=>
  simp only[lg]at h;split at h
  ·split at h
   ·obtain⟨_,rfl⟩:=adO h;rfl
   ·cases h
  ·cases h
 |fn n f=>
  simp only[lg]at h;split at h
  ·rw[zX h];rfl
  ·cases h
 |clo n f caps=>
  simp only[lg]at h;split at h
  ·rw[zX h];rfl
  ·cases h
 |cpd n f want=>
  simp only[lg]at h;split at h
  ·simp only[cond_eq_ite]at h;split at h
   ·split at h
    ·rename_i ds1 hw;split at h
     ·cases h;exact dZ hw
     ·cases h
    ·cases h
   ·cases h
  ·cases h
 |pad n want off=>
  simp only[lg]at h;split at h
  ·simp only[cond_eq_ite]at h;split at h
   ·split at h
    ·rename_i ds1 hw;split at h
     ·cases h;exact dZ hw
     ·cases h
    ·cases h
   ·cases h
  ·cases h
theorem Gl: ∀{j:J} {cs:List CV},packs s j=some cs->Tagged cs (J.cells j)
 | [],cs,h=>by simp only[packs,aae]at h;subst h;rfl
 |e::j,cs,h=>by
  simp only[packs]at h;split at h
  ·rename_i ds ds' h1 h2;cases h;exact(Gj h1).append (Gl h2)
  ·cases h
theorem Xr {ds:List CV} {e:JE} (s0:St) (n:Nat):(e.tgt= .tm n/\(dR s0 ds e).tm n=(dR qI ds e).tm n)\/(dR s0 ds e).tm n=s0.tm n:=by
 cases e with
 |tm k ag want=>
  by_cases hk:n=k
  ·subst hk;exact .inl ⟨rfl,by simp only[dR,bg]⟩
  ·exact .inr (by simp only[dR,bF _ _ _ hk])
 |bx k want=>exact .inr rfl
 |adr k root cell=>
  by_cases hk:n=k
  ·subst hk;exact .inl ⟨rfl,by simp only[dR,bg]⟩
  ·exact .inr (by simp only[dR,bF _ _ _ hk])
 |rf k root cell ag len=>
  by_cases hk:n=k
  ·subst hk;exact .inl ⟨rfl,by simp only[dR,bg]⟩
  ·exact .inr (by simp only[dR,bF _ _ _ hk])
 |rs k root cell z=>
  match ds with
  | [a,b]=>
    by_cases hk:n=k
    ·subst hk;exact .inl ⟨rfl,by simp only[dR,bg]⟩
    ·exact .inr (by simp only[dR,bF _ _ _ hk])
  | []=>exact .inr rfl
  | [_]=>exact .inr rfl
  |_::_::_::_=>exact .inr rfl
 |fn k f=>
  by_cases hk:n=k
  ·subst hk;exact .inl ⟨rfl,by simp only[dR,bg]⟩
  ·exact .inr (by simp only[dR,bF _ _ _ hk])
 |clo k f caps=>
  by_cases hk:n=k
  ·subst hk;exact .inl ⟨rfl,by simp only[dR,bg]⟩
  ·exact .inr (by simp only[dR,bF _ _ _ hk])
 |pad k want off=>
  by_cases hk:n=k
  ·subst hk;exact .inl ⟨rfl,by simp only[dR,bg]⟩
  ·exact .inr (by simp only[dR,bF _ _ _ hk])
 |cpd k f want=>
  by_cases hk:n=k
  ·subst hk;exact .inl ⟨rfl,by simp only[dR,bg]⟩
  ·exact .inr (by simp only[dR,bF _ _ _ hk])
theorem Xq {ds:List CV} {e:JE} (s0:St) (n:Nat):(e.tgt= .bx n/\(dR s0 ds e).bx n=(dR qI ds e).bx n)\/(dR s0 ds e).bx n=s0.bx n:=by
 cases e with
 |bx k want=>
  by_cases hk:n=k
  ·subst hk;exact .inl ⟨rfl,by simp only[dR,bg]⟩
  ·exact .inr (by simp only[dR,bF _ _ _ hk])
 |rs k root cell z=>
  match ds with
  | [a,b]=>exact .inr rfl
  | []=>exact .inr rfl
  | [_]=>exact .inr rfl
  |_::_::_::_=>exact .inr rfl
 |_=>exact .inr rfl
theorem KE: ∀(j:J) (s0:St) (cs:List CV),packs s j=some cs->
 (∀n,(∃e ds,e∈j/\lg s e=some ds/\e.tgt= .tm n/\(unpacks s0 cs j).tm n=(dR qI ds e).tm n)\/(unpacks s0 cs j).tm n=s0.tm n)/\
 (∀n,(∃e ds,e∈j/\lg s e=some ds/\e.tgt= .bx n/\(unpacks s0 cs j).bx n=(dR qI ds e).bx n)\/(unpacks s0 cs j).bx n=s0.bx n)
 | [],s0,cs,_=>⟨λ n=> .inr (by cases cs<;>rfl),λ n=> .inr (by cases cs<;>rfl)⟩
 |e::j,s0,cs,h=>by
  simp only[packs]at h;split at h
  ·rename_i ds ds' h1 h2;cases h
   have hl:e.cells.length=ds.length:=by
    have:=congrArg List.length (Gj h1);simpa using this.symm
   have e1:unpacks s0 (ds++ds') (e::j)=unpacks (dR s0 ds e) ds' j:=by
    simp only[unpacks,hl,abG,abL]
   rw[e1];obtain⟨k1,k2⟩:=KE j (dR s0 ds e) ds' h2;refine⟨λ n=> ?_,λ n=> ?_⟩
   ·rcases k1 n with⟨e',ds1,q1,q2,q3,q4⟩|q
    ·exact .inl ⟨e',ds1,by simp[q1],q2,q3,q4⟩
    ·rcases Xr (ds:=ds) (e:=e) s0 n with⟨r1,r2⟩|r
     ·exact .inl ⟨e,ds,by simp,h1,r1,q.trans r2⟩
     ·exact .inr (q.trans r)
   ·rcases k2 n with⟨e',ds1,q1,q2,q3,q4⟩|q
    ·exact .inl ⟨e',ds1,by simp[q1],q2,q3,q4⟩
    ·rcases Xq (ds:=ds) (e:=e) s0 n with⟨r1,r2⟩|r
     ·exact .inl ⟨e,ds,by simp,h1,r1,q.trans r2⟩
     ·exact .inr (q.trans r)
  ·cases h
theorem Root.same_eq {r r':Root} (h:Root.same r r'=true):r=r':=by
 cases r<;>cases r'<;>simp only[Root.same,aa3]at h<;>rw[aal h]
theorem aea {u s2:St} {mk:Nat->aH} {p:Pl} {v:Value} (htm:TV0 s2 a w g mk (.addr p) v) {root:Root} {cell inst:Nat} {cells:List (CV×Nat)} (hroot:aB s2 root=some (inst,cells))
 (hc:(Root.same p.root root&&Nat.beq p.cell cell&&Nat.beq p.inst inst&&(match p.sub with|none=>true|_=>false))=true):TV0 u a w g mk (.addr ⟨root,0,[],cell,none⟩) v:=by
 simp only[aad]at hc;obtain⟨⟨⟨c1,c2⟩,c3⟩,c4⟩:=hc;have c1:=Root.same_eq c1;have c2:=aal c2;have c3:=aal c3
 have c4:p.sub=none:=by
  cases hs:p.sub with
  |none=>rfl
  |some q=>rw[hs]at c4;cases c4
 obtain⟨_,htm⟩:Old s2 p/\_:=htm;rw[c4]at htm;obtain⟨m,hm1,hm2⟩:=htm;refine⟨⟨abA _,λ _ _ _ _ _ i x c v hx _=>by simp at hx⟩,m,by rw[←c1];exact hm1,λ b _ _=> ?_⟩;rw[←c1,hm1]at hroot;simp only[aB]at hroot;split at hroot
 ·rename_i b2 hb2;simp only[aae,aas]at hroot;rw[hm2 b2 hb2 (by rw[hroot.1,c3]),c2]
 ·cases hroot
theorem XU {u s2:St} {mk:Nat->aH}: ∀{ts:List T} {caps:List (Root×Nat)} {vs:List Value},nN s2 a w g mk ts vs->kE s2 ts caps=true->nN u a w g mk (caps.map λ x=> .addr ⟨x.1,0,[],x.2,none⟩) vs
 | [],[],_,h,_=>h
 | [],_::_,_,_,hc=>by simp[kE]at hc
 | .addr p::ts,[],_,_,hc=>by simp[kE]at hc
 | .addr p::ts,(root,cell)::caps,_,⟨v,ws,e,hk,ht,h⟩,hc=>by
   simp only[kE,aad]at hc;obtain⟨h1,h2⟩:=hc;split at h1
   ·rename_i inst cells hr;exact⟨v,ws,e,trivial,aea ht hr h1,XU h h2⟩
   ·cases h1
 | .dead::_,caps,_,_,h=>by cases caps<;>simp[kE]at h
 | .undef::_,caps,_,_,h=>by cases caps<;>simp[kE]at h
 | .nilc::_,caps,_,_,h=>by cases caps<;>simp[kE]at h
 | .val _ _::_,caps,_,_,h=>by cases caps<;>simp[kE]at h
 | .ref _ _ _::_,caps,_,_,h=>by cases caps<;>simp[kE]at h
 | .rsub _ _ _ _::_,caps,_,_,h=>by cases caps<;>simp[kE]at h
 | .paddr _ _::_,caps,_,_,h=>by cases caps<;>simp[kE]at h
 | .tup _::_,caps,_,_,h=>by cases caps<;>simp[kE]at h
 | .fn _::_,caps,_,_,h=>by cases caps<;>simp[kE]at h
 | .clo _ _::_,caps,_,_,h=>by cases caps<;>simp[kE]at h
theorem OU {j:J} (hj:jOk j=true) (h:Rel E C s a w g) {x:j.V} (hp:UF E j s=some x): ∃g',Rel E C (unpack j x) a w g':=by
 unfold UF at hp;simp only[cond_eq_ite]at hp;split at hp
 rotate_left
 ·cases hp
 rename_i hkept;unfold pack at hp;split at hp
 ·rename_i cs hcs;have hret:retag (J.cells j) (cellsOf _ x)=cs:=by rw[qG _ _ _ hp,wU (Gl hcs)]
  unfold unpack;rw[hret];obtain⟨s2,g2,h2,hmild,_,he⟩:=MV j s g cs hj h (Iq.refl s) (λ e _=>rP.refl _ _) hcs;obtain⟨u1,u2⟩:=KE j qI cs hcs
  have root: ∀(r:Root) i cells,aB (unpacks qI cs j) r=some (i,cells)-> ∃i2 cells2,aB s2 r=some (i2,cells2)/\cells2.map (·.1)=cells.map (·.1):=by
   intro r i cells hr
   cases r with
   |tmp m=>
    rcases u1 m with⟨e,ds,hm,hpe,ht,hu⟩|hu
    ·simp only[aB]at hr;rw[hu]at hr;have hei:=he e ds hm hpe
     cases e with
     |tm k ag want=>
      simp only[JE.tgt,Loc.tm.injEq]at ht;subst ht;simp only[dR,bg,aae,aas]at hr;obtain⟨_,rfl⟩:=hr;have h1:(s2.tm k).1= .val ag ds:=hei;have h3:s2.tm k=(.val ag ds,(s2.tm k).2):=by rw[←h1]
      refine⟨_,ds.map λ c=>(c,(s2.tm k).2),by simp only[aB];rw[h3],by rw[mQ,mQ]⟩
     |bx k want=>simp[JE.tgt]at ht
     |rs k root cell z=>
      simp only[JE.tgt,Loc.tm.injEq]at ht;subst ht
      match ds with
      | [a,b]=>simp[dR,bg]at hr
      | []=>simp[dR,qI]at hr
      | [_]=>simp[dR,qI]at hr
      |_::_::_::_=>simp[dR,qI]at hr
     |_=>
      simp only[JE.tgt,Loc.tm.injEq]at ht;subst ht;simp only[dR,bg]at hr;cases hr
    ·simp only[aB]at hr;rw[hu]at hr;simp[qI]at hr
   |box m=>
    rcases u2 m with⟨e,ds,hm,hpe,ht,hu⟩|hu
    ·simp only[aB]at hr;rw[hu]at hr;have hei:=he e ds hm hpe
     cases e with
     |bx k want=>
      simp only[JE.tgt,Loc.bx.injEq]at ht;subst ht;simp only[dR,bg,aae,aas]at hr;obtain⟨_,rfl⟩:=hr;obtain⟨b2,hb2,hmap⟩:=hei;exact⟨b2.inst,b2.cells,by simp only[aB,hb2],by rw[hmap,mQ]⟩
     |_=>simp[JE.tgt]at ht
    ·simp only[aB]at hr;rw[hu]at hr;simp[qI]at hr
  refine⟨g2,λ n=> ?_,λ n b hb=> ?_,h2.size,h2.defers,h2.glob,h2.base,h2.par,λ n jj v hv=>⟨(h2.aux n jj v hv).1,λ cs0 _=> ?_⟩⟩
  ·rcases u1 n with⟨e,ds,hm,hpe,ht,hu⟩|hu
   ·rw[hu];have hei:=he e ds hm hpe;have htm:=h2.tm n
    cases e with
    |tm k ag want=>
     simp only[JE.tgt,Loc.tm.injEq]at ht;subst ht;simp only[dR,bg];have:(s2.tm k).1= .val ag ds:=hei;rw[this]at htm;exact htm
    |bx k want=>simp[JE.tgt]at ht
    |adr k root cell=>
     simp only[JE.tgt,Loc.tm.injEq]at ht;subst ht;simp only[dR,bg];obtain⟨_,hei⟩:=hei;simp only[lg]at hei;split at hei
     ·rename_i p inst cells hat hroot;have hc:=D8 hei;simp only[aad]at hc;obtain⟨⟨⟨c1,c2⟩,c3⟩,c4⟩:=hc;have c1:=Root.same_eq c1;have c2:=aal c2;have c3:=aal c3
      have c4:p.sub=none:=by
       cases hs:p.sub with
       |none=>rfl
       |some q=>rw[hs]at c4;cases c4
      rw[hat]at htm;obtain⟨_,htm⟩:Old s2 p/\_:=htm;rw[c4]at htm;obtain⟨m,hm1,hm2⟩:=htm;refine⟨⟨abA _,λ _ _ _ _ _ i x c v hx _=>by simp at hx⟩,m,by rw[←c1];exact hm1,λ b _ _=> ?_⟩;rw[←c1,hm1]at hroot;simp only[aB]at hroot;split at hroot
      ·rename_i b2 hb2;simp only[aae,aas]at hroot;rw[hm2 b2 hb2 (by rw[hroot.1,c3]),c2]
      ·cases hroot
     ·cases hei
    |rf k root cell ag len=>
     simp only[JE.tgt,Loc.tm.injEq]at ht;subst ht;simp only[dR,bg];obtain⟨_,hei⟩:=hei;simp only[lg]at hei;split at hei
     ·rename_i p ag' len' hat;split at hei
      ·rename_i cs' hpl;have hc:=D8 hei;simp only[aad]at hc;obtain⟨⟨⟨⟨⟨c1,c2⟩,c3⟩,c4⟩,c5⟩,c6⟩:=hc;have c1:=Root.same_eq c1;have c2:=aal c2;have c3:ag=ag':=by simpa using c3
       have c4:=aal c4;rw[hat]at htm;subst c3 c4;obtain⟨_,_,_,htm⟩:Old s2 p/\p.vers.length=len/\p.sub=none/\_:=htm;obtain⟨k1,k2⟩:=htm cs' hpl;refine⟨⟨abA _,λ _ _ _ _ _ i x c v hx _=> ?_⟩,by simp,rfl,λ cs0 _=>⟨k1,?_⟩⟩
       ·simp only[abw]at hx;split at hx
        ·cases hx;exact abA _
        ·cases hx
       ·rw[k2,c1,c2]
      ·cases hei
     ·cases hei
    |rs k root1 cell z=>
     simp only[JE.tgt,Loc.tm.injEq]at ht;subst ht;have hei:lg s2 (.rs k root1 cell z)=some ds:=hei;simp only[lg]at hei;split at hei
     ·rename_i p z' lo hi hat;split at hei
      ·rename_i cs' hpl
       ·obtain⟨hc,hds⟩:=adO hei;simp only[aad]at hc;obtain⟨⟨⟨⟨c1,c2⟩,c3⟩,c4⟩,c5⟩:=hc;have c1:=Root.same_eq c1;have c2:=aal c2;have c3:z=z':=by simpa using c3
        subst hds;simp only[dR,bg,aeM,aat];rw[hat]at htm;obtain⟨_,_,_,hz,htm⟩:Old s2 p/\p.vers.length=1/\p.sub=none/\(z'=true->lo=0)/\_:=htm;obtain⟨c0,rfl⟩:=ED hpl;obtain⟨A,l,kk,q1,q2,q3,q4,q5⟩:=htm c0 hpl;refine⟨⟨abA _,λ _ _ _ _ _ i x c v hx _=> ?_⟩,rfl,rfl,λ h=>hz (by rw[←c3];exact h),λ c hc'=>⟨A,l,kk,by rw[←c1,←c2];exact q1,q2,q3,q4,?_⟩⟩
        ·cases i with
         |zero=>simp only[aaM,aae]at hx;omega
         |succ i=>simp at hx
        ·have hcc:c=c0:=by
          rw[bI]at hc' hpl;obtain⟨cells,r1,r2,_,r3⟩:=hc';obtain⟨cells2,t1,t2,_,t3⟩:=hpl;obtain⟨i2,cells3,w1,w2⟩:=root _ _ _ r1;simp only at w1 r3;rw[c1,w1]at t1;cases t1;have e1:((cells.map (·.1)).drop cell).take 1= [c]:=by rw[←ab6,←ab7];exact r3.symm
          have e2:((cells2.map (·.1)).drop p.cell).take 1= [c0]:=by rw[←ab6,←ab7];exact t3.symm
          rw[w2,c2,e1]at e2;simpa using e2
         rw[hcc];exact q5
      ·cases hei
     ·cases hei
    |fn k f=>
     simp only[JE.tgt,Loc.tm.injEq]at ht;subst ht;simp only[dR,bg];obtain⟨_,hei⟩:=hei;rw[hei]at htm;exact htm
    |pad k want off=>
     simp only[JE.tgt,Loc.tm.injEq]at ht;subst ht;simp only[dR,bg];obtain⟨cs0,hei,hw,hpu⟩:=hei;rw[hei]at htm;obtain⟨ad,vs,q1,q2,q3,q4⟩:=htm;exact⟨ad,vs,q1,q2,hpu,wB q3 hw q4⟩
    |cpd k f want=>
     simp only[JE.tgt,Loc.tm.injEq]at ht;subst ht;simp only[dR,bg];obtain⟨cs0,hei,hw,hpu⟩:=hei;rw[hei]at htm;obtain⟨vs0,q0,v1,ws1,e1,_,⟨ad,vs,q1,q2,q3,q4⟩,e2⟩:=htm;exact⟨vs0,q0,v1,ws1,e1,trivial,⟨ad,vs,q1,q2,hpu,wB q3 hw q4⟩,e2⟩
    |clo k f caps=>
     simp only[JE.tgt,Loc.tm.injEq]at ht;subst ht;simp only[dR,bg];obtain⟨_,hei⟩:=hei;simp only[lg]at hei;split at hei
     ·rename_i f' ts hat;have hc:=D8 hei;simp only[aad]at hc;have hf:=aal hc.1;subst hf;rw[hat]at htm;obtain⟨vs,q1,q2⟩: ∃vs:List Value,a.eval (.tmp k)= .func (.func f) #[] vs.toArray/\nN s2 a w g2 (.tm k) ts vs:=htm;exact⟨vs,q1,XU q2 hc.2⟩
     ·cases hei
   ·rw[hu];exact trivial
  ·rcases u2 n with⟨e,ds,hm,hpe,ht,hu⟩|hu
   ·rw[hu]at hb;have hei:=he e ds hm hpe
    cases e with
    |bx k want=>
     simp only[JE.tgt,Loc.bx.injEq]at ht;subst ht;simp only[dR,bg,aae]at hb;subst hb;obtain⟨b2,hb2,hmap⟩:=hei;obtain⟨cur,et,q1,q2,q3,q4⟩:=h2.bx k b2 hb2;exact⟨cur,et,q1,q2,q3,by rw[mQ,←hmap];exact q4⟩
    |_=>simp[JE.tgt]at ht
   ·rw[hu]at hb;cases hb
  ·have hk:=aaV.1 (show(E.kept.all _)=true from hkept) _ (h2.aux n jj v hv).1;simp only at hk;split at hk
   ·rename_i cs1 hc1;obtain⟨cs2,hc2⟩:=hmild.pl hc1;exact(h2.aux n jj v hv).2 _ hc2
   ·cases hk
 ·cases hp
def Ex.to:Ex->Exit| .normal=> .normal| .exit i=> .exit i| .ret=> .ret
theorem OH {p:Nat->Prop} (h: ∃n,p n): ∃n,p n/\ ∀m,p m->n<=m:=by
 obtain⟨n,hn⟩:=h
 induction n using Nat.strongRecOn with
 |_ n ih=>
  by_cases hx: ∃m,m<n/\p m
  ·obtain⟨m,hlt,hm⟩:=hx;exact ih m hlt hm
  ·exact⟨n,hn,λ m hm=>Nat.le_of_not_lt λ hlt=>hx ⟨m,hlt,hm⟩⟩
open Classical in
theorem Ve {c:Code} (I:Nat->Act->World->Prop) {n:Nat} (h0:I n a w) (round: ∀m a w,I m a w->c.wp P (Exit.then (λ a' w'=> ∃m',m'<m/\I m' a' w') Q) a w):(Code.loop c).wp P Q a w:=by
 refine wp_loop (λ a w=> ∃m,I m a w) (λ a w=>if h: ∃m,I m a w then Classical.choose (OH h)else 0) ⟨n,h0⟩ λ a w hI=> ?_;have hs:=(Classical.choose_spec (OH hI)).1;refine wp_mono (round _ a w hs) λ e a' w' hq=> ?_
 cases e with
 |normal=>
  obtain⟨m',hlt,hm'⟩:=hq;refine⟨⟨m',hm'⟩,?_⟩;rw[dif_pos hI,dif_pos ⟨m',hm'⟩];exact Nat.lt_of_le_of_lt ((Classical.choose_spec (OH ⟨m',hm'⟩)).2 m' hm') hlt
 |_=>exact hq
theorem ahu (hE:PD P E) (hm:P.follows .mixedOrders=true) {n:Nat}: ∀(c:Code) (h:H) {ρ:Type} {s:St} {a:Act} {w:World} {g:Gh} {k:Ex->St->Option ρ} {r:ρ} {Q:Exit->Act->World->Prop},ev E n c h s k=some r->Rel E C s a w g->
 (∀e s' a' w' g',Rel E C s' a' w' g'->k e s'=some r->Q e.to a' w')->c.wp P Q a w:=by
 intro c
 have join: ∀(c:Code) {ρ:Type} {j:J} {a:Act} {w:World} {m:(Ex->St->Option j.V)->Option j.V} {k:Ex->St->Option ρ} {r:ρ} {Q:Exit->Act->World->Prop},
  (∀(kk:Ex->St->Option j.V) (x:j.V) (Q:Exit->Act->World->Prop),m kk=some x->(∀e s' a' w' g',Rel E C s' a' w' g'->kk e s'=some x->Q e.to a' w')->c.wp P Q a w)->
  Yp E j m k=some r->(∀e s' a' w' g',Rel E C s' a' w' g'->k e s'=some r->Q e.to a' w')->c.wp P Q a w:=by
  intro c ρ j a w m k r Q hmm hj hq;unfold Yp at hj;simp only[cond_eq_ite]at hj;split at hj
  ·rename_i hjo;obtain⟨x,hx,hk⟩:=aaZ.1 hj;refine hmm _ x Q hx λ e s' a' w' g' hr he=> ?_
   cases e with
   |normal=>
    obtain⟨g2,hr2⟩:=OU hjo hr he;exact hq .normal _ _ _ _ hr2 hk
   |exit i=>cases he
   |ret=>cases he
  ·cases hj
 have joinr: ∀(c:Code) {ρ:Type} {j:J} {a:Act} {w:World} {m:(Ex->St->Option (Sum j.V ρ))->Option (Sum j.V ρ)} {k:Ex->St->Option ρ} {r:ρ} {Q:Exit->Act->World->Prop},
  (∀(kk:Ex->St->Option (Sum j.V ρ)) (x:Sum j.V ρ) (Q:Exit->Act->World->Prop),m kk=some x->(∀e s' a' w' g',Rel E C s' a' w' g'->kk e s'=some x->Q e.to a' w')->c.wp P Q a w)->
  acX E j m k=some r->(∀e s' a' w' g',Rel E C s' a' w' g'->k e s'=some r->Q e.to a' w')->c.wp P Q a w:=by
  intro c ρ j a w m k r Q hmm hj hq;unfold acX at hj;simp only[cond_eq_ite]at hj;split at hj
  ·rename_i hjo;obtain⟨x,hx,hk⟩:=aaZ.1 hj;refine hmm _ x Q hx λ e s' a' w' g' hr he=> ?_
   cases e with
   |normal=>
    obtain⟨y,hy,he⟩:=aaZ.1 he;cases he;obtain⟨g2,hr2⟩:=OU hjo hr hy;exact hq .normal _ _ _ _ hr2 hk
   |exit i=>
    obtain⟨y,hy,he⟩:=aaZ.1 he;cases he;simp only[aae]at hk;subst hk;exact hq (.exit i) _ _ _ _ hr hy
   |ret=>
    obtain⟨y,hy,he⟩:=aaZ.1 he;cases he;simp only[aae]at hk;subst hk;exact hq .ret _ _ _ _ hr hy
  ·cases hj
 induction c with
 |skip=>intro h ρ s a w g k r Q he hr hq;exact wp_skip (hq .normal _ _ _ _ hr he)
 |exit id=>intro h ρ s a w g k r Q he hr hq;exact wp_exit (hq (.exit id) _ _ _ _ hr he)
 |ret=>intro h ρ s a w g k r Q he hr hq;exact wp_ret (hq .ret _ _ _ _ hr he)
 |label l=>intro h ρ s a w g k r Q he hr hq;exact wp_label (hq .normal _ _ _ _ hr he)
 |scope c ih=>
  intro h ρ s a w g k r Q he hr hq;refine wp_scope_straight (ih h he hr λ e s' a' w' g' hr' hk=> ?_);have:=hq e s' a' w' g' hr' hk;cases e<;>exact this
 |region id ops draw=>
  intro h ρ s a w g k r Q he hr hq;simp only[ev]at he;split at he
  ·rename_i j hh;exact join _ (λ kk x Q hx hqq=>Ry hE hm hx hr λ s' a' w' g' hr' hk=>hqq .normal _ _ _ _ hr' hk) he hq
  ·exact Ry hE hm he hr λ s' a' w' g' hr' hk=>hq .normal _ _ _ _ hr' hk
 |seq x y ihx ihy=>
  intro h ρ s a w g k r Q he hr hq;simp only[ev]at he;split at he
  ·rename_i ha hb;refine wp_seq (ihx ha he hr λ e s' a' w' g' hr' hk=> ?_)
   cases e with
   |normal=>exact ihy hb hk hr' hq
   |exit i=>exact hq (.exit i) _ _ _ _ hr' hk
   |ret=>exact hq .ret _ _ _ _ hr' hk
  ·rename_i m ha hb;refine wp_seq (ihx ha he hr λ e s' a' w' g' hr' hk=> ?_)
   cases e with
   |normal=>
    simp only[Dyn.UQ]at hk;obtain⟨us,hu,hk⟩:=aaZ.1 hk;obtain⟨g2,hr2⟩:=adE hr' hu;exact ihy hb hk hr2 hq
   |exit i=>exact hq (.exit i) _ _ _ _ hr' hk
   |ret=>exact hq .ret _ _ _ _ hr' hk
  ·cases he
 |cond cc x y ihx ihy=>
  intro h ρ s a w g k r Q he hr hq;simp only[ev]at he
  have both: ∀{ρ:Type} {kk:Ex->St->Option ρ} {r:ρ} {Q:Exit->Act->World->Prop} {b:Bool} {hx hy:H},uT E s cc=some b->(bif b then ev E n x hx s kk else ev E n y hy s kk)=some r->
   (∀e s' a' w' g',Rel E C s' a' w' g'->kk e s'=some r->Q e.to a' w')->(Code.cond cc x y).wp P Q a w:=by
   intro ρ kk r Q b hx hy hb hh hqq;refine wp_cond (t:=b) (JK hr hb) ?_
   cases b with
   |true=>exact ihx hx hh hr hqq
   |false=>exact ihy hy hh hr hqq
  split at he
  ·exact both (by assumption) he hq
  ·exact join _ (λ kk x Q hx hqq=>both (by assumption) hx hqq) he hq
  ·exact joinr _ (λ kk x Q hx hqq=>both (by assumption) hx hqq) he hq
  ·cases he
 |block id c ih=>
  intro h ρ s a w g k r Q he hr hq;simp only[ev]at he
  have blk: ∀{ρ:Type} {kk:Ex->St->Option ρ} {r:ρ} {Q:Exit->Act->World->Prop} {hc:H},ev E n c hc s (inBlock id kk)=some r->
   (∀e s' a' w' g',Rel E C s' a' w' g'->kk e s'=some r->Q e.to a' w')->(Code.block id c).wp P Q a w:=by
   intro ρ kk r Q hc hh hqq;refine wp_block (ih hc hh hr λ e s' a' w' g' hr' hk=> ?_)
   cases e with
   |normal=>exact hqq .normal _ _ _ _ hr' hk
   |ret=>exact hqq .ret _ _ _ _ hr' hk
   |exit i=>
    simp only[inBlock,cond_eq_ite]at hk;simp only[Ex.to,Exit.inBlock];split at hk
    ·rename_i hb;rw[if_pos (aal hb)];exact hqq .normal _ _ _ _ hr' hk
    ·rename_i hb;rw[if_neg (λ e=>hb (by rw[e];simp))];exact hqq (.exit i) _ _ _ _ hr' hk
  split at he
  ·exact blk he hq
  ·exact join _ (λ kk x Q hx hqq=>blk hx hqq) he hq
  ·exact joinr _ (λ kk x Q hx hqq=>blk hx hqq) he hq
  ·cases he
 |loop c ih=>
  intro h ρ s a w g k r Q he hr hq;simp only[ev]at he;split at he
  ·rename_i j hc;simp only[cond_eq_ite]at he;split at he
   ·cases he
   ·rename_i hjo;have hjo:jOk j=true:=by simpa using hjo
    obtain⟨x,hx,hl⟩:=aaZ.1 he;obtain⟨g1,hr1⟩:=OU hjo hr hx
    refine Ve (λ m a w=> ∃(x:j.V) (g:Gh),cu (ρ:=ρ) (λ x rec=>ev E n c hc (unpack j x) λ e s'=>match e with
     | .normal=>(UF E j s').bind rec
     |e=>k e s') m x=some r/\Rel E C (unpack j x) a w g) ⟨x,g1,hl,hr1⟩ λ m a w hI=> ?_
    obtain⟨x,g,hl,hr⟩:=hI
    cases m with
    |zero=>simp only[cu]at hl;cases hl
    |succ m=>
     simp only[cu]at hl;refine ih hc hl hr λ e s' a' w' g' hr' hk=> ?_
     cases e with
     |normal=>
      obtain⟨y,hy,hk⟩:=aaZ.1 hk;obtain⟨g2,hr2⟩:=OU hjo hr' hy;exact⟨m,Nat.lt_succ_self m,y,g2,hk,hr2⟩
     |exit i=>exact hq (.exit i) _ _ _ _ hr' hk
     |ret=>exact hq .ret _ _ _ _ hr' hk
  ·cases he
 |_=>intro h ρ s a w g k r Q he;simp only[ev]at he;cases he
end
end Go.AM
end
section
namespace Go.AM
open Go
section
variable {P:Program} {E:Env} {C:Ctx} {s s':St} {a a':Act} {w w':World} {g g':Gh} {o:Oper} {Q:Exit->Act->World->Prop}
theorem yN: ∀(ps:List PK) (i:Nat) (cs:List CV) (vs:List Value) (s0:St),BU w g ps i cs vs->
 (∀n,n<i\/i+ps.length<=n->(oV ps i cs s0).tm n=s0.tm n)/\
 (∀k v,vs[k]? =some v-> ∀(u:St) (a:Act),TV u a w g (.tm (i+k)) ((oV ps i cs s0).tm (i+k)).1 v)/\
 (∀n b,(oV ps i cs s0).bx n=some b->s0.bx n=some b\/BR w g n b)
 | [],i,cs,vs,s0,h=>by
   refine⟨λ n _=>rfl,λ k v hv=> ?_,λ n b hb=> .inl hb⟩;obtain⟨_,rfl⟩:cs= []/\vs= []:=h;simp at hv
 | .val ag want::ps,i,cs,vs,s0,h=>by
   obtain⟨v0,ws,rfl,hv,h⟩: ∃v ws,vs=v::ws/\BZ w g (.tm i) 0 ag (cs.take want.length) v/\BU w g ps (i+1) (cs.drop want.length) ws:=h;obtain⟨k1,k2,k3⟩:=yN ps (i+1) (cs.drop want.length) ws {s0 with tm:=put s0.tm i (.val ag (cs.take want.length),0)} h;refine⟨λ n hn=> ?_,λ k v hk u a=> ?_,λ n b hb=> ?_⟩
   ·simp only[oV];rw[k1 n (by simp at hn;omega)];exact bF _ _ _ (by simp at hn;omega)
   ·simp only[oV]
    cases k with
    |zero=>
     simp only[aaM,aae]at hk;subst hk;rw[aaU,k1 i (by omega)];simp only[bg];exact hv
    |succ k=>
     have:=k2 k v (by simpa using hk) u a;rw[show i+(k+1)=i+1+k by omega];exact this
   ·exact k3 n b hb
 | .io want::ps,i,cs,vs,s0,h=>by
   obtain⟨v0,ws,rfl,hv,h⟩: ∃v ws,vs=v::ws/\BZ w g (.tm i) 0 false (cs.take want.length) v/\BU w g ps (i+1) (cs.drop want.length) ws:=h;obtain⟨k1,k2,k3⟩:=yN ps (i+1) (cs.drop want.length) ws {s0 with tm:=put s0.tm i (.val false (cs.take want.length),0)} h;refine⟨λ n hn=> ?_,λ k v hk u a=> ?_,λ n b hb=> ?_⟩
   ·simp only[oV];rw[k1 n (by simp at hn;omega)];exact bF _ _ _ (by simp at hn;omega)
   ·simp only[oV]
    cases k with
    |zero=>
     simp only[aaM,aae]at hk;subst hk;rw[aaU,k1 i (by omega)];simp only[bg];exact hv
    |succ k=>
     have:=k2 k v (by simpa using hk) u a;rw[show i+(k+1)=i+1+k by omega];exact this
   ·exact k3 n b hb
 | .rptr want::ps,i,cs,vs,s0,h=>by
   obtain⟨v0,ws,rfl,hv,h⟩: ∃v ws,vs=v::ws/\(∃b off sg,v= .pointer (some ⟨b,off,none⟩)/\Nz w g.F ⟨b,off,none⟩ sg/\bD (cs.take want.length)=true/\aF w g (.tm i) 0 (cs.take want.length) sg)/\BU w g ps (i+1) (cs.drop want.length) ws:=h;obtain⟨k1,k2,k3⟩:=yN ps (i+1) (cs.drop want.length) ws {s0 with tm:=put s0.tm i (.paddr (cs.take want.length) 0,0)} h;refine⟨λ n hn=> ?_,λ k v hk u a=> ?_,λ n b hb=> ?_⟩
   ·simp only[oV];rw[k1 n (by simp at hn;omega)];exact bF _ _ _ (by simp at hn;omega)
   ·simp only[oV]
    cases k with
    |zero=>
     simp only[aaM,aae]at hk;subst hk;rw[aaU,k1 i (by omega)];simp only[bg];obtain⟨b,off,sg,e1,e2,e3,e4⟩:=hv;exact⟨⟨b,off,none⟩,sg,e1,e2,e3,e4⟩
    |succ k=>
     have:=k2 k v (by simpa using hk) u a;rw[show i+(k+1)=i+1+k by omega];exact this
   ·exact k3 n b hb
 | .clo f want::ps,i,cs,vs,s0,h=>by
   obtain⟨v0,ws,rfl,hv,h⟩: ∃v ws,vs=v::ws/\(∃b off sg,v= .func (.func f) #[] #[.pointer (some ⟨b,off,none⟩)]/\Nz w g.F ⟨b,off,none⟩ sg/\bD (cs.take want.length)=true/\aF w g (.tm i) 0 (cs.take want.length) sg)/\BU w g ps (i+1) (cs.drop want.length) ws:=h;obtain⟨k1,k2,k3⟩:=yN ps (i+1) (cs.drop want.length) ws {s0 with tm:=put s0.tm i (.clo f [.paddr (cs.take want.length) 0],0)} h;refine⟨λ n hn=> ?_,λ k v hk u a=> ?_,λ n b hb=> ?_⟩
   ·simp only[oV];rw[k1 n (by simp at hn;omega)];exact bF _ _ _ (by simp at hn;omega)
   ·simp only[oV]
    cases k with
    |zero=>
     simp only[aaM,aae]at hk;subst hk;rw[aaU,k1 i (by omega)];simp only[bg];obtain⟨b,off,sg,e1,e2,e3,e4⟩:=hv;exact⟨[.pointer (some ⟨b,off,none⟩)],e1,_,[],rfl,trivial,⟨⟨b,off,none⟩,sg,rfl,e2,e3,e4⟩,rfl⟩
    |succ k=>
     have:=k2 k v (by simpa using hk) u a;rw[show i+(k+1)=i+1+k by omega];exact this
   ·exact k3 n b hb
 | .fn f::ps,i,cs,vs,s0,h=>by
   obtain⟨v0,ws,rfl,hv,h⟩: ∃v ws,vs=v::ws/\v= .func (.func f) #[] #[]/\BU w g ps (i+1) cs ws:=h;obtain⟨k1,k2,k3⟩:=yN ps (i+1) cs ws {s0 with tm:=put s0.tm i (.fn f,0)} h;refine⟨λ n hn=> ?_,λ k v hk u a=> ?_,λ n b hb=> ?_⟩
   ·simp only[oV];rw[k1 n (by simp at hn;omega)];exact bF _ _ _ (by simp at hn;omega)
   ·simp only[oV]
    cases k with
    |zero=>
     simp only[aaM,aae]at hk;subst hk;rw[aaU,k1 i (by omega)];simp only[bg];exact hv
    |succ k=>
     have:=k2 k v (by simpa using hk) u a;rw[show i+(k+1)=i+1+k by omega];exact this
   ·exact k3 n b hb
 | .ptr want::ps,i,cs,vs,s0,h=>by
   obtain⟨v0,ws,rfl,⟨hv,hbx⟩,h⟩: ∃v ws,vs=v::ws/\(v= .pointer (some ⟨g.at_ i,0,none⟩)/\BR w g i ⟨0,(cs.take want.length).map λ c=>(c,0)⟩)/\BU w g ps (i+1) (cs.drop want.length) ws:=h
   obtain⟨k1,k2,k3⟩:=yN ps (i+1) (cs.drop want.length) ws
    {tm:=put s0.tm i (.addr ⟨.box i,0,[],0,none⟩,0),bx:=put s0.bx i (some ⟨0,(cs.take want.length).map λ c=>(c,0)⟩)} h
   refine⟨λ n hn=> ?_,λ k v hk u a=> ?_,λ n b hb=> ?_⟩
   ·simp only[oV];rw[k1 n (by simp at hn;omega)];exact bF _ _ _ (by simp at hn;omega)
   ·simp only[oV]
    cases k with
    |zero=>
     simp only[aaM,aae]at hk;subst hk;rw[aaU,k1 i (by omega)];simp only[bg];exact⟨⟨abA _,λ _ _ _ _ _ j x c v hx _=>by simp at hx⟩,i,rfl,λ _ _ _=>hv⟩
    |succ k=>
     have:=k2 k v (by simpa using hk) u a;rw[show i+(k+1)=i+1+k by omega];exact this
   ·rcases k3 n b hb with hb|hb
    ·by_cases hn:n=i
     ·subst hn;simp only[bg,aae]at hb;subst hb;exact .inr hbx
     ·simp only[bF _ _ _ hn]at hb;exact .inl hb
    ·exact .inr hb
def Xd (tmps:Array Value):ResultVar->Sem Value
 | .tmp t=>pure (tmps.getD t undef)
 | .cell a t=>do loadVar t (←asAddr (tmps.getD a undef))
theorem EZ {hs:List CV} {hv:List Value} {ag:Bool} {ds cs:List CV} {v:Value} {vv:List Value} (hl:hv.length=hs.length) (hdl:v.cells.toList.length=ds.length)
 (h:aF w g .hand 0 (hs++ds++cs) (hv++v.cells.toList++vv)) (hag:isAgg v=ag):BZ w g .hand hs.length ag ds v:=by
 refine⟨hag,?_⟩;have:=h.sub hs.length ds.length;rw[aaW]at this;rw[aaA,abL,abG]at this;rw[←hl]at this ⊢;rw[aaA,abL,←hdl,abG]at this;exact this
theorem Y7 (hT:wE P E.ty): ∀(vs:List ResultVar) (rs:List (Bool×List (Sh×Tg))) (s:St) (g:Gh) (hs:List CV) (hv:List Value) (cs:List CV) (s':St),Rel E C s a w g->aF w g .hand 0 hs hv->sS E s vs rs=some (cs,s')->
 ∃g' vals,Rel E C s' a w g'/\aF w g' .hand 0 (hs++cs) (hv++vals.flatMap (·.cells.toList))/\(vs.mapM (Xd a.tmps)).run P w= .ok vals w/\Tagged cs (rs.flatMap (·.2))/\g'.at_=g.at_/\
  (∀rest,(resT rs (cs++rest)).2=rest/\lI w g' .hand hs.length (resT rs (cs++rest)).1 vals)
 | [],[],s,g,hs,hv,cs,s',h,hh,hr=>by
   simp only[sS,aae,aas]at hr;obtain⟨rfl,rfl⟩:=hr;exact⟨g,[],h,by simpa using hh,by simp[Sem.run_pure],rfl,rfl,λ rest=>⟨rfl,rfl⟩⟩
 | [],_::_,s,g,hs,hv,cs,s',h,hh,hr=>by simp[sS]at hr
 | .tmp _::_,[],s,g,hs,hv,cs,s',h,hh,hr=>by simp[sS]at hr
 | .cell _ _::_,[],s,g,hs,hv,cs,s',h,hh,hr=>by simp[sS]at hr
 | .tmp t::vs,(ag,want)::rs,s,g,hs,hv,cs,s',h,hh,hr=>by
   simp only[sS]at hr;split at hr
   ·rename_i ds us hg;split at hr
    ·rename_i ds' s2 hrest;simp only[aae,aas]at hr;obtain⟨rfl,rfl⟩:=hr;obtain⟨g1,r1,k1,a1,kp1,kb1,hag,htg⟩:=Ic (x:= .tmp t) h hh hg;obtain⟨g2,vals,r2,k2,hrun,htg2,a2,hts⟩:=Y7 hT vs rs (s.dM us) g1 (hs++ds) (hv++(a.eval (.tmp t)).cells.toList) ds' s2 r1 k1 hrest;have hlen:=hh.length;have hdl:(a.eval (.tmp t)).cells.toList.length=ds.length:=by have:=k1.length;simp only[aap]at this;omega
     refine⟨g2,a.eval (.tmp t)::vals,r2,by rw[←aaA,abg,←aaA];exact k2,?_,by rw[abg];exact htg.append htg2,a2.trans a1,λ rest=> ?_⟩
     ·rw[List.mapM_cons,Sem.run_bind];simp only[Xd,Sem.run_pure,Result.andThen_ok,Sem.run_bind,hrun];rfl
     ·have hl:want.length=ds.length:=by have:=congrArg List.length htg;simpa using this.symm
      simp only[resT,aaA,hl,abG,abL];obtain⟨q1,q2⟩:=hts rest;refine⟨q1,_,vals,rfl,EZ hlen hdl k2 hag,?_⟩;rw[←aap];exact q2
    ·cases hr
   ·cases hr
 | .cell t ty::vs,(ag,want)::rs,s,g,hs,hv,cs,s',h,hh,hr=>by
   simp only[sS]at hr;split at hr
   ·rename_i p i hx hi;split at hr
    ·rename_i cs0 hps hc;simp only[cond_eq_ite,aad]at hr;split at hr
     ·rename_i hcond;obtain⟨⟨hag,hlen0⟩,hnd⟩:=hcond;have hag:i.ag=ag:=by simpa using hag
      have hlen0:=aal hlen0;split at hr
      ·rename_i ds us hw hu;split at hr
       ·rename_i ds' s2 hrest;simp only[aae,aas]at hr;obtain⟨rfl,rfl⟩:=hr;have htv:=h.tm t;rw[hx]at htv;obtain⟨_,htv⟩:Old s p/\_:=htv;rw[hps]at htv;obtain⟨n,hn,htv⟩:=htv;obtain⟨hroot,hlenc⟩:=h.pl hc;obtain⟨g1,r1,k1,a1,kp1,kb1⟩:=Ah h hh hc hw hu
        have hb: ∃b,s.bx n=some b/\b.inst=p.inst:=by
         have:=hc;rw[bI]at this;obtain⟨cells,e,_⟩:=this;rw[hn]at e;simp only[aB]at e
         cases hb:s.bx n with
         |none=>rw[hb]at e;simp at e
         |some b=>rw[hb]at e;simp only[aae,aas]at e;exact⟨b,rfl,e.1⟩
        obtain⟨b,hb,hbi⟩:=hb;obtain⟨cur,et,hheap,_⟩:=h.bx n b hb;have hrv:aC a w g p.root=cur.toList:=by rw[hn];simp only[aC,hheap]
        have hvl:(((aC a w g p.root).drop p.cell).take want.length).length=i.cells.length:=by rw[hroot.length,hlenc,hlen0]
        obtain⟨v,hrun,h1,h2⟩:=pO (P:=P) (w:=w) hT hi (g.at_ n) p.cell _ hvl (λ j hj=>by
         rw[hvl]at hj;rw[cell_of_heap hheap,hrv,aaj,if_pos (by omega),aan];simp)
        have hvr:=oQ (mk:=λ k=>dJ p.root (p.cell+k)) (i:=i) (v:=v) (cs:=cs0) (λ ha=>by
         rw[hag]at ha;rw[ha]at hnd
         simpa using hnd) h1 h2 (aF.of _ _ _ hroot.length λ k c v hk hv=>by
          obtain⟨u,hu,hr⟩:=hroot.get cs0 p.cell _ k c hk;rw[hu]at hv;cases hv;simpa using hr)
        have hcells:v.cells.toList=((aC a w g p.root).drop p.cell).take want.length:=by
         cases ha:i.ag with
         |true=>rw[h1 ha];simp[Value.cells]
         |false=>
          have:=hvr.1;rw[ha]at this;rw[aJ this,h2 ha]
        rw[←hcells]at k1;obtain⟨g2,vals,r2,k2,hrun2,htg2,a2,hts⟩:=Y7 hT vs rs (s.dM us) g1 (hs++ds) (hv++v.cells.toList) ds' s2 r1 k1 hrest;have hlen:=hh.length;have hdl:v.cells.toList.length=ds.length:=by have:=k1.length;simp only[aap]at this;omega
        have hload:(Xd a.tmps (.cell t ty)).run P w= .ok v w:=by
         have e:a.tmps.getD t undef= .pointer (some ⟨g.at_ n,p.cell,none⟩):=htv b hb hbi;simp only[Xd,e,asAddr];simp only[Instr.loadAt,Instr.sureAddr]at hrun;exact hrun
        refine⟨g2,v::vals,r2,by rw[←aaA,abg,←aaA];exact k2,?_,by rw[abg];exact(dZ hw).append htg2,a2.trans a1,λ rest=> ?_⟩
        ·rw[List.mapM_cons,Sem.run_bind,hload];simp only[Result.andThen_ok,Sem.run_bind,hrun2];rfl
        ·have hl:want.length=ds.length:=by have:=congrArg List.length (dZ hw);simpa using this.symm
         simp only[resT,aaA,hl,abG,abL];obtain⟨q1,q2⟩:=hts rest;refine⟨q1,_,vals,rfl,EZ hlen hdl k2 (hvr.1.trans hag),?_⟩;rw[←aap];exact q2
       ·cases hr
      ·cases hr
     ·cases hr
    ·cases hr
   ·cases hr
theorem UN {fn:Func} {tmps:Array Value} {vals:List Value} (h:(fn.results.toList.mapM (Xd tmps)).run P w= .ok vals w):
 (results fn tmps).run P w= .ok (match vals with| [v]=>v|vs=> .tuple vs.toArray) w:=by
 have e:results fn tmps=(fn.results.mapM (Xd tmps)>>=λ vs=>pure (if h:vs.size=1 then vs[0]else .tuple vs)):=by
  unfold results;congr 1
 rw[e,Array.mapM_eq_mapM_toList,Sem.run_bind];simp only[map_eq_pure_bind,Sem.run_bind,h,Result.andThen_ok,Sem.run_pure]
 match vals with
 | []=>rfl
 | [v]=>rfl
 |x::y::vs=>rfl
end
end Go.AM
end
section
namespace Go.AM
open Go
section
variable {P:Program} {E:Env} {C:Ctx} {s s':St} {a a':Act} {w w':World} {g g':Gh} {o:Oper} {Q:Exit->Act->World->Prop}
def jX (P:Program) (c:Spec):Prop:=
 P.funcs[c.sig.fn]? =some c.fn/\(c.fn.name== "runtime.NumGoroutine")=false/\Nat.ble c.sig.params.length c.fn.ntmps=true
theorem Iw: ∀{cs ds:List CV} {want:List (Sh×Tg)},asIs cs want=some ds->ds=cs/\Tagged cs want
 | [],ds,[],h=>by simp only[asIs,aae]at h;exact⟨h.symm,rfl⟩
 | [],_,_::_,h=>by cases h
 |_::_,_,[],h=>by cases h
 |c::cs,ds,(sh,tg)::want,h=>by
  simp only[asIs,cond_eq_ite,aad]at h;split at h
  ·rename_i hc;obtain⟨⟨h1,h2⟩,h3⟩:=hc;obtain⟨ds',hd,rfl⟩:=aaG.1 h;obtain⟨rfl,ht⟩:=Iw hd;have e1:=Sh.eq_of_beq h1;have e2:c.tg=tg:=by cases htg:c.tg<;>cases tg<;>rw[htg]at h2 h3<;>first|rfl|(simp[Tg.le]at h2;done)|(simp[Tg.le]at h3;done)
   refine⟨rfl,?_⟩;simp only[Tagged,abf]at ht ⊢;rw[ht,e1,e2]
  ·cases h
theorem XL {α:Type} {c:Bool} {x:Option α} {y:α} (h:(bif c then x else none)=some y):c=true/\x=some y:=by
 cases c with
 |true=>exact⟨rfl,h⟩
 |false=>simp at h
theorem out_ok {w0:World} {g0:Gh} (h:Rel E C s a w' g'): ∀(ps:List PK) (i:Nat) (vs:List Value) (cs ds:List CV),qR s ps i=some ds->BU w0 g0 ps i cs vs->(∀k v,vs[k]? =some v->C.par (i+k)=some v)->(∀k,acR ps k=true->E.fix (i+k)=true)->
 ZJ w' g0 g' ps i vs ds/\Tagged ds (ps.flatMap PK.outs)
 | [],i,vs,cs,ds,ho,_,_,_=>by simp only[qR,aae]at ho;subst ho;exact⟨trivial,rfl⟩
 | .val ag want::ps,i,vs,cs,ds,ho,⟨v,ws,e,_,hE⟩,hp,hf=>by
   subst e;exact out_ok h ps (i+1) ws _ ds ho hE (λ k v hk=>by have:=hp (k+1) v (by simpa using hk);rwa [show i+(k+1)=i+1+k by omega]at this) λ k hk=>by have:=hf (k+1) (by simpa [acR]using hk);rwa [show i+(k+1)=i+1+k by omega]at this
 | .rptr want::ps,i,vs,cs,ds,ho,⟨v,ws,e,_,hE⟩,hp,hf=>by
   subst e;exact out_ok h ps (i+1) ws _ ds ho hE (λ k v hk=>by have:=hp (k+1) v (by simpa using hk);rwa [show i+(k+1)=i+1+k by omega]at this) λ k hk=>by have:=hf (k+1) (by simpa [acR]using hk);rwa [show i+(k+1)=i+1+k by omega]at this
 | .fn f::ps,i,vs,cs,ds,ho,⟨v,ws,e,_,hE⟩,hp,hf=>by
   subst e;exact out_ok h ps (i+1) ws _ ds ho hE (λ k v hk=>by have:=hp (k+1) v (by simpa using hk);rwa [show i+(k+1)=i+1+k by omega]at this) λ k hk=>by have:=hf (k+1) (by simpa [acR]using hk);rwa [show i+(k+1)=i+1+k by omega]at this
 | .clo f want::ps,i,vs,cs,ds,ho,⟨v,ws,e,_,hE⟩,hp,hf=>by
   subst e;exact out_ok h ps (i+1) ws _ ds ho hE (λ k v hk=>by have:=hp (k+1) v (by simpa using hk);rwa [show i+(k+1)=i+1+k by omega]at this) λ k hk=>by have:=hf (k+1) (by simpa [acR]using hk);rwa [show i+(k+1)=i+1+k by omega]at this
 | .io want::ps,i,vs,cs,ds,ho,⟨v,ws,e,_,hE⟩,hp,hf=>by
   subst e;simp only[qR]at ho;split at ho
   ·rename_i cs1 ds1 ht hrest;obtain⟨ds2,h1,rfl⟩:=aaG.1 ho;obtain⟨rfl,h2⟩:=Iw h1;obtain⟨k1,k2⟩:=out_ok h ps (i+1) ws _ ds1 hrest hE (λ k v hk=>by have:=hp (k+1) v (by simpa using hk);rwa [show i+(k+1)=i+1+k by omega]at this) λ k hk=>by have:=hf (k+1) (by simpa [acR]using hk);rwa [show i+(k+1)=i+1+k by omega]at this
    have hl:want.length=ds2.length:=by have:=congrArg List.length h2;simpa using this.symm
    have hv:a.eval (.tmp i)=v:=h.par i v (by have:=hp 0 v rfl;simpa using this) (by have:=hf 0 rfl;simpa using this);have htv:=h.tm i;rw[ht,hv]at htv;refine⟨⟨⟨v,rfl,by rw[hl,abG];exact htv⟩,by rw[hl,abL];exact k1⟩,?_⟩;rw[abg];exact h2.append k2
   ·cases ho
 | .ptr want::ps,i,vs,cs,ds,ho,⟨v,ws,e,⟨hv0,_⟩,hE⟩,hp,hf=>by
   subst e;simp only[qR]at ho;split at ho
   ·rename_i p b ds1 ht hb hrest
    ·obtain⟨hc,ho⟩:=XL ho;simp only[aad]at hc;obtain⟨⟨⟨c1,c2⟩,c3⟩,c4⟩:=hc;have c1:=aal c1;have c2:=Root.same_eq c2;have c3:=aal c3
     have c4:p.sub=none:=by
      cases hs:p.sub with
      |none=>rfl
      |some q=>rw[hs]at c4;cases c4
     obtain⟨ds2,h1,rfl⟩:=aaG.1 ho;obtain⟨rfl,h2⟩:=Iw h1;obtain⟨k1,k2⟩:=out_ok h ps (i+1) ws _ ds1 hrest hE (λ k v hk=>by have:=hp (k+1) v (by simpa using hk);rwa [show i+(k+1)=i+1+k by omega]at this) λ k hk=>by have:=hf (k+1) (by simpa [acR]using hk);rwa [show i+(k+1)=i+1+k by omega]at this
     have hl:want.length=(b.cells.map (·.1)).length:=by have:=congrArg List.length h2;simpa using this.symm
     have hv:a.eval (.tmp i)=v:=h.par i v (by have:=hp 0 v rfl;simpa using this) (by have:=hf 0 rfl;simpa using this);have htv:=h.tm i;rw[ht]at htv;obtain⟨_,htv⟩:Old s p/\_:=htv;rw[c4]at htv;obtain⟨n,hn,htv⟩:=htv;rw[c2]at hn;cases hn;have hat:=htv b hb c1.symm;rw[hv,hv0]at hat
     have hat:g'.at_ i=g0.at_ i:=by
      simp only[Value.pointer.injEq,aae,Addr.mk.injEq]at hat;exact hat.1.symm
     obtain⟨cur,et,r1,r2,r3,r4⟩:=h.bx i b hb;refine⟨⟨⟨hat,cur,et,r1,r2,r3,?_⟩,by rw[hl,abL];exact k1⟩,?_⟩
     ·rw[hl,abG];simp only[mQ];exact r4
     ·rw[abg];exact h2.append k2
   ·cases ho
theorem MR {i:Nat}: ∀{l:List (Sh×Tg)} {j k:Nat} {sh:Sh},l[k]? =some (sh,.dead)->(i,j+k)∈MI i l j
 | [],_,_,_,h=>by simp at h
 |(s0,tg)::l,j,0,sh,h=>by
  simp only[aaM,aae,aas]at h;obtain⟨_,rfl⟩:=h;simp[MI]
 |(s0,tg)::l,j,k+1,sh,h=>by
  have:=MR (i:=i) (j:=j+1) (k:=k) (l:=l) (by simpa using h);rw[show j+1+k=j+(k+1) by omega]at this;cases tg<;>simp only[MI]<;>first|exact this|exact aaX _ this
theorem QW: ∀{ps:List PK} {i k:Nat} {want:List (Sh×Tg)} {j:Nat} {sh:Sh},ps[k]? =some (.ptr want)->want[j]? =some (sh,.dead)->(i+k,j)∈Ui ps i
 | [],_,_,_,_,_,h,_=>by simp at h
 |p::ps,i,0,want,j,sh,h,hj=>by
  simp only[aaM,aae]at h;subst h;simp only[Ui];refine aaH _ ?_;have:=MR (i:=i) (j:=0) hj;simpa using this
 |p::ps,i,k+1,want,j,sh,h,hj=>by
  have:=QW (ps:=ps) (i:=i+1) (k:=k) (by simpa using h) hj;rw[show i+1+k=i+(k+1) by omega]at this;cases p<;>simp only[Ui]<;>first|exact this|exact abl _ this
theorem Y4 {g0:Gh}: ∀{ps:List PK} {i:Nat} {vs:List Value} {cs:List CV} {k:Nat} {want:List (Sh×Tg)},ZJ w g0 g ps i vs cs->ps[k]? =some (.ptr want)->g.at_ (i+k)=g0.at_ (i+k)
 | [],_,_,_,_,_,_,h=>by simp at h
 |p::ps,i,vs,cs,0,want,hp,h=>by
  simp only[aaM,aae]at h;subst h;exact hp.1.1
 |p::ps,i,vs,cs,k+1,want,hp,h=>by
  have h':ps[k]? =some (.ptr want):=by simpa using h
  have key: ∀{vs' cs'},ZJ w g0 g ps (i+1) vs' cs'->g.at_ (i+(k+1))=g0.at_ (i+(k+1)):=λ hh=>by
   have:=Y4 hh h'
   rwa [show i+1+k=i+(k+1) by omega]at this
  cases p with
  |ptr want'=>exact key hp.2
  |io want'=>exact key hp.2
  |val ag want'=>exact key hp
  |rptr want'=>exact key hp
  |fn f=>exact key hp
  |clo f want'=>exact key hp
theorem aes {E:Env} (hT:wE P E.ty) {c:Spec} (hF:jX P c) (hnt:E.nt=c.fn.ntmps) (hfx:E.fix=acR c.sig.params) (hkp:E.kept=Ui c.sig.params 0) {f:c.sig.In->Option c.sig.Out}
 (h: ∀x r,f x=some r-> ∃code,c.fn.body=some code/\ ∀(C:Ctx) (a:Act) (w:World) (g:Gh),Rel E C (enter c.sig x) a w g->
  code.wp P (λ e a' w'=>(e= .normal\/e= .ret)/\ ∃s' g',Rel E C s' a' w' g'/\leave E c.sig c.fn.results.toList s'=some r) a w):Good P E.glob c.sig f:=by
 intro x r hx;obtain⟨code,hb,hw⟩:=h x r hx;obtain⟨hfn,hname,hnt2⟩:=hF;refine⟨⟨_,hfn,by rw[hb];rfl,hname⟩,λ w g vals hEnt hG hown hfz hfr=> ?_⟩;refine calls_of_wp hfn hb ?_
 let C:Ctx:=⟨w,g.F,λ b=> ∃ow,g.own b=some ow,λ n=>vals[n]?,λ n j=>open Classical in if(n,j)∈E.kept then Vm w g n j else none⟩
 have hlen:=hEnt.length;have hnt2:=aa6 hnt2;obtain⟨k1,k2,k3⟩:=yN _ 0 _ vals qI hEnt
 let a0:Act:={tmps:=vals.toArray++Array.replicate (c.fn.ntmps-vals.toArray.size) undef,defers:=[]}
 have hR:Rel E C (enter c.sig x) a0 w g:=by
  have hev: ∀m v,vals[m]? =some v->a0.eval (.tmp m)=v:=λ m v hv=>by
   have hm:m<vals.length:=by
    rcases aaE m vals.length with h|h
    ·exact h
    ·simp[aah h]at hv
   simp only[a0,Act.eval,aa4];rw[Array.getElem?_append_left (by simpa using hm)];simp[hv]
  refine⟨λ m=> ?_,λ m b hb=> ?_,?_,rfl,λ gl cs hg=> ?_,?_,λ m v hv _=>hev m v hv,λ n j v hv=> ?_⟩
  ·by_cases hm:m<vals.length
   ·have hv:vals[m]? =some vals[m]:=aac hm
    have e:a0.eval (.tmp m)=vals[m]:=by
     simp only[a0,Act.eval,aa4];rw[Array.getElem?_append_left (by simpa using hm)];simp[hm]
    rw[e];have:=k2 m _ hv (enter c.sig x) a0;rw[aaW]at this;exact this
   ·have:(enter c.sig x).tm m=(.dead,0):=k1 m (.inr (by omega));rw[this];exact trivial
  ·rcases k3 m b hb with h|h
   ·cases h
   ·exact h
  ·show(vals.toArray++Array.replicate (c.fn.ntmps-vals.toArray.size) undef).size=E.nt;rw[hnt];simp only[Array.size_append,abY,acg];omega
  ·obtain⟨q1,vs,q2,q3⟩:=hG gl cs hg;exact⟨q1,vs,q2,q3⟩
  ·exact⟨rfl,rfl,rfl,aaq _,λ _ _ _=>rfl,λ b ow e=>⟨.inl ⟨ow,e⟩,hown b ow e⟩,Keeps.refl _ _,λ b o e=>⟨.inl e,hfz b o e⟩,hfr⟩
  ·simp only[C]at hv;split at hv
   ·rename_i hm;refine⟨hm,λ cs _=> ?_⟩;simp only[Vm]at hv;simp only[aC];split at hv
    ·rename_i hb;simp only[hb];exact hv
    ·cases hv
   ·cases hv
 refine wp_mono (hw C a0 w g hR) λ e a' w' hq=> ?_;obtain⟨he,s',g',hr,hl⟩:=hq
 have fin:bodyPost P c.fn (λ e w'=> ∃v g',e= .returned v/\Base w g.F (λ b=> ∃ow,g.own b=some ow) w' g'/\
  ZK w' g' .hand (resT c.sig.res (retag c.sig.outs (cellsOf _ r))).1 v/\ZJ w' g g' c.sig.params 0 vals (resT c.sig.res (retag c.sig.outs (cellsOf _ r))).2/\afK w w' g c.sig.params) .ret a' w':=by
  unfold leave at hl;obtain⟨hkept,hl⟩:=XL hl;split at hl
  ·rename_i cs s2 hres;split at hl
   ·rename_i ds hout;obtain⟨g2,vals2,r2,q1,q2,q3,q4,q5⟩:=Y7 hT _ _ s' g' [] [] cs s2 hr rfl hres;obtain⟨p1,p2⟩:=out_ok r2 _ 0 vals _ ds hout hEnt (λ k v hk=>by rw[aaW];exact hk) (λ k hk=>by rw[hfx,aaW];exact hk)
    have hret:retag c.sig.outs (cellsOf _ r)=cs++ds:=by
     have htag:Tagged (cs++ds) c.sig.outs:=q3.append p2;rw[qG _ _ _ hl,wU htag]
    refine⟨hr.defers,_,UN q2,_,g2,rfl,r2.base,?_,?_,?_⟩
    rotate_left
    ·rw[hret,(q5 ds).1];exact p1
    ·intro i want j sh v hps hw hv
     have hmem:(i,j)∈E.kept:=by
      rw[hkp];have:=QW (i:=0) hps hw;simpa using this
     have hC:C.kept i j=some v:=by simp only[C];rw[if_pos hmem];exact hv
     have hk:=aaV.1 (show(E.kept.all _)=true from hkept) _ hmem;simp only at hk;split at hk
     ·rename_i cs1 hc1;have hv2:=(hr.aux i j v hC).2 _ hc1;have hat:=Y4 p1 hps;rw[aaW,q4]at hat;simp only[aC,hat]at hv2;simp only[Vm];split at hv2
      ·rename_i hb;simp only[hb];exact hv2
      ·simp at hv2
     ·cases hk
    rw[hret];have q6:=(q5 ds).2;rw[acy]at q6;generalize (resT c.sig.res (cs++ds)).1=ts at q6
    match ts,vals2,q6 with
    | [],[],q6=>exact⟨[],rfl,q6⟩
    | [(ag,ds)],[v],q6=>
      obtain⟨v',ws,e1,e2,e3⟩:=q6;simp only[aa5]at e1;obtain⟨rfl,rfl⟩:=e1;exact e2
    | [(ag,ds)],[],q6=>obtain⟨v',ws,e1,_⟩:=q6;cases e1
    | [(ag,ds)],x::y::zs,q6=>
      obtain⟨v',ws,e1,e2,e3⟩:=q6;simp only[aa5]at e1;obtain⟨rfl,rfl⟩:=e1;cases e3
    |t1::t2::ts,[],q6=>obtain⟨v',ws,e1,_⟩:=q6;cases e1
    |(ag1,d1)::(ag2,d2)::ts,[v],q6=>
     obtain⟨v',ws,e1,_,e3⟩:=q6;simp only[aa5]at e1;obtain⟨rfl,rfl⟩:=e1;obtain⟨v',ws,e1,_⟩:=e3;cases e1
    |t1::t2::ts,v1::v2::vs,q6=>exact⟨v1::v2::vs,rfl,q6⟩
    | [],v::vs,q6=>cases q6
   ·cases hl
  ·cases hl
 rcases he with rfl|rfl
 ·exact fin
 ·exact fin
theorem VT (p:Prg) (hT:wE P p.ty) (hm:P.follows .mixedOrders=true) (hF: ∀i,(p.spec i).ext=none->jX P (p.spec i))
 (hX: ∀i e,(p.spec i).ext=some e->Good P p.glob (p.spec i).sig e): ∀n i,Good P p.glob (p.spec i).sig (p.run n i):=by
 intro n
 induction n with
 |zero=>intro i x r h;cases h
 |succ n ih=>
  intro i
  cases hext:(p.spec i).ext with
  |some e=>
   intro x r h;refine hX i e hext x r ?_;have h2:p.phi i n (p.run n) x=some r:=h;unfold Prg.phi at h2;rw[hext]at h2;exact h2
  |none=>
   have hE:PD P (p.env i (p.run n)):=⟨hT,ih⟩;refine aes (E:=p.env i (p.run n)) hT (hF i hext) rfl rfl rfl λ x r h=> ?_;have h2:p.phi i n (p.run n) x=some r:=h;unfold Prg.phi at h2;rw[hext]at h2;simp only at h2
   have hbody: ∃c,(p.spec i).fn.body=some c:=by
    cases hb:(p.spec i).fn.body with
    |some c=>exact⟨c,rfl⟩
    |none=>rw[hb]at h2;simp[ev]at h2
   obtain⟨c,hb⟩:=hbody;rw[hb]at h2;simp only[abq]at h2;refine⟨c,hb,λ C a w g hR=> ?_⟩;refine ahu hE hm c _ h2 hR λ e s' a' w' g' hr he=> ?_
   cases e with
   |normal=>exact⟨.inl rfl,s',g',hr,he⟩
   |ret=>exact⟨.inr rfl,s',g',hr,he⟩
   |exit i=>cases he
end
end Go.AM
end
section
namespace Go.AM
open Go
def sumW {α:Type} (f:α->Nat):List α->Nat
 | []=>0
 |x::xs=>f x+sumW f xs
def aeb {α:Type} (p:α->Prop):List α->Prop
 | []=>True
 |x::xs=>p x/\aeb p xs
mutual
def RT.wt {α:Type} (f:α->Nat):RT α->Nat
 | .mk a ks=>f a+RT.wts f ks+1
def RT.wts {α:Type} (f:α->Nat):List (RT α)->Nat
 | []=>0
 |t::ts=>RT.wt f t+RT.wts f ts
end
mutual
def RT.all {α:Type} (p:α->Prop):RT α->Prop
 | .mk a ks=>p a/\RT.ahi p ks
def RT.ahi {α:Type} (p:α->Prop):List (RT α)->Prop
 | []=>True
 |t::ts=>RT.all p t/\RT.ahi p ts
end
mutual
def wt:(sh:Sh)->El sh->Nat
 | .int _,_=>1
 | .bool,_=>1
 | .str,b=>ByteArray.size b+1
 | .sl es,l=>sumW (wtA es) l+1
 | .rsl ss,l=>RT.wts (wtA ss) l+1
 | .dl _,_=>1
 | .mp _ _,_=>1
def wtA:(es:List Sh)->ElA es->Nat
 | [],_=>0
 |s::ss,x=>match ss,x with
  | [],x=>wt s x
  |t::ts,x=>wt s x.1+wtA (t::ts) x.2
end
mutual
def fit:(sh:Sh)->El sh->Prop
 | .int k,n=>(Lit.int k n).wf=true
 | .bool,_=>True
 | .str,_=>True
 | .sl es,l=>aeb (CW es) l
 | .rsl ss,l=>RT.ahi (CW ss) l
 | .dl _,_=>True
 | .mp _ _,_=>True
def CW:(es:List Sh)->ElA es->Prop
 | [],_=>True
 |s::ss,x=>match ss,x with
  | [],x=>fit s x
  |t::ts,x=>fit s x.1/\CW (t::ts) x.2
end
section
variable {w:World} {F:Fz}
theorem MZ {s:Sh} {ss:List Sh} {x:El s} {v:Value} {y:ElA ss} {cs:List Value} (h1:jo w F s x v) (h2:dO w F ss y cs): ∃z:ElA (s::ss),dO w F (s::ss) z (v::cs)/\wtA (s::ss) z=wt s x+wtA ss y/\(fit s x->CW ss y->CW (s::ss) z):=by
 cases ss with
 |nil=>
  have hcs:cs= []:=h2;subst hcs;exact⟨x,⟨v,rfl,h1⟩,by simp only[wtA];omega,λ hf _=>hf⟩
 |cons t ts=>exact⟨(x,y),⟨v,cs,rfl,h1,h2⟩,rfl,λ hf hg=>⟨hf,hg⟩⟩
theorem Gn {s:Sh} {ss:List Sh} {z:ElA (s::ss)} {cs:List Value} (h:dO w F (s::ss) z cs): ∃(x:El s) (y:ElA ss) (v:Value) (ds:List Value),cs=v::ds/\jo w F s x v/\dO w F ss y ds/\wtA (s::ss) z=wt s x+wtA ss y/\(CW (s::ss) z->fit s x/\CW ss y):=by
 cases ss with
 |nil=>
  obtain⟨v,e,hp⟩:=h;exact⟨z,(),v,[],e,hp,rfl,by simp only[wtA];omega,λ hf=>⟨hf,trivial⟩⟩
 |cons t ts=>
  obtain⟨v,ds,e,h1,h2⟩:=h;exact⟨z.1,z.2,v,ds,e,h1,h2,rfl,λ hf=>hf⟩
theorem AP: ∀{es fs:List Sh} {x:ElA es} {y:ElA fs} {cs ds:List Value},dO w F es x cs->dO w F fs y ds-> ∃z:ElA (es++fs),dO w F (es++fs) z (cs++ds)/\wtA (es++fs) z=wtA es x+wtA fs y/\(CW es x->CW fs y->CW (es++fs) z)
 | [],fs,x,y,cs,ds,h1,h2=>by
   have:cs= []:=h1;subst this;exact⟨y,h2,(aaW _).symm,λ _ hg=>hg⟩
 |s::ss,fs,z,y,cs,ds,h1,h2=>by
  obtain⟨x,x2,v,cs2,rfl,k1,k2,k3,k4⟩:=Gn h1;obtain⟨z2,q1,q2,q3⟩:=AP k2 h2;obtain⟨z3,r1,r2,r3⟩:=MZ k1 q1
  exact⟨z3,r1,by
   have e:wtA (s::ss++fs) z3=wt s x+wtA (ss++fs) z2:=r2;rw[e,q2,k3];omega,λ hf hg=>r3 (k4 hf).1 (q3 (k4 hf).2 hg)⟩
theorem JO: ∀{es fs:List Sh} {z:ElA (es++fs)} {cs:List Value},dO w F (es++fs) z cs-> ∃(x:ElA es) (y:ElA fs) (c1 c2:List Value),cs=c1++c2/\dO w F es x c1/\dO w F fs y c2/\wtA (es++fs) z=wtA es x+wtA fs y/\(CW (es++fs) z->CW es x/\CW fs y)
 | [],fs,z,cs,h=>⟨(),z,[],cs,rfl,rfl,h,(aaW _).symm,λ hf=>⟨trivial,hf⟩⟩
 |s::ss,fs,z,cs,h=>by
  obtain⟨x,z2,v,cs2,rfl,k1,k2,k3,k4⟩:=Gn (ss:=ss++fs) h;obtain⟨x2,y,c1,c2,rfl,q1,q2,q3,q4⟩:=JO k2;obtain⟨z3,r1,r2,r3⟩:=MZ k1 q1;refine⟨z3,y,v::c1,c2,rfl,r1,q2,?_,λ hf=>⟨r3 (k4 hf).1 (q4 (k4 hf).2).1,(q4 (k4 hf).2).2⟩⟩;rw[r2];have:wtA (s::ss++fs) z=wt s x+wtA (ss++fs) z2:=k3;rw[this,q3];omega
theorem afw {ss:List Sh} {z:ElA (ss++[.rsl ss])} {cs:List Value} (h:dO w F (ss++[.rsl ss]) z cs): ∃t:RT (ElA ss),pz w F (dO w F ss) t cs/\RT.wt (wtA ss) t=wtA (ss++[.rsl ss]) z/\(CW (ss++[.rsl ss]) z->RT.all (CW ss) t):=by
 obtain⟨x,y,c1,c2,rfl,k1,k2,k3,k4⟩:=JO h;obtain⟨v,rfl,hv⟩: ∃v,c2= [v]/\jo w F (.rsl ss) y v:=k2;refine⟨.mk x y,⟨c1,v,rfl,k1,hv⟩,?_,λ hf=>k4 hf⟩;rw[k3];simp only[RT.wt,wtA,wt];omega
end
structure Vf {H:Type} (B:DataW H->Nat):Prop where
 lit: ∀l,1<=B (.lit l)
 str: ∀b,b.length+1<=B (.lit (.string b))
 nil:1<=B .nil
 slice: ∀es sp,sumW B es+1<=B (.slice es sp)
 agg: ∀ps,sumW B ps<=B (.agg ps)
def vZ (ty:TypeId->Option TyI):List (TypeId×Nat)->Nat->Option (List Sh)
 | [],_=>some []
 |(t,off)::fs,k=>bif Nat.beq off k then match ty t with
  |some j=>(vZ ty fs (k+j.cells.length)).map (j.cells++ ·)
  |none=>none else none
def adt (P:Program) (ty:TypeId->Option TyI) (t:TypeId) (i:TyI):Bool:=
 match P.underlying t with
 |some (.struct fs)=>match vZ ty (fs.toList.map λ f=>(f.type,f.offset)) 0 with
  |some cs=>Sh.Ia cs i.cells
  |none=>false
 |some (.slice e)=>match ty e with
  |some j=> !j.cells.isEmpty
  |none=>false
 |_=>true
def afM (P:Program) (ty:TypeId->Option TyI):Prop:= ∀t i,ty t=some i->adt P ty t i=true
section
variable {H:Type} {enc:TypeId×Value->H} {P:Program} {ty:TypeId->Option TyI} {w:World}
theorem JX {B:DataW H->Nat} {n:Nat} (ih: ∀(t:TypeId) (i:TyI) (cs:List Value) (x:DataW H×List MemPlace),ty t=some i->(i.cells.all λ s=> !s.Ie)=true->DataW.trod enc P w 0 (λ _=>true) true n t cs=some x->
 ∃y:ElA i.cells,dO w (λ b _=>b<w.heap.size) i.cells y cs/\wtA i.cells y<=B x.1/\CW i.cells y) (hc: ∀t i,ty t=some i->P.cellsOf t=i.cells.length) (cs:List Value):
 ∀(fs:List (TypeId×Nat)) (k:Nat) (sh:List Sh) (xs:List (DataW H×List MemPlace)),vZ ty fs k=some sh->(sh.all λ s=> !s.Ie)=true->xs.length=fs.length->
  (∀(i:Nat) (f:TypeId×Nat),fs[i]? =some f->DataW.trod enc P w 0 (λ _=>true) true n f.1 ((cs.drop f.2).take (P.cellsOf f.1))=xs[i]?)->k+sh.length=cs.length->
  ∃y:ElA sh,dO w (λ b _=>b<w.heap.size) sh y (cs.drop k)/\wtA sh y<=sumW B (xs.map (·.1))/\CW sh y
 | [],k,sh,xs,hs,hnm,hl,hf,hk=>by
   simp only[vZ,aae]at hs;subst hs;refine⟨(),?_,abA _,trivial⟩;show cs.drop k= [];exact abn (by simp at hk;omega)
 |(t,off)::fs,k,sh,xs,hs,hnm,hl,hf,hk=>by
  simp only[vZ,cond_eq_ite]at hs;split at hs
  ·rename_i hoff;have hoff:=aal hoff;subst hoff;split at hs
   ·rename_i j hj;obtain⟨rest,hr,rfl⟩:=aaG.1 hs
    match xs,hl with
    |x::xs,hl=>
     have h0:=hf 0 (t,off) rfl;simp only[aaM]at h0;simp only[acv,aad]at hnm;obtain⟨y,q1,q2,q3⟩:=ih t j _ x hj hnm.1 h0
     obtain⟨z,r1,r2,r3⟩:=JX ih hc cs fs (off+j.cells.length) rest xs hr hnm.2 (by simpa using hl) (λ i f hi=>by
      have:=hf (i+1) f (by simpa using hi);simpa using this) (by simp only[aap]at hk;omega)
     rw[hc t j hj]at q1;obtain⟨u,u1,u2,u3⟩:=AP q1 r1;refine⟨u,?_,?_,u3 q3 r3⟩
     ·have:(cs.drop off).take j.cells.length++cs.drop (off+j.cells.length)=cs.drop off:=by
       rw[←List.drop_drop];exact abm _ _
      rw[←this];exact u1
     ·rw[u2];simp only[abf,sumW];omega
   ·cases hs
  ·cases hs
theorem ae2 (hT:wE P ty) (hR:afM P ty) {B:DataW H->Nat} (hB:Vf B): ∀(fuel:Nat) (t:TypeId) (i:TyI) (cs:List Value) (x:DataW H×List MemPlace),ty t=some i->(i.cells.all λ s=> !s.Ie)=true->DataW.trod enc P w 0 (λ _=>true) true fuel t cs=some x->
 ∃y:ElA i.cells,dO w (λ b _=>b<w.heap.size) i.cells y cs/\wtA i.cells y<=B x.1/\CW i.cells y:=by
 have hcells: ∀t i,ty t=some i->P.cellsOf t=i.cells.length:=by
  intro t i hi;obtain⟨info,d,z,hat⟩:=hT.at_ hi;simp only[Program.cellsOf,hat.inf,aaK,abq,hat.size]
 intro fuel
 induction fuel with
 |zero=>intro t i cs x _ _ h;simp[DataW.trod]at h
 |succ n ih=>
  intro t i cs x hi hnm h;obtain⟨info,d,z,hat⟩:=hT.at_ hi;have hd:=hat.desc;unfold o8 at hd;split at hd
  ·
   rename_i e;simp only[aad]at hd;obtain⟨_,hd⟩:=hd;split at hd
   ·rename_i sh hsh;simp only[aad]at hd;obtain⟨hsl,hd⟩:=hd;split at hd
    ·rename_i j hj;simp only[aad]at hd;have hjc:=jy hd.1;have hjm:=hd.2;rw[hsh];rcases DataW.trod_slice hat.und h with⟨rfl,rfl⟩|⟨a,len,cap,elems,rest,m,hm,rfl,rfl,hb,hlc,hcm,hel,hget,_,_⟩
     ·refine⟨kM sh,?_,?_,?_⟩
      ·refine⟨.slice none 0 0,rfl,?_⟩;have:=Pz (w:=w) (g:=⟨λ _=>0,λ _=>none,λ b _=>b<w.heap.size⟩) (ow:= .hand 0) hsl .pure;exact this
      ·have:=hB.nil;show wt sh (kM sh)<=B .nil;cases sh<;>first|(simp only[wt,kM,sumW,RT.wts];omega)|cases hsl
      ·show fit sh (kM sh);cases sh<;>first|exact trivial|cases hsl
     ·obtain rfl:m=n:=by omega
      have hn:P.cellsOf e=sh.n:=by rw[hcells e j hj,hjc,jZ]
      have each: ∀k,k<len-> ∃(y:ElA j.cells) (cells:List Value),cells.length=sh.n/\(∀q,q<sh.n->w.cell? ((a.add (k*sh.n)).add q)=cells[q]?)/\dO w (λ b _=>b<w.heap.size) j.cells y cells/\
       wtA j.cells y<=B ((elems.map (·.1)).getD k .nil)/\CW j.cells y:=by
       intro k hk;have h1:=hget k hk;have hke:k<elems.length:=by omega
       rw[aac hke]at h1;obtain⟨cells,hc,ht⟩:=aaZ.1 h1;obtain⟨_,hcl,hcg⟩:=World.cells?_some hc;obtain⟨y,q1,q2,q3⟩:=ih e j cells _ hj hjm.1 ht;rw[hn]at hcl hcg;refine⟨y,cells,hcl,λ q hq=> ?_,q1,?_,q3⟩
       ·have:=hcg q hq;exact this
       ·simp only[abB,aar,aac hke,aaK,abq];exact q2
      have all: ∀(m:Nat),m<=len-> ∃(l:List (ElA j.cells)) (row:List Value),l.length=m/\row.length=m*sh.n/\(∀q,q<row.length->w.cell? (a.add q)=row[q]?)/\eH (dO w (λ b _=>b<w.heap.size) j.cells) l row/\
       sumW (wtA j.cells) l<=sumW B ((elems.map (·.1)).take m)/\aeb (CW j.cells) l:=by
       intro m
       induction m with
       |zero=>exact λ _=>⟨[],[],rfl,by simp,λ q hq=>by simp at hq,rfl,abA _,trivial⟩
       |succ m ihm=>
        intro hm;obtain⟨l,row,l1,l2,l3,l4,l5,l6⟩:=ihm (by omega);obtain⟨y,cells,c1,c2,c3,c4,c5⟩:=each m (by omega);have hr:=jC (w:=w) (F:=λ b _=>b<w.heap.size) j.cells;refine⟨l++[y],row++cells,by simp[l1],by simp[l2,c1,abr],λ q hq=> ?_,?_,?_,?_⟩
        ·by_cases hq2:q<row.length
         ·rw[aax hq2];exact l3 q hq2
         ·rw[aaz (by omega)];simp only[aap,c1]at hq;have:=c2 (q-row.length) (by omega);rw[←this];congr 1;rw[l2]at hq2 ⊢;unfold Addr.add;by_cases h0:m*sh.n=0
          ·simp[h0]
          ·by_cases h1:q-m*sh.n=0
           ·have:q=m*sh.n:=by omega
            simp[h0,this]
           ·have:q≠0:=by omega
            simp[h0,h1,this];omega
        ·exact hr.append l [y] row cells l4 ⟨cells,[],by simp,c3,rfl⟩
        ·have hke:m<(elems.map (·.1)).length:=by simp;omega
         rw[List.take_succ_eq_append_getElem hke]
         have hs: ∀(f:DataW H->Nat) (aZ bs:List (DataW H)),sumW f (aZ++bs)=sumW f aZ+sumW f bs:=by
          intro f aZ bs
          induction aZ with
          |nil=>simp[sumW]
          |cons a aZ iha=>simp only[List.cons_append,sumW,iha];omega
         have hs2: ∀(f:ElA j.cells->Nat) (aZ bs:List (ElA j.cells)),sumW f (aZ++bs)=sumW f aZ+sumW f bs:=by
          intro f aZ bs
          induction aZ with
          |nil=>simp[sumW]
          |cons a aZ iha=>simp only[List.cons_append,sumW,iha];omega
         rw[hs,hs2];have:(elems.map (·.1)).getD m .nil=(elems.map (·.1))[m]:=by simp[abB,aac hke]
         rw[this]at c4;simp only[sumW];omega
        ·have ha: ∀(aZ bs:List (ElA j.cells)),aeb (CW j.cells) aZ->aeb (CW j.cells) bs->aeb (CW j.cells) (aZ++bs):=by
          intro aZ bs h1 h2
          induction aZ with
          |nil=>exact h2
          |cons a aZ iha=>exact⟨h1.1,iha h1.2⟩
         exact ha l [y] l6 ⟨c5,trivial⟩
      obtain⟨l,row,l1,l2,l3,l4,l5,l6⟩:=all len (aaq _)
      have hbulk:sumW (wtA j.cells) l+1<=B (.slice (elems.map (·.1)) (rest.map (·.1))):=by
       have:=hB.slice (elems.map (·.1)) (rest.map (·.1));rw[aaF (by simp;omega)]at l5;omega
      have hrow:len=0\/ ∃ad,(some a:Option Addr)=some ad/\ad.spot=none/\Nz w (λ b _=>b<w.heap.size) ad row:=by
       by_cases h0:len=0
       ·exact .inl h0
       ·right;have hnpos:sh.n≠0\/sh.n=0:=by omega
        rcases hnpos with hnz|hnz
        ·have hpos:0<row.length:=by rw[l2];exact Nat.mul_pos (by omega) (by omega)
         have hadd: ∀q,q<row.length->w.cell? (a.add q)=row[q]? :=l3
         have hspot:a.spot=none:=by
          have:=hadd 0 hpos;have e0:a.add 0=a:=by simp[Addr.add]
          rw[e0,aac hpos]at this;unfold World.cell? at this;split at this
          ·split at this
           ·cases this
           ·rename_i hsp;simpa using hsp
          ·cases this
         have hlt:a.block<w.heap.size:=by
          have:=hadd 0 hpos;have e0:a.add 0=a:=by simp[Addr.add]
          rw[e0,aac hpos]at this;unfold World.cell? at this;split at this
          ·rename_i hh;exact(abo.1 hh).1
          ·cases this
         refine⟨a,rfl,hspot,λ q hq=>⟨?_,hlt⟩⟩;rw[←hadd q hq];congr 1;unfold Addr.add;split
         ·rename_i e;subst e;cases a;simp_all
         ·rfl
        ·exfalso
         cases sh with
         |sl es=>
          have hes:es= []:=by simpa [Sh.n]using hnz
          subst hes;have hr:=hR t i hi;unfold adt at hr;rw[hat.und]at hr;simp only[hj]at hr;have:j.cells= []:=hjc;rw[this]at hr;cases hr
         |rsl ss=>simp[Sh.n]at hnz
         |_=>cases hsl
      cases sh with
      |sl es=>
       have hjc:j.cells=es:=hjc;obtain⟨jag,jcells,jf,jft,je⟩:=j;simp only at hjc l l4 l5 l6 hbulk;subst hjc;refine⟨l,⟨.slice (some a) len cap,rfl,some a,cap,by rw[show List.length l=len from l1],by show List.length l<=cap;rw[l1];exact hlc,?_⟩,hbulk,l6⟩;rcases hrow with h0|⟨ad,e1,e2,e3⟩
       ·exact .inl (by show List.length l=0;omega)
       ·exact .inr ⟨ad,row,e1,e2,e3,l4⟩
      |rsl ss=>
       have hjc:j.cells=ss++[.rsl ss]:=hjc;obtain⟨jag,jcells,jf,jft,je⟩:=j;simp only at hjc l l4 l5 l6 hbulk;subst hjc
       have conv: ∀(l:List (ElA (ss++[.rsl ss]))) (row:List Value),eH (dO w (λ b _=>b<w.heap.size) (ss++[.rsl ss])) l row->aeb (CW (ss++[.rsl ss])) l->
        ∃ts:List (RT (ElA ss)),ts.length=l.length/\jg w (λ b _=>b<w.heap.size) (dO w (λ b _=>b<w.heap.size) ss) ts row/\RT.wts (wtA ss) ts=sumW (wtA (ss++[.rsl ss])) l/\RT.ahi (CW ss) ts:=by
        intro l
        induction l with
        |nil=>intro row hr _;exact⟨[],rfl,(show jg _ _ _ [] row from by unfold jg;exact hr),rfl,trivial⟩
        |cons z l ihl=>
         rintro row ⟨c1,c2,rfl,h1,h2⟩ ⟨hf1,hf2⟩;obtain⟨ts,t1,t2,t3,t4⟩:=ihl c2 h2 hf2;obtain⟨tr,q1,q2,q3⟩:=afw h1;exact⟨tr::ts,by simp[t1],((jR ss).cons tr ts _).2 ⟨c1,c2,rfl,q1,t2⟩,by simp only[RT.wts,sumW,q2,t3],⟨q3 hf1,t4⟩⟩
       obtain⟨ts,t1,t2,t3,t4⟩:=conv l row l4 l6
       refine⟨ts,⟨.slice (some a) len cap,rfl,some a,cap,by rw[show List.length ts=len from t1.trans l1],by show List.length ts<=cap;rw[t1,l1];exact hlc,?_⟩,?_,t4⟩
       ·rcases hrow with h0|⟨ad,e1,e2,e3⟩
        ·exact .inl (by show List.length ts=0;omega)
        ·exact .inr ⟨ad,row,e1,e2,e3,t2⟩
       ·show RT.wts (wtA ss) ts+1<=_;rw[t3];exact hbulk
      |_=>cases hsl
    ·cases hd
   ·cases hd
  ·
   rename_i fs;obtain⟨xs,m,hm,rfl,hcl,hxl,hget⟩:=DataW.trod_struct hat.und h;obtain rfl:m=n:=by omega
   have hr:=hR t i hi;unfold adt at hr;rw[hat.und]at hr;simp only at hr;split at hr
   ·rename_i sh hsc;have hsh:=jy hr
    obtain⟨y,q1,q2,q3⟩:=JX (B:=B) ih hcells cs _ 0 sh xs hsc (by rw[hsh];exact hnm) (by simp[hxl]) (λ k f hf=>by
     simp only[aar]at hf;obtain⟨f0,hf0,rfl⟩:=aaG.1 hf;exact hget k f0 (by simpa using hf0)) (by rw[hcl,hcells t i hi,hsh];omega)
    rw[abu]at q1;have:=hB.agg (xs.map (·.1));rw[←hsh];exact⟨y,q1,by show _<=B (.agg (xs.map (·.1)));omega,q3⟩
   ·cases hr
  ·rename_i k;simp only[aad]at hd;have hc:=jy hd.2;obtain⟨m,rfl,rfl,hw⟩:=DataW.trod_int hat.und h;rw[hc];exact⟨m,⟨_,rfl,rfl⟩,hB.lit _,hw⟩
  ·simp only[aad]at hd;have hc:=jy hd.2;obtain⟨b,rfl,rfl⟩:=DataW.trod_bool hat.und h;rw[hc];exact⟨b,⟨_,rfl,rfl⟩,hB.lit _,trivial⟩
  ·simp only[aad]at hd;have hc:=jy hd.2;obtain⟨b,rfl,rfl,_⟩:=DataW.trod_string hat.und h;rw[hc];exact⟨b,⟨_,rfl,rfl⟩,by have:=hB.str b.data.toList;show ByteArray.size b+1<=_;simpa using this,trivial⟩
  ·simp only[aad]at hd;obtain⟨_,h2⟩:=hd;split at h2
   ·rename_i hcm _ _;rw[hcm]at hnm;cases hnm
   ·cases h2
  ·cases hd
end
end Go.AM
end
section
namespace Go.AM
open Go
section
variable {H:Type} {enc:TypeId×Value->H} {P:Program} {ty:TypeId->Option TyI} {w:World} {g:Gh} {F:Fz}
def nZ (ty:TypeId->Option TyI):List PK->List TypeId->Bool
 | [],[]=>true
 | .val ag want::ps,t::ts=>(match ty t with
   |some j=>((j.cells.all λ s=> !s.Ie)&&ag==j.ag)&&Sh.Ia j.cells (want.map (·.1))&&want.all (·.2.isPure)
   |none=>false)&&nZ ty ps ts
 |_,_=>false
theorem WX (hT:wE P ty) {t:TypeId} {j:TyI} (hj:ty t=some j) {base:Nat} {v:Value} (h:Value.okWide P w .any base t v):isAgg v=j.ag:=by
 obtain⟨info,d,z,hat⟩:=hT.at_ hj;have hd:=hat.desc;unfold Value.okWide at h;rw[hat.und]at h;unfold o8 at hd;split at hd
 ·simp only[aad]at hd;have hag:j.ag=false:=by simpa using hd.1.1
  rw[hag];simp only[Cell.okWide,hat.und,Cell.ok]at h;cases v<;>first|rfl|exact h.elim
 ·simp only[aad]at hd;obtain⟨cs,rfl,_⟩:=h;exact hd.1.1.symm
 ·simp only[aad]at hd;have hag:j.ag=false:=by simpa using hd.1.1
  rw[hag];simp only[Cell.okWide,hat.und,Cell.ok]at h;cases v<;>first|rfl|exact h.elim
 ·simp only[aad]at hd;have hag:j.ag=false:=by simpa using hd.1.1
  rw[hag];simp only[Cell.okWide,hat.und,Cell.ok]at h;cases v<;>first|rfl|exact h.elim
 ·simp only[aad]at hd;have hag:j.ag=false:=by simpa using hd.1.1
  rw[hag];simp only[Cell.okWide,hat.und,Cell.ok]at h;cases v<;>first|rfl|exact h.elim
 ·simp only[aad]at hd;have hag:j.ag=false:=by simpa using hd.1.1.1
  rw[hag];simp only[Cell.okWide,hat.und,Cell.ok]at h;cases v<;>first|rfl|exact h.elim
 ·cases hd
theorem JZ: ∀(want:List (Sh×Tg)) (cs:List CV),want.all (·.2.isPure)=true->bD cs=true->want.length=cs.length->retag want cs=cs
 | [],[],_,_,_=>rfl
 | [],_::_,_,_,h=>by simp at h
 |_::_,[],_,_,h=>by simp at h
 |(sh,tg)::want,c::cs,h1,h2,h3=>by
  simp only[acA,aad]at h1;have h2':(c.isPure&&bD cs)=true:=h2;simp only[aad]at h2';simp only[retag];rw[JZ want cs h1.2 h2'.2 (by simpa using h3)];congr 1;have e1:tg= .pure:=by cases tg<;>first|rfl|(simp[Tg.isPure]at h1)
  have e2:c.tg= .pure:=rQ (cs:=[c]) (by simp[bD,h2'.1]) c (by simp);rw[e1];exact afs e2
theorem adU: ∀(ps:List PK) (ts:List TypeId) (i:Nat) (cs:List CV) (vs:List Value),nZ ty ps ts=true->bD cs=true->aF w g .hand 0 cs (vs.flatMap (·.cells.toList))->vs.length=ts.length->
 (∀(k:Nat) (t:TypeId) (v:Value),ts[k]? =some t->vs[k]? =some v-> ∀j,ty t=some j->isAgg v=j.ag/\v.cells.size=j.cells.length)->BU w g ps i cs vs
 | [],[],i,cs,vs,_,_,hc,hl,_=>by
   have:vs= []:=aav hl;subst this;have:=hc.length;exact⟨aav (by simpa using this.symm),rfl⟩
 | [],_::_,_,_,_,h,_,_,_,_=>by simp[nZ]at h
 | .val ag want::ps,[],_,_,_,h,_,_,_,_=>by simp[nZ]at h
 | .ptr _::_,ts,_,_,_,h,_,_,_,_=>by cases ts<;>simp[nZ]at h
 | .rptr _::_,ts,_,_,_,h,_,_,_,_=>by cases ts<;>simp[nZ]at h
 | .fn _::_,ts,_,_,_,h,_,_,_,_=>by cases ts<;>simp[nZ]at h
 | .clo _ _::_,ts,_,_,_,h,_,_,_,_=>by cases ts<;>simp[nZ]at h
 | .io _::_,ts,_,_,_,h,_,_,_,_=>by cases ts<;>simp[nZ]at h
 | .val ag want::ps,t::ts,i,cs,[],_,_,_,hl,_=>by simp at hl
 | .val ag want::ps,t::ts,i,cs,v::vs,h,hp,hc,hl,hv=>by
   simp only[nZ,aad]at h;obtain⟨h1,h2⟩:=h;split at h1
   ·rename_i j hj;simp only[aad]at h1;have hag:ag=j.ag:=by simpa using h1.1.1.2
    have hwl:want.length=j.cells.length:=by
     have:=congrArg List.length (jy h1.1.2);simpa using this.symm
    obtain⟨k1,k2⟩:=hv 0 t v rfl rfl j hj;have hvl:v.cells.toList.length=want.length:=by simp[k2,hwl]
    rw[abg]at hc;refine⟨v,vs,rfl,⟨k1.trans hag.symm,?_⟩,?_⟩
    ·have:=hc.sub 0 want.length;rw[abu,abu,←hvl,abG,hvl]at this;refine aF.uq (Keeps.refl _ _) _ 0 0 _ ?_ this;unfold bD at hp ⊢;rw[aaV]at hp ⊢;exact λ c hc=>hp c (abv hc)
    ·have hsub:=hc.sub want.length (cs.length-want.length);have hcl:=hc.length
     have hp2:bD (cs.drop want.length)=true:=by
      unfold bD at hp ⊢;rw[aaV]at hp ⊢;exact λ c hc=>hp c (abH hc)
     refine adU ps ts (i+1) (cs.drop want.length) vs h2 hp2 ?_ (by simpa using hl) λ k t v h1 h2=>hv (k+1) t v (by simpa using h1) (by simpa using h2);have e1:(cs.drop want.length).take (cs.length-want.length)=cs.drop want.length:=aaF (by simp)
     have e2:((v.cells.toList++vs.flatMap (·.cells.toList)).drop want.length).take (cs.length-want.length)=vs.flatMap (·.cells.toList):=by
      rw[←hvl,abL];exact aaF (by simp only[aap]at hcl;omega)
     rw[e1,e2]at hsub;exact aF.uq (mk:= .hand) (Keeps.refl _ _) _ _ 0 _ hp2 hsub
   ·cases h1
theorem Rx (hT:wE P ty) (hR:afM P ty) {B:DataW H->Nat} (hB:Vf B) {base:Nat}: ∀(ps:List PK) (ts:List TypeId) (vs:List Value) (ds:List (DataW H)) (pl:List MemPlace),nZ ty ps ts=true->
 DataW.TrodAll enc P w 0 (λ _=>true) true ts vs ds pl-> ∃y:ElA ((ps.flatMap PK.cells).map (·.1)),dO w (λ b _=>b<w.heap.size) _ y (vs.flatMap (·.cells.toList))/\wtA _ y<=sumW B ds/\CW _ y/\vs.length=ts.length/\
  ∀(k:Nat) (t:TypeId) (v:Value),ts[k]? =some t->vs[k]? =some v-> ∀j,ty t=some j->v.cells.size=j.cells.length
 | [],[],vs,ds,pl,_,h=>by
   match vs,ds,h with
   | [],[],h=>exact⟨(),rfl,abA _,trivial,rfl,λ k t v ht=>by simp at ht⟩
 | [],_::_,_,_,_,h,_=>by simp[nZ]at h
 | .val ag want::ps,[],_,_,_,h,_=>by simp[nZ]at h
 | .ptr _::_,ts,_,_,_,h,_=>by cases ts<;>simp[nZ]at h
 | .rptr _::_,ts,_,_,_,h,_=>by cases ts<;>simp[nZ]at h
 | .fn _::_,ts,_,_,_,h,_=>by cases ts<;>simp[nZ]at h
 | .clo _ _::_,ts,_,_,_,h,_=>by cases ts<;>simp[nZ]at h
 | .io _::_,ts,_,_,_,h,_=>by cases ts<;>simp[nZ]at h
 | .val ag want::ps,t::ts,vs,ds,pl,h,ht=>by
   match vs,ds,ht with
   |v::vs,d::ds,ht=>
    obtain⟨p,q,⟨fuel,h1⟩,h2,_⟩:=ht;simp only[nZ,aad]at h;obtain⟨hs1,hs2⟩:=h;split at hs1
    ·rename_i j hj;simp only[aad]at hs1;have hw:=jy hs1.1.2;obtain⟨y,k1,k2,k3⟩:=ae2 (H:=H) (enc:=enc) hT hR hB fuel t j _ _ hj hs1.1.1.1 h1;obtain⟨z,q1,q2,q3,q4,q5⟩:=Rx hT hR hB (base:=base) ps ts vs ds q hs2 h2;have hyl:=dO.length _ _ _ k1;obtain⟨jag,jcells,jf,jft,je⟩:=j;simp only at hw y k1 k2 k3 hyl;subst hw;obtain⟨u,u1,u2,u3⟩:=AP k1 q1
     have e:((PK.val ag want::ps).flatMap PK.cells).map (·.1)=want.map (·.1)++(ps.flatMap PK.cells).map (·.1):=by
      rw[abg,abz];rfl
     rw[e,abg];refine⟨u,u1,?_,u3 k3 q3,by simp[q4],λ k t' v' ht' hv' j' hj'=> ?_⟩
     ·rw[u2];simp only[sumW];omega
     ·cases k with
      |zero=>
       simp only[aaM,aae]at ht' hv';subst ht' hv';rw[hj]at hj';cases hj';simpa using hyl
      |succ k=>exact q5 k t' v' (by simpa using ht') (by simpa using hv') j' hj'
    ·cases hs1
theorem aec (hT:wE P ty) (hR:afM P ty) {B:DataW H->Nat} (hB:Vf B) {base:Nat} {sig:Sig} {ts:List TypeId} (hs:nZ ty sig.params ts=true) {vs:List Value} {ds:List (DataW H)} {pl:List MemPlace}
 (hval: ∀(k:Nat) t v,ts[k]? =some t->vs[k]? =some v->Value.okWide P w .any base t v) (h:DataW.TrodAll enc P w 0 (λ _=>true) true ts vs ds pl):
 ∃x:sig.In,BU w (yH λ b _=>b<w.heap.size) sig.params 0 (retag sig.ins (cellsOf _ x)) vs/\wtA (sig.ins.map (·.1)) x<=sumW B ds/\CW (sig.ins.map (·.1)) x:=by
 obtain⟨y,k1,k2,k3,k4,k5⟩: ∃y:ElA (sig.ins.map (·.1)),dO w (λ b _=>b<w.heap.size) _ y (vs.flatMap (·.cells.toList))/\wtA _ y<=sumW B ds/\CW _ y/\vs.length=ts.length/\
  ∀(k:Nat) (t:TypeId) (v:Value),ts[k]? =some t->vs[k]? =some v-> ∀j,ty t=some j->v.cells.size=j.cells.length:=Rx (H:=H) (enc:=enc) hT hR hB (base:=base) sig.params ts vs ds pl hs h
 refine⟨y,?_,k2,k3⟩;have hp:bD (cellsOf (sig.ins.map (·.1)) y)=true:=rW _ _
 have hpure:sig.ins.all (·.2.isPure)=true:=by
  have: ∀(ps:List PK) (ts:List TypeId),nZ ty ps ts=true->(ps.flatMap PK.cells).all (·.2.isPure)=true:=by
   intro ps
   induction ps with
   |nil=>intro ts _;rfl
   |cons p ps ih=>
    intro ts h
    cases p with
    |val ag want=>
     cases ts with
     |nil=>simp[nZ]at h
     |cons t ts=>
      simp only[nZ,aad]at h;rw[abg,acv,ih ts h.2,ab4];have h1:=h.1;split at h1
      ·simp only[aad]at h1;exact h1.2
      ·cases h1
    |_=>cases ts<;>simp[nZ]at h
  exact this _ _ hs
 have hret:retag sig.ins (cellsOf _ y)=cellsOf _ y:=JZ _ _ hpure hp (by
  have:=congrArg List.length (sO (sig.ins.map (·.1)) y);simpa using this.symm)
 rw[hret];refine adU sig.params ts 0 _ vs hs hp (cells_ok .hand _ y 0 _ k1) k4 λ k t v ht hv j hj=>⟨WX hT hj (hval k t v ht hv),k5 k t v ht hv j hj⟩
def Quiet (w w':World):Prop:=w'.os=w.os/\w'.output=w.output/\ ∀b,b<w.heap.size->w'.heap[b]? =w.heap[b]?
theorem Yy {glob:Nat->Option (List CV)} {sig:Sig} {f:sig.In->Option sig.Out} (hG:Good P glob sig f) (hres:sig.res= [(false,[(.bool,.pure)])]) (hnp:sig.params.flatMap PK.outs= [])
 {x:sig.In} {r:sig.Out} (hr:f x=some r) (htrue:cellsOf _ r= [⟨.bool,.pure,true⟩]) {args:Array Value} (hE:BU w (yH λ b _=>b<w.heap.size) sig.params 0 (retag sig.ins (cellsOf _ x)) args.toList) (hglob:PE glob w (yH λ b _=>b<w.heap.size)):
 Calls P sig.fn args w λ e w'=>e= .returned (.bool true)/\Quiet w w':=by
 obtain⟨_,hcall⟩:=hG x r hr;have hC:=hcall w _ args.toList hE hglob (λ b ow e=>by cases e) (λ b o e=>e) (λ b ow cs t f e=>by cases e);have hargs:args.toList.toArray=args:=by simp
 rw[hargs]at hC;refine hC.mono λ e w' hR=> ?_;obtain⟨v,g',rfl,hb,hrv,_⟩:=hR;refine⟨?_,hb.os,hb.output,λ b hlt=>hb.blk b hlt λ⟨ow,e⟩=>by cases e⟩;have hout:sig.outs= [(.bool,.pure)]:=by unfold Sig.outs;rw[hnp,hres];rfl
 have hcl:retag sig.outs (cellsOf _ r)= [⟨.bool,.pure,true⟩]:=by rw[htrue,hout];rfl
 rw[hcl,hres]at hrv;obtain⟨u,hu,hr2,hag⟩:=BZ.one (show BZ w' g' .hand 0 false [⟨.bool,.pure,true⟩] v from hrv);have:u= .bool true:=hr2;rw[←hag rfl,this]
end
end Go.AM
end
section
namespace Go.AM
open Go
section
variable {P:Program} {E:Env} {C:Ctx} {s s':St} {a a':Act} {w w':World} {g g':Gh} {o:Oper} {Q:Exit->Act->World->Prop}
def Pm {α:Type}:List (Nat×α)->Nat->Option α
 | [],_=>none
 |(a,i)::l,t=>bif Nat.beq a t then some i else Pm l t
theorem KD {α:Type}: ∀{l:List (Nat×α)} {t:Nat} {i:α},Pm l t=some i->(t,i)∈l
 | [],_,_,h=>by cases h
 |(a,j)::l,t,i,h=>by
  simp only[Pm,cond_eq_ite]at h;split at h
  ·rename_i hb;cases h;rw[aal hb];exact abT
  ·exact aaX _ (KD h)
def agJ {α:Type} (d:α):List (Nat×α)->Nat->α
 | [],_=>d
 |(a,i)::l,t=>bif Nat.beq a t then i else agJ d l t
theorem Ez {α:Type} {p:α->Prop} {d:α} (hd:p d): ∀(l:List (Nat×α)),(∀x,x∈l->p x.2)-> ∀t,p (agJ d l t)
 | [],_,_=>hd
 |(a,i)::l,h,t=>by
  simp only[agJ,cond_eq_ite];split
  ·exact h (a,i) (by simp)
  ·exact Ez hd l (λ x hx=>h x (by simp[hx])) t
theorem afA {tab:List (Nat×TyI)} (h:(tab.all λ x=>afz P (Pm tab) x.1 x.2)=true):wE P (Pm tab):=λ t i hi=>aaV.1 h (t,i) (KD hi)
theorem ae1 {tab:List (Nat×TyI)} (h:(tab.all λ x=>adt P (Pm tab) x.1 x.2)=true):afM P (Pm tab):=λ t i hi=>aaV.1 h (t,i) (KD hi)
end
end Go.AM
end
section
namespace Go.AM
open Go Go.RowKit Go.ChangeShapes
section
variable {H:Type} {enc:TypeId×Value->H} {P:Program} {W W':World}
theorem PO (hl:laidOutB P=true) {sp:Nat->Bool} (hh: ∀b,b<W.heap.size->W'.heap[b]? =W.heap[b]?): ∀{ts:List TypeId} {vs:List Value} {ds:List (DataW H)} {ps:List MemPlace},(∀t,t∈ts->P.readableRec t=true/\t<P.types.size)->
 DataW.TrodAll enc P W 0 (λ _=>true) true ts vs ds ps->(∀p,p∈ps->p.block<W.heap.size)->(∀p,p∈ps->sp p.block=true)->DataW.TrodAll enc P W' 0 sp true ts vs ds ps
 | [],[],[],_,_,h,_,_=>h
 | [],[],_::_,_,_,h,_,_=>h.elim
 | [],_::_,_,_,_,h,_,_=>by simp[DataW.TrodAll]at h
 |_::_,[],_,_,_,h,_,_=>by simp[DataW.TrodAll]at h
 |_::_,_::_,[],_,_,h,_,_=>by simp[DataW.TrodAll]at h
 |t::ts,v::vs,d::ds,ps,hr,⟨p,q,h1,h2,e⟩,hlt,hs=>by
  obtain⟨r1,r2⟩:=hr t (by simp);refine⟨p,q,WideElems.Trod_stays hl r1 r2 h1 (λ x hx=> ?_) (λ x hx=>hs x (by rw[e];exact aaH _ hx)),PO hl hh (λ t ht=>hr t (by simp[ht])) h2 (λ x hx=>hlt x (by rw[e];exact abl _ hx)) (λ x hx=>hs x (by rw[e];exact abl _ hx)),e⟩;have hb:=hh x.block (hlt x (by rw[e];exact aaH _ hx))
  cases x with
  |cell b off=>simp only[World.sameAt,World.cell?,MemPlace.block]at hb ⊢;rw[hb]
  |map b=>exact hb
theorem QS (hl:laidOutB P=true) {f:FuncId} {fn:Func} {s:ChangeSpec} {t:TypeId} (hrt:fn.resultTypes= #[t]) (hbool:P.underlying t=some .bool) (hread: ∀t,t∈fn.params.toList->P.readableRec t=true/\t<P.types.size) {args:Array Value} {ds gs:List (DataW H)} {before:List MemPlace}
 (hvars:s.vars= []) (hW:DataW.Whole enc P fn.params.toList s.vars false W args.toList ds gs before) (hfn:gs= []->s.fn H (ds++gs)= {results:=[.lit (.bool true)],args:=ds})
 (hC:Calls P f args W λ e W'=>e= .returned (.bool true)/\Quiet W W'):
 Calls P f args W λ e W'=> ∃v,e= .returned v/\s.post enc P fn false true false false W args v W':=by
 refine hC.mono λ e W' ⟨he,hos,hout,hh⟩=>⟨_,he,?_⟩;have hW':=hW;obtain⟨p,q,hA,hV,rfl,hfz,hnd⟩:=hW;rw[hvars]at hV;obtain⟨rfl,rfl⟩:=trodVars_none hV;have hfn:=hfn rfl;have hlt:=hA.lt;refine⟨ds,[],p++[],[],p,[],hW',?_,?_,?_,⟨hos,hout,λ i hi=> ?_⟩,λ h=>by cases h⟩
 ·rw[hfn,hrt];exact trodAll_cons_mk (shut_bool hbool _) trodAll_mk0
 ·rw[hfn];exact PO hl hh hread hA hlt λ x hx=>decide_eq_true (hlt x hx)
 ·rw[hfn,hvars];exact rfl
 ·rw[hh i hi]
  cases W.heap[i]? with
  |none=>rfl
  |some o=>
   cases o with
   |cells c t f=>exact⟨rfl,rfl,rfl,λ _ _=>rfl⟩
   |map es k=>exact .inr ⟨rfl,rfl⟩
   |_=>rfl
end
end Go.AM
end
section
namespace Go.AM
open Go Go.ChangeShapes
section
variable {H:Type} {enc:TypeId×Value->H} {P:Program} {W:World}
theorem Yn {t e:TypeId} {k:IntKind} {fuel:Nat} {cs:List Value} {x:DataW H×List MemPlace} {sp:Nat->Bool} {held:Bool} (ht:P.underlying t=some (.slice e)) (he:P.underlying e=some (.int k)) (hc:P.cellsOf e=1)
 (h:DataW.trod enc P W 0 sp held fuel t cs=some x) {zs:List Int} (hx:x.1= .slice (zs.map λ n=> .lit (.int k n)) []) (hz:zs≠[]):
 ∃v,cs= [v]/\jo W (λ b _=>b<W.heap.size) (.sl [.int k]) zs v:=by
 rcases open_ints ht he hc h with⟨_,rfl⟩|⟨a,len,cap,ys,rfl,_,hlc,_,hyl,rfl,hcell,_⟩
 ·cases hx
 ·simp only[DataW.slice.injEq]at hx;obtain⟨h1,h2⟩:=hx;have hlits: ∀l:List Int,(lits (H:=H) k l)=l.map λ n=> .lit (.int k n):=λ l=>rfl;rw[hlits]at h1 h2
  have hinj: ∀l m:List Int,(l.map λ n=>(DataW.lit (.int k n):DataW H))=(m.map λ n=>(DataW.lit (.int k n):DataW H))->l=m:=by
   intro l
   induction l with
   |nil=>intro m h;cases m with
    |nil=>rfl
    |cons _ _=>simp at h
   |cons a l ih=>
    intro m h
    cases m with
    |nil=>simp at h
    |cons b m=>
     simp only[abf,aa5,DataW.lit.injEq,Lit.int.injEq,true_and]at h;rw[h.1,ih m h.2]
  have e1:=hinj _ _ h1;have e2:ys.drop len= []:=by simpa using h2
  have hle:ys.length<=len:=by simpa using e2
  have hys:ys=zs:=by rw[←e1,aaF hle]
  subst hys
  have hlen:ys.length=len:=by
   have:len<=ys.length:=by rw[hyl];split<;>omega
   omega
  have hpos:0<ys.length:=List.length_pos_iff.2 hz;have h0:=hcell 0 hpos;have e0:a.add 0=a:=by simp[Addr.add]
  rw[e0]at h0
  have hspot:a.spot=none:=by
   unfold World.cell? at h0;split at h0
   ·split at h0
    ·cases h0
    ·rename_i hsp;simpa using hsp
   ·cases h0
  have hlt:a.block<W.heap.size:=by
   unfold World.cell? at h0;split at h0
   ·rename_i hh;exact(abo.1 hh).1
   ·cases h0
  refine⟨_,rfl,some a,cap,congrArg (λ l=>Value.slice (some a) l cap) hlen.symm,by show List.length ys<=cap;omega,.inr ⟨a,ys.map (Value.int k),rfl,hspot,λ j hj=>⟨?_,hlt⟩,?_⟩⟩
  ·have hj':j<ys.length:=by simpa using hj
   have:=hcell j hj'
   have e:a.add j=⟨a.block,a.off+j,none⟩:=by
    unfold Addr.add;split
    ·rename_i e;subst e;cases a;simp_all
    ·rfl
   rw[e]at this;rw[this];simp[abB,aac hj']
  ·have gen: ∀l:List Int,eH (dO W (λ b _=>b<W.heap.size) [.int k]) l (l.map (Value.int k)):=by
    intro l
    induction l with
    |nil=>rfl
    |cons a l ih=>exact⟨[.int k a],_,rfl,⟨_,rfl,rfl⟩,ih⟩
   exact gen ys
end
end Go.AM
end
section
namespace Go.AM
open Go
def Res.w {α:Type}:Result α->World
 | .ok _ w=>w
 | .halt _ w=>w
theorem XI {α:Type}: ∀(a:Ask α) (w:World),w.drawn<=(w.ask a).2.drawn
 | .done _,w=>aaq _
 | .ask what range k,w=>by
   unfold World.ask;dsimp only;split
   ·exact XI (k 0) w
   ·exact aaJ (Nat.le_succ _) (XI _ {w with drawn:=w.drawn+1})
theorem ad4 (w:World) (c:Sys):w.drawn<=(w.sys c).2.drawn:=by
 unfold World.sys;have h:=XI (Kernel.perform c w.os) w;generalize w.ask (Kernel.perform c w.os)=x at h ⊢;obtain⟨⟨r,os⟩,w'⟩:=x;cases r<;>first|exact h|exact aaq _
theorem Yg (w:World) (a:Addr) (n:Nat):(w.freeze a n).drawn=w.drawn:=by
 unfold World.freeze;split<;>rfl
theorem TD {p:Program} {w w':World} {a:Addr} {v:Value} {b:Bool} {l:List Addr} (h:w.farStore p a v b= .ok (w',l)):w'.drawn=w.drawn:=by
 unfold World.farStore at h;split at h
 ·split at h
  ·rename_i r hr;cases h;unfold World.viewStore at hr;simp only[bind,Except.bind,pure,Except.pure]at hr
   repeat' first
    |(cases hr;done)
    |(cases hr;rfl)
    |split at hr
  ·cases h
 ·cases h
theorem VU {α:Type} (p:Program): ∀(s:Sem α) (w:World),w.drawn<=(Res.w (s.run p w)).drawn:=by
 intro s
 induction s with
 |pure a=>intro w;exact aaq _
 |load m a k ih=>
  intro w;simp only[Sem.run];split
  ·exact ih _ w
  ·split
   ·exact ih _ w
   ·exact aaq _
 |store m a v k ih=>
  intro w
  cases v<;>simp only[Sem.run]<;>first
   |exact aaq _
   |(split
     ·split
      ·exact aaq _
      ·exact ih (w.setCell a _)
     ·split
      ·rename_i h;exact aaJ (acn (TD h).symm) (ih _)
      ·exact aaq _)
 |new o k ih=>intro w;exact ih w.heap.size {w with heap:=w.heap.push o}
 |shape r k ih=>intro w;exact ih _ w
 |freeze a n k ih=>intro w;simp only[Sem.run];exact aaJ (acn (Yg w a n).symm) (ih _)
 |frozen a k ih=>intro w;exact ih _ w
 |getObj r k ih=>
  intro w;simp only[Sem.run];split
  ·exact aaq _
  ·exact ih _ w
  ·exact aaq _
 |setObj r o k ih=>
  intro w;simp only[Sem.run];split
  ·exact aaq _
  ·exact ih {w with heap:=w.heap.setIfInBounds r o}
  ·exact aaq _
 |choose q k ih=>
  intro w;simp only[Sem.run];split
  ·exact ih _ w
  ·exact aaJ (Nat.le_succ _) (ih (q.cut (w.tape w.drawn q)) {w with drawn:=w.drawn+1})
 |sys c k ih=>intro w;simp only[Sem.run];exact aaJ (ad4 w c) (ih _ _)
 |program k ih=>intro w;exact ih _ w
 |mark m k ih=>intro w;exact ih w
 |halt h=>intro w;exact aaq _
theorem rG {α:Type} {p:Program} {s:Sem α} {w w':World} {a:α} (h:s.run p w= .ok a w'):w.drawn<=w'.drawn:=by
 have:=VU p s w
 rwa [h]at this
theorem run_halt {α:Type} {p:Program} {s:Sem α} {w w':World} {a:Halt} (h:s.run p w= .halt a w'):w.drawn<=w'.drawn:=by
 have:=VU p s w
 rwa [h]at this
def Gs.w:GStep->World
 | .go _ w _=>w
 | .comm _ _ _ _ w _=>w
 | .spawn _ _ w _=>w
 | .count _ w _=>w
 | .timer _ _ w _=>w
 | .alone _ _ w _=>w
 | .newcoro _ _ _ w _=>w
 | .coroswitch _ _ _ w _=>w
 | .collect _ w _=>w
 | .watch _ w _=>w
 | .ended _ w _=>w
theorem zV (es:Array Event) (s:GStep):Gs.w (GStep.after es s)=Gs.w s:=by cases s<;>rfl
theorem BJ (p:Program) (main:Bool) (fr:Frame) (cs:List Frame) (d:Option Dying) (v:Value) (w:World):Gs.w (doReturn p main fr cs d v w)=w:=by
 unfold doReturn
 repeat' first
  |rfl
  |split
theorem Ef (p:Program) (fr:Frame) (v:Value) (w:World):Gs.w (endPrinting p fr v w)=w:=by
 unfold endPrinting;dsimp only;split<;>rfl
theorem I9 (p:Program) (fr:Frame) (cs:List Frame) (d:Option Dying) (m:String) (w:World):w.drawn<=(Gs.w (endFatal p fr cs d m w)).drawn:=by
 unfold endFatal;dsimp only;split<;>rename_i h
 ·exact rG h
 ·exact run_halt h
 ·exact run_halt h
theorem WC (w:World) (fd:Nat) (t:ByteArray) (o:Outcome):w.drawn<=(Gs.w (endWith w fd t o)).drawn:=by
 unfold endWith;dsimp only;have h:=ad4 w (.write fd t);generalize w.sys (.write fd t)=x at h ⊢;obtain⟨r,w'⟩:=x;cases r<;>dsimp only<;>first|exact h|(split<;>exact h)
theorem acP (p:Program) (fr:Frame) (cs:List Frame) (d:Option Dying) (g:Nat) (w:World):w.drawn<=(Gs.w (early p fr cs d g w)).drawn:=by
 have nY: ∀w:World,w.drawn<=(Gs.w (match w.heap[g]? with
  |some (.pending c elem)=>GStep.go {frame:=fr,callers:=cs,status:= .running,dying:=d} {w with heap:=w.heap.setIfInBounds g (.cells c elem)}
  |_=> .ended (.stuck "early: the variable does not wait" (fr.pos p)) w)).drawn:=by
  intro w;split<;>exact aaq _
 unfold early;dsimp only
 repeat' first
  |exact nY _
  |exact aaq _
  |(rename_i h;exact aaJ (rG h) (nY _))
  |(rename_i h;exact rG h)
  |(rename_i h;exact run_halt h)
  |(rename_i h _;exact rG h)
  |split
theorem Vt {c:Prop} [Decidable c] {a b:GStep} {n:Nat} (ha:n<=(Gs.w a).drawn) (hb:n<=(Gs.w b).drawn):n<=(Gs.w (if c then a else b)).drawn:=by
 split<;>assumption
theorem EN {α:Type} (p:Program) (s:Sem α) (w:World) (es:Array Event):w.drawn<=(Res.w (s.runT p w es).1).drawn:=by
 rw[Sem.runT_fst];exact VU p s w
theorem Xw (p:Program) (fr:Frame) (d:Dying) (f:Fatal) (w:World):w.drawn<=(Gs.w (writeOn p fr d f w)).drawn:=by
 unfold writeOn;dsimp only;split
 ·exact aaq _
 ·generalize hs:(Sem.runT p _ w #[])=x;have h:w.drawn<=(Res.w x.1).drawn:=by rw[←hs];exact EN p _ w #[]
  clear hs;obtain⟨r,es⟩:=x;split<;>rename_i he<;>(try cases he)<;>exact h
theorem afW (p:Program) (fr:Frame) (d:Dying) (w:World):w.drawn<=(Gs.w (die p fr d w)).drawn:=by
 unfold die;dsimp only;split
 ·exact Xw _ _ _ _ _
 ·split
  ·split
   ·exact aaq _
   ·exact WC _ _ _ _
  ·split
   ·exact aaq _
   ·split<;>rename_i h
    ·exact rG h
    ·exact run_halt h
   ·rw[zV];generalize hs:(Sem.runT p _ w #[])=x;have h:w.drawn<=(Res.w x.1).drawn:=by rw[←hs];exact EN p _ w #[]
    clear hs;obtain⟨r,es⟩:=x;dsimp only
    repeat' first
     |exact h
     |exact aaq _
     |(rw[Ef];exact h)
     |split
   ·exact aaq _
theorem IB (p:Program) (fr:Frame) (cs:List Frame) (dy:Option Dying) (d:Deferred) (w:World):w.drawn<=(Gs.w (callDeferred p fr cs dy d w)).drawn:=by
 unfold callDeferred;refine Vt (aaq _) ?_
 ·dsimp only;rw[zV];generalize hs:(Sem.runT p _ w #[])=x;have h:w.drawn<=(Res.w x.1).drawn:=by rw[←hs];exact EN p _ w #[]
  clear hs;obtain⟨r,es⟩:=x;dsimp only at h ⊢;split<;>first|exact h|exact aaJ h (I9 _ _ _ _ _ _)|(split<;>exact h)
theorem Zz (p:Program) (main:Bool) (fr:Frame) (cs:List Frame) (dy:Option Dying) (w:World):w.drawn<=(Gs.w (unwind p main fr cs dy w)).drawn:=by
 unfold unwind;split
 ·dsimp only;rw[zV];generalize hs:(Sem.runT p _ w #[])=x;have h:w.drawn<=(Res.w x.1).drawn:=by rw[←hs];exact EN p _ w #[]
  clear hs;obtain⟨r,es⟩:=x;dsimp only at h ⊢;split<;>exact h
 ·exact IB _ _ _ _ _ _
 ·split
  ·exact aaq _
  ·split
   ·exact aaq _
   ·split
    ·exact aaq _
    ·split
     ·split
      ·exact aaq _
      ·split<;>rename_i h
       ·exact rG h
       ·exact run_halt h
       ·exact run_halt h
     ·split
      ·rw[Ef];exact aaq _
      ·exact aaq _
  ·split
   ·rw[BJ];exact aaq _
   ·dsimp only;rw[zV];generalize hs:(Sem.runT p _ w #[])=x;have h:w.drawn<=(Res.w x.1).drawn:=by rw[←hs];exact EN p _ w #[]
    clear hs;obtain⟨r,es⟩:=x;dsimp only at h ⊢;split
    ·rw[BJ];exact h
    ·exact h
    ·exact h
theorem H9 (p:Program) (l:Bool) (fr:Frame) (cs:List Frame) (dy:Option Dying) (s:Sem Next) (w:World):w.drawn<=(Gs.w (stepG.apply p l fr cs dy s w)).drawn:=by
 unfold stepG.apply;dsimp only;rw[zV];generalize hs:(if l=true then s.runT p w #[]else(s.run p w, #[]))=x
 have h:w.drawn<=(Res.w x.1).drawn:=by
  rw[←hs];split
  ·exact EN p _ w #[]
  ·exact VU p s w
 clear hs;obtain⟨r,es⟩:=x;dsimp only at h ⊢
 split<;>first
  |exact h
  |exact aaJ h (I9 _ _ _ _ _ _)
  |exact aaJ h (acP _ _ _ _ _ _)
  |(split<;>first|exact h|exact Vt h h)
theorem aeX (p:Program) (l:Bool) (fr:Frame) (cs:List Frame) (dy:Option Dying) (w:World):w.drawn<=(Gs.w (stepG.oper p l fr cs dy w)).drawn:=by
 unfold stepG.oper;split
 ·exact aaq _
 ·split<;>exact H9 _ _ _ _ _ _ _
theorem Vx (p:Program) (main:Bool) (fr:Frame) (cs:List Frame) (dy:Option Dying) (w:World) (jump:Option Code):w.drawn<=(Gs.w (match fr.roundOf with
 |none=>if jump matches none|some .ret then GStep.go {frame:={fr with mode:= .returning},callers:=cs,status:= .running,dying:=dy} w else .ended (.stuck "exit, goto: no such block or label" (fr.pos p)) w
 |some l=>
  let(r,es):=(Instr.endRound l jump).runT p w #[]
  GStep.after (seen p fr.fn es)<|match r with
  | .ok v w=>doReturn p main fr cs dy v w
  | .halt _ w=> .ended (.stuck "range over a function: no such loop" (fr.pos p)) w)).drawn:=by
 split
 ·split<;>exact aaq _
 ·dsimp only;rw[zV];generalize hs:(Sem.runT p _ w #[])=x;have h:w.drawn<=(Res.w x.1).drawn:=by rw[←hs];exact EN p _ w #[]
  clear hs;obtain⟨r,es⟩:=x;dsimp only at h ⊢;split
  ·rw[BJ];exact h
  ·exact h
theorem X9 {α:Type} {o:Option α} {a:GStep} {f:α->GStep} {n:Nat} (ha:n<=(Gs.w a).drawn) (hf: ∀x,n<=(Gs.w (f x)).drawn):n<=(Gs.w (o.elim a f)).drawn:=by
 cases o
 ·exact ha
 ·exact hf _
theorem aem (p:Program) (main l:Bool) (fr:Frame) (cs:List Frame) (dy:Option Dying) (w:World):w.drawn<=(Gs.w (stepG.exec p main l fr cs dy w)).drawn:=by
 unfold stepG.exec;dsimp only;split
 ·exact Vx p main fr cs dy w none
 ·exact Vx p main fr cs dy w (some .ret)
 all_goals first
  |(simp only[Gs.w];exact aaq _)
  |exact H9 _ _ _ _ _ _ _
  |(rw[zV]
    generalize hs:(Sem.runT p _ w #[])=x;have h:w.drawn<=(Res.w x.1).drawn:=by rw[←hs];exact EN p _ w #[]
    clear hs;obtain⟨r,es⟩:=x;dsimp only at h ⊢;split<;>first|exact h|exact aaJ h (H9 _ _ _ _ _ _ _))
  |exact Vt (aeX _ _ _ _ _ _) (aaq _)
  |(refine Vt (aaq _) ?_
    split<;>rename_i h
    ·exact rG h
    ·exact run_halt h)
  |exact X9 (aaq _) λ _=>H9 _ _ _ _ _ _ _
  |(refine X9 ?_ λ _=>aaq _
    split
    ·split<;>(simp only[Gs.w];exact aaq _)
    ·rw[zV];generalize hs:(Sem.runT p _ w #[])=x;have h:w.drawn<=(Res.w x.1).drawn:=by rw[←hs];exact EN p _ w #[]
     clear hs;obtain⟨r,es⟩:=x;dsimp only at h ⊢;split
     ·rw[BJ];exact h
     ·exact h)
  |(split<;>(simp only[Gs.w];exact aaq _))
  |skip
theorem adC (p:Program) (main l:Bool) (g:Goroutine) (w:World):w.drawn<=(Gs.w (stepG p main g w l)).drawn:=by
 unfold stepG;dsimp only;split
 ·exact afW _ _ _ _
 ·exact aem _ _ _ _ _ _ _
 ·exact Zz _ _ _ _ _ _
theorem YH {p:Program} {gs:Array Goroutine} {rest:Rest} {w:World} {m:Machine} (h:Go.look p gs rest w= .next m):w.drawn<=m.world.drawn:=by
 unfold Go.look at h;simp only[]at h
 repeat' first
  |(cases h;done)
  |(simp only[Stepped.next.injEq]at h;subst h;have hh:= @rG _ p _ w _ _ (by assumption);exact hh)
  |split at h
theorem Xv {rest:Rest} {cases:Array CommCase} {w w':World} (h:waitingAt rest cases w=some w'):w.drawn<=w'.drawn:=by
 unfold waitingAt at h
 repeat' first
  |(cases h;exact aaq _)
  |(cases h;done)
  |split at h
theorem aek {p:Program} {rest:Rest} {gs:Array Goroutine} {i:Nat} {g:Goroutine} {cases:Array CommCase} {b:Bool} {sh:CommShape} {w:World} {m:Machine} (h:(communicate p rest gs i g cases b sh w).1= .next m):w.drawn<=m.world.drawn:=by
 unfold communicate at h;simp only[]at h
 repeat' first
  |(cases h;done)
  |(simp only[Stepped.next.injEq]at h;subst h;first|exact aaq _|(have hh:= @rG _ p _ w _ _ (by assumption);first|exact hh|(have h2:= @run_halt _ p _ _ _ _ (by assumption);exact aaJ hh h2)|(have h2:= @rG Nat p _ _ _ _ (by assumption);exact aaJ hh h2))|(have hh:= @Xv _ _ w _ (by assumption);exact hh))
  |split at h
theorem acO (w:World) (c:Nat):(drain w c).2.drawn=w.drawn:=by
 unfold drain;split<;>rfl
theorem Rz (m:Machine) (k:Nat) (t:Timer) (a b:Nat):(retime m k t a b).2.world.drawn=m.world.drawn:=by
 unfold retime;dsimp only;split
 ·exact acO _ _
 ·rfl
theorem YW {m m':Machine} {var:Addr} (h:timerOp.opened m var=some m'):m'.world.drawn=m.world.drawn:=by
 unfold timerOp.opened at h
 repeat' first
  |(cases h;rfl)
  |(cases h;done)
  |split at h
theorem VD {m m':Machine} {var:Addr} {f:Nat->Timer->Value×Machine} {v:Value} (hf: ∀k t,m.world.drawn=(f k t).2.world.drawn) (h:timerOp.named m var f= .ok (v,m')):m.world.drawn<=m'.world.drawn:=by
 unfold timerOp.named at h;split at h
 ·rename_i k _;have:=hf k (m.rest.timers.getD k default);rw[Except.ok.inj h]at this;exact acn this
 ·cases h
theorem adF {m m':Machine} {op:TimerOp} {v:Value} (h:timerOp m op= .ok (v,m')):m.world.drawn<=m'.world.drawn:=by
 unfold timerOp at h
 repeat' first
  |(cases h;done)
  |(cases h;exact aaq _)
  |exact VD (λ k t=>(Rz _ _ _ _ _).symm) h
  |(rename_i ho;exact VD (λ k t=>((Rz _ _ _ _ _).trans (YW ho)).symm) h)
  |split at h
theorem ae5 (p:Program) (m m':Machine) (i:Nat) (b:Bool) (h:(runT p m i b).1= .next m'):m.world.drawn<=m'.world.drawn:=by
 simp only[runT]at h;revert h;generalize m.gs.swapAt! _ _=gg;have hw:=adC p (i==0) b gg.1 m.world;revert hw;generalize stepG p _ gg.1 m.world b=s;intro hw h;cases s<;>simp only[]at h<;>simp only[Gs.w]at hw
 all_goals first
  |(cases h;done)
  |exact aaJ hw (aek h)
  |exact aaJ hw (YH h)
  |(simp only[Stepped.next.injEq]at h;subst h;exact hw)
  |(repeat' first
   |(cases h;done)
   |(simp only[Stepped.next.injEq]at h;subst h;exact hw)
   |(simp only[Stepped.next.injEq]at h;subst h;rename_i ht;exact aaJ hw (adF ht))
   |(simp only[Stepped.next.injEq]at h;subst h;rename_i ht;cases(congrArg Gs.w ht:_=_);exact hw)
   |split at h)
theorem adw {p:Program} {m m':Machine} {k:Nat} (h:serve p m k= .next m'):m.world.drawn<=m'.world.drawn:=by
 unfold serve at h
 repeat' first
  |(cases h;done)
  |(cases h;exact aaq _)
  |dsimp only at h
  |split at h
def Mv (w:World):Move->Prop
 | .goroutine m _=>w.drawn<=m.world.drawn
 | .machine s _=> ∀m',s= .next m'->w.drawn<=m'.world.drawn
theorem Mv.le {w w':World} (h:w.drawn<=w'.drawn): ∀{x:Move},Mv w' x->Mv w x
 | .goroutine _ _,k=>aaJ h k
 | .machine _ _,k=>λ m' e=>aaJ h (k m' e)
theorem Mv.ended (w:World) (o:Outcome) (w':World) (ops:Array MemOp):Mv w (.machine (.ended o w') ops):=λ _ h=>by cases h
theorem Mv.next {w:World} {m:Machine} (h:w.drawn<=m.world.drawn) (ops:Array MemOp):Mv w (.machine (.next m) ops):=λ _ e=>by cases e;exact h
theorem NH (p:Program) (m:Machine):Mv m.world (askOn p m):=by
 have pk: ∀(m:Machine) (rs:List Nat),Mv m.world (match(choose (.sched rs.length)).run p m.world with
  | .halt _ w=> .machine (.ended (.stuck "sched" "") w)
  | .ok k world=>
    if rs.length<=1 then .goroutine {m with world} (rs.getD k 0)else
    match(choose (.extern "sched.slice" 65536)).run p world with
    | .halt _ w=> .machine (.ended (.stuck "sched.slice" "") w)
    | .ok n world=> .goroutine {m with world,rest:={m.rest with slice:=if n=0 then none else some (rs.getD k 0,n)}} (rs.getD k 0)):=by
  intro m rs;split
  ·exact Mv.ended _ _ _ _
  ·rename_i h1;have h1:=rG h1;split
   ·exact h1
   ·split
    ·exact Mv.ended _ _ _ _
    ·rename_i h2;exact aaJ h1 (rG h2)
 unfold askOn;dsimp only;split
 ·exact Mv.ended _ _ _ _
 ·rename_i h1;have h1:=rG h1;split
  ·exact λ m' h=>aaJ h1 (adw h)
  ·split
   ·split
    ·exact Mv.next h1 _
    ·split
     ·exact Mv.next h1 _
     ·split<;>exact Mv.ended _ _ _ _
   ·split
    ·exact Mv.le h1 (pk {m with world:=_} _)
    ·split
     ·exact Mv.ended _ _ _ _
     ·rename_i h2;exact Mv.le (aaJ h1 (rG h2)) (pk {m with world:=_} _)
     ·rename_i h2;have h2:=rG h2;exact Mv.next (aaJ h1 h2) _
     ·rename_i h2;have h2:=rG h2;exact Mv.le (aaJ h1 h2) (pk (Machine.advanceTo {m with world:=_} _) _)
theorem XJ (p:Program) (m:Machine):Mv m.world (ask p m):=by
 unfold ask;split
 ·split
  ·exact Mv.ended _ _ _ _
  ·rename_i h1;have h1:=rG h1;split
   ·rename_i h2;exact Mv.le (aaJ h1 (YH h2)) (NH p _)
   ·rename_i h2;exact λ m' e=>absurd e (h2 m')
  ·rename_i h1;exact Mv.le (rG h1) (NH p {m with world:=_})
 ·exact NH p m
theorem aeK (p:Program) (m:Machine):Mv m.world (move p m):=by
 unfold move;split
 ·split
  ·exact aaq _
  ·exact Mv.ended _ _ _ _
 ·split
  ·split
   ·exact aaq _
   ·exact XJ p {m with rest:={m.rest with slice:=none}}
  ·exact XJ p m
theorem afr {p:Program} {m m':Machine} (h:step p m= .next m'):m.world.drawn<=m'.world.drawn:=by
 unfold step stepT at h;have hm:=aeK p m;split at h
 ·rename_i h1;rw[h1]at hm;exact aaJ hm (ae5 _ _ _ _ _ h)
 ·rename_i h1;rw[h1]at hm;exact hm _ h
theorem adD {p:Program} {m m':Machine} (h:Steps p m m'):m.world.drawn<=m'.world.drawn:=by
 obtain⟨n,hn⟩:=h
 induction n generalizing m with
 |zero=>cases hn;exact aaq _
 |succ n ih=>
  unfold runN at hn;split at hn
  ·rename_i h1;exact aaJ (afr h1) (ih hn)
  ·rename_i h1;exact absurd hn (h1 _)
theorem Calls.drawn {P:Program} {f:FuncId} {args:Array Value} {w:World} {R:Ending->World->Prop} (h:Calls P f args w R):Calls P f args w λ e w'=>R e w'/\ ∀v,e= .returned v->w.drawn<=w'.drawn:=by
 intro cs;obtain⟨e,w',fr,h1,h2,h3,h4⟩:=h cs;refine⟨e,w',fr,⟨h1,?_⟩,h2,h3,h4⟩;rintro v rfl;exact adD h2
end Go.AM
end
section
namespace Go.AM
open Go Go.Sort Go.Proofs
structure Wr (w:World) (b:Nat) (cur:Array Value) (et:TypeId) (w':World):Prop where
 os:w'.os=w.os
 tape:w'.tape=w.tape
 output:w'.output=w.output
 size:w.heap.size<=w'.heap.size
 row:w'.heap[b]? =some (.cells cur et (0,0))
 blk: ∀k,k<w.heap.size->k≠b->w'.heap[k]? =w.heap[k]?
theorem Wr.keeps {w w':World} {b:Nat} {cur:Array Value} {et:TypeId} {F:Fz} (h:Wr w b cur et w') (hF: ∀o,¬F b o) (hlt: ∀k o,F k o->k<w.heap.size):Keeps w w' F F:=
 ⟨λ _ _ h=>h,λ k o hf=>by
  have:k≠b:=by rintro rfl;exact hF o hf
  simp only[World.cell?,h.blk k (hlt k o hf) this]⟩
theorem Wr.base {w w':World} {g:Gh} {b:Nat} {cur:Array Value} {et:TypeId} {ow:aH} (h:Wr w b cur et w') (ho:g.own b=some ow) (hF: ∀o,¬g.F b o) (hown: ∀k ow,g.own k=some ow->k<w.heap.size) (hfz: ∀k o,g.F k o->k<w.heap.size)
 (hfr: ∀k ow cs t f,g.own k=some ow->w.heap[k]? =some (.cells cs t f)->f=(0,0)):Base w g.F (λ k=> ∃ow,g.own k=some ow) w' g:=
 ⟨h.os,h.tape,h.output,h.size,λ k hk hx=>h.blk k hk (by rintro rfl;exact hx ⟨ow,ho⟩),λ k o e=>⟨.inl ⟨o,e⟩,abb (hown k o e) h.size⟩,h.keeps hF hfz,λ k o hf=>⟨.inl hf,abb (hfz k o hf) h.size⟩,λ k o cs t f e hc=>by
  by_cases hb:k=b
  ·subst hb;rw[h.row]at hc;cases hc;rfl
  ·rw[h.blk k (hown k o e) hb]at hc;exact hfr k o cs t f e hc⟩
theorem Base.here {w:World} {g:Gh} (hown: ∀k ow,g.own k=some ow->k<w.heap.size) (hfz: ∀k o,g.F k o->k<w.heap.size)
 (hfr: ∀k ow cs t f,g.own k=some ow->w.heap[k]? =some (.cells cs t f)->f=(0,0)):Base w g.F (λ k=> ∃ow,g.own k=some ow) w g:=
 ⟨rfl,rfl,rfl,aaq _,λ _ _ _=>rfl,λ k o e=>⟨.inl ⟨o,e⟩,hown k o e⟩,Keeps.refl _ _,λ k o hf=>⟨.inl hf,hfz k o hf⟩,hfr⟩
theorem VQ {P:Program} {fn:FuncId} {es:List Sh} {x y:List (ElA es)} {av:List Value}
 (hrow: ∀(w:World) (F:Fz) (b cap:Nat) (cur:Array Value) (et:TypeId),w.heap[b]? =some (.cells cur et (0,0))->x.length<=cap->cap<=maxLen->cur.size=cap*es.length->eH (dO w F es) x (cur.toList.take (x.length*es.length))->(∀o,¬F b o)->(∀k o,F k o->k<w.heap.size)->
  Calls P fn (.slice (some ⟨b,0,none⟩) x.length cap::av).toArray w λ e w'=>e= .returned (.tuple #[])/\ ∃cur',cur'.size=cur.size/\eH (dO w F es) y (cur'.toList.take (y.length*es.length))/\y.length=x.length/\Wr w b cur' et w')
 (hnil:x= []->y= []/\ ∀w,Calls P fn (.slice none 0 0::av).toArray w λ e w'=>e= .returned (.tuple #[])/\w'=w)
 {w:World} {g:Gh} {v:Value} (hv:BZ w g (.tm 0) 0 false [⟨.sl es,.own,x⟩] v) (hown: ∀k ow,g.own k=some ow->k<w.heap.size) (hfz: ∀k o,g.F k o->k<w.heap.size)
 (hfr: ∀k ow cs t f,g.own k=some ow->w.heap[k]? =some (.cells cs t f)->f=(0,0)):
 Calls P fn (v::av).toArray w λ e w'=>e= .returned (.tuple #[])/\Base w g.F (λ k=> ∃ow,g.own k=some ow) w' g/\BZ w' g (.tm 0) 0 false [⟨.sl es,.own,y⟩] v:=by
 obtain⟨hag,u,ws,hu,hc,rfl⟩:=hv;have hcells:v.cells.toList= [v]:=by rw[aJ hag]
 rw[hcells]at hu;obtain⟨rfl,_⟩:=abI hu;have hc:yI w g (.tm 0 0) false (.sl es) x v:=hc;rcases hc with⟨rfl,hz⟩|⟨b,c,cur,et,rfl,hle,hcm,ho,hb,hsz,hel,hF⟩
 ·have hx:x= []:=aav hz;obtain⟨hy,hcall⟩:=hnil hx;refine(hcall w).mono ?_;rintro e w' ⟨rfl,rfl⟩;refine⟨rfl,Base.here hown hfz hfr,hag,_,[],by rw[hcells],?_,rfl⟩;show yI _ _ _ _ _ _ _;exact .inl ⟨rfl,by rw[hy];rfl⟩
 ·have hF': ∀o,¬g.F b o:=λ o hf=>by have:=(hF o).1 hf;cases this.1
  refine(hrow w g.F b c cur et hb hle hcm hsz hel hF' hfz).mono ?_;rintro e w' ⟨rfl,cur',h1,h2,h3,h4⟩;refine⟨rfl,h4.base ho hF' hown hfz hfr,hag,_,[],by rw[hcells],?_,rfl⟩;show yI _ _ _ _ _ _ _;have hl:aQ (.sl es) y=aQ (.sl es) x:=h3;refine .inr ⟨b,c,cur',et,by rw[hl],by rw[hl];exact hle,hcm,ho,h4.row,by rw[h1];exact hsz,?_,λ o=>by rw[show(Sh.sl es).n=es.length from rfl]at hF ⊢;exact(hF o).trans (by rw[hl])⟩;show eH (dO w' g.F es) y _;exact eH.imp (λ x cs h=>dO.keeps (h4.keeps hF' hfz) es x cs h) y _ h2
theorem adv {P:Program} {glob:Nat->Option (List CV)} {fn:FuncId} {es:List Sh} {f:List (ElA es)->Option (List (ElA es))} (hen:Enters P fn)
 (hrow: ∀x y,f x=some y-> ∀(w:World) (F:Fz) (b cap:Nat) (cur:Array Value) (et:TypeId),w.heap[b]? =some (.cells cur et (0,0))->x.length<=cap->cap<=maxLen->cur.size=cap*es.length->eH (dO w F es) x (cur.toList.take (x.length*es.length))->(∀o,¬F b o)->(∀k o,F k o->k<w.heap.size)->
  Calls P fn (.slice (some ⟨b,0,none⟩) x.length cap::[]).toArray w λ e w'=>e= .returned (.tuple #[])/\ ∃cur',cur'.size=cur.size/\eH (dO w F es) y (cur'.toList.take (y.length*es.length))/\y.length=x.length/\Wr w b cur' et w')
 (hnil: ∀y,f []=some y->y= []/\ ∀w,Calls P fn (.slice none 0 0::[]).toArray w λ e w'=>e= .returned (.tuple #[])/\w'=w):
 Good P glob ⟨fn,[.io [(.sl es,.own)]],[]⟩ f:=by
 intro x y hxy;refine⟨hen,λ w g vals hE hglob hown hfz hfr=> ?_⟩;obtain⟨v,ws,rfl,hv,hE⟩:=hE;obtain⟨_,rfl⟩:=hE;have h:=VQ (hrow x y hxy) (λ hx=>by subst hx;exact hnil y hxy) (w:=w) (g:=g) (v:=v) hv hown hfz hfr;refine h.mono ?_;rintro e w' ⟨rfl,hb,hv'⟩;refine⟨_,g,rfl,hb,⟨[],rfl,rfl⟩,⟨⟨v,rfl,hv'⟩,trivial⟩,λ i want j sh u hi=> ?_⟩;rcases i with _|i<;>simp at hi
theorem RF {P:Program} {glob:Nat->Option (List CV)} {fn c:FuncId} {es:List Sh} {f:List (ElA es)->Option (List (ElA es))} (hen:Enters P fn)
 (hrow: ∀x y,f x=some y-> ∀(w:World) (F:Fz) (b cap:Nat) (cur:Array Value) (et:TypeId),w.heap[b]? =some (.cells cur et (0,0))->x.length<=cap->cap<=maxLen->cur.size=cap*es.length->eH (dO w F es) x (cur.toList.take (x.length*es.length))->(∀o,¬F b o)->(∀k o,F k o->k<w.heap.size)->
  Calls P fn (.slice (some ⟨b,0,none⟩) x.length cap::[.func (.func c) #[] #[]]).toArray w λ e w'=>e= .returned (.tuple #[])/\ ∃cur',cur'.size=cur.size/\eH (dO w F es) y (cur'.toList.take (y.length*es.length))/\y.length=x.length/\Wr w b cur' et w')
 (hnil: ∀y,f []=some y->y= []/\ ∀w,Calls P fn (.slice none 0 0::[.func (.func c) #[] #[]]).toArray w λ e w'=>e= .returned (.tuple #[])/\w'=w):
 Good P glob ⟨fn,[.io [(.sl es,.own)],.fn c],[]⟩ f:=by
 intro x y hxy;refine⟨hen,λ w g vals hE hglob hown hfz hfr=> ?_⟩;obtain⟨v,ws,rfl,hv,hE⟩:=hE;obtain⟨v2,ws2,rfl,rfl,hE⟩:=hE;obtain⟨_,rfl⟩:=hE;have h:=VQ (hrow x y hxy) (λ hx=>by subst hx;exact hnil y hxy) (w:=w) (g:=g) (v:=v) hv hown hfz hfr;refine h.mono ?_;rintro e w' ⟨rfl,hb,hv'⟩;refine⟨_,g,rfl,hb,⟨[],rfl,rfl⟩,⟨⟨v,rfl,hv'⟩,trivial⟩,λ i want j sh u hi=> ?_⟩;rcases i with _|_|i<;>simp at hi
theorem Y5 {α:Type} [Inhabited α] {w:World} {b:Nat} {cur:Array Value} {et:TypeId} (hb:w.heap[b]? =some (.cells cur et (0,0))) (enc:α->Value) (d:Array α) (n:Nat) (os:Array Obj):
 Wr w b (putCells enc 0 d cur) et (grow (putRow enc (Go.Sort.ahead w n) b 0 d) os):=by
 have hlt:b<w.heap.size:=lt_of_heap hb;have hs:(putRow enc (Go.Sort.ahead w n) b 0 d).heap.size=w.heap.size:=by simp
 refine⟨rfl,rfl,rfl,by rw[size_grow,hs];omega,?_,λ k hk hne=> ?_⟩
 ·rw[heap_grow_old _ _ (by rw[hs];exact hlt)];show(w.heap.modify b _)[b]? =_;rw[Array.getElem?_modify,if_pos rfl,hb];rfl
 ·rw[heap_grow_old _ _ (by rw[hs];exact hk)];show(w.heap.modify b _)[k]? =_;rw[Array.getElem?_modify,if_neg (Ne.symm hne)]
theorem VI {α:Type} [Inhabited α] {enc:α->Value} {d:Array α} {cur:Array Value} (h:d.size<=cur.size):(putCells enc 0 d cur).toList.take d.size=d.toList.map enc:=by
 apply aaP;intro j;rw[aaj,aar];split
 ·rename_i hj;rw[aaO];unfold putCells;rw[Array.getElem?_mapIdx,aa1 (by omega),aaK,if_pos ⟨by omega,by omega⟩,aaO,aa1 hj];simp[hj]
 ·rename_i hj;rw[aaO,ab1 (by omega)];rfl
theorem xX {α:Type} {R:α->List Value->Prop} {enc:α->Value} (h: ∀x cs,R x cs ↔ cs= [enc x]): ∀(l:List α) (cs:List Value),eH R l cs ↔ cs=l.map enc
 | [],cs=>ach
 |x::l,cs=>by
  simp only[eH,h,xX h l,abf];constructor
  ·rintro⟨c1,c2,rfl,rfl,rfl⟩;rfl
  ·rintro rfl;exact⟨_,_,rfl,rfl,rfl⟩
theorem holds_of {α:Type} [Inhabited α] {w:World} {b:Nat} {cur:Array Value} {et:TypeId} (hb:w.heap[b]? =some (.cells cur et (0,0))) {enc:α->Value} {d:Array α} (h:cur.toList.take d.size=d.toList.map enc):Holds enc w b 0 d:=by
 intro j hj;have h1:=congrArg (λ l=>l[j]?) h;simp only[aaj,if_pos hj,aar,aaO,aa1 hj,aaK]at h1;refine⟨?_,?_⟩
 ·rw[aaW,cell_of_heap hb,h1];simp[hj]
 ·simp[World.frozen?,hb]
theorem Yf {α:Type} {enc:α->List Value} {k:Nat} (hk: ∀x,(enc x).length=k): ∀(l:List α) (t:Nat),t<l.length*k-> ∃x,l[t/k]? =some x/\(l.flatMap enc)[t]? =(enc x)[t % k]? /\t % k<k
 | [],t,h=>by simp at h
 |a::l,t,h=>by
  have k0:0<k:=by rcases ab8 k with h'|h'; · subst h';simp at h
                  ·exact h'
  rw[abg];by_cases ht:t<k
  ·refine⟨a,by rw[acI ht];rfl,?_,Nat.mod_lt _ k0⟩;rw[aax (by rw[hk];exact ht),Nat.mod_eq_of_lt ht]
  ·obtain⟨x,h1,h2,h3⟩:=Yf hk l (t-k) (by rw[abe,abM]at h;omega);have e:t/k=(t-k)/k+1:=by rw[←Nat.add_div_right _ k0];congr 1;omega
   refine⟨x,by rw[e];simpa using h1,?_,Nat.mod_lt _ k0⟩;rw[aaz (by rw[hk];omega),hk,h2];congr 1;rw[←Nat.mod_eq_sub_mod (by omega)]
theorem Vq {α:Type} {enc:α->List Value} {k:Nat} (hk: ∀x,(enc x).length=k): ∀l:List α,(l.flatMap enc).length=l.length*k
 | []=>by simp
 |a::l=>by rw[abg,aap,hk,Vq hk l,abe,abM];omega
theorem aen {α:Type} [Inhabited α] {enc:α->List Value} {k:Nat} (hk: ∀x,(enc x).length=k) (d:Array α):(flatK enc k d).toList=d.toList.flatMap enc:=by
 apply aaP;intro t;by_cases ht:t<d.size*k
 ·obtain⟨x,h1,h2,h3⟩:=Yf hk d.toList t (by simpa using ht);rw[h2,aaO];have h4:=get_flatK enc k d t ht;have hs:t<(flatK enc k d).size:=by simpa using ht
  rw[aa1 hs,←getElem!_pos _ t hs,h4];rw[aaO]at h1;have hd:t/k<d.size:=(abo.1 h1).1;rw[getElem!_pos d _ hd,(abo.1 h1).2];rw[getElem!_pos (enc x) _ (by rw[hk];exact h3),aac]
 ·rw[aaO,ab1 (by simpa using ht),aah (by rw[Vq hk];simpa using ht)]
theorem MJ {α β:Type} {R:β->List Value->Prop} {enc:α->List Value} {f:α->β} (h: ∀a,R (f a) (enc a)): ∀l:List α,eH R (l.map f) (l.flatMap enc)
 | []=>rfl
 |a::l=>⟨enc a,l.flatMap enc,by rw[abg],h a,MJ h l⟩
theorem Vd {w w':World} {g':Gh} {F:Fz} (h:Base w F (λ k=> ∃ow,(yH F).own k=some ow) w' g') (hd:w.drawn<=w'.drawn): ∃q os,w'=grow (w.drewN q) os:=by
 refine⟨w'.drawn-w.drawn,w'.heap.extract w.heap.size w'.heap.size,?_⟩
 have hh:w'.heap=w.heap++w'.heap.extract w.heap.size w'.heap.size:=by
  apply Array.ext_getElem?;intro i;rw[Array.getElem?_append];split
  ·rename_i hi;exact h.blk i hi λ⟨ow,e⟩=>by cases e
  ·rename_i hi;rw[Array.getElem?_extract];split
   ·congr 1;omega
   ·rename_i h2;rw[ab1 (by omega)]
 obtain⟨os,tp,out⟩:w'.os=w.os/\w'.tape=w.tape/\w'.output=w.output:=⟨h.os,h.tape,h.output⟩;cases w';simp only[grow,World.drewN]at *;subst os tp out;rw[←hh];congr 1;omega
theorem sortK {P:Program} {ρ:Go.Shelf.Ren} (L:SlLaysF0.n6 P ρ) {es:List Sh} (hk0:0<es.length) (aE: ∀w,(Go.isAgg (ρ.t 24)).run P w= .ok true w) (zE: ∀w,(Go.sizeOf (ρ.t 24)).run P w= .ok es.length w) {c:FuncId} (ec: ∀args w,(callFunc c args).run P w= .ok (.enter c args) w)
 {x y:List (ElA es)} (hx:x≠[]) (hxl:x.length<4611686018427387904) {cmp:ElA es->ElA es->Int} (hO:SWO (ltOf λ i j:Fin x.length=>cmp x[i] x[j]))
 (hcmp: ∀(w:World) (F:Fz) (i j:Fin x.length) (c1 c2:List Value),dO w F es x[i] c1->dO w F es x[j] c2->(∀k o,F k o->k<w.heap.size)->Calls P c #[.agg c1.toArray,.agg c2.toArray] w λ e w'=>e= .returned (.int .i64 (cmp x[i] x[j]))/\ ∃q os',w'=grow (w.drewN q) os')
 (hy: ∀z:List (ElA es),z.Perm x->z.Pairwise (λ a b=> ¬cmp b a<0)->z=y) {w:World} {F:Fz} {b cap:Nat} {cur:Array Value} {et:TypeId} (hb:w.heap[b]? =some (.cells cur et (0,0))) (hle:x.length<=cap) (hsz:cur.size=cap*es.length)
 (hone: ∀v∈cur.toList.take (x.length*es.length),v.oneCell'=true) (hel:eH (dO w F es) x (cur.toList.take (x.length*es.length))) (hF: ∀o,¬F b o) (hfz: ∀k o,F k o->k<w.heap.size):
 Calls P (ρ.f 6) (.slice (some ⟨b,0,none⟩) x.length cap::[.func (.func c) #[] #[]]).toArray w λ e w'=>e= .returned (.tuple #[])/\ ∃cur',cur'.size=cur.size/\eH (dO w F es) y (cur'.toList.take (y.length*es.length))/\y.length=x.length/\Wr w b cur' et w':=by
 have hn:0<x.length:=List.length_pos_iff.2 hx;have:Inhabited (Fin x.length):=⟨⟨0,hn⟩⟩
 let k:=es.length
 let cs:=cur.toList.take (x.length*k)
 have hcl:cs.length=x.length*k:=by
  have:=aaw k hle;simp only[cs,aaB,aa2,hsz];exact abK this
 let enc:Fin x.length->List Value:=λ i=>(cs.drop (i*k)).take k
 have hle2: ∀i:Fin x.length,(i:Nat)*k+k<=x.length*k:=λ i=>by
  have:=aaw k i.isLt
  rwa [abr]at this
 have hk: ∀i,(enc i).length=k:=λ i=>by
  have:=hle2 i;simp only[enc,aaB,aa7,hcl];omega
 have h1: ∀i,∀v∈enc i,v.oneCell'=true:=λ i v hv=>hone v (abH (abv hv));have hR: ∀i:Fin x.length,dO w F es x[i] (enc i):=λ i=>(jC es).get x cs hel i x[i] (by simp)
 let d:Array (Fin x.length):=(List.finRange x.length).toArray
 have hd:d.size=x.length:=by simp[d]
 have hdi: ∀(i:Nat) (hi:i<x.length),d[i]! =⟨i,hi⟩:=λ i hi=>by
  rw[getElem!_pos d i (by rw[hd];exact hi)];simp[d]
 have hH:HoldsK enc k w b 0 d:=by
  intro t ht;have ht':t<d.size*k:=by simpa using ht
  rw[get_flatK _ _ _ _ ht'];rw[hd]at ht';have hq:t/k<x.length:=Nat.div_lt_of_lt_mul (by rw[aco];exact ht');have hm:=Nat.mod_lt t hk0;refine⟨?_,by simp[World.frozen?,hb]⟩;rw[aaW,cell_of_heap hb,hdi _ hq,getElem!_pos (enc _) _ (by rw[hk];exact hm)]
  have h2:cs[t]? =cur[t]? :=by
   simp only[cs,aaj,if_pos ht',aaO]
  rw[←h2];simp only[enc,acB,List.getElem_drop,id];rw[aaf];refine⟨by rw[hcl];exact ht',?_⟩;congr 1;have:=Nat.div_add_mod t k;rw[aco]at this;exact this.symm
 have hlt:b<w.heap.size:=lt_of_heap hb
 have hC:CmpLays P c #[] enc k (λ i j:Fin x.length=>cmp x[i] x[j]) b 0 d.size w:=by
  intro m os dk hdk i j;have hwr:=Y5 hb id (flatK enc k dk) m os;have hkp:Keeps w (sortWorldK enc k w b 0 m dk os) F F:=hwr.keeps hF hfz;have hc:=hcmp (sortWorldK enc k w b 0 m dk os) F i j (enc i) (enc j) (dO.keeps hkp _ _ _ (hR i)) (dO.keeps hkp _ _ _ (hR j)) (λ q o hf=>abb (hfz q o hf) hwr.size);simpa using hc
 have key:=AnyQ.slices_SortFunc L k aE zE enc hk h1 (λ i j:Fin x.length=>cmp x[i] x[j]) hO c #[] b 0 cap d w ec hC hH hlt (by rw[hd];exact hxl);rw[hd]at key;refine key.mono ?_;rintro e w' ⟨rfl,d',n,os,hp,hs,rfl⟩;refine⟨rfl,?_⟩;have hd':d'.size=x.length:=by rw[hp.1,hd]
 let z:List (ElA es):=d'.toList.map λ i=>x[i]
 have hzp:z.Perm x:=by
  have h2:=hp.2.2;rw[Array.extract_eq_self_of_le (by omega),Array.extract_eq_self_of_le (by omega)]at h2;have h3:=h2.map λ i:Fin x.length=>x[i]
  have h4:d.toList.map (λ i:Fin x.length=>x[i])=x:=by
   apply List.ext_getElem
   ·simp[d]
   ·intro i h1 h2;simp[d]
  rw[h4]at h3;exact h3
 have hzs:z.Pairwise λ a b=> ¬cmp b a<0:=by
  rw[abx];intro i j hi hj hij;have hi':i<d'.size:=by simpa [z]using hi
  have hj':j<d'.size:=by simpa [z]using hj
  have h2:=hs i j (abA _) hij (by omega);rw[getElem!_pos d' i hi',getElem!_pos d' j hj']at h2;have h3:=of_decide_eq_false h2;simpa [z]using h3
 have hzy:=hy z hzp hzs;have hyl:y.length=x.length:=by rw[←hzy];exact hzp.length_eq
 have hfs:(flatK enc k d').size=x.length*k:=by rw[size_flatK,hd']
 refine⟨putCells id 0 (flatK enc k d') cur,by simp[putCells],?_,hyl,Y5 hb id (flatK enc k d') n os⟩;have ht:=VI (enc:=id) (d:=flatK enc k d') (cur:=cur) (by rw[hfs,hsz];exact aaw k hle);rw[hfs]at ht;rw[hyl,ht,List.map_id,aen hk,←hzy];exact MJ (R:=dO w F es) (f:=λ i:Fin x.length=>x[i]) hR d'.toList
theorem adp {w:World} {F:Fz}: ∀(es:List Sh) (x:ElA es) (cs:List Value),dO w F es x cs-> ∀u∈cs,u.oneCell'=true:=λ es x cs h=>
 sF (jI (rW es x)) (cells_ok (g:=yH F) .hand es x 0 cs h)
theorem Fg {w:World} {F:Fz} {es:List Sh}: ∀(l:List (ElA es)) (cs:List Value),eH (dO w F es) l cs-> ∀u∈cs,u.oneCell'=true
 | [],cs,h,u,hu=>by rw[show cs= []from h]at hu;cases hu
 |e::l,_,⟨c1,c2,rfl,h1,h2⟩,u,hu=>by
  rcases aau.1 hu with hu|hu
  ·exact adp es e c1 h1 u hu
  ·exact Fg l c2 h2 u hu
end Go.AM
end
section
namespace Go.AM
open Go Go.Sort Go.Proofs Go.RowKit
theorem born {w w':World} {g:Gh} (hown: ∀k ow,g.own k=some ow->k<w.heap.size) (hfz: ∀k o,g.F k o->k<w.heap.size)
 (hfr: ∀k ow cs t f,g.own k=some ow->w.heap[k]? =some (.cells cs t f)->f=(0,0)) {v:Value} {n:Nat} {es:List Sh} {xs:List Value} {x:List (ElA es)} {e:TypeId} (hr:w'.ownsRow w.heap.size e es.length v n xs) (hx:eH (dO w' g.F es) x xs)
 (hn:x.length=n) (hB:Below w.heap.size w w'): ∃g':Gh,g'.F=g.F/\g'.at_=g.at_/\(∀b,b<w.heap.size->g'.own b=g.own b)/\Base w g.F (λ b=> ∃ow,g.own b=some ow) w' g'/\BZ w' g' .hand 0 false [⟨.sl es,.own,x⟩] v:=by
 have hkp:Keeps w w' g.F g.F:=⟨λ _ _ h=>h,λ b o hf=>by simp only[World.cell?,hB.block b (hfz b o hf)]⟩;subst hn;rcases hr with⟨hl,⟨rfl,h0⟩|⟨b,cap,cur,rfl,hb0,hb,hnc,hcm,hsz,hcur⟩⟩
 ·have hx0:x= []:=aav h0;subst hx0;refine⟨g,rfl,rfl,λ _ _=>rfl,⟨hB.os,hB.tape,hB.output,hB.size,λ b hb _=>hB.block b hb,λ b ow e=>⟨.inl ⟨ow,e⟩,abb (hown b ow e) hB.size⟩,hkp,λ b o hf=>⟨.inl hf,abb (hfz b o hf) hB.size⟩,λ b ow cs t f e hc=> ?_⟩,rfl,_,[],rfl,?_,rfl⟩
  ·rw[hB.block b (hown b ow e)]at hc;exact hfr b ow cs t f e hc
  ·show yI _ _ _ _ _ _ _;exact .inl ⟨rfl,rfl⟩
 ·have hlt:b<w'.heap.size:=lt_of_heap hb
  let g':Gh:={g with own:=λ k=>if k=b then some (.hand 0)else g.own k}
  have ho:g'.own b=some (.hand 0):=if_pos rfl;have hne: ∀k,k<w.heap.size->g'.own k=g.own k:=λ k hk=>if_neg (by omega);refine⟨g',rfl,rfl,hne,⟨hB.os,hB.tape,hB.output,hB.size,λ b hb _=>hB.block b hb,λ k ow e=> ?_,hkp,λ b o hf=>⟨.inl hf,abb (hfz b o hf) hB.size⟩,λ k ow cs t f e hc=> ?_⟩,rfl,_,[],rfl,?_,rfl⟩
  ·by_cases hk:k=b
   ·subst hk;exact⟨.inr hb0,hlt⟩
   ·have e:g.own k=some ow:=by rw[←e];exact(if_neg hk).symm
    exact⟨.inl ⟨ow,e⟩,abb (hown k ow e) hB.size⟩
  ·by_cases hk:k=b
   ·subst hk;rw[hb]at hc;cases hc;rfl
   ·have e:g.own k=some ow:=by rw[←e];exact(if_neg hk).symm
    rw[hB.block k (hown k ow e)]at hc;exact hfr k ow cs t f e hc
  ·show yI _ _ _ _ _ _ _;refine .inr ⟨b,cap,cur,e,rfl,hnc,hcm,ho,hb,hsz,?_,λ o=>⟨λ hf=> ?_,λ h=>by cases h.1⟩⟩
   ·show eH (dO w' g.F es) x (cur.toList.take (x.length*es.length));rw[hcur];exact hx
   ·have:=hfz b o hf;omega
noncomputable def E0:Env:=⟨0,λ _=>false,λ _=>none,λ _=>none,λ _=>⟨0,[],[]⟩,λ _=>0,λ _ _=>none,[]⟩
theorem akG {w w2:World} {F0:Fz} {X:Nat->Prop} {g:Gh} (h:Base w F0 X w2 g):Rel E0 ⟨w,F0,X,λ _=>none,λ _ _=>none⟩ ⟨λ _=>(.dead,0),λ _=>none⟩ ⟨#[],[]⟩ w2 g:=
 ⟨λ _=>trivial,λ _ _ h=>(by cases h),rfl,rfl,λ _ _ h=>(by cases h),h,λ _ _ h=>(by cases h),λ _ _ _ h=>(by cases h)⟩
theorem Nv {P:Program} {ops:Array Oper} {rest:List Oper} {o:Oper} {a:Act} {w:World} {Q:Exit->Act->World->Prop} (hgd:o.guard=none) (s x:Operand) (t tx:TypeId) (ho:o.op= .call {callee:= .builtin .append,args:= #[s,x],argTypes:= #[t,tx]}) {v':Value} {w':World}
 (hr:(Builtin.append_ #[t,tx] o.type #[a.eval s,a.eval x]).run P w= .ok v' w') (h:wpList P ops Q rest (a.put o.dst v') w'):wpList P ops Q (o::rest) a w:=by
 refine wpList_plain hgd λ K hK=> ?_;unfold Oper.wp execOp;simp only[ho,resolve,invoke,builtin,Sem.run_bind,Sem.run_pure,Result.andThen_ok,acG,abf,acK,hr];exact hK _ _ h
theorem OA {w:World} {F:Fz} {k:IntKind} (l:List Int):eH (dO w F [.int k]) l (l.map (Value.int k)):=
 (xX (enc:=Value.int k) (λ z cs=>by simp only[dO,jo,exists_eq_right]) l _).2 rfl
theorem PN {P:Program} {w w2:World} {g:Gh} {X:Nat->Prop} {F0:Fz} (hb:Base w F0 X w2 g) {x y:List Int} {v u:Value} (ho:yI w2 g (.hand 0) false (.sl [.int .u8]) x v) {t tx e ty:TypeId} {i:TypeInfo} {z:Value} (ht:P.underlying t=some (.slice e)) (hi:P.info? e=some i)
 (hz:i.zero=some z) (hsz:i.size=1) (hzs:z.cells.size=1) (hby:i.bytes<=128) (hmax:x.length+y.length<=au) (hs:Src P 1 tx u y.length (y.map (Value.int .u8)) w2):
 ∃v' w3 g3,(Builtin.append_ #[t,tx] ty #[v,u]).run P w2= .ok v' w3/\Base w F0 X w3 g3/\BZ w3 g3 .hand 0 false [⟨.sl [.int .u8],.own,List.append x y⟩] v':=by
 have hbe:Behind (.sl [.int .u8]) x y (List.append x y):=⟨aap,λ w F cs ds h1 h2=>(jC [.int .u8]).append x y cs ds h1 h2⟩;obtain⟨v',w3,g3,h1,h2,h3,h4,_⟩:=Me (akG hb) (sh:= .sl [.int .u8]) rfl hbe ho (ty:=ty) ht hi hz hsz hzs hby (by rw[hbe.len];exact hmax) hs (OA y);exact⟨v',w3,g3,h1,h2.base,h4,v',[],by rw[aJ h4],h3,rfl⟩
end Go.AM
end
