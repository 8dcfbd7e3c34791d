import Derived.Test.YtdchbjmbgecejaaGreatDoorMc
import Derived.Scope
import Derived.ChangeArms
import Derived.RowKit3
import Derived.Lib.SliceRun
import Derived.Carry
import Derived.ProofKit
import Derived.OpenShut
import Derived.RowKit
import Derived.ChangeSlices
import Derived.Lone
import Derived.RunT
import Derived.Shelf.SlSortCmp.WholeK
import Derived.Shelf.SlSortCmp.NoneTotal
import Derived.Shelf.Sort.Plain
import Derived.Shelf.Slices.In.SortNone
import Derived.Below
import Derived.Lib.AppendStr
import Derived.Lib.UnsafeStr
set_option linter.unusedVariables false
section
namespace Go.AM
open Go
section
variable {P:Program} {E:Env} {C:Ctx} {s s':St} {a a':Act} {w w':World} {g g':Gh} {o:Oper} {Q:Exit->Act->World->Prop}
theorem seq_ok (l:Ri P E) {d:Array Oper} {S:Nat->St} {U:Nat->List Upd} (p: ∀i,i<d.size->S (i+1)=(S i).dW (U i)) (q: ∀i o,i<d.size->d.toList[i]? =some o->afr E d.toList o (S i) (U i))
 (t: ∀a w g,Rel E C (S d.size) a w g->Q .normal a w): ∀(m j:Nat) (a:Act) (w:World) (g:Gh),j+m=d.size->Rel E C (S j) a w g->wpOps P d Q (List.range' j m) a w
 |0,j,a,w,g,u,f=>by
  simp only[List.range'_zero,wpOps];exact t a w g (by rw[←u];simpa using f)
 |m+1,j,a,w,g,u,f=>by
  rw[List.range'_succ,wpOps_cons];have e:j<d.size:=by omega
  have v:d[j]? =some d[j]:=aa8 e;refine Yz l f v (q j _ e Θ) λ a' w' g' k=> ?_;exact seq_ok l p q t m (j+1) a' w' g' Ω (by rw[p j e];exact k)
theorem Tz (z:Ri P E) (I:P.follows .mixedOrders=true) {id:Nat} {d:Array Oper} {f:Bool} {ρ:Type} {k:St->Option ρ} {r:ρ} (h:Ia E d.toList f s k=some r) (q:Rel E C s a w g)
 (K: ∀s' a' w' g',Rel E C s' a' w' g'->k s'=some r->Q .normal a' w'):(Code.region id d f).wp P Q a w:=by
 unfold Ia at h;simp only[cond_eq_ite]at h;split at h
 ·rename_i A;obtain⟨L,S,U,hs,t⟩:=JB _ _ _ _ h;obtain⟨F,_,B,hF⟩:=Xi _ 0 _ _ _ _ _ (λ _=>⟨[],[]⟩) hs (λ i=>Θ) rfl (λ k t=>Ω);have v:0+d.toList.length=d.size:=by simp
  rw[v]at hF t;have m: ∀a w g,Rel E C (S d.size) a w g->Q .normal a w:=λ a w g q=>K _ a w g q t
  cases f with
  |false=>
   refine wp_region ?_;rw[List.range_eq_range'];exact seq_ok z (λ i e=>(hF i (abH _) e).1) (λ i o e u=>((hF i (abH _) e).2.1 o u).1) m _ 0 a w g Ω (by rw[B];exact q)
  |true=>
   refine wp_region_any I ?_;simp only[abm,Bool.false_or]at A
   have y:PU E d.toList (OI d.toList []) d.size S U F:=⟨λ i e=>(hF i (abH _) e).1,λ i o e u=>((hF i (abH _) e).2.1 o u).1,λ i o e u=>((hF i (abH _) e).2.1 o u).2,
    λ i e=>(hF i (abH _) e).2.2.1,λ i k e t M=>by
     have:=(hF i (abH _) e).2.2.2 rfl k t M;simpa using this⟩
   have D: ∀j,kN (Array.replicate d.size false) j=false:=by
    intro j;simp only[kN,abj,Array.getElem?_replicate];split<;>rfl
   refine any_ok z y A m d.size (Array.replicate d.size false) a {w with drawn:=w.drawn+1} g Θ ?_ ?_ ?_
   ·have:=acu (p:=(! ·)) (l:=(Array.replicate d.size false).toList);simpa using this
   ·intro i o _ G;rw[D i]at G;cases G
   ·have:l9 U (S 0) (kN (Array.replicate d.size false)) d.size=S 0:=by
     have: ∀n,l9 U (S 0) (kN (Array.replicate d.size false)) n=S 0:=by
      intro n
      induction n with
      |zero=>rfl
      |succ n N=>simp only[l9,D,cond_false];exact N
     exact this _
    rw[this,B];exact q.world (Fr.drew _) q.base.drew rfl
 ·cases h
structure uI (L:Loc) (s s':St):Prop where
 tm: ∀n,.tm n=L->s.tm n=s'.tm n
 bx: ∀n,.bx n=L->s.bx n=s'.bx n
theorem uI.refl (L:Loc) (s:St):uI L s s:=⟨λ _ _=>rfl,λ _ _=>rfl⟩
theorem uI.symm {L:Loc} (h:uI L s s'):uI L s' s:=⟨λ n e=>(h.tm n e).symm,λ n e=>(h.bx n e).symm⟩
theorem uI.trans {L:Loc} {d f s3:St} (h:uI L d f) (k:uI L f s3):uI L d s3:=⟨λ n e=>(h.tm n e).trans (k.tm n e),λ n e=>(h.bx n e).trans (k.bx n e)⟩
theorem adh {L:Loc} {n:Nat} {t:T} (h:L≠ .tm n):uI L (s.dW [.keep n t]) s:=
 ⟨λ m e=>bJ _ _ _ (by rintro rfl;exact h e.symm),λ _ _=>rfl⟩
theorem aha {L:Loc} {n:Nat} {b:Bx} (h:L≠ .bx n):uI L (s.dW [.bx n b]) s:=
 ⟨λ _ _=>rfl,λ m e=>bJ _ _ _ (by rintro rfl;exact h e.symm)⟩
def KG (s s':St):Prop:= ∀r inst cells,aA s r=some (inst,cells)-> ∃d,aA s' r=some (inst,d)/\d.map (·.2)=cells.map (·.2)
theorem KG.refl (s:St):KG s s:=λ r inst cells h=>⟨cells,h,rfl⟩
theorem KG.trans {d f s3:St} (h:KG d f) (k:KG f s3):KG d s3:=λ r inst cells e=>by
 obtain⟨g,i,l⟩:=h r inst cells e;obtain⟨m,p,q⟩:=k r inst g i;exact⟨m,p,q.trans l⟩
theorem KG.pl {p:Pl} {m:Nat} {cs:LC} (h:KG s s') (g:aV s p m=some cs): ∃f,aV s' p m=some f:=by
 rw[bM]at g;obtain⟨cells,e,y,t,z⟩:=g;obtain⟨d,u,k⟩:=h _ _ _ e;refine⟨((d.drop p.cell).take m).map (·.1),bM.2 ⟨d,u,?_,λ i x v=> ?_,rfl⟩⟩
 ·have:=congrArg List.length k;simp only[aaH]at this;omega
 ·have:=t i x v;have q:=congrArg (λ l=>l[p.cell+i]?) k;simp only[aau]at q;rw[←this];exact q
theorem DK {c:Bool} {ds:LC} (h:(bif c then some ([]:LC)else none)=some ds):ds= []:=by
 cases c with
 |true=>simp only[cond_true,aag]at h;exact h.symm
 |false=>simp at h
theorem GI {c:Bool} {ds:LC} (h:(bif c then some ([]:LC)else none)=some ds):c=true:=by
 cases c with
 |true=>rfl
 |false=>simp at h
def oK (s:St) (e:JE) (ds:LC):Prop:=
 match e with
 | .tm n ag _=>(s.tm n).1= .val ag ds
 | .bx n _=> ∃b,s.bx n=some b/\b.cells.map (·.1)=ds
 | .adr _ _ _=>ds= []/\lU s e=some []
 | .rf _ _ _ _ _=>ds= []/\lU s e=some []
 | .rs _ _ _ _=>lU s e=some ds
 | .fn n f=>ds= []/\(s.tm n).1= .fn f
 | .clo _ _ _=>ds= []/\lU s e=some []
 | .pad n want off=> ∃cs,(s.tm n).1= .paddr cs off/\weaken cs want=some ds/\bI ds=true
 | .cpd n f want=> ∃cs,(s.tm n).1= .clo f [.paddr cs 0]/\weaken cs want=some ds/\bI ds=true
theorem KQ (i:KG s s'): ∀{ts:List T} {d:List (Root×Nat)},kZ s ts d=true->kZ s' ts d=true
 | [],[],_=>rfl
 | [],_::_,h=>by simp[kZ]at h
 | .addr p::ts,[],h=>by simp[kZ]at h
 | .addr p::ts,(root,cell)::d,h=>by
   simp only[kZ,aae]at h ⊢;obtain⟨f,k⟩:=h;refine⟨?_,KQ i k⟩;split at f
   ·rename_i inst cells l;obtain⟨e,g,_⟩:=i _ _ _ l;rw[g];exact f
   ·cases f
 | .dead::_,d,h=>by cases d<;>simp[kZ]at h
 | .undef::_,d,h=>by cases d<;>simp[kZ]at h
 | .nilc::_,d,h=>by cases d<;>simp[kZ]at h
 | .val _ _::_,d,h=>by cases d<;>simp[kZ]at h
 | .ref _ _ _::_,d,h=>by cases d<;>simp[kZ]at h
 | .rsub _ _ _ _::_,d,h=>by cases d<;>simp[kZ]at h
 | .paddr _ _::_,d,h=>by cases d<;>simp[kZ]at h
 | .tup _::_,d,h=>by cases d<;>simp[kZ]at h
 | .fn _::_,d,h=>by cases d<;>simp[kZ]at h
 | .clo _ _::_,d,h=>by cases d<;>simp[kZ]at h
theorem oK.mild {e:JE} {ds:LC} (h:oK s e ds) (m:KG s s') (hs:uI e.tgt s' s):oK s' e ds:=by
 cases e with
 |tm n ag want=>
  have:s'.tm n=s.tm n:=hs.tm n rfl;simp only[oK,this];exact h
 |bx n want=>
  have:s'.bx n=s.bx n:=hs.bx n rfl;simp only[oK,this];exact h
 |adr n root cell=>
  have d:s'.tm n=s.tm n:=hs.tm n rfl;obtain⟨l,h⟩:=h;refine⟨l,?_⟩;simp only[lU]at h ⊢;rw[d];split at h
  ·rename_i p inst cells t B;obtain⟨q,u,_⟩:=m _ _ _ B;rw[t,u];exact h
  ·cases h
 |rf n root cell ag len=>
  have d:s'.tm n=s.tm n:=hs.tm n rfl;obtain⟨l,h⟩:=h;refine⟨l,?_⟩;simp only[lU]at h ⊢;rw[d];split at h
  ·rename_i p C y t;split at h
   ·rename_i cs i;obtain⟨v,k⟩:=m.pl i;rw[k];exact h
   ·cases h
  ·cases h
 |rs n root cell z=>
  have d:s'.tm n=s.tm n:=hs.tm n rfl;simp only[oK,lU]at h ⊢;rw[d];split at h
  ·rename_i p D lo E t;split at h
   ·rename_i cs i;obtain⟨v,k⟩:=m.pl i;rw[k];exact h
   ·cases h
  ·cases h
 |fn n f=>
  have d:s'.tm n=s.tm n:=hs.tm n rfl;simp only[oK,d];exact h
 |pad n want off=>
  have d:s'.tm n=s.tm n:=hs.tm n rfl;simp only[oK,d];exact h
 |cpd n f want=>
  have d:s'.tm n=s.tm n:=hs.tm n rfl;simp only[oK,d];exact h
 |clo n f A=>
  have d:s'.tm n=s.tm n:=hs.tm n rfl;obtain⟨l,h⟩:=h;refine⟨l,?_⟩;simp only[lU]at h ⊢;rw[d];split at h
  ·rename_i g ts G;have i:=GI h;simp only[aae]at i;simp only[i.1,KQ m i.2,Bool.and_self,cond_true]
  ·cases h
theorem adQ (h:Rel E C s a w g) {r:Root} {inst:Nat} {cells:List (CV×Nat)} (k:aA s r=some (inst,cells)) {want:List (Sh×Tg)} {ds:LC} (p:weaken (cells.map (·.1)) want=some ds) {us:List Upd}
 (y:jT s ⟨r,inst,[],0,none⟩ ds false=some us): ∃g',Rel E C (s.dW us) a w g':=by
 obtain⟨_,z,e⟩:=qH p;obtain⟨A,B,D,_,G,p1,_,I,K,_⟩:=EC (xq r) _ want ds 0 _ g h.base p (h.root k);have d:ds.length=cells.length:=by rw[I];simp
 have l:aV s ⟨r,inst,[],0,none⟩ ds.length=some (cells.map (·.1)):=by
  rw[bM];refine⟨cells,k,by simp[d],λ i x L=>by simp at L,?_⟩;simp[d]
 have hv:=(h.root k).length;refine⟨A,kK h l y K (B.mono λ o M j q m=>M.1 j q (by simp at m ⊢;omega)) D G ?_ λ i es t u=> ?_⟩
 ·simp only[abB];rw[aaJ (by rw[hv];simp[d])];exact p1
 ·cases v:(cells.map (·.1))[i]? with
  |none=>
   exfalso
   have q:i<ds.length:=by
    rcases aaG i ds.length with h|h
    ·exact h
    ·simp[aal h]at u
   have m:=List.getElem?_eq_none_iff.1 v;simp at m;omega
  |some c=>
   obtain⟨sh,tg,_,f,_,N,_⟩:=e i c v;rw[u]at f;have f:(⟨.dl es,.own,t⟩:CV)=c.to tg:=aak f;refine⟨t,?_,λ _ _ _ _=>rfl⟩;obtain⟨O,Q,S⟩:=c;simp only[CV.to,CV.mk.injEq]at f;obtain⟨rfl,rfl,R⟩:=f;cases Q<;>first|(exfalso;simp[Tg.le]at N;done)|rw[eq_of_heq R]
theorem WL {r:Root} {inst:Nat} {cells:List (CV×Nat)} (l:aA s r=some (inst,cells)) {ds:LC} (u:ds.length=cells.length) {us:List Upd} (i:jT s ⟨r,inst,[],0,none⟩ ds false=some us):
 KG s (s.dW us)/\(∀L,L≠r.loc->uI L (s.dW us) s)/\ ∃d,aA (s.dW us) r=some (inst,d)/\d.map (·.1)=ds:=by
 cases r with
 |tmp n=>
  simp only[jT]at i;simp only[aA]at l;split at l
  ·rename_i ag cs v g;cases l;rw[g]at i;simp only[cond_eq_ite,abf,if_false]at i;split at i
   ·cases i;have y:setCells cs 0 ds=ds:=yR _ _ (by simpa using u)
    have m:s.dW [Upd.keep n (.val ag (setCells cs 0 ds))]= {s with tm:=put s.tm n (.val ag ds,inst)}:=by
     rw[y];simp only[St.dW,acD,acU,Upd.on,g]
    rw[m];refine⟨λ z p d f=> ?_,λ L A=>adh (s:=s) (n:=n) (t:= .val ag ds) A |>.trans (uI.refl _ _)|>λ h=> ?_,ds.map λ c=>(c,inst),by simp only[aA,bF],by simp[abM,Function.comp_def]⟩
    ·cases z with
     |tmp k=>
      by_cases q:k=n
      ·subst q;simp only[aA,g]at f;cases f;refine⟨ds.map λ c=>(c,inst),by simp only[aA,bF],?_⟩;simp only[abM,Function.comp_def];rw[List.map_const',List.map_const'];congr 1;simpa using u
      ·exact⟨d,by simp only[aA,bJ _ _ _ q]at f ⊢;exact f,rfl⟩
     |box k=>exact⟨d,f,rfl⟩
    ·have e:s.dW [Upd.keep n (.val ag ds)]= {s with tm:=put s.tm n (.val ag ds,inst)}:=by
      simp only[St.dW,acD,acU,Upd.on,g]
     rw[e]at h;exact h
   ·cases i
  ·cases l
 |box n=>
  simp only[jT]at i;simp only[aA]at l;split at l
  ·rename_i b g;cases l;rw[g]at i;simp only[cond_eq_ite,abf,if_false]at i;split at i
   ·cases i;simp only[acA,abU,abB,aa2];have D:b.cells.drop ds.length= []:=aa3 (acH u.symm);rw[D,aaM]
    have B:((ds.zip b.cells).map λ x=>((x.1,x.2.2):CV×Nat)).map (·.1)=ds:=by
     rw[abM];show(ds.zip b.cells).map (λ x=>x.1)=ds;exact List.map_fst_zip Ω
    have C:((ds.zip b.cells).map λ x=>((x.1,x.2.2):CV×Nat)).map (·.2)=b.cells.map (·.2):=by
     rw[abM];show(ds.zip b.cells).map (λ x=>x.2.2)=_;have:(ds.zip b.cells).map (λ x=>x.2.2)=((ds.zip b.cells).map Prod.snd).map (·.2):=by rw[abM];rfl
     rw[this,List.map_snd_zip Ω]
    have m: ∀c,s.dW [Upd.bx n c]= {s with bx:=put s.bx n (some c)}:=λ c=>rfl;rw[m];refine⟨λ z p d f=> ?_,λ L A=> ?_,_,by simp only[aA,bF],B⟩
    ·cases z with
     |tmp k=>exact⟨d,f,rfl⟩
     |box k=>
      by_cases q:k=n
      ·subst q;simp only[aA,g]at f;cases f;exact⟨_,by simp only[aA,bF],C⟩
      ·exact⟨d,by simp only[aA,bJ _ _ _ q]at f ⊢;exact f,rfl⟩
    ·exact aha A
   ·cases i
  ·cases l
theorem O9: ∀(j:J) (i:St) (v:Gh) (cs:LC),jOk j=true->Rel E C i a w v->KG s i->(∀e,e∈j->uI e.tgt i s)->packs s j=some cs->
 ∃y g2,Rel E C y a w g2/\KG i y/\(∀L,(∀e,e∈j->e.tgt≠L)->uI L y i)/\ ∀e ds,e∈j->lU s e=some ds->oK y e ds
 | [],i,v,cs,_,A,_,_,_=>⟨i,v,A,KG.refl _,λ L _=>uI.refl _ _,λ e ds he=>by cases he⟩
 |e::j,i,v,cs,hj,A,u,hs,hp=>by
  simp only[jOk,aae,aaV,abw]at hj;simp only[packs]at hp;split at hp
  ·rename_i ds b0 d b1;have q:uI e.tgt i s:=hs e Θ
   have one: ∃y g2,Rel E C y a w g2/\KG i y/\(∀L,e.tgt≠L->uI L y i)/\ ∀k,lU s e=some k->oK y e k:=by
    cases e with
    |tm n ag want=>
     have ht:i.tm n=s.tm n:=q.tm n rfl;simp only[lU]at d;split at d
     ·rename_i b3 p Z;simp only[cond_eq_ite]at d;split at d
      ·rename_i O;have O:ag=b3:=by simpa using O
       subst O;have a0:i.tm n=(.val ag p,(i.tm n).2):=by rw[ht,←Z]
       have l:aA i (.tmp n)=some ((i.tm n).2,p.map λ c=>(c,(i.tm n).2)):=by
        simp only[aA];rw[a0]
       have Q:weaken ((p.map λ c=>((c,(i.tm n).2):CV×Nat)).map (·.1)) want=some ds:=by rw[nN];exact d
       obtain⟨R,t,_⟩:=qH d;have t:ds.length=p.length:=t.trans R.symm
       have S:jT i ⟨.tmp n,(i.tm n).2,[],0,none⟩ ds false=some [.keep n (.val ag (setCells p 0 ds))]:=by
        simp only[jT];rw[a0];simp
       obtain⟨g2,B⟩:=adQ A l Q S;obtain⟨m1,m2,K,W,m4⟩:=WL l (by simp[t]) S;refine⟨_,g2,B,m1,λ L Y=>m2 L (λ e=>Y e.symm),λ k g=> ?_⟩;simp only[lU,Z]at g;simp only[beq_self_eq_true,cond_true,d,aag]at g;subst g;show((i.dW [.keep n (.val ag (setCells p 0 ds))]).tm n).1= .val ag ds;rw[yR _ _ t];simp[St.dW,Upd.on,bF]
      ·cases d
     ·cases d
    |bx n want=>
     have ht:i.bx n=s.bx n:=q.bx n rfl;simp only[lU]at d;split at d
     ·rename_i b hb;have a1:i.bx n=some b:=by rw[ht];exact hb
      have l:aA i (.box n)=some (b.inst,b.cells):=by simp only[aA];rw[a1]
      obtain⟨R,t,_⟩:=qH d;have t:ds.length=b.cells.length:=by rw[t,←R];simp
      have S: ∃us,jT i ⟨.box n,b.inst,[],0,none⟩ ds false=some us:=by
       simp only[jT,a1];simp[t,Nat.ble_eq_true_of_le (aaw b.cells.length)]
      obtain⟨us,S⟩:=S;obtain⟨g2,B⟩:=adQ A l d S;obtain⟨m1,m2,K,W,m4⟩:=WL l t S;refine⟨_,g2,B,m1,λ L Y=>m2 L (λ e=>Y e.symm),λ k g=> ?_⟩;simp only[lU,hb,d,aag]at g;subst g;simp only[aA]at W;split at W
      ·rename_i b' b6;simp only[aag,aaz]at W;exact⟨b',b6,by rw[W.2];exact m4⟩
      ·cases W
     ·cases d
    |adr n root cell=>
     have M:lU s (.adr n root cell)=some []:=by
      have:ds= []:=by
       simp only[lU]at d;split at d
       ·exact DK d
       ·cases d
      rw[d,this]
     exact⟨i,v,A,KG.refl _,λ L _=>uI.refl _ _,λ k g=>by
      rw[M]at g;cases g;exact oK.mild (s:=s) ⟨rfl,M⟩ u q⟩
    |fn n f=>
     simp only[lU]at d;split at d
     ·rename_i f' N;have hc:=aao (GI d);have hd:=DK d;subst hc;refine⟨i,v,A,KG.refl _,λ L _=>uI.refl _ _,λ k g=> ?_⟩;simp only[lU,N,acG,cond_true,aag]at g;exact oK.mild (s:=s) ⟨g.symm,N⟩ u q
     ·cases d
    |pad n want off=>
     simp only[lU]at d;split at d
     ·rename_i p c5 N;simp only[cond_eq_ite]at d;split at d
      ·rename_i m;have m:=aao m;subst m;split at d
       ·rename_i b7 Q;split at d
        ·rename_i D;refine⟨i,v,A,KG.refl _,λ L _=>uI.refl _ _,λ k g=> ?_⟩;simp only[lU,N,acG,cond_true,Q,D,aag]at g;subst g;exact oK.mild (s:=s) (e:= .pad n want off) ⟨p,N,Q,D⟩ u q
        ·cases d
       ·cases d
      ·cases d
     ·cases d
    |cpd n f want=>
     simp only[lU]at d;split at d
     ·rename_i f' p N;simp only[cond_eq_ite]at d;split at d
      ·rename_i m;have m:=aao m;subst m;split at d
       ·rename_i b7 Q;split at d
        ·rename_i D;refine⟨i,v,A,KG.refl _,λ L _=>uI.refl _ _,λ k g=> ?_⟩;simp only[lU,N,acG,cond_true,Q,D,aag]at g;subst g;exact oK.mild (s:=s) (e:= .cpd n f want) ⟨p,N,Q,D⟩ u q
        ·cases d
       ·cases d
      ·cases d
     ·cases d
    |clo n f a2=>
     have M:lU s (.clo n f a2)=some []:=by
      have:ds= []:=by
       simp only[lU]at d;split at d
       ·exact DK d
       ·cases d
      rw[d,this]
     exact⟨i,v,A,KG.refl _,λ L _=>uI.refl _ _,λ k g=>by
      rw[M]at g;cases g;exact oK.mild (s:=s) ⟨rfl,M⟩ u q⟩
    |rs n root cell z=>
     exact⟨i,v,A,KG.refl _,λ L _=>uI.refl _ _,λ k g=>oK.mild (s:=s) (e:= .rs n root cell z) g u q⟩
    |rf n root cell ag len=>
     have M:lU s (.rf n root cell ag len)=some []:=by
      have:ds= []:=by
       simp only[lU]at d;split at d
       ·split at d
        ·exact DK d
        ·cases d
       ·cases d
      rw[d,this]
     exact⟨i,v,A,KG.refl _,λ L _=>uI.refl _ _,λ k g=>by
      rw[M]at g;cases g;exact oK.mild (s:=s) ⟨rfl,M⟩ u q⟩
   obtain⟨y,g2,B,a3,a4,b8⟩:=one
   have a5: ∀G,G∈j->e.tgt≠G.tgt:=λ G I U=>by
    have:=hj.1 G I;rw[U,Loc.Ud]at this;cases this
   obtain⟨s3,g3,b9,a6,a7,c0⟩:=O9 j y g2 b0 hj.2 B (u.trans a3) (λ G I=>(a4 _ (a5 G I)).trans (hs G (by simp[I]))) b1;refine⟨s3,g3,b9,a3.trans a6,λ L Y=>(a7 L λ G I=>Y G (by simp[I])).trans (a4 L (Y e Θ)),λ G k I g=> ?_⟩;rcases aaU.1 I with rfl|I
   ·exact(b8 k g).mild a6 (a7 _ λ c1 c2 U=>a5 c1 c2 U.symm)
   ·exact c0 G k I g
  ·cases hp
theorem afy {α:Type} {c:Bool} {x y:α} (h:(bif c then some x else none)=some y):c=true/\x=y:=by
 cases c with
 |true=>exact⟨rfl,aak h⟩
 |false=>simp at h
theorem Jo {e:JE} {ds:LC} (h:lU s e=some ds):Tagged ds e.cells:=by
 cases e with
 |tm n ag want=>
  simp only[lU]at h;split at h
  ·simp only[cond_eq_ite]at h;split at h
   ·exact fD h
   ·cases h
  ·cases h
 |bx n want=>
  simp only[lU]at h;split at h
  ·exact fD h
  ·cases h
 |adr n root cell=>
  simp only[lU]at h;split at h
  ·rw[DK h];rfl
  ·cases h
 |rf n root cell ag len=>
  simp only[lU]at h;split at h
  ·split at h
   ·rw[DK h];rfl
   ·cases h
  ·cases h
 |rs n root cell z=>
  simp only[lU]at h;split at h
  ·split at h
   ·obtain⟨_,rfl⟩:=afy h;rfl
   ·cases h
  ·cases h
 |fn n f=>
  simp only[lU]at h;split at h
  ·rw[DK h];rfl
  ·cases h
 |clo n f i=>
  simp only[lU]at h;split at h
  ·rw[DK h];rfl
  ·cases h
 |cpd n f want=>
  simp only[lU]at h;split at h
  ·simp only[cond_eq_ite]at h;split at h
   ·split at h
    ·rename_i d g;split at h
     ·cases h;exact fD g
     ·cases h
    ·cases h
   ·cases h
  ·cases h
 |pad n want off=>
  simp only[lU]at h;split at h
  ·simp only[cond_eq_ite]at h;split at h
   ·split at h
    ·rename_i d g;split at h
     ·cases h;exact fD g
     ·cases h
    ·cases h
   ·cases h
  ·cases h
theorem Jp: ∀{j:J} {cs:LC},packs s j=some cs->Tagged cs (J.cells j)
 | [],cs,h=>by simp only[packs,aag]at h;subst h;rfl
 |e::j,cs,h=>by
  simp only[packs]at h;split at h
  ·rename_i ds d f g;cases h;exact(Jo f).append (Jp g)
  ·cases h
theorem Yj {ds:LC} {e:JE} (s0:St) (n:Nat):(e.tgt= .tm n/\(eH s0 ds e).tm n=(eH sU ds e).tm n)\/(eH s0 ds e).tm n=s0.tm n:=by
 cases e with
 |tm k ag want=>
  by_cases d:n=k
  ·subst d;exact .inl ⟨rfl,by simp only[eH,bF]⟩
  ·exact .inr (by simp only[eH,bJ _ _ _ d])
 |bx k want=>exact .inr rfl
 |adr k root cell=>
  by_cases d:n=k
  ·subst d;exact .inl ⟨rfl,by simp only[eH,bF]⟩
  ·exact .inr (by simp only[eH,bJ _ _ _ d])
 |rf k root cell ag len=>
  by_cases d:n=k
  ·subst d;exact .inl ⟨rfl,by simp only[eH,bF]⟩
  ·exact .inr (by simp only[eH,bJ _ _ _ d])
 |rs k root cell z=>
  match ds with
  | [a,b]=>
    by_cases d:n=k
    ·subst d;exact .inl ⟨rfl,by simp only[eH,bF]⟩
    ·exact .inr (by simp only[eH,bJ _ _ _ d])
  | []=>exact .inr rfl
  | [_]=>exact .inr rfl
  |_::_::_::_=>exact .inr rfl
 |fn k f=>
  by_cases d:n=k
  ·subst d;exact .inl ⟨rfl,by simp only[eH,bF]⟩
  ·exact .inr (by simp only[eH,bJ _ _ _ d])
 |clo k f g=>
  by_cases d:n=k
  ·subst d;exact .inl ⟨rfl,by simp only[eH,bF]⟩
  ·exact .inr (by simp only[eH,bJ _ _ _ d])
 |pad k want off=>
  by_cases d:n=k
  ·subst d;exact .inl ⟨rfl,by simp only[eH,bF]⟩
  ·exact .inr (by simp only[eH,bJ _ _ _ d])
 |cpd k f want=>
  by_cases d:n=k
  ·subst d;exact .inl ⟨rfl,by simp only[eH,bF]⟩
  ·exact .inr (by simp only[eH,bJ _ _ _ d])
theorem Yi {ds:LC} {e:JE} (s0:St) (n:Nat):(e.tgt= .bx n/\(eH s0 ds e).bx n=(eH sU ds e).bx n)\/(eH s0 ds e).bx n=s0.bx n:=by
 cases e with
 |bx k want=>
  by_cases d:n=k
  ·subst d;exact .inl ⟨rfl,by simp only[eH,bF]⟩
  ·exact .inr (by simp only[eH,bJ _ _ _ d])
 |rs k root cell z=>
  match ds with
  | [a,b]=>exact .inr rfl
  | []=>exact .inr rfl
  | [_]=>exact .inr rfl
  |_::_::_::_=>exact .inr rfl
 |_=>exact .inr rfl
theorem NV: ∀(j:J) (s0:St) (cs:LC),packs s j=some cs->
 (∀n,(∃e ds,e∈j/\lU s e=some ds/\e.tgt= .tm n/\(unpacks s0 cs j).tm n=(eH sU ds e).tm n)\/(unpacks s0 cs j).tm n=s0.tm n)/\
 (∀n,(∃e ds,e∈j/\lU s e=some ds/\e.tgt= .bx n/\(unpacks s0 cs j).bx n=(eH sU ds e).bx n)\/(unpacks s0 cs j).bx n=s0.bx n)
 | [],s0,cs,_=>⟨λ n=> .inr (by cases cs<;>rfl),λ n=> .inr (by cases cs<;>rfl)⟩
 |e::j,s0,cs,h=>by
  simp only[packs]at h;split at h
  ·rename_i ds d g m;cases h
   have p:e.cells.length=ds.length:=by
    have:=congrArg List.length (Jo g);simpa using this.symm
   have t:unpacks s0 (ds++d) (e::j)=unpacks (eH s0 ds e) d j:=by
    simp only[unpacks,p,abL,abQ]
   rw[t];obtain⟨u,v⟩:=NV j (eH s0 ds e) d m;refine⟨λ n=> ?_,λ n=> ?_⟩
   ·rcases u n with⟨i,f,q1,q2,q3,q4⟩|q
    ·exact .inl ⟨i,f,by simp[q1],q2,q3,q4⟩
    ·rcases Yj (ds:=ds) (e:=e) s0 n with⟨k,l⟩|r
     ·exact .inl ⟨e,ds,Θ,g,k,q.trans l⟩
     ·exact .inr (q.trans r)
   ·rcases v n with⟨i,f,q1,q2,q3,q4⟩|q
    ·exact .inl ⟨i,f,by simp[q1],q2,q3,q4⟩
    ·rcases Yi (ds:=ds) (e:=e) s0 n with⟨k,l⟩|r
     ·exact .inl ⟨e,ds,Θ,g,k,q.trans l⟩
     ·exact .inr (q.trans r)
  ·cases h
theorem Root.same_eq {r d:Root} (h:Root.same r d=true):r=d:=by
 cases r<;>cases d<;>simp only[Root.same,abf]at h<;>rw[aao h]
theorem af8 {u t:St} {mk:Nat->aF} {p:Pl} {v:Value} (e:TV0 t a w g mk (.addr p) v) {root:Root} {cell inst:Nat} {cells:List (CV×Nat)} (d:aA t root=some (inst,cells))
 (C:(Root.same p.root root&&Nat.beq p.cell cell&&Nat.beq p.inst inst&&(match p.sub with|none=>true|_=>false))=true):TV0 u a w g mk (.addr ⟨root,0,[],cell,none⟩) v:=by
 simp only[aae]at C;obtain⟨⟨⟨k,y⟩,z⟩,l⟩:=C;have k:=Root.same_eq k;have y:=aao y;have z:=aao z
 have l:p.sub=none:=by
  cases hs:p.sub with
  |none=>rfl
  |some q=>rw[hs]at l;cases l
 obtain⟨_,e⟩:Old t p/\_:=e;rw[l]at e;obtain⟨m,f,A⟩:=e;refine⟨⟨abH _,λ _ _ _ _ _ i x c v D _=>by simp at D⟩,m,by rw[←k];exact f,λ b _ _=> ?_⟩;rw[←k,f]at d;simp only[aA]at d;split at d
 ·rename_i E B;simp only[aag,aaz]at d;rw[A E B (by rw[d.1,z]),y]
 ·cases d
theorem YO {u k:St} {mk:Nat->aF}: ∀{ts:List T} {d:List (Root×Nat)} {l:LV},oJ k a w g mk ts l->kZ k ts d=true->oJ u a w g mk (d.map λ x=> .addr ⟨x.1,0,[],x.2,none⟩) l
 | [],[],_,h,_=>h
 | [],_::_,_,_,f=>by simp[kZ]at f
 | .addr p::ts,[],_,_,f=>by simp[kZ]at f
 | .addr p::ts,(root,cell)::d,_,⟨v,m,e,z,q,h⟩,f=>by
   simp only[kZ,aae]at f;obtain⟨i,t⟩:=f;split at i
   ·rename_i inst cells y;exact⟨v,m,e,trivial,af8 q y i,YO h t⟩
   ·cases i
 | .dead::_,d,_,_,h=>by cases d<;>simp[kZ]at h
 | .undef::_,d,_,_,h=>by cases d<;>simp[kZ]at h
 | .nilc::_,d,_,_,h=>by cases d<;>simp[kZ]at h
 | .val _ _::_,d,_,_,h=>by cases d<;>simp[kZ]at h
 | .ref _ _ _::_,d,_,_,h=>by cases d<;>simp[kZ]at h
 | .rsub _ _ _ _::_,d,_,_,h=>by cases d<;>simp[kZ]at h
 | .paddr _ _::_,d,_,_,h=>by cases d<;>simp[kZ]at h
 | .tup _::_,d,_,_,h=>by cases d<;>simp[kZ]at h
 | .fn _::_,d,_,_,h=>by cases d<;>simp[kZ]at h
 | .clo _ _::_,d,_,_,h=>by cases d<;>simp[kZ]at h
theorem Qz {j:J} (hj:jOk j=true) (h:Rel E C s a w g) {x:j.V} (hp:Vq E j s=some x): ∃g',Rel E C (unpack j x) a w g':=by
 unfold Vq at hp;simp only[cond_eq_ite]at hp;split at hp
 rotate_left
 ·cases hp
 rename_i a2;unfold pack at hp;split at hp
 ·rename_i cs a3;have b0:retag (J.cells j) (cellsOf _ x)=cs:=by rw[sO _ _ _ hp,yM (Jp a3)]
  unfold unpack;rw[b0];obtain⟨Q,g2,W,a4,_,he⟩:=O9 j s g cs hj h (KG.refl s) (λ e _=>uI.refl _ _) a3;obtain⟨u1,u2⟩:=NV j sU cs a3
  have root: ∀(r:Root) i cells,aA (unpacks sU cs j) r=some (i,cells)-> ∃i2 B,aA Q r=some (i2,B)/\B.map (·.1)=cells.map (·.1):=by
   intro r i cells D
   cases r with
   |tmp m=>
    rcases u1 m with⟨e,ds,hm,G,u,I⟩|I
    ·simp only[aA]at D;rw[I]at D;have d:=he e ds hm G
     cases e with
     |tm k ag want=>
      simp only[JE.tgt,Loc.tm.injEq]at u;subst u;simp only[eH,bF,aag,aaz]at D;obtain⟨_,rfl⟩:=D;have h1:(Q.tm k).1= .val ag ds:=d;have h3:Q.tm k=(.val ag ds,(Q.tm k).2):=by rw[←h1]
      refine⟨_,ds.map λ c=>(c,(Q.tm k).2),by simp only[aA];rw[h3],by rw[nN,nN]⟩
     |bx k want=>simp[JE.tgt]at u
     |rs k root cell z=>
      simp only[JE.tgt,Loc.tm.injEq]at u;subst u
      match ds with
      | [a,b]=>simp[eH,bF]at D
      | []=>simp[eH,sU]at D
      | [_]=>simp[eH,sU]at D
      |_::_::_::_=>simp[eH,sU]at D
     |_=>
      simp only[JE.tgt,Loc.tm.injEq]at u;subst u;simp only[eH,bF]at D;cases D
    ·simp only[aA]at D;rw[I]at D;simp[sU]at D
   |box m=>
    rcases u2 m with⟨e,ds,hm,G,u,I⟩|I
    ·simp only[aA]at D;rw[I]at D;have d:=he e ds hm G
     cases e with
     |bx k want=>
      simp only[JE.tgt,Loc.bx.injEq]at u;subst u;simp only[eH,bF,aag,aaz]at D;obtain⟨_,rfl⟩:=D;obtain⟨b2,R,S⟩:=d;exact⟨b2.inst,b2.cells,by simp only[aA,R],by rw[S,nN]⟩
     |_=>simp[JE.tgt]at u
    ·simp only[aA]at D;rw[I]at D;simp[sU]at D
  refine⟨g2,λ n=> ?_,λ n b hb=> ?_,W.size,W.defers,W.glob,W.base,W.par,λ n jj v hv=>⟨(W.aux n jj v hv).1,λ a6 _=> ?_⟩⟩
  ·rcases u1 n with⟨e,ds,hm,G,u,I⟩|I
   ·rw[I];have d:=he e ds hm G;have t:=W.tm n
    cases e with
    |tm k ag want=>
     simp only[JE.tgt,Loc.tm.injEq]at u;subst u;simp only[eH,bF];have:(Q.tm k).1= .val ag ds:=d;rw[this]at t;exact t
    |bx k want=>simp[JE.tgt]at u
    |adr k root cell=>
     simp only[JE.tgt,Loc.tm.injEq]at u;subst u;simp only[eH,bF];obtain⟨_,d⟩:=d;simp only[lU]at d;split at d
     ·rename_i p inst cells K y;have N:=GI d;simp only[aae]at N;obtain⟨⟨⟨L,O⟩,U⟩,Y⟩:=N;have L:=Root.same_eq L;have O:=aao O;have U:=aao U
      have Y:p.sub=none:=by
       cases hs:p.sub with
       |none=>rfl
       |some q=>rw[hs]at Y;cases Y
      rw[K]at t;obtain⟨_,t⟩:Old Q p/\_:=t;rw[Y]at t;obtain⟨m,b3,c7⟩:=t;refine⟨⟨abH _,λ _ _ _ _ _ i x c v Z _=>by simp at Z⟩,m,by rw[←L];exact b3,λ b _ _=> ?_⟩;rw[←L,b3]at y;simp only[aA]at y;split at y
      ·rename_i b2 R;simp only[aag,aaz]at y;rw[c7 b2 R (by rw[y.1,U]),O]
      ·cases y
     ·cases d
    |rf k root cell ag len=>
     simp only[JE.tgt,Loc.tm.injEq]at u;subst u;simp only[eH,bF];obtain⟨_,d⟩:=d;simp only[lU]at d;split at d
     ·rename_i p c8 e4 K;split at d
      ·rename_i b4 M;have N:=GI d;simp only[aae]at N;obtain⟨⟨⟨⟨⟨L,O⟩,U⟩,Y⟩,c5⟩,c6⟩:=N;have L:=Root.same_eq L;have O:=aao O;have U:ag=c8:=by simpa using U
       have Y:=aao Y;rw[K]at t;subst U Y;obtain⟨_,_,_,t⟩:Old Q p/\p.vers.length=len/\p.sub=none/\_:=t;obtain⟨k1,k2⟩:=t b4 M;refine⟨⟨abH _,λ _ _ _ _ _ i x c v Z _=> ?_⟩,Θ,rfl,λ a6 _=>⟨k1,?_⟩⟩
       ·simp only[abn]at Z;split at Z
        ·cases Z;exact abH _
        ·cases Z
       ·rw[k2,L,O]
      ·cases d
     ·cases d
    |rs k a7 cell z=>
     simp only[JE.tgt,Loc.tm.injEq]at u;subst u;have d:lU Q (.rs k a7 cell z)=some ds:=d;simp only[lU]at d;split at d
     ·rename_i p z' lo hi K;split at d
      ·rename_i b4 M
       ·obtain⟨N,c9⟩:=afy d;simp only[aae]at N;obtain⟨⟨⟨⟨L,O⟩,U⟩,Y⟩,c5⟩:=N;have L:=Root.same_eq L;have O:=aao O;have U:z=z':=by simpa using U
        subst c9;simp only[eH,bF,agP,aam];rw[K]at t;obtain⟨_,_,_,hz,t⟩:Old Q p/\p.vers.length=1/\p.sub=none/\(z'=true->lo=0)/\_:=t;obtain⟨c0,rfl⟩:=Hu M;obtain⟨A,l,kk,q1,q2,q3,q4,q5⟩:=t c0 M;refine⟨⟨abH _,λ _ _ _ _ _ i x c v Z _=> ?_⟩,rfl,rfl,λ h=>hz (by rw[←U];exact h),λ c b5=>⟨A,l,kk,by rw[←L,←O];exact q1,q2,q3,q4,?_⟩⟩
        ·cases i with
         |zero=>simp only[aaO,aag]at Z;omega
         |succ i=>simp at Z
        ·have d1:c=c0:=by
          rw[bM]at b5 M;obtain⟨cells,r1,r2,_,r3⟩:=b5;obtain⟨B,t1,t2,_,t3⟩:=M;obtain⟨i2,b7,w1,w2⟩:=root _ _ _ r1;simp only at w1 r3;rw[L,w1]at t1;cases t1;have e1:((cells.map (·.1)).drop cell).take 1= [c]:=by rw[←acv,←acw];exact r3.symm
          have e2:((B.map (·.1)).drop p.cell).take 1= [c0]:=by rw[←acv,←acw];exact t3.symm
          rw[w2,O,e1]at e2;simpa using e2
         rw[d1];exact q5
      ·cases d
     ·cases d
    |fn k f=>
     simp only[JE.tgt,Loc.tm.injEq]at u;subst u;simp only[eH,bF];obtain⟨_,d⟩:=d;rw[d]at t;exact t
    |pad k want off=>
     simp only[JE.tgt,Loc.tm.injEq]at u;subst u;simp only[eH,bF];obtain⟨a6,d,hw,a8⟩:=d;rw[d]at t;obtain⟨ad,vs,q1,q2,q3,q4⟩:=t;exact⟨ad,vs,q1,q2,a8,yj q3 hw q4⟩
    |cpd k f want=>
     simp only[JE.tgt,Loc.tm.injEq]at u;subst u;simp only[eH,bF];obtain⟨a6,d,hw,a8⟩:=d;rw[d]at t;obtain⟨d4,q0,v1,d5,e1,_,⟨ad,vs,q1,q2,q3,q4⟩,e2⟩:=t;exact⟨d4,q0,v1,d5,e1,trivial,⟨ad,vs,q1,q2,a8,yj q3 hw q4⟩,e2⟩
    |clo k f e8=>
     simp only[JE.tgt,Loc.tm.injEq]at u;subst u;simp only[eH,bF];obtain⟨_,d⟩:=d;simp only[lU]at d;split at d
     ·rename_i f' ts K;have N:=GI d;simp only[aae]at N;have hf:=aao N.1;subst hf;rw[K]at t;obtain⟨vs,q1,q2⟩: ∃vs:LV,a.eval (.tmp k)= .func (.func f) #[] vs.toArray/\oJ Q a w g2 (.tm k) ts vs:=t;exact⟨vs,q1,YO q2 N.2⟩
     ·cases d
   ·rw[I];exact trivial
  ·rcases u2 n with⟨e,ds,hm,G,u,I⟩|I
   ·rw[I]at hb;have d:=he e ds hm G
    cases e with
    |bx k want=>
     simp only[JE.tgt,Loc.bx.injEq]at u;subst u;simp only[eH,bF,aag]at hb;subst hb;obtain⟨b2,R,S⟩:=d;obtain⟨cur,et,q1,q2,q3,q4⟩:=W.bx k b2 R;exact⟨cur,et,q1,q2,q3,by rw[nN,←S];exact q4⟩
    |_=>simp[JE.tgt]at u
   ·rw[I]at hb;cases hb
  ·have hk:=aaV.1 (show(E.kept.all _)=true from a2) _ (W.aux n jj v hv).1;simp only at hk;split at hk
   ·rename_i g4 d7;obtain⟨g5,d8⟩:=a4.pl d7;exact(W.aux n jj v hv).2 _ d8
   ·cases hk
 ·cases hp
def Ex.to:Ex->Exit| .normal=> .normal| .exit i=> .exit i| .ret=> .ret
theorem Qr {p:Nat->Prop} (h: ∃n,p n): ∃n,p n/\ ∀m,p m->n<=m:=by
 obtain⟨n,g⟩:=h
 induction n using Nat.strongRecOn with
 |_ n i=>
  by_cases f: ∃m,m<n/\p m
  ·obtain⟨m,d,e⟩:=f;exact i m d e
  ·exact⟨n,g,λ m e=>Nat.le_of_not_lt λ d=>f ⟨m,d,e⟩⟩
open Classical in
theorem V4 {c:Code} (I:Nat->Act->World->Prop) {n:Nat} (p:I n a w) (f: ∀m a w,I m a w->c.wp P (Exit.then (λ a' w'=> ∃g,g<m/\I g a' w') Q) a w):(Code.loop c).wp P Q a w:=by
 refine wp_loop (λ a w=> ∃m,I m a w) (λ a w=>if h: ∃m,I m a w then Classical.choose (Qr h)else 0) ⟨n,p⟩ λ a w k=> ?_;have hs:=(Classical.choose_spec (Qr k)).1;refine wp_mono (f _ a w hs) λ e a' w' l=> ?_
 cases e with
 |normal=>
  obtain⟨g,i,d⟩:=l;refine⟨⟨g,d⟩,?_⟩;rw[dif_pos k,dif_pos ⟨g,d⟩];exact Nat.lt_of_le_of_lt ((Classical.choose_spec (Qr ⟨g,d⟩)).2 g d) i
 |_=>exact l
theorem ajl (hE:Ri P E) (hm:P.follows .mixedOrders=true) {n:Nat}: ∀(c:Code) (h:H) {ρ:Type} {s:St} {a:Act} {w:World} {g:Gh} {k:Ex->St->Option ρ} {r:ρ} {Q:Exit->Act->World->Prop},ev E n c h s k=some r->Rel E C s a w g->
 (∀e s' a' w' g',Rel E C s' a' w' g'->k e s'=some r->Q e.to a' w')->c.wp P Q a w:=by
 intro c
 have join: ∀(c:Code) {ρ:Type} {j:J} {a:Act} {w:World} {m:(Ex->St->Option j.V)->Option j.V} {k:Ex->St->Option ρ} {r:ρ} {Q:Exit->Act->World->Prop},
  (∀(z:Ex->St->Option j.V) (x:j.V) (Q:Exit->Act->World->Prop),m z=some x->(∀e s' a' w' g',Rel E C s' a' w' g'->z e s'=some x->Q e.to a' w')->c.wp P Q a w)->
  Zm E j m k=some r->(∀e s' a' w' g',Rel E C s' a' w' g'->k e s'=some r->Q e.to a' w')->c.wp P Q a w:=by
  intro c ρ j a w m k r Q R G q;unfold Zm at G;simp only[cond_eq_ite]at G;split at G
  ·rename_i B;obtain⟨x,A,p⟩:=aa6.1 G;refine R _ x Q A λ e s' a' w' g' v d=> ?_
   cases e with
   |normal=>
    obtain⟨g2,D⟩:=Qz B v d;exact q .normal _ _ _ _ D p
   |exit i=>cases d
   |ret=>cases d
  ·cases G
 have I: ∀(c:Code) {ρ:Type} {j:J} {a:Act} {w:World} {m:(Ex->St->Option (Sum j.V ρ))->Option (Sum j.V ρ)} {k:Ex->St->Option ρ} {r:ρ} {Q:Exit->Act->World->Prop},
  (∀(z:Ex->St->Option (Sum j.V ρ)) (x:Sum j.V ρ) (Q:Exit->Act->World->Prop),m z=some x->(∀e s' a' w' g',Rel E C s' a' w' g'->z e s'=some x->Q e.to a' w')->c.wp P Q a w)->
  aey E j m k=some r->(∀e s' a' w' g',Rel E C s' a' w' g'->k e s'=some r->Q e.to a' w')->c.wp P Q a w:=by
  intro c ρ j a w m k r Q R G q;unfold aey at G;simp only[cond_eq_ite]at G;split at G
  ·rename_i B;obtain⟨x,A,p⟩:=aa6.1 G;refine R _ x Q A λ e s' a' w' g' v d=> ?_
   cases e with
   |normal=>
    obtain⟨y,K,d⟩:=aa6.1 d;cases d;obtain⟨g2,D⟩:=Qz B v K;exact q .normal _ _ _ _ D p
   |exit i=>
    obtain⟨y,K,d⟩:=aa6.1 d;cases d;simp only[aag]at p;subst p;exact q (.exit i) _ _ _ _ v K
   |ret=>
    obtain⟨y,K,d⟩:=aa6.1 d;cases d;simp only[aag]at p;subst p;exact q .ret _ _ _ _ v K
  ·cases G
 induction c with
 |skip=>intro h ρ s a w g k r Q d v q;exact wp_skip (q .normal _ _ _ _ v d)
 |exit id=>intro h ρ s a w g k r Q d v q;exact wp_exit (q (.exit id) _ _ _ _ v d)
 |ret=>intro h ρ s a w g k r Q d v q;exact wp_ret (q .ret _ _ _ _ v d)
 |label l=>intro h ρ s a w g k r Q d v q;exact wp_label (q .normal _ _ _ _ v d)
 |scope c W=>
  intro h ρ s a w g k r Q d v q;refine wp_scope_straight (W h d v λ e s' a' w' g' f p=> ?_);have:=q e s' a' w' g' f p;cases e<;>exact this
 |region id a5 a3=>
  intro h ρ s a w g k r Q d v q;simp only[ev]at d;split at d
  ·rename_i j Y;exact join _ (λ z x Q A u=>Tz hE hm A v λ s' a' w' g' f p=>u .normal _ _ _ _ f p) d q
  ·exact Tz hE hm d v λ s' a' w' g' f p=>q .normal _ _ _ _ f p
 |seq x y M N=>
  intro h ρ s a w g k r Q d v q;simp only[ev]at d;split at d
  ·rename_i Z O;refine wp_seq (M Z d v λ e s' a' w' g' f p=> ?_)
   cases e with
   |normal=>exact N O p f q
   |exit i=>exact q (.exit i) _ _ _ _ f p
   |ret=>exact q .ret _ _ _ _ f p
  ·rename_i m Z O;refine wp_seq (M Z d v λ e s' a' w' g' f p=> ?_)
   cases e with
   |normal=>
    simp only[Dyn.Vz]at p;obtain⟨us,hu,p⟩:=aa6.1 p;obtain⟨g2,D⟩:=afl f hu;exact N O p D q
   |exit i=>exact q (.exit i) _ _ _ _ f p
   |ret=>exact q .ret _ _ _ _ f p
  ·cases d
 |cond cc x y M N=>
  intro h ρ s a w g k r Q d v q;simp only[ev]at d
  have L: ∀{ρ:Type} {z:Ex->St->Option ρ} {r:ρ} {Q:Exit->Act->World->Prop} {b:Bool} {A K:H},wR E s cc=some b->(bif b then ev E n x A s z else ev E n y K s z)=some r->
   (∀e s' a' w' g',Rel E C s' a' w' g'->z e s'=some r->Q e.to a' w')->(Code.cond cc x y).wp P Q a w:=by
   intro ρ z r Q b A K O Y u;refine wp_cond (t:=b) (MO v O) ?_
   cases b with
   |true=>exact M A Y v u
   |false=>exact N K Y v u
  split at d
  ·exact L (by assumption) d q
  ·exact join _ (λ z x Q A u=>L (by assumption) A u) d q
  ·exact I _ (λ z x Q A u=>L (by assumption) A u) d q
  ·cases d
 |block id c W=>
  intro h ρ s a w g k r Q d v q;simp only[ev]at d
  have blk: ∀{ρ:Type} {z:Ex->St->Option ρ} {r:ρ} {Q:Exit->Act->World->Prop} {S:H},ev E n c S s (inBlock id z)=some r->
   (∀e s' a' w' g',Rel E C s' a' w' g'->z e s'=some r->Q e.to a' w')->(Code.block id c).wp P Q a w:=by
   intro ρ z r Q S Y u;refine wp_block (W S Y v λ e s' a' w' g' f p=> ?_)
   cases e with
   |normal=>exact u .normal _ _ _ _ f p
   |ret=>exact u .ret _ _ _ _ f p
   |exit i=>
    simp only[inBlock,cond_eq_ite]at p;simp only[Ex.to,Exit.inBlock];split at p
    ·rename_i O;rw[if_pos (aao O)];exact u .normal _ _ _ _ f p
    ·rename_i O;rw[if_neg (λ e=>O (by rw[e];simp))];exact u (.exit i) _ _ _ _ f p
  split at d
  ·exact blk d q
  ·exact join _ (λ z x Q A u=>blk A u) d q
  ·exact I _ (λ z x Q A u=>blk A u) d q
  ·cases d
 |loop c W=>
  intro h ρ s a w g k r Q d v q;simp only[ev]at d;split at d
  ·rename_i j S;simp only[cond_eq_ite]at d;split at d
   ·cases d
   ·rename_i B;have B:jOk j=true:=by simpa using B
    obtain⟨x,A,U⟩:=aa6.1 d;obtain⟨g1,a0⟩:=Qz B v A
    refine V4 (λ m a w=> ∃(x:j.V) (g:Gh),bH (ρ:=ρ) (λ x rec=>ev E n c S (unpack j x) λ e s'=>match e with
     | .normal=>(Vq E j s').bind rec
     |e=>k e s') m x=some r/\Rel E C (unpack j x) a w g) ⟨x,g1,U,a0⟩ λ m a w hI=> ?_
    obtain⟨x,g,U,v⟩:=hI
    cases m with
    |zero=>simp only[bH]at U;cases U
    |succ m=>
     simp only[bH]at U;refine W S U v λ e s' a' w' g' f p=> ?_
     cases e with
     |normal=>
      obtain⟨y,K,p⟩:=aa6.1 p;obtain⟨g2,D⟩:=Qz B f K;exact⟨m,Nat.lt_succ_self m,y,g2,p,D⟩
     |exit i=>exact q (.exit i) _ _ _ _ f p
     |ret=>exact q .ret _ _ _ _ f p
  ·cases d
 |_=>intro h ρ s a w g k r Q d;simp only[ev]at d;cases d
theorem zT: ∀(ps:List PK) (i:Nat) (cs:LC) (q:LV) (s0:St),Fb w g ps i cs q->
 (∀n,n<i\/i+ps.length<=n->(qJ ps i cs s0).tm n=s0.tm n)/\
 (∀k v,q[k]? =some v-> ∀(u:St) (a:Act),TV u a w g (.tm (i+k)) ((qJ ps i cs s0).tm (i+k)).1 v)/\
 (∀n b,(qJ ps i cs s0).bx n=some b->s0.bx n=some b\/Fa w g n b)
 | [],i,cs,q,s0,h=>by
   refine⟨λ n _=>rfl,λ k v hv=> ?_,λ n b l=> .inl l⟩;obtain⟨_,rfl⟩:cs= []/\q= []:=h;simp at hv
 | .val ag want::ps,i,cs,q,s0,h=>by
   obtain⟨z,d,rfl,hv,h⟩: ∃v d,q=v::d/\Fg w g (.tm i) 0 ag (cs.take want.length) v/\Fb w g ps (i+1) (cs.drop want.length) d:=h;obtain⟨p,t,y⟩:=zT ps (i+1) (cs.drop want.length) d {s0 with tm:=put s0.tm i (.val ag (cs.take want.length),0)} h;refine⟨λ n m=> ?_,λ k v e u a=> ?_,λ n b l=> ?_⟩
   ·simp only[qJ];rw[p n (by simp at m;omega)];exact bJ _ _ _ (by simp at m;omega)
   ·simp only[qJ]
    cases k with
    |zero=>
     simp only[aaO,aag]at e;subst e;rw[aa0,p i Ω];simp only[bF];exact hv
    |succ k=>
     have:=t k v (by simpa using e) u a;rw[show i+(k+1)=i+1+k by omega];exact this
   ·exact y n b l
 | .io want::ps,i,cs,q,s0,h=>by
   obtain⟨z,d,rfl,hv,h⟩: ∃v d,q=v::d/\Fg w g (.tm i) 0 false (cs.take want.length) v/\Fb w g ps (i+1) (cs.drop want.length) d:=h;obtain⟨p,t,y⟩:=zT ps (i+1) (cs.drop want.length) d {s0 with tm:=put s0.tm i (.val false (cs.take want.length),0)} h;refine⟨λ n m=> ?_,λ k v e u a=> ?_,λ n b l=> ?_⟩
   ·simp only[qJ];rw[p n (by simp at m;omega)];exact bJ _ _ _ (by simp at m;omega)
   ·simp only[qJ]
    cases k with
    |zero=>
     simp only[aaO,aag]at e;subst e;rw[aa0,p i Ω];simp only[bF];exact hv
    |succ k=>
     have:=t k v (by simpa using e) u a;rw[show i+(k+1)=i+1+k by omega];exact this
   ·exact y n b l
 | .rptr want::ps,i,cs,q,s0,h=>by
   obtain⟨z,d,rfl,hv,h⟩: ∃v d,q=v::d/\(∃b off sg,v= .pointer (some ⟨b,off,none⟩)/\PS w g.F ⟨b,off,none⟩ sg/\bI (cs.take want.length)=true/\aC w g (.tm i) 0 (cs.take want.length) sg)/\Fb w g ps (i+1) (cs.drop want.length) d:=h;obtain⟨p,t,y⟩:=zT ps (i+1) (cs.drop want.length) d {s0 with tm:=put s0.tm i (.paddr (cs.take want.length) 0,0)} h;refine⟨λ n m=> ?_,λ k v e u a=> ?_,λ n b l=> ?_⟩
   ·simp only[qJ];rw[p n (by simp at m;omega)];exact bJ _ _ _ (by simp at m;omega)
   ·simp only[qJ]
    cases k with
    |zero=>
     simp only[aaO,aag]at e;subst e;rw[aa0,p i Ω];simp only[bF];obtain⟨b,off,sg,A,B,C,D⟩:=hv;exact⟨⟨b,off,none⟩,sg,A,B,C,D⟩
    |succ k=>
     have:=t k v (by simpa using e) u a;rw[show i+(k+1)=i+1+k by omega];exact this
   ·exact y n b l
 | .clo f want::ps,i,cs,q,s0,h=>by
   obtain⟨z,d,rfl,hv,h⟩: ∃v d,q=v::d/\(∃b off sg,v= .func (.func f) #[] #[.pointer (some ⟨b,off,none⟩)]/\PS w g.F ⟨b,off,none⟩ sg/\bI (cs.take want.length)=true/\aC w g (.tm i) 0 (cs.take want.length) sg)/\Fb w g ps (i+1) (cs.drop want.length) d:=h;obtain⟨p,t,y⟩:=zT ps (i+1) (cs.drop want.length) d {s0 with tm:=put s0.tm i (.clo f [.paddr (cs.take want.length) 0],0)} h;refine⟨λ n m=> ?_,λ k v e u a=> ?_,λ n b l=> ?_⟩
   ·simp only[qJ];rw[p n (by simp at m;omega)];exact bJ _ _ _ (by simp at m;omega)
   ·simp only[qJ]
    cases k with
    |zero=>
     simp only[aaO,aag]at e;subst e;rw[aa0,p i Ω];simp only[bF];obtain⟨b,off,sg,A,B,C,D⟩:=hv;exact⟨[.pointer (some ⟨b,off,none⟩)],A,_,[],rfl,trivial,⟨⟨b,off,none⟩,sg,rfl,B,C,D⟩,rfl⟩
    |succ k=>
     have:=t k v (by simpa using e) u a;rw[show i+(k+1)=i+1+k by omega];exact this
   ·exact y n b l
 | .fn f::ps,i,cs,q,s0,h=>by
   obtain⟨z,d,rfl,hv,h⟩: ∃v d,q=v::d/\v= .func (.func f) #[] #[]/\Fb w g ps (i+1) cs d:=h;obtain⟨p,t,y⟩:=zT ps (i+1) cs d {s0 with tm:=put s0.tm i (.fn f,0)} h;refine⟨λ n m=> ?_,λ k v e u a=> ?_,λ n b l=> ?_⟩
   ·simp only[qJ];rw[p n (by simp at m;omega)];exact bJ _ _ _ (by simp at m;omega)
   ·simp only[qJ]
    cases k with
    |zero=>
     simp only[aaO,aag]at e;subst e;rw[aa0,p i Ω];simp only[bF];exact hv
    |succ k=>
     have:=t k v (by simpa using e) u a;rw[show i+(k+1)=i+1+k by omega];exact this
   ·exact y n b l
 | .ptr want::ps,i,cs,q,s0,h=>by
   obtain⟨z,d,rfl,⟨hv,E⟩,h⟩: ∃v d,q=v::d/\(v= .pointer (some ⟨g.at_ i,0,none⟩)/\Fa w g i ⟨0,(cs.take want.length).map λ c=>(c,0)⟩)/\Fb w g ps (i+1) (cs.drop want.length) d:=h
   obtain⟨p,t,y⟩:=zT ps (i+1) (cs.drop want.length) d
    {tm:=put s0.tm i (.addr ⟨.box i,0,[],0,none⟩,0),bx:=put s0.bx i (some ⟨0,(cs.take want.length).map λ c=>(c,0)⟩)} h
   refine⟨λ n m=> ?_,λ k v e u a=> ?_,λ n b l=> ?_⟩
   ·simp only[qJ];rw[p n (by simp at m;omega)];exact bJ _ _ _ (by simp at m;omega)
   ·simp only[qJ]
    cases k with
    |zero=>
     simp only[aaO,aag]at e;subst e;rw[aa0,p i Ω];simp only[bF];exact⟨⟨abH _,λ _ _ _ _ _ j x c v G _=>by simp at G⟩,i,rfl,λ _ _ _=>hv⟩
    |succ k=>
     have:=t k v (by simpa using e) u a;rw[show i+(k+1)=i+1+k by omega];exact this
   ·rcases y n b l with l|l
    ·by_cases m:n=i
     ·subst m;simp only[bF,aag]at l;subst l;exact .inr E
     ·simp only[bJ _ _ _ m]at l;exact .inl l
    ·exact .inr l
def XW (tmps:Array Value):ResultVar->Sem Value
 | .tmp t=>pure (tmps.getD t undef)
 | .cell a t=>do loadVar t (←asAddr (tmps.getD a undef))
theorem Iq {hs:LC} {hv:LV} {ag:Bool} {ds cs:LC} {v:Value} {f:LV} (i:hv.length=hs.length) (d:v.cells.toList.length=ds.length)
 (h:aC w g .hand 0 (hs++ds++cs) (hv++v.cells.toList++f)) (e:isAgg v=ag):Fg w g .hand hs.length ag ds v:=by
 refine⟨e,?_⟩;have:=h.sub hs.length ds.length;rw[aa2]at this;rw[aaD,abQ,abL]at this;rw[←i]at this ⊢;rw[aaD,abQ,←d,abL]at this;exact this
theorem ac7 (hT:yu P E.ty): ∀(W:List ResultVar) (rs:List (Bool×List (Sh×Tg))) (s:St) (g:Gh) (hs:LC) (hv:LV) (cs:LC) (s':St),Rel E C s a w g->aC w g .hand 0 hs hv->vw E s W rs=some (cs,s')->
 ∃g' f,Rel E C s' a w g'/\aC w g' .hand 0 (hs++cs) (hv++f.flatMap (·.cells.toList))/\(W.mapM (XW a.tmps)).run P w= .ok f w/\Tagged cs (rs.flatMap (·.2))/\g'.at_=g.at_/\
  (∀rest,(resT rs (cs++rest)).2=rest/\mD w g' .hand hs.length (resT rs (cs++rest)).1 f)
 | [],[],s,g,hs,hv,cs,s',h,I,d=>by
   simp only[vw,aag,aaz]at d;obtain⟨rfl,rfl⟩:=d;exact⟨g,[],h,by simpa using I,by simp[Sem.run_pure],rfl,rfl,λ rest=>⟨rfl,rfl⟩⟩
 | [],_::_,s,g,hs,hv,cs,s',h,I,d=>by simp[vw]at d
 | .tmp _::_,[],s,g,hs,hv,cs,s',h,I,d=>by simp[vw]at d
 | .cell _ _::_,[],s,g,hs,hv,cs,s',h,I,d=>by simp[vw]at d
 | .tmp t::W,(ag,want)::rs,s,g,hs,hv,cs,s',h,I,d=>by
   simp only[vw]at d;split at d
   ·rename_i ds us hg;split at d
    ·rename_i L s2 l;simp only[aag,aaz]at d;obtain⟨rfl,rfl⟩:=d;obtain⟨g1,r1,Y,a1,b3,b4,A,a0⟩:=Kq (x:= .tmp t) h I hg;obtain⟨g2,f,r2,k2,z,B,a2,M⟩:=ac7 hT W rs (s.dW us) g1 (hs++ds) (hv++(a.eval (.tmp t)).cells.toList) L s2 r1 Y l;have D:=I.length;have N:(a.eval (.tmp t)).cells.toList.length=ds.length:=by have:=Y.length;simp only[aaq]at this;omega
     refine⟨g2,a.eval (.tmp t)::f,r2,by rw[←aaD,abq,←aaD];exact k2,?_,by rw[abq];exact a0.append B,a2.trans a1,λ rest=> ?_⟩
     ·rw[List.mapM_cons,Sem.run_bind];simp only[XW,Sem.run_pure,Result.andThen_ok,Sem.run_bind,z];rfl
     ·have hl:want.length=ds.length:=by have:=congrArg List.length a0;simpa using this.symm
      simp only[resT,aaD,hl,abL,abQ];obtain⟨q1,q2⟩:=M rest;refine⟨q1,_,f,rfl,Iq D N k2 A,?_⟩;rw[←aaq];exact q2
    ·cases d
   ·cases d
 | .cell t ty::W,(ag,want)::rs,s,g,hs,hv,cs,s',h,I,d=>by
   simp only[vw]at d;split at d
   ·rename_i p i hx hi;split at d
    ·rename_i a4 b8 hc;simp only[cond_eq_ite,aae]at d;split at d
     ·rename_i O;obtain⟨⟨A,m⟩,a5⟩:=O;have A:i.ag=ag:=by simpa using A
      have m:=aao m;split at d
      ·rename_i ds us hw hu;split at d
       ·rename_i L s2 l;simp only[aag,aaz]at d;obtain⟨rfl,rfl⟩:=d;have q:=h.tm t;rw[hx]at q;obtain⟨_,q⟩:Old s p/\_:=q;rw[b8]at q;obtain⟨n,hn,q⟩:=q;obtain⟨y,Q⟩:=h.pl hc;obtain⟨g1,r1,Y,a1,b3,b4⟩:=DX h I hc hw hu
        have R: ∃b,s.bx n=some b/\b.inst=p.inst:=by
         have:=hc;rw[bM]at this;obtain⟨cells,e,_⟩:=this;rw[hn]at e;simp only[aA]at e
         cases R:s.bx n with
         |none=>rw[R]at e;simp at e
         |some b=>rw[R]at e;simp only[aag,aaz]at e;exact⟨b,rfl,e.1⟩
        obtain⟨b,R,c2⟩:=R;obtain⟨cur,et,G,_⟩:=h.bx n b R;have c3:aB a w g p.root=cur.toList:=by rw[hn];simp only[aB,G]
        have a6:(((aB a w g p.root).drop p.cell).take want.length).length=i.cells.length:=by rw[y.length,Q,m]
        obtain⟨v,z,h1,h2⟩:=qW (P:=P) (w:=w) hT hi (g.at_ n) p.cell _ a6 (λ j hj=>by
         rw[a6]at hj;rw[cell_of_heap G,c3,aan,if_pos Ω,aas];simp)
        have a7:=qG (mk:=λ k=>dO p.root (p.cell+k)) (i:=i) (v:=v) (cs:=a4) (λ Z=>by
         rw[A]at Z;rw[Z]at a5
         simpa using a5) h1 h2 (aC.of _ _ _ y.length λ k c v hk hv=>by
          obtain⟨u,hu,d⟩:=y.get a4 p.cell _ k c hk;rw[hu]at hv;cases hv;simpa using d)
        have K:v.cells.toList=((aB a w g p.root).drop p.cell).take want.length:=by
         cases Z:i.ag with
         |true=>rw[h1 Z];simp[Value.cells]
         |false=>
          have:=a7.1;rw[Z]at this;rw[aH this,h2 Z]
        rw[←K]at Y;obtain⟨g2,f,r2,k2,S,B,a2,M⟩:=ac7 hT W rs (s.dW us) g1 (hs++ds) (hv++v.cells.toList) L s2 r1 Y l;have D:=I.length;have N:v.cells.toList.length=ds.length:=by have:=Y.length;simp only[aaq]at this;omega
        have U:(XW a.tmps (.cell t ty)).run P w= .ok v w:=by
         have e:a.tmps.getD t undef= .pointer (some ⟨g.at_ n,p.cell,none⟩):=q b R c2;simp only[XW,e,asAddr];simp only[Instr.loadAt,Instr.sureAddr]at z;exact z
        refine⟨g2,v::f,r2,by rw[←aaD,abq,←aaD];exact k2,?_,by rw[abq];exact(fD hw).append B,a2.trans a1,λ rest=> ?_⟩
        ·rw[List.mapM_cons,Sem.run_bind,U];simp only[Result.andThen_ok,Sem.run_bind,S];rfl
        ·have hl:want.length=ds.length:=by have:=congrArg List.length (fD hw);simpa using this.symm
         simp only[resT,aaD,hl,abL,abQ];obtain⟨q1,q2⟩:=M rest;refine⟨q1,_,f,rfl,Iq D N k2 (a7.1.trans A),?_⟩;rw[←aaq];exact q2
       ·cases d
      ·cases d
     ·cases d
    ·cases d
   ·cases d
theorem Vy {fn:Func} {tmps:Array Value} {d:LV} (h:(fn.results.toList.mapM (XW tmps)).run P w= .ok d w):
 (results fn tmps).run P w= .ok (match d with| [v]=>v|f=> .tuple f.toArray) w:=by
 have e:results fn tmps=(fn.results.mapM (XW tmps)>>=λ f=>pure (if h:f.size=1 then f[0]else .tuple f)):=by
  unfold results;congr 1
 rw[e,Array.mapM_eq_mapM_toList,Sem.run_bind];simp only[map_eq_pure_bind,Sem.run_bind,h,Result.andThen_ok,Sem.run_pure]
 match d with
 | []=>rfl
 | [v]=>rfl
 |x::y::f=>rfl
def adV (P:Program) (c:Spec):Prop:=
 P.funcs[c.sig.fn]? =some c.fn/\(c.fn.name== "runtime.NumGoroutine")=false/\Nat.ble c.sig.params.length c.fn.ntmps=true
theorem KJ: ∀{cs ds:LC} {want:List (Sh×Tg)},asIs cs want=some ds->ds=cs/\Tagged cs want
 | [],ds,[],h=>by simp only[asIs,aag]at h;exact⟨h.symm,rfl⟩
 | [],_,_::_,h=>by cases h
 |_::_,_,[],h=>by cases h
 |c::cs,ds,(sh,tg)::want,h=>by
  simp only[asIs,cond_eq_ite,aae]at h;split at h
  ·rename_i i;obtain⟨⟨k,e⟩,f⟩:=i;obtain⟨l,m,rfl⟩:=aaK.1 h;obtain⟨rfl,g⟩:=KJ m;have p:=aY8 k;have q:c.tg=tg:=by cases d:c.tg<;>cases tg<;>rw[d]at e f<;>first|rfl|(simp[Tg.le]at e;done)|(simp[Tg.le]at f;done)
   refine⟨rfl,?_⟩;simp only[Tagged,abo]at g ⊢;rw[g,p,q]
  ·cases h
theorem YI {α:Type} {c:Bool} {x:Option α} {y:α} (h:(bif c then x else none)=some y):c=true/\x=some y:=by
 cases c with
 |true=>exact⟨rfl,h⟩
 |false=>simp at h
theorem out_ok {w0:World} {g0:Gh} (h:Rel E C s a w' g'): ∀(ps:List PK) (i:Nat) (B:LV) (cs ds:LC),tX s ps i=some ds->Fb w0 g0 ps i cs B->(∀k v,B[k]? =some v->C.par (i+k)=some v)->(∀k,aen ps k=true->E.fix (i+k)=true)->
 adW w' g0 g' ps i B ds/\Tagged ds (ps.flatMap PK.outs)
 | [],i,B,cs,ds,g,_,_,_=>by simp only[tX,aag]at g;subst g;exact⟨trivial,rfl⟩
 | .val ag want::ps,i,B,cs,ds,g,⟨v,y,e,_,z⟩,t,u=>by
   subst e;exact out_ok h ps (i+1) y _ ds g z (λ k v d=>by have:=t (k+1) v (by simpa using d);rwa [show i+(k+1)=i+1+k by omega]at this) λ k d=>by have:=u (k+1) (by simpa [aen]using d);rwa [show i+(k+1)=i+1+k by omega]at this
 | .rptr want::ps,i,B,cs,ds,g,⟨v,y,e,_,z⟩,t,u=>by
   subst e;exact out_ok h ps (i+1) y _ ds g z (λ k v d=>by have:=t (k+1) v (by simpa using d);rwa [show i+(k+1)=i+1+k by omega]at this) λ k d=>by have:=u (k+1) (by simpa [aen]using d);rwa [show i+(k+1)=i+1+k by omega]at this
 | .fn f::ps,i,B,cs,ds,g,⟨v,y,e,_,z⟩,t,u=>by
   subst e;exact out_ok h ps (i+1) y _ ds g z (λ k v d=>by have:=t (k+1) v (by simpa using d);rwa [show i+(k+1)=i+1+k by omega]at this) λ k d=>by have:=u (k+1) (by simpa [aen]using d);rwa [show i+(k+1)=i+1+k by omega]at this
 | .clo f want::ps,i,B,cs,ds,g,⟨v,y,e,_,z⟩,t,u=>by
   subst e;exact out_ok h ps (i+1) y _ ds g z (λ k v d=>by have:=t (k+1) v (by simpa using d);rwa [show i+(k+1)=i+1+k by omega]at this) λ k d=>by have:=u (k+1) (by simpa [aen]using d);rwa [show i+(k+1)=i+1+k by omega]at this
 | .io want::ps,i,B,cs,ds,g,⟨v,y,e,_,z⟩,t,u=>by
   subst e;simp only[tX]at g;split at g
   ·rename_i a1 D M m;obtain⟨G,N,rfl⟩:=aaK.1 g;obtain⟨rfl,I⟩:=KJ N;obtain⟨O,Q⟩:=out_ok h ps (i+1) y _ D m z (λ k v d=>by have:=t (k+1) v (by simpa using d);rwa [show i+(k+1)=i+1+k by omega]at this) λ k d=>by have:=u (k+1) (by simpa [aen]using d);rwa [show i+(k+1)=i+1+k by omega]at this
    have K:want.length=G.length:=by have:=congrArg List.length I;simpa using this.symm
    have hv:a.eval (.tmp i)=v:=h.par i v (by have:=t 0 v rfl;simpa using this) (by have:=u 0 rfl;simpa using this);have l:=h.tm i;rw[M,hv]at l;refine⟨⟨⟨v,rfl,by rw[K,abL];exact l⟩,by rw[K,abQ];exact O⟩,?_⟩;rw[abq];exact I.append Q
   ·cases g
 | .ptr want::ps,i,B,cs,ds,g,⟨v,y,e,⟨R,_⟩,z⟩,t,u=>by
   subst e;simp only[tX]at g;split at g
   ·rename_i p b D M W m
    ·obtain⟨Y,g⟩:=YI g;simp only[aae]at Y;obtain⟨⟨⟨S,U⟩,Z⟩,L⟩:=Y;have S:=aao S;have U:=Root.same_eq U;have Z:=aao Z
     have L:p.sub=none:=by
      cases hs:p.sub with
      |none=>rfl
      |some q=>rw[hs]at L;cases L
     obtain⟨G,N,rfl⟩:=aaK.1 g;obtain⟨rfl,I⟩:=KJ N;obtain⟨O,Q⟩:=out_ok h ps (i+1) y _ D m z (λ k v d=>by have:=t (k+1) v (by simpa using d);rwa [show i+(k+1)=i+1+k by omega]at this) λ k d=>by have:=u (k+1) (by simpa [aen]using d);rwa [show i+(k+1)=i+1+k by omega]at this
     have K:want.length=(b.cells.map (·.1)).length:=by have:=congrArg List.length I;simpa using this.symm
     have hv:a.eval (.tmp i)=v:=h.par i v (by have:=t 0 v rfl;simpa using this) (by have:=u 0 rfl;simpa using this);have l:=h.tm i;rw[M]at l;obtain⟨_,l⟩:Old s p/\_:=l;rw[L]at l;obtain⟨n,hn,l⟩:=l;rw[U]at hn;cases hn;have A:=l b W S.symm;rw[hv,R]at A
     have A:g'.at_ i=g0.at_ i:=by
      simp only[Value.pointer.injEq,aag,Addr.mk.injEq]at A;exact A.1.symm
     obtain⟨cur,et,r1,r2,r3,r4⟩:=h.bx i b W;refine⟨⟨⟨A,cur,et,r1,r2,r3,?_⟩,by rw[K,abQ];exact O⟩,?_⟩
     ·rw[K,abL];simp only[nN];exact r4
     ·rw[abq];exact I.append Q
   ·cases g
theorem O6 {i:Nat}: ∀{l:List (Sh×Tg)} {j k:Nat} {sh:Sh},l[k]? =some (sh,.dead)->(i,j+k)∈OU i l j
 | [],_,_,_,h=>by simp at h
 |(s0,tg)::l,j,0,sh,h=>by
  simp only[aaO,aag,aaz]at h;obtain⟨_,rfl⟩:=h;simp[OU]
 |(s0,tg)::l,j,k+1,sh,h=>by
  have:=O6 (i:=i) (j:=j+1) (k:=k) (l:=l) (by simpa using h);rw[show j+1+k=j+(k+1) by omega]at this;cases tg<;>simp only[OU]<;>first|exact this|exact aaS _ this
theorem SH: ∀{ps:List PK} {i k:Nat} {want:List (Sh×Tg)} {j:Nat} {sh:Sh},ps[k]? =some (.ptr want)->want[j]? =some (sh,.dead)->(i+k,j)∈U5 ps i
 | [],_,_,_,_,_,h,_=>by simp at h
 |p::ps,i,0,want,j,sh,h,d=>by
  simp only[aaO,aag]at h;subst h;simp only[U5];refine aaF _ ?_;have:=O6 (i:=i) (j:=0) d;simpa using this
 |p::ps,i,k+1,want,j,sh,h,d=>by
  have:=SH (ps:=ps) (i:=i+1) (k:=k) (by simpa using h) d;rw[show i+1+k=i+(k+1) by omega]at this;cases p<;>simp only[U5]<;>first|exact this|exact aa4 _ this
theorem ac4 {g0:Gh}: ∀{ps:List PK} {i:Nat} {l:LV} {cs:LC} {k:Nat} {want:List (Sh×Tg)},adW w g0 g ps i l cs->ps[k]? =some (.ptr want)->g.at_ (i+k)=g0.at_ (i+k)
 | [],_,_,_,_,_,_,h=>by simp at h
 |p::ps,i,l,cs,0,want,e,h=>by
  simp only[aaO,aag]at h;subst h;exact e.1.1
 |p::ps,i,l,cs,k+1,want,e,h=>by
  have t:ps[k]? =some (.ptr want):=by simpa using h
  have key: ∀{m q},adW w g0 g ps (i+1) m q->g.at_ (i+(k+1))=g0.at_ (i+(k+1)):=λ u=>by
   have:=ac4 u t
   rwa [show i+1+k=i+(k+1) by omega]at this
  cases p with
  |ptr d=>exact key e.2
  |io d=>exact key e.2
  |val ag d=>exact key e
  |rptr d=>exact key e
  |fn f=>exact key e
  |clo f d=>exact key e
theorem agy {E:Env} (hT:yu P E.ty) {c:Spec} (hF:adV P c) (a4:E.nt=c.fn.ntmps) (a5:E.fix=aen c.sig.params) (a6:E.kept=U5 c.sig.params 0) {f:c.sig.In->Option c.sig.Out}
 (h: ∀x r,f x=some r-> ∃p,c.fn.body=some p/\ ∀(C:Ctx) (a:Act) (w:World) (g:Gh),Rel E C (enter c.sig x) a w g->
  p.wp P (λ e a' w'=>(e= .normal\/e= .ret)/\ ∃s' g',Rel E C s' a' w' g'/\leave E c.sig c.fn.results.toList s'=some r) a w):Good P E.glob c.sig f:=by
 intro x r hx;obtain⟨p,u,hw⟩:=h x r hx;obtain⟨O,G,z⟩:=hF;refine⟨⟨_,O,by rw[u];rfl,G⟩,λ w g d q hG Q a8 a9=> ?_⟩;refine calls_of_wp O u ?_
 let C:Ctx:=⟨w,g.F,λ b=> ∃ow,g.own b=some ow,λ n=>d[n]?,λ n j=>open Classical in if(n,j)∈E.kept then V9 w g n j else none⟩
 have b3:=q.length;have z:=abl z;obtain⟨k1,k2,k3⟩:=zT _ 0 _ d sU q
 let I:Act:={tmps:=d.toArray++Array.replicate (c.fn.ntmps-d.toArray.size) undef,defers:=[]}
 have hR:Rel E C (enter c.sig x) I w g:=by
  have b0: ∀m v,d[m]? =some v->I.eval (.tmp m)=v:=λ m v hv=>by
   have K:m<d.length:=by
    rcases aaG m d.length with h|h
    ·exact h
    ·simp[aal h]at hv
   simp only[I,Act.eval,abj];rw[Array.getElem?_append_left (by simpa using K)];simp[hv]
  refine⟨λ m=> ?_,λ m b u=> ?_,?_,rfl,λ gl cs hg=> ?_,?_,λ m v hv _=>b0 m v hv,λ n j v hv=> ?_⟩
  ·by_cases K:m<d.length
   ·have hv:d[m]? =some d[m]:=aac K
    have e:I.eval (.tmp m)=d[m]:=by
     simp only[I,Act.eval,abj];rw[Array.getElem?_append_left (by simpa using K)];simp[K]
    rw[e];have:=k2 m _ hv (enter c.sig x) I;rw[aa2]at this;exact this
   ·have:(enter c.sig x).tm m=(.dead,0):=k1 m (.inr Ω);rw[this];exact trivial
  ·rcases k3 m b u with h|h
   ·cases h
   ·exact h
  ·show(d.toArray++Array.replicate (c.fn.ntmps-d.toArray.size) undef).size=E.nt;rw[a4];simp only[Array.size_append,acf,acC];omega
  ·obtain⟨q1,vs,q2,q3⟩:=hG gl cs hg;exact⟨q1,vs,q2,q3⟩
  ·exact⟨rfl,rfl,rfl,aaw _,λ _ _ _=>rfl,λ b ow e=>⟨.inl ⟨ow,e⟩,Q b ow e⟩,Keeps.refl _ _,λ b o e=>⟨.inl e,a8 b o e⟩,a9⟩
  ·simp only[C]at hv;split at hv
   ·rename_i K;refine⟨K,λ cs _=> ?_⟩;simp only[V9]at hv;simp only[aB];split at hv
    ·rename_i u;simp only[u];exact hv
    ·cases hv
   ·cases hv
 refine wp_mono (hw C I w g hR) λ e a' w' hq=> ?_;obtain⟨he,s',g',hr,A⟩:=hq
 have fin:bodyPost P c.fn (λ e w'=> ∃v g',e= .returned v/\Base w g.F (λ b=> ∃ow,g.own b=some ow) w' g'/\
  adX w' g' .hand (resT c.sig.res (retag c.sig.outs (cellsOf _ r))).1 v/\adW w' g g' c.sig.params 0 d (resT c.sig.res (retag c.sig.outs (cellsOf _ r))).2/\ahY w w' g c.sig.params) .ret a' w':=by
  unfold leave at A;obtain⟨L,A⟩:=YI A;split at A
  ·rename_i cs s2 R;split at A
   ·rename_i ds S;obtain⟨g2,M,r2,q1,q2,q3,q4,q5⟩:=ac7 hT _ _ s' g' [] [] cs s2 hr rfl R;obtain⟨p1,p2⟩:=out_ok r2 _ 0 d _ ds S q (λ k v N=>by rw[aa2];exact N) (λ k N=>by rw[a5,aa2];exact N)
    have B:retag c.sig.outs (cellsOf _ r)=cs++ds:=by
     have U:Tagged (cs++ds) c.sig.outs:=q3.append p2;rw[sO _ _ _ A,yM U]
    refine⟨hr.defers,_,Vy q2,_,g2,rfl,r2.base,?_,?_,?_⟩
    rotate_left
    ·rw[B,(q5 ds).1];exact p1
    ·intro i want j sh v W hw hv
     have D:(i,j)∈E.kept:=by
      rw[a6];have:=SH (i:=0) W hw;simpa using this
     have hC:C.kept i j=some v:=by simp only[C];rw[if_pos D];exact hv
     have N:=aaV.1 (show(E.kept.all _)=true from L) _ D;simp only at N;split at N
     ·rename_i c9 b2;have t:=(hr.aux i j v hC).2 _ b2;have Y:=ac4 p1 W;rw[aa2,q4]at Y;simp only[aB,Y]at t;simp only[V9];split at t
      ·rename_i u;simp only[u];exact t
      ·simp at t
     ·cases N
    rw[B];have q6:=(q5 ds).2;rw[aci]at q6;generalize (resT c.sig.res (cs++ds)).1=ts at q6
    match ts,M,q6 with
    | [],[],q6=>exact⟨[],rfl,q6⟩
    | [(ag,ds)],[v],q6=>
      obtain⟨Z,ws,l,e2,e3⟩:=q6;simp only[abk]at l;obtain⟨rfl,rfl⟩:=l;exact e2
    | [(ag,ds)],[],q6=>obtain⟨Z,ws,l,_⟩:=q6;cases l
    | [(ag,ds)],x::y::zs,q6=>
      obtain⟨Z,ws,l,e2,e3⟩:=q6;simp only[abk]at l;obtain⟨rfl,rfl⟩:=l;cases e3
    |t1::t2::ts,[],q6=>obtain⟨Z,ws,l,_⟩:=q6;cases l
    |(d3,d1)::(d4,d2)::ts,[v],q6=>
     obtain⟨Z,ws,l,_,e3⟩:=q6;simp only[abk]at l;obtain⟨rfl,rfl⟩:=l;obtain⟨Z,ws,l,_⟩:=e3;cases l
    |t1::t2::ts,v1::v2::vs,q6=>exact⟨v1::v2::vs,rfl,q6⟩
    | [],v::vs,q6=>cases q6
   ·cases A
  ·cases A
 rcases he with rfl|rfl
 ·exact fin
 ·exact fin
theorem Xc (p:Prg) (q:yu P p.ty) (u:P.follows .mixedOrders=true) (hF: ∀i,(p.spec i).ext=none->adV P (p.spec i))
 (v: ∀i e,(p.spec i).ext=some e->Good P p.glob (p.spec i).sig e): ∀n i,Good P p.glob (p.spec i).sig (p.run n i):=by
 intro n
 induction n with
 |zero=>intro i x r h;cases h
 |succ n y=>
  intro i
  cases d:(p.spec i).ext with
  |some e=>
   intro x r h;refine v i e d x r ?_;have f:p.phi i n (p.run n) x=some r:=h;unfold Prg.phi at f;rw[d]at f;exact f
  |none=>
   have z:Ri P (p.env i (p.run n)):=⟨q,y⟩;refine agy (E:=p.env i (p.run n)) q (hF i d) rfl rfl rfl λ x r h=> ?_;have f:p.phi i n (p.run n) x=some r:=h;unfold Prg.phi at f;rw[d]at f;simp only at f
   have k: ∃c,(p.spec i).fn.body=some c:=by
    cases l:(p.spec i).fn.body with
    |some c=>exact⟨c,rfl⟩
    |none=>rw[l]at f;simp[ev]at f
   obtain⟨c,l⟩:=k;rw[l]at f;simp only[aby]at f;refine⟨c,l,λ C a w g A=> ?_⟩;refine ajl z u c _ f A λ e s' a' w' g' t m=> ?_
   cases e with
   |normal=>exact⟨.inl rfl,s',g',t,m⟩
   |ret=>exact⟨.inr rfl,s',g',t,m⟩
   |exit i=>cases m
end
def sumW {α:Type} (f:α->Nat):List α->Nat
 | []=>0
 |x::d=>f x+sumW f d
def af9 {α:Type} (p:α->Prop):List α->Prop
 | []=>True
 |x::d=>p x/\af9 p d
mutual
def RT.wt {α:Type} (f:α->Nat):RT α->Nat
 | .mk a ks=>f a+RT.wts f ks+1
def RT.wts {α:Type} (f:α->Nat):List (RT α)->Nat
 | []=>0
 |t::ts=>RT.wt f t+RT.wts f ts
end
mutual
def RT.all {α:Type} (p:α->Prop):RT α->Prop
 | .mk a ks=>p a/\RT.ai5 p ks
def RT.ai5 {α:Type} (p:α->Prop):List (RT α)->Prop
 | []=>True
 |t::ts=>RT.all p t/\RT.ai5 p ts
end
mutual
def wt:(sh:Sh)->El sh->Nat
 | .int _,_=>1
 | .bool,_=>1
 | .str,b=>ByteArray.size b+1
 | .sl es,l=>sumW (wtA es) l+1
 | .rsl ss,l=>RT.wts (wtA ss) l+1
 | .dl _,_=>1
 | .mp _ _,_=>1
def wtA:(es:List Sh)->ElA es->Nat
 | [],_=>0
 |s::ss,x=>match ss,x with
  | [],x=>wt s x
  |t::ts,x=>wt s x.1+wtA (t::ts) x.2
end
mutual
def fit:(sh:Sh)->El sh->Prop
 | .int k,n=>(Lit.int k n).wf=true
 | .bool,_=>True
 | .str,_=>True
 | .sl es,l=>af9 (Fv es) l
 | .rsl ss,l=>RT.ai5 (Fv ss) l
 | .dl _,_=>True
 | .mp _ _,_=>True
def Fv:(es:List Sh)->ElA es->Prop
 | [],_=>True
 |s::ss,x=>match ss,x with
  | [],x=>fit s x
  |t::ts,x=>fit s x.1/\Fv (t::ts) x.2
end
section
variable {w:World} {F:Fz}
theorem Pj {s:Sh} {ss:List Sh} {x:El s} {v:Value} {y:ElA ss} {cs:LV} (f:jM w F s x v) (g:dX w F ss y cs): ∃z:ElA (s::ss),dX w F (s::ss) z (v::cs)/\wtA (s::ss) z=wt s x+wtA ss y/\(fit s x->Fv ss y->Fv (s::ss) z):=by
 cases ss with
 |nil=>
  have d:cs= []:=g;subst d;exact⟨x,⟨v,rfl,f⟩,by simp only[wtA];omega,λ e _=>e⟩
 |cons t ts=>exact⟨(x,y),⟨v,cs,rfl,f,g⟩,rfl,λ e i=>⟨e,i⟩⟩
theorem Jr {s:Sh} {ss:List Sh} {z:ElA (s::ss)} {cs:LV} (h:dX w F (s::ss) z cs): ∃(x:El s) (y:ElA ss) (v:Value) (ds:LV),cs=v::ds/\jM w F s x v/\dX w F ss y ds/\wtA (s::ss) z=wt s x+wtA ss y/\(Fv (s::ss) z->fit s x/\Fv ss y):=by
 cases ss with
 |nil=>
  obtain⟨v,e,f⟩:=h;exact⟨z,(),v,[],e,f,rfl,by simp only[wtA];omega,λ d=>⟨d,trivial⟩⟩
 |cons t ts=>
  obtain⟨v,ds,e,g,i⟩:=h;exact⟨z.1,z.2,v,ds,e,g,i,rfl,λ d=>d⟩
theorem Ea: ∀{es d:List Sh} {x:ElA es} {y:ElA d} {cs ds:LV},dX w F es x cs->dX w F d y ds-> ∃z:ElA (es++d),dX w F (es++d) z (cs++ds)/\wtA (es++d) z=wtA es x+wtA d y/\(Fv es x->Fv d y->Fv (es++d) z)
 | [],d,x,y,cs,ds,f,g=>by
   have:cs= []:=f;subst this;exact⟨y,g,(aa2 _).symm,λ _ i=>i⟩
 |s::ss,d,z,y,cs,ds,f,g=>by
  obtain⟨x,E,v,p,rfl,q,t,u,k⟩:=Jr f;obtain⟨A,q1,q2,q3⟩:=Ea t g;obtain⟨l,B,C,D⟩:=Pj q q1
  exact⟨l,B,by
   have e:wtA (s::ss++d) l=wt s x+wtA (ss++d) A:=C;rw[e,q2,u];omega,λ m i=>D (k m).1 (q3 (k m).2 i)⟩
theorem MS: ∀{es d:List Sh} {z:ElA (es++d)} {cs:LV},dX w F (es++d) z cs-> ∃(x:ElA es) (y:ElA d) (f g:LV),cs=f++g/\dX w F es x f/\dX w F d y g/\wtA (es++d) z=wtA es x+wtA d y/\(Fv (es++d) z->Fv es x/\Fv d y)
 | [],d,z,cs,h=>⟨(),z,[],cs,rfl,rfl,h,(aa2 _).symm,λ e=>⟨trivial,e⟩⟩
 |s::ss,d,z,cs,h=>by
  obtain⟨x,k,v,l,rfl,m,p,q,i⟩:=Jr (ss:=ss++d) h;obtain⟨C,y,f,g,rfl,q1,q2,q3,q4⟩:=MS p;obtain⟨t,u,A,B⟩:=Pj m q1;refine⟨t,y,v::f,g,rfl,u,q2,?_,λ e=>⟨B (i e).1 (q4 (i e).2).1,(q4 (i e).2).2⟩⟩;rw[A];have:wtA (s::ss++d) z=wt s x+wtA (ss++d) k:=q;rw[this,q3];omega
theorem ahG {ss:List Sh} {z:ElA (ss++[.rsl ss])} {cs:LV} (h:dX w F (ss++[.rsl ss]) z cs): ∃t:RT (ElA ss),qQ w F (dX w F ss) t cs/\RT.wt (wtA ss) t=wtA (ss++[.rsl ss]) z/\(Fv (ss++[.rsl ss]) z->RT.all (Fv ss) t):=by
 obtain⟨x,y,d,e,rfl,f,g,i,k⟩:=MS h;obtain⟨v,rfl,hv⟩: ∃v,e= [v]/\jM w F (.rsl ss) y v:=g;refine⟨.mk x y,⟨d,v,rfl,f,hv⟩,?_,λ l=>k l⟩;rw[i];simp only[RT.wt,wtA,wt];omega
end
structure V5 {H:Type} (B:DataW H->Nat):Prop where
 lit: ∀l,1<=B (.lit l)
 str: ∀b,b.length+1<=B (.lit (.string b))
 nil:1<=B .nil
 slice: ∀es sp,sumW B es+1<=B (.slice es sp)
 agg: ∀ps,sumW B ps<=B (.agg ps)
def yc (ty:TypeId->Option TyI):List (TypeId×Nat)->Nat->Option (List Sh)
 | [],_=>some []
 |(t,off)::d,k=>bif Nat.beq off k then match ty t with
  |some j=>(yc ty d (k+j.cells.length)).map (j.cells++ ·)
  |none=>none else none
def ae5 (P:Program) (ty:TypeId->Option TyI) (t:TypeId) (i:TyI):Bool:=
 match P.underlying t with
 |some (.struct d)=>match yc ty (d.toList.map λ f=>(f.type,f.offset)) 0 with
  |some cs=>aX0 cs i.cells
  |none=>false
 |some (.slice e)=>match ty e with
  |some j=> !j.cells.isEmpty
  |none=>false
 |_=>true
def ahZ (P:Program) (ty:TypeId->Option TyI):Prop:= ∀t i,ty t=some i->ae5 P ty t i=true
section
variable {H:Type} {enc:TypeId×Value->H} {P:Program} {ty:TypeId->Option TyI} {w:World}
theorem Nb {B:DataW H->Nat} {n:Nat} (v: ∀(t:TypeId) (i:TyI) (cs:LV) (x:DataW H×List MemPlace),ty t=some i->(i.cells.all λ s=> !s.Kr)=true->DataW.trod enc P w 0 (λ _=>true) true n t cs=some x->
 ∃y:ElA i.cells,dX w (λ b _=>b<w.heap.size) i.cells y cs/\wtA i.cells y<=B x.1/\Fv i.cells y) (A: ∀t i,ty t=some i->P.cellsOf t=i.cells.length) (cs:LV):
 ∀(l:List (TypeId×Nat)) (k:Nat) (sh:List Sh) (g:List (DataW H×List MemPlace)),yc ty l k=some sh->(sh.all λ s=> !s.Kr)=true->g.length=l.length->
  (∀(i:Nat) (f:TypeId×Nat),l[i]? =some f->DataW.trod enc P w 0 (λ _=>true) true n f.1 ((cs.drop f.2).take (P.cellsOf f.1))=g[i]?)->k+sh.length=cs.length->
  ∃y:ElA sh,dX w (λ b _=>b<w.heap.size) sh y (cs.drop k)/\wtA sh y<=sumW B (g.map (·.1))/\Fv sh y
 | [],k,sh,g,hs,e,m,p,q=>by
   simp only[yc,aag]at hs;subst hs;refine⟨(),?_,abH _,trivial⟩;show cs.drop k= [];exact aa3 (by simp at q;omega)
 |(t,off)::l,k,sh,g,hs,e,m,p,q=>by
  simp only[yc,cond_eq_ite]at hs;split at hs
  ·rename_i d;have d:=aao d;subst d;split at hs
   ·rename_i j C;obtain⟨rest,E,rfl⟩:=aaK.1 hs
    match g,m with
    |x::g,m=>
     have D:=p 0 (t,off) rfl;simp only[aaO]at D;simp only[acO,aae]at e;obtain⟨y,q1,q2,q3⟩:=v t j _ x C e.1 D
     obtain⟨z,G,O,I⟩:=Nb v A cs l (off+j.cells.length) rest g E e.2 (by simpa using m) (λ i f K=>by
      have:=p (i+1) f (by simpa using K);simpa using this) (by simp only[aaq]at q;omega)
     rw[A t j C]at q1;obtain⟨u,L,M,N⟩:=Ea q1 G;refine⟨u,?_,?_,N q3 I⟩
     ·have:(cs.drop off).take j.cells.length++cs.drop (off+j.cells.length)=cs.drop off:=by
       rw[←List.drop_drop];exact abb _ _
      rw[←this];exact L
     ·rw[M];simp only[abo,sumW];omega
   ·cases hs
  ·cases hs
theorem ag5 (hT:yu P ty) (hR:ahZ P ty) {B:DataW H->Nat} (hB:V5 B): ∀(L:Nat) (t:TypeId) (i:TyI) (cs:LV) (x:DataW H×List MemPlace),ty t=some i->(i.cells.all λ s=> !s.Kr)=true->DataW.trod enc P w 0 (λ _=>true) true L t cs=some x->
 ∃y:ElA i.cells,dX w (λ b _=>b<w.heap.size) i.cells y cs/\wtA i.cells y<=B x.1/\Fv i.cells y:=by
 have C: ∀t i,ty t=some i->P.cellsOf t=i.cells.length:=by
  intro t i hi;obtain⟨info,d,z,v⟩:=hT.at_ hi;simp only[Program.cellsOf,v.inf,aaL,aby,v.size]
 intro L
 induction L with
 |zero=>intro t i cs x _ _ h;simp[DataW.trod]at h
 |succ n ih=>
  intro t i cs x hi a1 h;obtain⟨info,d,z,v⟩:=hT.at_ hi;have u:=v.desc;unfold qN at u;split at u
  ·
   rename_i e;simp only[aae]at u;obtain⟨_,u⟩:=u;split at u
   ·rename_i sh M;simp only[aae]at u;obtain⟨N,u⟩:=u;split at u
    ·rename_i j hj;simp only[aae]at u;have A:=jR u.1;have c9:=u.2;rw[M];rcases DataW.trod_slice v.und h with⟨rfl,rfl⟩|⟨a,len,K,p,rest,m,hm,rfl,rfl,hb,b5,b6,g2,O,_,_⟩
     ·refine⟨lG sh,?_,?_,?_⟩
      ·refine⟨.slice none 0 0,rfl,?_⟩;have:=Rh (w:=w) (g:=⟨λ _=>0,λ _=>none,λ b _=>b<w.heap.size⟩) (ow:= .hand 0) N .pure;exact this
      ·have:=hB.nil;show wt sh (lG sh)<=B .nil;cases sh<;>first|(simp only[wt,lG,sumW,RT.wts];omega)|cases N
      ·show fit sh (lG sh);cases sh<;>first|exact trivial|cases N
     ·obtain rfl:m=n:=by omega
      have hn:P.cellsOf e=sh.n:=by rw[C e j hj,A,kX]
      have b7: ∀k,k<len-> ∃(y:ElA j.cells) (cells:LV),cells.length=sh.n/\(∀q,q<sh.n->w.cell? ((a.add (k*sh.n)).add q)=cells[q]?)/\dX w (λ b _=>b<w.heap.size) j.cells y cells/\
       wtA j.cells y<=B ((p.map (·.1)).getD k .nil)/\Fv j.cells y:=by
       intro k hk;have W:=O k hk;have Q:k<p.length:=by omega
       rw[aac Q]at W;obtain⟨cells,hc,ht⟩:=aa6.1 W;obtain⟨_,Y,b8⟩:=World.cells?_some hc;obtain⟨y,q1,q2,q3⟩:=ih e j cells _ hj c9.1 ht;rw[hn]at Y b8;refine⟨y,cells,Y,λ q hq=> ?_,q1,?_,q3⟩
       ·have:=b8 q hq;exact this
       ·simp only[abg,aau,aac Q,aaL,aby];exact q2
      have all: ∀(m:Nat),m<=len-> ∃(l:List (ElA j.cells)) (row:LV),l.length=m/\row.length=m*sh.n/\(∀q,q<row.length->w.cell? (a.add q)=row[q]?)/\fH (dX w (λ b _=>b<w.heap.size) j.cells) l row/\
       sumW (wtA j.cells) l<=sumW B ((p.map (·.1)).take m)/\af9 (Fv j.cells) l:=by
       intro m
       induction m with
       |zero=>exact λ _=>⟨[],[],rfl,Θ,λ q hq=>by simp at hq,rfl,abH _,trivial⟩
       |succ m d0=>
        intro hm;obtain⟨l,row,l1,l2,l3,l4,l5,l6⟩:=d0 Ω;obtain⟨y,cells,c1,c2,c3,c4,c5⟩:=b7 m Ω;have G:=jW (w:=w) (F:=λ b _=>b<w.heap.size) j.cells;refine⟨l++[y],row++cells,by simp[l1],by simp[l2,c1,abx],λ q hq=> ?_,?_,?_,?_⟩
        ·by_cases a4:q<row.length
         ·rw[aax a4];exact l3 q a4
         ·rw[aaB Ω];simp only[aaq,c1]at hq;have:=c2 (q-row.length) Ω;rw[←this];congr 1;rw[l2]at a4 ⊢;unfold Addr.add;by_cases h0:m*sh.n=0
          ·simp[h0]
          ·by_cases W:q-m*sh.n=0
           ·have:q=m*sh.n:=by omega
            simp[h0,this]
           ·have:q≠0:=by omega
            simp[h0,W,this];omega
        ·exact G.append l [y] row cells l4 ⟨cells,[],Θ,c3,rfl⟩
        ·have Q:m<(p.map (·.1)).length:=by simp;omega
         rw[List.take_succ_eq_append_getElem Q]
         have hs: ∀(f:DataW H->Nat) (E R:List (DataW H)),sumW f (E++R)=sumW f E+sumW f R:=by
          intro f E R
          induction E with
          |nil=>simp[sumW]
          |cons a E S=>simp only[acJ,sumW,S];omega
         have d2: ∀(f:ElA j.cells->Nat) (E R:List (ElA j.cells)),sumW f (E++R)=sumW f E+sumW f R:=by
          intro f E R
          induction E with
          |nil=>simp[sumW]
          |cons a E S=>simp only[acJ,sumW,S];omega
         rw[hs,d2];have:(p.map (·.1)).getD m .nil=(p.map (·.1))[m]:=by simp[abg,aac Q]
         rw[this]at c4;simp only[sumW];omega
        ·have ha: ∀(E R:List (ElA j.cells)),af9 (Fv j.cells) E->af9 (Fv j.cells) R->af9 (Fv j.cells) (E++R):=by
          intro E R W h2
          induction E with
          |nil=>exact h2
          |cons a E S=>exact⟨W.1,S W.2⟩
         exact ha l [y] l6 ⟨c5,trivial⟩
      obtain⟨l,row,l1,l2,l3,l4,l5,l6⟩:=all len (aaw _)
      have D:sumW (wtA j.cells) l+1<=B (.slice (p.map (·.1)) (rest.map (·.1))):=by
       have:=hB.slice (p.map (·.1)) (rest.map (·.1));rw[aaJ Δ]at l5;omega
      have a0:len=0\/ ∃ad,(some a:Option Addr)=some ad/\ad.spot=none/\PS w (λ b _=>b<w.heap.size) ad row:=by
       by_cases h0:len=0
       ·exact .inl h0
       ·right;have a6:sh.n≠0\/sh.n=0:=by omega
        rcases a6 with a7|a7
        ·have I:0<row.length:=by rw[l2];exact Nat.mul_pos Ω Ω
         have U: ∀q,q<row.length->w.cell? (a.add q)=row[q]? :=l3
         have a8:a.spot=none:=by
          have:=U 0 I;have e0:a.add 0=a:=by simp[Addr.add]
          rw[e0,aac I]at this;unfold World.cell? at this;split at this
          ·split at this
           ·cases this
           ·rename_i d4;simpa using d4
          ·cases this
         have d5:a.block<w.heap.size:=by
          have:=U 0 I;have e0:a.add 0=a:=by simp[Addr.add]
          rw[e0,aac I]at this;unfold World.cell? at this;split at this
          ·rename_i hh;exact(abz.1 hh).1
          ·cases this
         refine⟨a,rfl,a8,λ q hq=>⟨?_,d5⟩⟩;rw[←U q hq];congr 1;unfold Addr.add;split
         ·rename_i e;subst e;cases a;simp_all
         ·rfl
        ·exfalso
         cases sh with
         |sl es=>
          have d6:es= []:=by simpa [Sh.n]using a7
          subst d6;have G:=hR t i hi;unfold ae5 at G;rw[v.und]at G;simp only[hj]at G;have:j.cells= []:=A;rw[this]at G;cases G
         |rsl ss=>simp[Sh.n]at a7
         |_=>cases N
      cases sh with
      |sl es=>
       have A:j.cells=es:=A;obtain⟨d7,Z,jf,d8,je⟩:=j;simp only at A l l4 l5 l6 D;subst A;refine⟨l,⟨.slice (some a) len K,rfl,some a,K,by rw[show List.length l=len from l1],by show List.length l<=K;rw[l1];exact b5,?_⟩,D,l6⟩;rcases a0 with h0|⟨ad,e1,e2,e3⟩
       ·exact .inl (by show List.length l=0;omega)
       ·exact .inr ⟨ad,row,e1,e2,e3,l4⟩
      |rsl ss=>
       have A:j.cells=ss++[.rsl ss]:=A;obtain⟨d7,Z,jf,d8,je⟩:=j;simp only at A l l4 l5 l6 D;subst A
       have conv: ∀(l:List (ElA (ss++[.rsl ss]))) (row:LV),fH (dX w (λ b _=>b<w.heap.size) (ss++[.rsl ss])) l row->af9 (Fv (ss++[.rsl ss])) l->
        ∃ts:List (RT (ElA ss)),ts.length=l.length/\jH w (λ b _=>b<w.heap.size) (dX w (λ b _=>b<w.heap.size) ss) ts row/\RT.wts (wtA ss) ts=sumW (wtA (ss++[.rsl ss])) l/\RT.ai5 (Fv ss) ts:=by
        intro l
        induction l with
        |nil=>intro row G _;exact⟨[],rfl,(show jH _ _ _ [] row from by unfold jH;exact G),rfl,trivial⟩
        |cons z l e6=>
         rintro row ⟨c1,c2,rfl,W,h2⟩ ⟨e7,e8⟩;obtain⟨ts,t1,t2,t3,t4⟩:=e6 c2 h2 e8;obtain⟨tr,q1,q2,q3⟩:=ahG W;exact⟨tr::ts,by simp[t1],((kL ss).cons tr ts _).2 ⟨c1,c2,rfl,q1,t2⟩,by simp only[RT.wts,sumW,q2,t3],⟨q3 e7,t4⟩⟩
       obtain⟨ts,t1,t2,t3,t4⟩:=conv l row l4 l6
       refine⟨ts,⟨.slice (some a) len K,rfl,some a,K,by rw[show List.length ts=len from t1.trans l1],by show List.length ts<=K;rw[t1,l1];exact b5,?_⟩,?_,t4⟩
       ·rcases a0 with h0|⟨ad,e1,e2,e3⟩
        ·exact .inl (by show List.length ts=0;omega)
        ·exact .inr ⟨ad,row,e1,e2,e3,t2⟩
       ·show RT.wts (wtA ss) ts+1<=_;rw[t3];exact D
      |_=>cases N
    ·cases u
   ·cases u
  ·
   rename_i fs;obtain⟨xs,m,hm,rfl,Y,f4,O⟩:=DataW.trod_struct v.und h;obtain rfl:m=n:=by omega
   have G:=hR t i hi;unfold ae5 at G;rw[v.und]at G;simp only at G;split at G
   ·rename_i sh f5;have M:=jR G
    obtain⟨y,q1,q2,q3⟩:=Nb (B:=B) ih C cs _ 0 sh xs f5 (by rw[M];exact a1) (by simp[f4]) (λ k f hf=>by
     simp only[aau]at hf;obtain⟨f0,f6,rfl⟩:=aaK.1 hf;exact O k f0 (by simpa using f6)) (by rw[Y,C t i hi,M];omega)
    rw[abB]at q1;have:=hB.agg (xs.map (·.1));rw[←M];exact⟨y,q1,by show _<=B (.agg (xs.map (·.1)));omega,q3⟩
   ·cases G
  ·rename_i k;simp only[aae]at u;have hc:=jR u.2;obtain⟨m,rfl,rfl,hw⟩:=DataW.trod_int v.und h;rw[hc];exact⟨m,⟨_,rfl,rfl⟩,hB.lit _,hw⟩
  ·simp only[aae]at u;have hc:=jR u.2;obtain⟨b,rfl,rfl⟩:=DataW.trod_bool v.und h;rw[hc];exact⟨b,⟨_,rfl,rfl⟩,hB.lit _,trivial⟩
  ·simp only[aae]at u;have hc:=jR u.2;obtain⟨b,rfl,rfl,_⟩:=DataW.trod_string v.und h;rw[hc];exact⟨b,⟨_,rfl,rfl⟩,by have:=hB.str b.data.toList;show ByteArray.size b+1<=_;simpa using this,trivial⟩
  ·simp only[aae]at u;obtain⟨_,h2⟩:=u;split at h2
   ·rename_i b6 _ _;rw[b6]at a1;cases a1
   ·cases h2
  ·cases u
end
section
variable {H:Type} {enc:TypeId×Value->H} {P:Program} {ty:TypeId->Option TyI} {w:World} {g:Gh} {F:Fz}
def oU (ty:TypeId->Option TyI):List PK->List TypeId->Bool
 | [],[]=>true
 | .val ag want::ps,t::ts=>(match ty t with
   |some j=>((j.cells.all λ s=> !s.Kr)&&ag==j.ag)&&aX0 j.cells (want.map (·.1))&&want.all (·.2.isPure)
   |none=>false)&&oU ty ps ts
 |_,_=>false
theorem XO (i:yu P ty) {t:TypeId} {j:TyI} (k:ty t=some j) {base:Nat} {v:Value} (h:Value.okWide P w .any base t v):isAgg v=j.ag:=by
 obtain⟨info,d,z,f⟩:=i.at_ k;have g:=f.desc;unfold Value.okWide at h;rw[f.und]at h;unfold qN at g;split at g
 ·simp only[aae]at g;have e:j.ag=false:=by simpa using g.1.1
  rw[e];simp only[Cell.okWide,f.und,Cell.ok]at h;cases v<;>first|rfl|exact h.elim
 ·simp only[aae]at g;obtain⟨cs,rfl,_⟩:=h;exact g.1.1.symm
 ·simp only[aae]at g;have e:j.ag=false:=by simpa using g.1.1
  rw[e];simp only[Cell.okWide,f.und,Cell.ok]at h;cases v<;>first|rfl|exact h.elim
 ·simp only[aae]at g;have e:j.ag=false:=by simpa using g.1.1
  rw[e];simp only[Cell.okWide,f.und,Cell.ok]at h;cases v<;>first|rfl|exact h.elim
 ·simp only[aae]at g;have e:j.ag=false:=by simpa using g.1.1
  rw[e];simp only[Cell.okWide,f.und,Cell.ok]at h;cases v<;>first|rfl|exact h.elim
 ·simp only[aae]at g;have e:j.ag=false:=by simpa using g.1.1.1
  rw[e];simp only[Cell.okWide,f.und,Cell.ok]at h;cases v<;>first|rfl|exact h.elim
 ·cases g
theorem Nh: ∀(want:List (Sh×Tg)) (cs:LC),want.all (·.2.isPure)=true->bI cs=true->want.length=cs.length->retag want cs=cs
 | [],[],_,_,_=>rfl
 | [],_::_,_,_,h=>by simp at h
 |_::_,[],_,_,h=>by simp at h
 |(sh,tg)::want,c::cs,e,f,g=>by
  simp only[acS,aae]at e;have d:(c.isPure&&bI cs)=true:=f;simp only[aae]at d;simp only[retag];rw[Nh want cs e.2 d.2 (by simpa using g)];congr 1;have i:tg= .pure:=by cases tg<;>first|rfl|(simp[Tg.isPure]at e)
  have k:c.tg= .pure:=uJ (cs:=[c]) (by simp[bI,d.1]) c Θ;rw[i];exact ahC k
theorem afF: ∀(ps:List PK) (ts:List TypeId) (i:Nat) (cs:LC) (d:LV),oU ty ps ts=true->bI cs=true->aC w g .hand 0 cs (d.flatMap (·.cells.toList))->d.length=ts.length->
 (∀(k:Nat) (t:TypeId) (v:Value),ts[k]? =some t->d[k]? =some v-> ∀j,ty t=some j->isAgg v=j.ag/\v.cells.size=j.cells.length)->Fb w g ps i cs d
 | [],[],i,cs,d,_,_,e,q,_=>by
   have:d= []:=aav q;subst this;have:=e.length;exact⟨aav (by simpa using this.symm),rfl⟩
 | [],_::_,_,_,_,h,_,_,_,_=>by simp[oU]at h
 | .val ag want::ps,[],_,_,_,h,_,_,_,_=>by simp[oU]at h
 | .ptr _::_,ts,_,_,_,h,_,_,_,_=>by cases ts<;>simp[oU]at h
 | .rptr _::_,ts,_,_,_,h,_,_,_,_=>by cases ts<;>simp[oU]at h
 | .fn _::_,ts,_,_,_,h,_,_,_,_=>by cases ts<;>simp[oU]at h
 | .clo _ _::_,ts,_,_,_,h,_,_,_,_=>by cases ts<;>simp[oU]at h
 | .io _::_,ts,_,_,_,h,_,_,_,_=>by cases ts<;>simp[oU]at h
 | .val ag want::ps,t::ts,i,cs,[],_,_,_,q,_=>by simp at q
 | .val ag want::ps,t::ts,i,cs,v::d,h,p,e,q,hv=>by
   simp only[oU,aae]at h;obtain⟨l,y⟩:=h;split at l
   ·rename_i j C;simp only[aae]at l;have z:ag=j.ag:=by simpa using l.1.1.2
    have A:want.length=j.cells.length:=by
     have:=congrArg List.length (jR l.1.2);simpa using this.symm
    obtain⟨D,E⟩:=hv 0 t v rfl rfl j C;have m:v.cells.toList.length=want.length:=by simp[E,A]
    rw[abq]at e;refine⟨v,d,rfl,⟨D.trans z.symm,?_⟩,?_⟩
    ·have:=e.sub 0 want.length;rw[abB,abB,←m,abL,m]at this;refine aC.vY (Keeps.refl _ _) _ 0 0 _ ?_ this;unfold bI at p ⊢;rw[aaV]at p ⊢;exact λ c e=>p c (abr e)
    ·have f:=e.sub want.length (cs.length-want.length);have B:=e.length
     have u:bI (cs.drop want.length)=true:=by
      unfold bI at p ⊢;rw[aaV]at p ⊢;exact λ c e=>p c (abD e)
     refine afF ps ts (i+1) (cs.drop want.length) d y u ?_ (by simpa using q) λ k t v l y=>hv (k+1) t v (by simpa using l) (by simpa using y);have G:(cs.drop want.length).take (cs.length-want.length)=cs.drop want.length:=aaJ Θ
     have I:((v.cells.toList++d.flatMap (·.cells.toList)).drop want.length).take (cs.length-want.length)=d.flatMap (·.cells.toList):=by
      rw[←m,abQ];exact aaJ (by simp only[aaq]at B;omega)
     rw[G,I]at f;exact aC.vY (mk:= .hand) (Keeps.refl _ _) _ _ 0 _ u f
   ·cases l
theorem Tv (K:yu P ty) (L:ahZ P ty) {B:DataW H->Nat} (M:V5 B) {base:Nat}: ∀(ps:List PK) (ts:List TypeId) (g:LV) (ds:List (DataW H)) (pl:List MemPlace),oU ty ps ts=true->
 DataW.TrodAll enc P w 0 (λ _=>true) true ts g ds pl-> ∃y:ElA ((ps.flatMap PK.cells).map (·.1)),dX w (λ b _=>b<w.heap.size) _ y (g.flatMap (·.cells.toList))/\wtA _ y<=sumW B ds/\Fv _ y/\g.length=ts.length/\
  ∀(k:Nat) (t:TypeId) (v:Value),ts[k]? =some t->g[k]? =some v-> ∀j,ty t=some j->v.cells.size=j.cells.length
 | [],[],g,ds,pl,_,h=>by
   match g,ds,h with
   | [],[],h=>exact⟨(),rfl,abH _,trivial,rfl,λ k t v A=>by simp at A⟩
 | [],_::_,_,_,_,h,_=>by simp[oU]at h
 | .val ag want::ps,[],_,_,_,h,_=>by simp[oU]at h
 | .ptr _::_,ts,_,_,_,h,_=>by cases ts<;>simp[oU]at h
 | .rptr _::_,ts,_,_,_,h,_=>by cases ts<;>simp[oU]at h
 | .fn _::_,ts,_,_,_,h,_=>by cases ts<;>simp[oU]at h
 | .clo _ _::_,ts,_,_,_,h,_=>by cases ts<;>simp[oU]at h
 | .io _::_,ts,_,_,_,h,_=>by cases ts<;>simp[oU]at h
 | .val ag want::ps,t::ts,g,ds,pl,h,A=>by
   match g,ds,A with
   |v::g,d::ds,A=>
    obtain⟨p,q,⟨C,R⟩,S,_⟩:=A;simp only[oU,aae]at h;obtain⟨f,G⟩:=h;split at f
    ·rename_i j N;simp only[aae]at f;have O:=jR f.1.2;obtain⟨y,I,U,Q⟩:=ag5 (H:=H) (enc:=enc) K L M C t j _ _ N f.1.1.1 R;obtain⟨z,q1,q2,q3,q4,q5⟩:=Tv K L M (base:=base) ps ts g ds q G S;have D:=dX.length _ _ _ I;obtain⟨W,E,jf,Y,je⟩:=j;simp only at O y I U Q D;subst O;obtain⟨u,Z,u2,u3⟩:=Ea I q1
     have e:((PK.val ag want::ps).flatMap PK.cells).map (·.1)=want.map (·.1)++(ps.flatMap PK.cells).map (·.1):=by
      rw[abq,abt];rfl
     rw[e,abq];refine⟨u,Z,?_,u3 Q q3,by simp[q4],λ k t' v' i l j' m=> ?_⟩
     ·rw[u2];simp only[sumW];omega
     ·cases k with
      |zero=>
       simp only[aaO,aag]at i l;subst i l;rw[N]at m;cases m;simpa using D
      |succ k=>exact q5 k t' v' (by simpa using i) (by simpa using l) j' m
    ·cases f
theorem aga (l:yu P ty) (z:ahZ P ty) {B:DataW H->Nat} (A:V5 B) {base:Nat} {sig:Sig} {ts:List TypeId} (hs:oU ty sig.params ts=true) {d:LV} {ds:List (DataW H)} {pl:List MemPlace}
 (f: ∀(k:Nat) t v,ts[k]? =some t->d[k]? =some v->Value.okWide P w .any base t v) (h:DataW.TrodAll enc P w 0 (λ _=>true) true ts d ds pl):
 ∃x:sig.In,Fb w (zI λ b _=>b<w.heap.size) sig.params 0 (retag sig.ins (cellsOf _ x)) d/\wtA (sig.ins.map (·.1)) x<=sumW B ds/\Fv (sig.ins.map (·.1)) x:=by
 obtain⟨y,C,D,E,G,I⟩: ∃y:ElA (sig.ins.map (·.1)),dX w (λ b _=>b<w.heap.size) _ y (d.flatMap (·.cells.toList))/\wtA _ y<=sumW B ds/\Fv _ y/\d.length=ts.length/\
  ∀(k:Nat) (t:TypeId) (v:Value),ts[k]? =some t->d[k]? =some v-> ∀j,ty t=some j->v.cells.size=j.cells.length:=Tv (H:=H) (enc:=enc) l z A (base:=base) sig.params ts d ds pl hs h
 refine⟨y,?_,D,E⟩;have m:bI (cellsOf (sig.ins.map (·.1)) y)=true:=uK _ _
 have e:sig.ins.all (·.2.isPure)=true:=by
  have: ∀(ps:List PK) (ts:List TypeId),oU ty ps ts=true->(ps.flatMap PK.cells).all (·.2.isPure)=true:=by
   intro ps
   induction ps with
   |nil=>intro ts _;rfl
   |cons p ps K=>
    intro ts h
    cases p with
    |val ag want=>
     cases ts with
     |nil=>simp[oU]at h
     |cons t ts=>
      simp only[oU,aae]at h;rw[abq,acO,K ts h.2,acr];have i:=h.1;split at i
      ·simp only[aae]at i;exact i.2
      ·cases i
    |_=>cases ts<;>simp[oU]at h
  exact this _ _ hs
 have g:retag sig.ins (cellsOf _ y)=cellsOf _ y:=Nh _ _ e m (by
  have:=congrArg List.length (uY (sig.ins.map (·.1)) y);simpa using this.symm)
 rw[g];refine afF sig.params ts 0 _ d hs m (cells_ok .hand _ y 0 _ C) G λ k t v q hv j u=>⟨XO l u (f k t v q hv),I k t v q hv j u⟩
def Quiet (w w':World):Prop:=w'.os=w.os/\w'.output=w.output/\ ∀b,b<w.heap.size->w'.heap[b]? =w.heap[b]?
theorem ZG {glob:Nat->Option (LC)} {sig:Sig} {f:sig.In->Option sig.Out} (E:Good P glob sig f) (d:sig.res= [(false,[(.bool,.pure)])]) (q:sig.params.flatMap PK.outs= [])
 {x:sig.In} {r:sig.Out} (G:f x=some r) (g:cellsOf _ r= [⟨.bool,.pure,true⟩]) {args:Array Value} (I:Fb w (zI λ b _=>b<w.heap.size) sig.params 0 (retag sig.ins (cellsOf _ x)) args.toList) (i:Rj glob w (zI λ b _=>b<w.heap.size)):
 Calls P sig.fn args w λ e w'=>e= .returned (.bool true)/\Quiet w w':=by
 obtain⟨_,k⟩:=E x r G;have D:=k w _ args.toList I i (λ b ow e=>by cases e) (λ b o e=>e) (λ b ow cs t f e=>by cases e);have l:args.toList.toArray=args:=by simp
 rw[l]at D;refine D.mono λ e w' K=> ?_;obtain⟨v,g',rfl,y,m,_⟩:=K;refine⟨?_,y.os,y.output,λ b z=>y.blk b z λ⟨ow,e⟩=>by cases e⟩;have p:sig.outs= [(.bool,.pure)]:=by unfold Sig.outs;rw[q,d];rfl
 have A:retag sig.outs (cellsOf _ r)= [⟨.bool,.pure,true⟩]:=by rw[g,p];rfl
 rw[A,d]at m;obtain⟨u,L,B,C⟩:=Fg.one (show Fg w' g' .hand 0 false [⟨.bool,.pure,true⟩] v from m);have:u= .bool true:=B;rw[←C rfl,this]
end
section
variable {P:Program} {E:Env} {C:Ctx} {s s':St} {a a':Act} {w w':World} {g g':Gh} {o:Oper} {Q:Exit->Act->World->Prop}
def QY {α:Type}:List (Nat×α)->Nat->Option α
 | [],_=>none
 |(a,i)::l,t=>bif Nat.beq a t then some i else QY l t
theorem NU {α:Type}: ∀{l:List (Nat×α)} {t:Nat} {i:α},QY l t=some i->(t,i)∈l
 | [],_,_,h=>by cases h
 |(a,j)::l,t,i,h=>by
  simp only[QY,cond_eq_ite]at h;split at h
  ·rename_i d;cases h;rw[aao d];exact abG
  ·exact aaS _ (NU h)
def aiO {α:Type} (d:α):List (Nat×α)->Nat->α
 | [],_=>d
 |(a,i)::l,t=>bif Nat.beq a t then i else aiO d l t
theorem Hr {α:Type} {p:α->Prop} {d:α} (e:p d): ∀(l:List (Nat×α)),(∀x,x∈l->p x.2)-> ∀t,p (aiO d l t)
 | [],_,_=>e
 |(a,i)::l,h,t=>by
  simp only[aiO,cond_eq_ite];split
  ·exact h (a,i) Θ
  ·exact Hr e l (λ x f=>h x (by simp[f])) t
theorem ahM {d:List (Nat×TyI)} (h:(d.all λ x=>ahL P (QY d) x.1 x.2)=true):yu P (QY d):=λ t i e=>aaV.1 h (t,i) (NU e)
theorem ag4 {d:List (Nat×TyI)} (h:(d.all λ x=>ae5 P (QY d) x.1 x.2)=true):ahZ P (QY d):=λ t i e=>aaV.1 h (t,i) (NU e)
end
end Go.AM
end
section
namespace Go.AM
open Go Go.RowKit Go.ChangeShapes
section
variable {H:Type} {enc:TypeId×Value->H} {P:Program} {W W':World}
theorem Ry (l:laidOutB P=true) {m:Nat->Bool} (u: ∀b,b<W.heap.size->W'.heap[b]? =W.heap[b]?): ∀{ts:List TypeId} {i:LV} {ds:List (DataW H)} {ps:List MemPlace},(∀t,t∈ts->P.readableRec t=true/\t<P.types.size)->
 DataW.TrodAll enc P W 0 (λ _=>true) true ts i ds ps->(∀p,p∈ps->p.block<W.heap.size)->(∀p,p∈ps->m p.block=true)->DataW.TrodAll enc P W' 0 m true ts i ds ps
 | [],[],[],_,_,h,_,_=>h
 | [],[],_::_,_,_,h,_,_=>h.elim
 | [],_::_,_,_,_,h,_,_=>by simp[DataW.TrodAll]at h
 |_::_,[],_,_,_,h,_,_=>by simp[DataW.TrodAll]at h
 |_::_,_::_,[],_,_,h,_,_=>by simp[DataW.TrodAll]at h
 |t::ts,v::i,d::ds,ps,y,⟨p,q,z,A,e⟩,g,hs=>by
  obtain⟨B,C⟩:=y t Θ;refine⟨p,q,WideElems.Trod_stays l B C z (λ x f=> ?_) (λ x f=>hs x (by rw[e];exact aaF _ f)),Ry l u (λ t D=>y t (by simp[D])) A (λ x f=>g x (by rw[e];exact aa4 _ f)) (λ x f=>hs x (by rw[e];exact aa4 _ f)),e⟩;have k:=u x.block (g x (by rw[e];exact aaF _ f))
  cases x with
  |cell b off=>simp only[World.sameAt,World.cell?,MemPlace.block]at k ⊢;rw[k]
  |map b=>exact k
theorem SB (L:laidOutB P=true) {f:FuncId} {fn:Func} {s:ChangeSpec} {t:TypeId} (A:fn.resultTypes= #[t]) (m:P.underlying t=some .bool) (u: ∀t,t∈fn.params.toList->P.readableRec t=true/\t<P.types.size) {args:Array Value} {ds B:List (DataW H)} {l:List MemPlace}
 (d:s.vars= []) (E:DataW.Whole enc P fn.params.toList s.vars false W args.toList ds B l) (g:B= []->s.fn H (ds++B)= {results:=[.lit (.bool true)],args:=ds})
 (M:Calls P f args W λ e W'=>e= .returned (.bool true)/\Quiet W W'):
 Calls P f args W λ e W'=> ∃v,e= .returned v/\s.post enc P fn false true false false W args v W':=by
 refine M.mono λ e W' ⟨N,C,y,G⟩=>⟨_,N,?_⟩;have D:=E;obtain⟨p,q,I,K,rfl,O,Q⟩:=E;rw[d]at K;obtain⟨rfl,rfl⟩:=trodVars_none K;have g:=g rfl;have z:=I.lt;refine⟨ds,[],p++[],[],p,[],D,?_,?_,?_,⟨C,y,λ i R=> ?_⟩,λ h=>by cases h⟩
 ·rw[g,A];exact trodAll_cons_mk (shut_bool m _) trodAll_mk0
 ·rw[g];exact Ry L G u I z λ x S=>decide_eq_true (z x S)
 ·rw[g,d];exact rfl
 ·rw[G i R]
  cases W.heap[i]? with
  |none=>rfl
  |some o=>
   cases o with
   |cells c t f=>exact⟨rfl,rfl,rfl,λ _ _=>rfl⟩
   |map es k=>exact .inr ⟨rfl,rfl⟩
   |_=>rfl
end
end Go.AM
end
section
namespace Go.AM
open Go Go.ChangeShapes
section
variable {H:Type} {enc:TypeId×Value->H} {P:Program} {W:World}
theorem Zk {t e:TypeId} {k:IntKind} {u:Nat} {cs:LV} {x:DataW H×List MemPlace} {Q:Nat->Bool} {y:Bool} (R:P.underlying t=some (.slice e)) (S:P.underlying e=some (.int k)) (U:P.cellsOf e=1)
 (h:DataW.trod enc P W 0 Q y u t cs=some x) {zs:List Int} (D:x.1= .slice (zs.map λ n=> .lit (.int k n)) []) (Y:zs≠[]):
 ∃v,cs= [v]/\jM W (λ b _=>b<W.heap.size) (.sl [.int k]) zs v:=by
 rcases open_ints R S U h with⟨_,rfl⟩|⟨a,len,i,f,rfl,_,Z,_,E,rfl,d,_⟩
 ·cases D
 ·simp only[DataW.slice.injEq]at D;obtain⟨N,O⟩:=D;have p: ∀l:List Int,(lits (H:=H) k l)=l.map λ n=> .lit (.int k n):=λ l=>rfl;rw[p]at N O
  have z: ∀l m:List Int,(l.map λ n=>(DataW.lit (.int k n):DataW H))=(m.map λ n=>(DataW.lit (.int k n):DataW H))->l=m:=by
   intro l
   induction l with
   |nil=>intro m h;cases m with
    |nil=>rfl
    |cons _ _=>simp at h
   |cons a l G=>
    intro m h
    cases m with
    |nil=>simp at h
    |cons b m=>
     simp only[abo,abk,DataW.lit.injEq,Lit.int.injEq,true_and]at h;rw[h.1,G m h.2]
  have e1:=z _ _ N;have e2:f.drop len= []:=by simpa using O
  have I:f.length<=len:=by simpa using e2
  have K:f=zs:=by rw[←e1,aaJ I]
  subst K
  have A:f.length=len:=by
   have:len<=f.length:=by rw[E];split<;>omega
   omega
  have B:0<f.length:=List.length_pos_iff.2 Y;have g:=d 0 B;have e0:a.add 0=a:=by simp[Addr.add]
  rw[e0]at g
  have q:a.spot=none:=by
   unfold World.cell? at g;split at g
   ·split at g
    ·cases g
    ·rename_i L;simpa using L
   ·cases g
  have M:a.block<W.heap.size:=by
   unfold World.cell? at g;split at g
   ·rename_i hh;exact(abz.1 hh).1
   ·cases g
  refine⟨_,rfl,some a,i,congrArg (λ l=>Value.slice (some a) l i) A.symm,by show List.length f<=i;omega,.inr ⟨a,f.map (Value.int k),rfl,q,λ j hj=>⟨?_,M⟩,?_⟩⟩
  ·have C:j<f.length:=by simpa using hj
   have:=d j C
   have e:a.add j=⟨a.block,a.off+j,none⟩:=by
    unfold Addr.add;split
    ·rename_i e;subst e;cases a;simp_all
    ·rfl
   rw[e]at this;rw[this];simp[abg,aac C]
  ·have gen: ∀l:List Int,fH (dX W (λ b _=>b<W.heap.size) [.int k]) l (l.map (Value.int k)):=by
    intro l
    induction l with
    |nil=>rfl
    |cons a l G=>exact⟨[.int k a],_,rfl,⟨_,rfl,rfl⟩,G⟩
   exact gen f
end
end Go.AM
end
section
namespace Go.AM
open Go
def Res.w {α:Type}:Result α->World
 | .ok _ w=>w
 | .halt _ w=>w
theorem YF {α:Type}: ∀(a:Ask α) (w:World),w.drawn<=(w.ask a).2.drawn
 | .done _,w=>aaw _
 | .ask e d k,w=>by
   unfold World.ask;dsimp only;split
   ·exact YF (k 0) w
   ·exact aaP (Nat.le_succ _) (YF _ {w with drawn:=w.drawn+1})
theorem afV (w:World) (c:Sys):w.drawn<=(w.sys c).2.drawn:=by
 unfold World.sys;have h:=YF (Kernel.perform c w.os) w;generalize w.ask (Kernel.perform c w.os)=x at h ⊢;obtain⟨⟨r,os⟩,w'⟩:=x;cases r<;>first|exact h|exact aaw _
theorem Za (w:World) (a:Addr) (n:Nat):(w.freeze a n).drawn=w.drawn:=by
 unfold World.freeze;split<;>rfl
theorem UN {p:Program} {w w':World} {a:Addr} {v:Value} {b:Bool} {l:List Addr} (h:w.farStore p a v b= .ok (w',l)):w'.drawn=w.drawn:=by
 unfold World.farStore at h;split at h
 ·split at h
  ·rename_i r d;cases h;unfold World.viewStore at d;simp only[bind,Except.bind,pure,Except.pure]at d
   repeat' first
    |(cases d;done)
    |(cases d;rfl)
    |split at d
  ·cases h
 ·cases h
theorem Xd {α:Type} (p:Program): ∀(s:Sem α) (w:World),w.drawn<=(Res.w (s.run p w)).drawn:=by
 intro s
 induction s with
 |pure a=>intro w;exact aaw _
 |load m a k d=>
  intro w;simp only[Sem.run];split
  ·exact d _ w
  ·split
   ·exact d _ w
   ·exact aaw _
 |store m a v k d=>
  intro w
  cases v<;>simp only[Sem.run]<;>first
   |exact aaw _
   |(split
     ·split
      ·exact aaw _
      ·exact d (w.setCell a _)
     ·split
      ·rename_i h;exact aaP (acH (UN h).symm) (d _)
      ·exact aaw _)
 |new o k d=>intro w;exact d w.heap.size {w with heap:=w.heap.push o}
 |shape r k d=>intro w;exact d _ w
 |freeze a n k d=>intro w;simp only[Sem.run];exact aaP (acH (Za w a n).symm) (d _)
 |frozen a k d=>intro w;exact d _ w
 |getObj r k d=>
  intro w;simp only[Sem.run];split
  ·exact aaw _
  ·exact d _ w
  ·exact aaw _
 |setObj r o k d=>
  intro w;simp only[Sem.run];split
  ·exact aaw _
  ·exact d {w with heap:=w.heap.setIfInBounds r o}
  ·exact aaw _
 |choose q k d=>
  intro w;simp only[Sem.run];split
  ·exact d _ w
  ·exact aaP (Nat.le_succ _) (d (q.cut (w.tape w.drawn q)) {w with drawn:=w.drawn+1})
 |sys c k d=>intro w;simp only[Sem.run];exact aaP (afV w c) (d _ _)
 |program k d=>intro w;exact d _ w
 |mark m k d=>intro w;exact d w
 |halt h=>intro w;exact aaw _
theorem uD {α:Type} {p:Program} {s:Sem α} {w w':World} {a:α} (h:s.run p w= .ok a w'):w.drawn<=w'.drawn:=by
 have:=Xd p s w
 rwa [h]at this
theorem run_halt {α:Type} {p:Program} {s:Sem α} {w w':World} {a:Halt} (h:s.run p w= .halt a w'):w.drawn<=w'.drawn:=by
 have:=Xd p s w
 rwa [h]at this
def Gs.w:GStep->World
 | .go _ w _=>w
 | .comm _ _ _ _ w _=>w
 | .spawn _ _ w _=>w
 | .count _ w _=>w
 | .timer _ _ w _=>w
 | .alone _ _ w _=>w
 | .newcoro _ _ _ w _=>w
 | .coroswitch _ _ _ w _=>w
 | .collect _ w _=>w
 | .watch _ w _=>w
 | .ended _ w _=>w
theorem Dz (es:Array Event) (s:GStep):Gs.w (GStep.after es s)=Gs.w s:=by cases s<;>rfl
theorem EK (p:Program) (main:Bool) (fr:Frame) (cs:List Frame) (d:Option Dying) (v:Value) (w:World):Gs.w (doReturn p main fr cs d v w)=w:=by
 unfold doReturn
 repeat' first
  |rfl
  |split
theorem GY (p:Program) (fr:Frame) (v:Value) (w:World):Gs.w (endPrinting p fr v w)=w:=by
 unfold endPrinting;dsimp only;split<;>rfl
theorem Ld (p:Program) (fr:Frame) (cs:List Frame) (d:Option Dying) (m:String) (w:World):w.drawn<=(Gs.w (endFatal p fr cs d m w)).drawn:=by
 unfold endFatal;dsimp only;split<;>rename_i h
 ·exact uD h
 ·exact run_halt h
 ·exact run_halt h
theorem Xz (w:World) (fd:Nat) (t:ByteArray) (o:Outcome):w.drawn<=(Gs.w (endWith w fd t o)).drawn:=by
 unfold endWith;dsimp only;have h:=afV w (.write fd t);generalize w.sys (.write fd t)=x at h ⊢;obtain⟨r,w'⟩:=x;cases r<;>dsimp only<;>first|exact h|(split<;>exact h)
theorem ael (p:Program) (fr:Frame) (cs:List Frame) (d:Option Dying) (g:Nat) (w:World):w.drawn<=(Gs.w (early p fr cs d g w)).drawn:=by
 have e: ∀w:World,w.drawn<=(Gs.w (match w.heap[g]? with
  |some (.pending c elem)=>GStep.go {frame:=fr,callers:=cs,status:= .running,dying:=d} {w with heap:=w.heap.setIfInBounds g (.cells c elem)}
  |_=> .ended (.stuck "early: the variable does not wait" (fr.pos p)) w)).drawn:=by
  intro w;split<;>exact aaw _
 unfold early;dsimp only
 repeat' first
  |exact e _
  |exact aaw _
  |(rename_i h;exact aaP (uD h) (e _))
  |(rename_i h;exact uD h)
  |(rename_i h;exact run_halt h)
  |(rename_i h _;exact uD h)
  |split
theorem WA {c:Prop} [Decidable c] {a b:GStep} {n:Nat} (d:n<=(Gs.w a).drawn) (e:n<=(Gs.w b).drawn):n<=(Gs.w (if c then a else b)).drawn:=by
 split<;>assumption
theorem Ib {α:Type} (p:Program) (s:Sem α) (w:World) (es:Array Event):w.drawn<=(Res.w (s.runT p w es).1).drawn:=by
 rw[Sem.runT_fst];exact Xd p s w
theorem Yn (p:Program) (fr:Frame) (d:Dying) (f:Fatal) (w:World):w.drawn<=(Gs.w (writeOn p fr d f w)).drawn:=by
 unfold writeOn;dsimp only;split
 ·exact aaw _
 ·generalize hs:(Sem.runT p _ w #[])=x;have h:w.drawn<=(Res.w x.1).drawn:=by rw[←hs];exact Ib p _ w #[]
  clear hs;obtain⟨r,es⟩:=x;split<;>rename_i e<;>(try cases e)<;>exact h
theorem ah9 (p:Program) (fr:Frame) (d:Dying) (w:World):w.drawn<=(Gs.w (die p fr d w)).drawn:=by
 unfold die;dsimp only;split
 ·exact Yn _ _ _ _ _
 ·split
  ·split
   ·exact aaw _
   ·exact Xz _ _ _ _
  ·split
   ·exact aaw _
   ·split<;>rename_i h
    ·exact uD h
    ·exact run_halt h
   ·rw[Dz];generalize hs:(Sem.runT p _ w #[])=x;have h:w.drawn<=(Res.w x.1).drawn:=by rw[←hs];exact Ib p _ w #[]
    clear hs;obtain⟨r,es⟩:=x;dsimp only
    repeat' first
     |exact h
     |exact aaw _
     |(rw[GY];exact h)
     |split
   ·exact aaw _
theorem KO (p:Program) (fr:Frame) (cs:List Frame) (e:Option Dying) (d:Deferred) (w:World):w.drawn<=(Gs.w (callDeferred p fr cs e d w)).drawn:=by
 unfold callDeferred;refine WA (aaw _) ?_
 ·dsimp only;rw[Dz];generalize hs:(Sem.runT p _ w #[])=x;have h:w.drawn<=(Res.w x.1).drawn:=by rw[←hs];exact Ib p _ w #[]
  clear hs;obtain⟨r,es⟩:=x;dsimp only at h ⊢;split<;>first|exact h|exact aaP h (Ld _ _ _ _ _ _)|(split<;>exact h)
theorem adK (p:Program) (main:Bool) (fr:Frame) (cs:List Frame) (d:Option Dying) (w:World):w.drawn<=(Gs.w (unwind p main fr cs d w)).drawn:=by
 unfold unwind;split
 ·dsimp only;rw[Dz];generalize hs:(Sem.runT p _ w #[])=x;have h:w.drawn<=(Res.w x.1).drawn:=by rw[←hs];exact Ib p _ w #[]
  clear hs;obtain⟨r,es⟩:=x;dsimp only at h ⊢;split<;>exact h
 ·exact KO _ _ _ _ _ _
 ·split
  ·exact aaw _
  ·split
   ·exact aaw _
   ·split
    ·exact aaw _
    ·split
     ·split
      ·exact aaw _
      ·split<;>rename_i h
       ·exact uD h
       ·exact run_halt h
       ·exact run_halt h
     ·split
      ·rw[GY];exact aaw _
      ·exact aaw _
  ·split
   ·rw[EK];exact aaw _
   ·dsimp only;rw[Dz];generalize hs:(Sem.runT p _ w #[])=x;have h:w.drawn<=(Res.w x.1).drawn:=by rw[←hs];exact Ib p _ w #[]
    clear hs;obtain⟨r,es⟩:=x;dsimp only at h ⊢;split
    ·rw[EK];exact h
    ·exact h
    ·exact h
theorem J8 (p:Program) (l:Bool) (fr:Frame) (cs:List Frame) (d:Option Dying) (s:Sem Next) (w:World):w.drawn<=(Gs.w (stepG.apply p l fr cs d s w)).drawn:=by
 unfold stepG.apply;dsimp only;rw[Dz];generalize hs:(if l=true then s.runT p w #[]else(s.run p w, #[]))=x
 have h:w.drawn<=(Res.w x.1).drawn:=by
  rw[←hs];split
  ·exact Ib p _ w #[]
  ·exact Xd p s w
 clear hs;obtain⟨r,es⟩:=x;dsimp only at h ⊢
 split<;>first
  |exact h
  |exact aaP h (Ld _ _ _ _ _ _)
  |exact aaP h (ael _ _ _ _ _ _)
  |(split<;>first|exact h|exact WA h h)
theorem agX (p:Program) (l:Bool) (fr:Frame) (cs:List Frame) (d:Option Dying) (w:World):w.drawn<=(Gs.w (stepG.oper p l fr cs d w)).drawn:=by
 unfold stepG.oper;split
 ·exact aaw _
 ·split<;>exact J8 _ _ _ _ _ _ _
theorem WH (p:Program) (main:Bool) (fr:Frame) (cs:List Frame) (e:Option Dying) (w:World) (d:Option Code):w.drawn<=(Gs.w (match fr.roundOf with
 |none=>if d matches none|some .ret then GStep.go {frame:={fr with mode:= .returning},callers:=cs,status:= .running,dying:=e} w else .ended (.stuck "exit, goto: no such block or label" (fr.pos p)) w
 |some l=>
  let(r,es):=(Instr.endRound l d).runT p w #[]
  GStep.after (seen p fr.fn es)<|match r with
  | .ok v w=>doReturn p main fr cs e v w
  | .halt _ w=> .ended (.stuck "range over a function: no such loop" (fr.pos p)) w)).drawn:=by
 split
 ·split<;>exact aaw _
 ·dsimp only;rw[Dz];generalize hs:(Sem.runT p _ w #[])=x;have h:w.drawn<=(Res.w x.1).drawn:=by rw[←hs];exact Ib p _ w #[]
  clear hs;obtain⟨r,es⟩:=x;dsimp only at h ⊢;split
  ·rw[EK];exact h
  ·exact h
theorem Y3 {α:Type} {o:Option α} {a:GStep} {f:α->GStep} {n:Nat} (d:n<=(Gs.w a).drawn) (e: ∀x,n<=(Gs.w (f x)).drawn):n<=(Gs.w (o.elim a f)).drawn:=by
 cases o
 ·exact d
 ·exact e _
theorem agr (p:Program) (main l:Bool) (fr:Frame) (cs:List Frame) (d:Option Dying) (w:World):w.drawn<=(Gs.w (stepG.exec p main l fr cs d w)).drawn:=by
 unfold stepG.exec;dsimp only;split
 ·exact WH p main fr cs d w none
 ·exact WH p main fr cs d w (some .ret)
 all_goals first
  |(simp only[Gs.w];exact aaw _)
  |exact J8 _ _ _ _ _ _ _
  |(rw[Dz]
    generalize hs:(Sem.runT p _ w #[])=x;have h:w.drawn<=(Res.w x.1).drawn:=by rw[←hs];exact Ib p _ w #[]
    clear hs;obtain⟨r,es⟩:=x;dsimp only at h ⊢;split<;>first|exact h|exact aaP h (J8 _ _ _ _ _ _ _))
  |exact WA (agX _ _ _ _ _ _) (aaw _)
  |(refine WA (aaw _) ?_
    split<;>rename_i h
    ·exact uD h
    ·exact run_halt h)
  |exact Y3 (aaw _) λ _=>J8 _ _ _ _ _ _ _
  |(refine Y3 ?_ λ _=>aaw _
    split
    ·split<;>(simp only[Gs.w];exact aaw _)
    ·rw[Dz];generalize hs:(Sem.runT p _ w #[])=x;have h:w.drawn<=(Res.w x.1).drawn:=by rw[←hs];exact Ib p _ w #[]
     clear hs;obtain⟨r,es⟩:=x;dsimp only at h ⊢;split
     ·rw[EK];exact h
     ·exact h)
  |(split<;>(simp only[Gs.w];exact aaw _))
  |skip
theorem afj (p:Program) (main l:Bool) (g:Goroutine) (w:World):w.drawn<=(Gs.w (stepG p main g w l)).drawn:=by
 unfold stepG;dsimp only;split
 ·exact ah9 _ _ _ _
 ·exact agr _ _ _ _ _ _ _
 ·exact adK _ _ _ _ _ _
theorem ZM {p:Program} {d:Array Goroutine} {rest:Rest} {w:World} {m:Machine} (h:Go.look p d rest w= .next m):w.drawn<=m.world.drawn:=by
 unfold Go.look at h;simp only[]at h
 repeat' first
  |(cases h;done)
  |(simp only[Stepped.next.injEq]at h;subst h;have e:= @uD _ p _ w _ _ (by assumption);exact e)
  |split at h
theorem Ym {rest:Rest} {cases:Array CommCase} {w w':World} (h:waitingAt rest cases w=some w'):w.drawn<=w'.drawn:=by
 unfold waitingAt at h
 repeat' first
  |(cases h;exact aaw _)
  |(cases h;done)
  |split at h
theorem agm {p:Program} {rest:Rest} {f:Array Goroutine} {i:Nat} {g:Goroutine} {cases:Array CommCase} {b:Bool} {sh:CommShape} {w:World} {m:Machine} (h:(communicate p rest f i g cases b sh w).1= .next m):w.drawn<=m.world.drawn:=by
 unfold communicate at h;simp only[]at h
 repeat' first
  |(cases h;done)
  |(simp only[Stepped.next.injEq]at h;subst h;first|exact aaw _|(have d:= @uD _ p _ w _ _ (by assumption);first|exact d|(have e:= @run_halt _ p _ _ _ _ (by assumption);exact aaP d e)|(have e:= @uD Nat p _ _ _ _ (by assumption);exact aaP d e))|(have d:= @Ym _ _ w _ (by assumption);exact d))
  |split at h
theorem aek (w:World) (c:Nat):(drain w c).2.drawn=w.drawn:=by
 unfold drain;split<;>rfl
theorem TA (m:Machine) (k:Nat) (t:Timer) (a b:Nat):(retime m k t a b).2.world.drawn=m.world.drawn:=by
 unfold retime;dsimp only;split
 ·exact aek _ _
 ·rfl
theorem Z8 {m e:Machine} {d:Addr} (h:timerOp.opened m d=some e):e.world.drawn=m.world.drawn:=by
 unfold timerOp.opened at h
 repeat' first
  |(cases h;rfl)
  |(cases h;done)
  |split at h
theorem WQ {m e:Machine} {d:Addr} {f:Nat->Timer->Value×Machine} {v:Value} (g: ∀k t,m.world.drawn=(f k t).2.world.drawn) (h:timerOp.named m d f= .ok (v,e)):m.world.drawn<=e.world.drawn:=by
 unfold timerOp.named at h;split at h
 ·rename_i k _;have:=g k (m.rest.timers.getD k default);rw[Except.ok.inj h]at this;exact acH this
 ·cases h
theorem afm {m d:Machine} {e:TimerOp} {v:Value} (h:timerOp m e= .ok (v,d)):m.world.drawn<=d.world.drawn:=by
 unfold timerOp at h
 repeat' first
  |(cases h;done)
  |(cases h;exact aaw _)
  |exact WQ (λ k t=>(TA _ _ _ _ _).symm) h
  |(rename_i f;exact WQ (λ k t=>((TA _ _ _ _ _).trans (Z8 f)).symm) h)
  |split at h
theorem ag9 (p:Program) (m f:Machine) (i:Nat) (b:Bool) (h:(runT p m i b).1= .next f):m.world.drawn<=f.world.drawn:=by
 simp only[runT]at h;revert h;generalize m.gs.swapAt! _ _=g;have d:=afj p (i==0) b g.1 m.world;revert d;generalize stepG p _ g.1 m.world b=s;intro d h;cases s<;>simp only[]at h<;>simp only[Gs.w]at d
 all_goals first
  |(cases h;done)
  |exact aaP d (agm h)
  |exact aaP d (ZM h)
  |(simp only[Stepped.next.injEq]at h;subst h;exact d)
  |(repeat' first
   |(cases h;done)
   |(simp only[Stepped.next.injEq]at h;subst h;exact d)
   |(simp only[Stepped.next.injEq]at h;subst h;rename_i e;exact aaP d (afm e))
   |(simp only[Stepped.next.injEq]at h;subst h;rename_i e;cases(congrArg Gs.w e:_=_);exact d)
   |split at h)
theorem afc {p:Program} {m d:Machine} {k:Nat} (h:serve p m k= .next d):m.world.drawn<=d.world.drawn:=by
 unfold serve at h
 repeat' first
  |(cases h;done)
  |(cases h;exact aaw _)
  |dsimp only at h
  |split at h
def Mv (w:World):Move->Prop
 | .goroutine m _=>w.drawn<=m.world.drawn
 | .machine s _=> ∀d,s= .next d->w.drawn<=d.world.drawn
theorem Mv.le {w w':World} (h:w.drawn<=w'.drawn): ∀{x:Move},Mv w' x->Mv w x
 | .goroutine _ _,k=>aaP h k
 | .machine _ _,k=>λ d e=>aaP h (k d e)
theorem Mv.ended (w:World) (o:Outcome) (w':World) (d:Array MemOp):Mv w (.machine (.ended o w') d):=λ _ h=>by cases h
theorem Mv.next {w:World} {m:Machine} (h:w.drawn<=m.world.drawn) (d:Array MemOp):Mv w (.machine (.next m) d):=λ _ e=>by cases e;exact h
theorem PZ (p:Program) (m:Machine):Mv m.world (askOn p m):=by
 have pk: ∀(m:Machine) (rs:List Nat),Mv m.world (match(choose (.sched rs.length)).run p m.world with
  | .halt _ w=> .machine (.ended (.stuck "sched" "") w)
  | .ok k world=>
    if rs.length<=1 then .goroutine {m with world} (rs.getD k 0)else
    match(choose (.extern "sched.slice" 65536)).run p world with
    | .halt _ w=> .machine (.ended (.stuck "sched.slice" "") w)
    | .ok n world=> .goroutine {m with world,rest:={m.rest with slice:=if n=0 then none else some (rs.getD k 0,n)}} (rs.getD k 0)):=by
  intro m rs;split
  ·exact Mv.ended _ _ _ _
  ·rename_i d;have d:=uD d;split
   ·exact d
   ·split
    ·exact Mv.ended _ _ _ _
    ·rename_i e;exact aaP d (uD e)
 unfold askOn;dsimp only;split
 ·exact Mv.ended _ _ _ _
 ·rename_i d;have d:=uD d;split
  ·exact λ f h=>aaP d (afc h)
  ·split
   ·split
    ·exact Mv.next d _
    ·split
     ·exact Mv.next d _
     ·split<;>exact Mv.ended _ _ _ _
   ·split
    ·exact Mv.le d (pk {m with world:=_} _)
    ·split
     ·exact Mv.ended _ _ _ _
     ·rename_i e;exact Mv.le (aaP d (uD e)) (pk {m with world:=_} _)
     ·rename_i e;have e:=uD e;exact Mv.next (aaP d e) _
     ·rename_i e;have e:=uD e;exact Mv.le (aaP d e) (pk (Machine.advanceTo {m with world:=_} _) _)
theorem YG (p:Program) (m:Machine):Mv m.world (ask p m):=by
 unfold ask;split
 ·split
  ·exact Mv.ended _ _ _ _
  ·rename_i d;have d:=uD d;split
   ·rename_i f;exact Mv.le (aaP d (ZM f)) (PZ p _)
   ·rename_i f;exact λ g e=>absurd e (f g)
  ·rename_i d;exact Mv.le (uD d) (PZ p {m with world:=_})
 ·exact PZ p m
theorem agN (p:Program) (m:Machine):Mv m.world (move p m):=by
 unfold move;split
 ·split
  ·exact aaw _
  ·exact Mv.ended _ _ _ _
 ·split
  ·split
   ·exact aaw _
   ·exact YG p {m with rest:={m.rest with slice:=none}}
  ·exact YG p m
theorem ahB {p:Program} {m f:Machine} (h:step p m= .next f):m.world.drawn<=f.world.drawn:=by
 unfold step stepT at h;have d:=agN p m;split at h
 ·rename_i e;rw[e]at d;exact aaP d (ag9 _ _ _ _ _ h)
 ·rename_i e;rw[e]at d;exact d _ h
theorem afk {p:Program} {m f:Machine} (h:Steps p m f):m.world.drawn<=f.world.drawn:=by
 obtain⟨n,d⟩:=h
 induction n generalizing m with
 |zero=>cases d;exact aaw _
 |succ n g=>
  unfold runN at d;split at d
  ·rename_i e;exact aaP (ahB e) (g d)
  ·rename_i e;exact absurd d (e _)
theorem Calls.drawn {P:Program} {f:FuncId} {args:Array Value} {w:World} {R:Ending->World->Prop} (h:Calls P f args w R):Calls P f args w λ e w'=>R e w'/\ ∀v,e= .returned v->w.drawn<=w'.drawn:=by
 intro cs;obtain⟨e,w',fr,g,d,i,k⟩:=h cs;refine⟨e,w',fr,⟨g,?_⟩,d,i,k⟩;rintro v rfl;exact afk d
end Go.AM
end
section
namespace Go.AM
open Go Go.Sort Go.Proofs
structure Wr (w:World) (b:Nat) (cur:Array Value) (et:TypeId) (w':World):Prop where
 os:w'.os=w.os
 tape:w'.tape=w.tape
 output:w'.output=w.output
 size:w.heap.size<=w'.heap.size
 row:w'.heap[b]? =some (.cells cur et (0,0))
 blk: ∀k,k<w.heap.size->k≠b->w'.heap[k]? =w.heap[k]?
theorem Wr.keeps {w w':World} {b:Nat} {cur:Array Value} {f:TypeId} {F:Fz} (h:Wr w b cur f w') (hF: ∀o,¬F b o) (d: ∀k o,F k o->k<w.heap.size):Keeps w w' F F:=
 ⟨λ _ _ h=>h,λ k o e=>by
  have:k≠b:=by rintro rfl;exact hF o e
  simp only[World.cell?,h.blk k (d k o e) this]⟩
theorem Wr.base {w w':World} {g:Gh} {b:Nat} {cur:Array Value} {u:TypeId} {ow:aF} (h:Wr w b cur u w') (v:g.own b=some ow) (hF: ∀o,¬g.F b o) (d: ∀k ow,g.own k=some ow->k<w.heap.size) (i: ∀k o,g.F k o->k<w.heap.size)
 (m: ∀k ow cs t f,g.own k=some ow->w.heap[k]? =some (.cells cs t f)->f=(0,0)):Base w g.F (λ k=> ∃ow,g.own k=some ow) w' g:=
 ⟨h.os,h.tape,h.output,h.size,λ k y z=>h.blk k y (by rintro rfl;exact z ⟨ow,v⟩),λ k o e=>⟨.inl ⟨o,e⟩,abp (d k o e) h.size⟩,h.keeps hF i,λ k o p=>⟨.inl p,abp (i k o p) h.size⟩,λ k o cs t f e l=>by
  by_cases q:k=b
  ·subst q;rw[h.row]at l;cases l;rfl
  ·rw[h.blk k (d k o e) q]at l;exact m k o cs t f e l⟩
theorem Base.here {w:World} {g:Gh} (d: ∀k ow,g.own k=some ow->k<w.heap.size) (i: ∀k o,g.F k o->k<w.heap.size)
 (l: ∀k ow cs t f,g.own k=some ow->w.heap[k]? =some (.cells cs t f)->f=(0,0)):Base w g.F (λ k=> ∃ow,g.own k=some ow) w g:=
 ⟨rfl,rfl,rfl,aaw _,λ _ _ _=>rfl,λ k o e=>⟨.inl ⟨o,e⟩,d k o e⟩,Keeps.refl _ _,λ k o m=>⟨.inl m,i k o m⟩,l⟩
theorem Xb {P:Program} {fn:FuncId} {es:List Sh} {x y:List (ElA es)} {L:LV}
 (B: ∀(w:World) (F:Fz) (b l:Nat) (cur:Array Value) (C:TypeId),w.heap[b]? =some (.cells cur C (0,0))->x.length<=l->l<=maxLen->cur.size=l*es.length->fH (dX w F es) x (cur.toList.take (x.length*es.length))->(∀o,¬F b o)->(∀k o,F k o->k<w.heap.size)->
  Calls P fn (.slice (some ⟨b,0,none⟩) x.length l::L).toArray w λ e w'=>e= .returned (.tuple #[])/\ ∃i,i.size=cur.size/\fH (dX w F es) y (i.toList.take (y.length*es.length))/\y.length=x.length/\Wr w b i C w')
 (D:x= []->y= []/\ ∀w,Calls P fn (.slice none 0 0::L).toArray w λ e w'=>e= .returned (.tuple #[])/\w'=w)
 {w:World} {g:Gh} {v:Value} (hv:Fg w g (.tm 0) 0 false [⟨.sl es,.own,x⟩] v) (p: ∀k ow,g.own k=some ow->k<w.heap.size) (m: ∀k o,g.F k o->k<w.heap.size)
 (E: ∀k ow cs t f,g.own k=some ow->w.heap[k]? =some (.cells cs t f)->f=(0,0)):
 Calls P fn (v::L).toArray w λ e w'=>e= .returned (.tuple #[])/\Base w g.F (λ k=> ∃ow,g.own k=some ow) w' g/\Fg w' g (.tm 0) 0 false [⟨.sl es,.own,y⟩] v:=by
 obtain⟨q,u,ws,R,M,rfl⟩:=hv;have d:v.cells.toList= [v]:=by rw[aH q]
 rw[d]at R;obtain⟨rfl,_⟩:=abJ R;have M:zK w g (.tm 0 0) false (.sl es) x v:=M;rcases M with⟨rfl,U⟩|⟨b,c,cur,C,rfl,G,I,S,W,K,N,hF⟩
 ·have Y:x= []:=aav U;obtain⟨Z,z⟩:=D Y;refine(z w).mono ?_;rintro e w' ⟨rfl,rfl⟩;refine⟨rfl,Base.here p m E,q,_,[],by rw[d],?_,rfl⟩;show zK _ _ _ _ _ _ _;exact .inl ⟨rfl,by rw[Z];rfl⟩
 ·have A: ∀o,¬g.F b o:=λ o hf=>by have:=(hF o).1 hf;cases this.1
  refine(B w g.F b c cur C W G I K N A m).mono ?_;rintro e w' ⟨rfl,i,h1,h2,h3,O⟩;refine⟨rfl,O.base S A p m E,q,_,[],by rw[d],?_,rfl⟩;show zK _ _ _ _ _ _ _;have Q:aP (.sl es) y=aP (.sl es) x:=h3;refine .inr ⟨b,c,i,C,by rw[Q],by rw[Q];exact G,I,S,O.row,by rw[h1];exact K,?_,λ o=>by rw[show(Sh.sl es).n=es.length from rfl]at hF ⊢;exact(hF o).trans (by rw[Q])⟩;show fH (dX w' g.F es) y _;exact fH.imp (λ x cs h=>dX.keeps (O.keeps A m) es x cs h) y _ h2
theorem ae9 {P:Program} {glob:Nat->Option (LC)} {fn:FuncId} {es:List Sh} {f:List (ElA es)->Option (List (ElA es))} (z:Enters P fn)
 (m: ∀x y,f x=some y-> ∀(w:World) (F:Fz) (b l:Nat) (cur:Array Value) (G:TypeId),w.heap[b]? =some (.cells cur G (0,0))->x.length<=l->l<=maxLen->cur.size=l*es.length->fH (dX w F es) x (cur.toList.take (x.length*es.length))->(∀o,¬F b o)->(∀k o,F k o->k<w.heap.size)->
  Calls P fn (.slice (some ⟨b,0,none⟩) x.length l::[]).toArray w λ e w'=>e= .returned (.tuple #[])/\ ∃d,d.size=cur.size/\fH (dX w F es) y (d.toList.take (y.length*es.length))/\y.length=x.length/\Wr w b d G w')
 (p: ∀y,f []=some y->y= []/\ ∀w,Calls P fn (.slice none 0 0::[]).toArray w λ e w'=>e= .returned (.tuple #[])/\w'=w):
 Good P glob ⟨fn,[.io [(.sl es,.own)]],[]⟩ f:=by
 intro x y q;refine⟨z,λ w g I A B t C D=> ?_⟩;obtain⟨v,N,rfl,hv,A⟩:=A;obtain⟨_,rfl⟩:=A;have h:=Xb (m x y q) (λ K=>by subst K;exact p y q) (w:=w) (g:=g) (v:=v) hv t C D;refine h.mono ?_;rintro e w' ⟨rfl,L,E⟩;refine⟨_,g,rfl,L,⟨[],rfl,rfl⟩,⟨⟨v,rfl,E⟩,trivial⟩,λ i want j sh u M=> ?_⟩;rcases i with _|i<;>simp at M
theorem TD {P:Program} {glob:Nat->Option (LC)} {fn c:FuncId} {es:List Sh} {f:List (ElA es)->Option (List (ElA es))} (A:Enters P fn)
 (m: ∀x y,f x=some y-> ∀(w:World) (F:Fz) (b l:Nat) (cur:Array Value) (G:TypeId),w.heap[b]? =some (.cells cur G (0,0))->x.length<=l->l<=maxLen->cur.size=l*es.length->fH (dX w F es) x (cur.toList.take (x.length*es.length))->(∀o,¬F b o)->(∀k o,F k o->k<w.heap.size)->
  Calls P fn (.slice (some ⟨b,0,none⟩) x.length l::[.func (.func c) #[] #[]]).toArray w λ e w'=>e= .returned (.tuple #[])/\ ∃d,d.size=cur.size/\fH (dX w F es) y (d.toList.take (y.length*es.length))/\y.length=x.length/\Wr w b d G w')
 (p: ∀y,f []=some y->y= []/\ ∀w,Calls P fn (.slice none 0 0::[.func (.func c) #[] #[]]).toArray w λ e w'=>e= .returned (.tuple #[])/\w'=w):
 Good P glob ⟨fn,[.io [(.sl es,.own)],.fn c],[]⟩ f:=by
 intro x y q;refine⟨A,λ w g I t B z C D=> ?_⟩;obtain⟨v,O,rfl,hv,t⟩:=t;obtain⟨Q,K,rfl,rfl,t⟩:=t;obtain⟨_,rfl⟩:=t;have h:=Xb (m x y q) (λ L=>by subst L;exact p y q) (w:=w) (g:=g) (v:=v) hv z C D;refine h.mono ?_;rintro e w' ⟨rfl,M,E⟩;refine⟨_,g,rfl,M,⟨[],rfl,rfl⟩,⟨⟨v,rfl,E⟩,trivial⟩,λ i want j sh u N=> ?_⟩;rcases i with _|_|i<;>simp at N
theorem ac5 {α:Type} [Inhabited α] {w:World} {b:Nat} {cur:Array Value} {g:TypeId} (i:w.heap[b]? =some (.cells cur g (0,0))) (enc:α->Value) (d:Array α) (n:Nat) (os:Array Obj):
 Wr w b (putCells enc 0 d cur) g (grow (putRow enc (Go.Sort.ahead w n) b 0 d) os):=by
 have e:b<w.heap.size:=lt_of_heap i;have hs:(putRow enc (Go.Sort.ahead w n) b 0 d).heap.size=w.heap.size:=by simp
 refine⟨rfl,rfl,rfl,by rw[size_grow,hs];omega,?_,λ k l f=> ?_⟩
 ·rw[heap_grow_old _ _ (by rw[hs];exact e)];show(w.heap.modify b _)[b]? =_;rw[Array.getElem?_modify,if_pos rfl,i];rfl
 ·rw[heap_grow_old _ _ (by rw[hs];exact l)];show(w.heap.modify b _)[k]? =_;rw[Array.getElem?_modify,if_neg (Ne.symm f)]
theorem WX {α:Type} [Inhabited α] {enc:α->Value} {d:Array α} {cur:Array Value} (h:d.size<=cur.size):(putCells enc 0 d cur).toList.take d.size=d.toList.map enc:=by
 apply aaZ;intro j;rw[aan,aau];split
 ·rename_i e;rw[aaW];unfold putCells;rw[Array.getElem?_mapIdx,aa8 Ω,aaL,if_pos ⟨Ω,Ω⟩,aaW,aa8 e];simp[e]
 ·rename_i e;rw[aaW,acn Ω];rfl
theorem zl {α:Type} {R:α->LV->Prop} {enc:α->Value} (h: ∀x cs,R x cs ↔ cs= [enc x]): ∀(l:List α) (cs:LV),fH R l cs ↔ cs=l.map enc
 | [],cs=>ab7
 |x::l,cs=>by
  simp only[fH,h,zl h l,abo];constructor
  ·rintro⟨d,e,rfl,rfl,rfl⟩;rfl
  ·rintro rfl;exact⟨_,_,rfl,rfl,rfl⟩
theorem holds_of {α:Type} [Inhabited α] {w:World} {b:Nat} {cur:Array Value} {i:TypeId} (f:w.heap[b]? =some (.cells cur i (0,0))) {enc:α->Value} {d:Array α} (h:cur.toList.take d.size=d.toList.map enc):Holds enc w b 0 d:=by
 intro j e;have g:=congrArg (λ l=>l[j]?) h;simp only[aan,if_pos e,aau,aaW,aa8 e,aaL]at g;refine⟨?_,?_⟩
 ·rw[aa2,cell_of_heap f,g];simp[e]
 ·simp[World.frozen?,f]
theorem Y9 {α:Type} {enc:α->LV} {k:Nat} (d: ∀x,(enc x).length=k): ∀(l:List α) (t:Nat),t<l.length*k-> ∃x,l[t/k]? =some x/\(l.flatMap enc)[t]? =(enc x)[t % k]? /\t % k<k
 | [],t,h=>by simp at h
 |a::l,t,h=>by
  have f:0<k:=by rcases ab5 k with g|g; · subst g;simp at h
                 ·exact g
  rw[abq];by_cases i:t<k
  ·refine⟨a,by rw[acM i];rfl,?_,Nat.mod_lt _ f⟩;rw[aax (by rw[d];exact i),Nat.mod_eq_of_lt i]
  ·obtain⟨x,m,p,q⟩:=Y9 d l (t-k) (by rw[aaX,abO]at h;omega);have e:t/k=(t-k)/k+1:=by rw[←Nat.add_div_right _ f];congr 1;omega
   refine⟨x,by rw[e];simpa using m,?_,Nat.mod_lt _ f⟩;rw[aaB (by rw[d];omega),d,p];congr 1;rw[←Nat.mod_eq_sub_mod Ω]
theorem Ws {α:Type} {enc:α->LV} {k:Nat} (d: ∀x,(enc x).length=k): ∀l:List α,(l.flatMap enc).length=l.length*k
 | []=>by simp
 |a::l=>by rw[abq,aaq,d,Ws d l,aaX,abO];omega
theorem agv {α:Type} [Inhabited α] {enc:α->LV} {k:Nat} (f: ∀x,(enc x).length=k) (d:Array α):(flatK enc k d).toList=d.toList.flatMap enc:=by
 apply aaZ;intro t;by_cases e:t<d.size*k
 ·obtain⟨x,g,i,l⟩:=Y9 f d.toList t (by simpa using e);rw[i,aaW];have m:=get_flatK enc k d t e;have hs:t<(flatK enc k d).size:=by simpa using e
  rw[aa8 hs,←getElem!_pos _ t hs,m];rw[aaW]at g;have p:t/k<d.size:=(abz.1 g).1;rw[getElem!_pos d _ p,(abz.1 g).2];rw[getElem!_pos (enc x) _ (by rw[f];exact l),aac]
 ·rw[aaW,acn (by simpa using e),aal (by rw[Ws f];simpa using e)]
theorem OV {α β:Type} {R:β->LV->Prop} {enc:α->LV} {f:α->β} (h: ∀a,R (f a) (enc a)): ∀l:List α,fH R (l.map f) (l.flatMap enc)
 | []=>rfl
 |a::l=>⟨enc a,l.flatMap enc,by rw[abq],h a,OV h l⟩
theorem VZ {w w':World} {g':Gh} {F:Fz} (h:Base w F (λ k=> ∃ow,(zI F).own k=some ow) w' g') (l:w.drawn<=w'.drawn): ∃q os,w'=grow (w.drewN q) os:=by
 refine⟨w'.drawn-w.drawn,w'.heap.extract w.heap.size w'.heap.size,?_⟩
 have f:w'.heap=w.heap++w'.heap.extract w.heap.size w'.heap.size:=by
  apply Array.ext_getElem?;intro i;rw[Array.getElem?_append];split
  ·rename_i d;exact h.blk i d λ⟨ow,e⟩=>by cases e
  ·rename_i d;rw[Array.getElem?_extract];split
   ·congr 1;omega
   ·rename_i m;rw[acn Ω]
 obtain⟨os,g,out⟩:w'.os=w.os/\w'.tape=w.tape/\w'.output=w.output:=⟨h.os,h.tape,h.output⟩;cases w';simp only[grow,World.drewN]at *;subst os g out;rw[←f];congr 1;omega
theorem sortK {P:Program} {ρ:Go.Shelf.Ren} (L:SlLaysF0.n6 P ρ) {es:List Sh} (a2:0<es.length) (aE: ∀w,(Go.isAgg (ρ.t 24)).run P w= .ok true w) (zE: ∀w,(Go.sizeOf (ρ.t 24)).run P w= .ok es.length w) {c:FuncId} (ec: ∀args w,(callFunc c args).run P w= .ok (.enter c args) w)
 {x y:List (ElA es)} (hx:x≠[]) (a3:x.length<4611686018427387904) {cmp:ElA es->ElA es->Int} (hO:SWO (ltOf λ i j:Fin x.length=>cmp x[i] x[j]))
 (B: ∀(w:World) (F:Fz) (i j:Fin x.length) (c1 c2:LV),dX w F es x[i] c1->dX w F es x[j] c2->(∀k o,F k o->k<w.heap.size)->Calls P c #[.agg c1.toArray,.agg c2.toArray] w λ e w'=>e= .returned (.int .i64 (cmp x[i] x[j]))/\ ∃q a4,w'=grow (w.drewN q) a4)
 (hy: ∀z:List (ElA es),z.Perm x->z.Pairwise (λ a b=> ¬cmp b a<0)->z=y) {w:World} {F:Fz} {b u:Nat} {cur:Array Value} {et:TypeId} (C:w.heap[b]? =some (.cells cur et (0,0))) (D:x.length<=u) (E:cur.size=u*es.length)
 (G: ∀v∈cur.toList.take (x.length*es.length),v.oneCell'=true) (a5:fH (dX w F es) x (cur.toList.take (x.length*es.length))) (hF: ∀o,¬F b o) (I: ∀k o,F k o->k<w.heap.size):
 Calls P (ρ.f 6) (.slice (some ⟨b,0,none⟩) x.length u::[.func (.func c) #[] #[]]).toArray w λ e w'=>e= .returned (.tuple #[])/\ ∃g,g.size=cur.size/\fH (dX w F es) y (g.toList.take (y.length*es.length))/\y.length=x.length/\Wr w b g et w':=by
 have hn:0<x.length:=List.length_pos_iff.2 hx;have:Inhabited (Fin x.length):=⟨⟨0,hn⟩⟩
 let k:=es.length
 let cs:=cur.toList.take (x.length*k)
 have K:cs.length=x.length*k:=by
  have:=aaA k D;simp only[cs,aaE,abd,E];exact abP this
 let enc:Fin x.length->LV:=λ i=>(cs.drop (i*k)).take k
 have M: ∀i:Fin x.length,(i:Nat)*k+k<=x.length*k:=λ i=>by
  have:=aaA k i.isLt
  rwa [abx]at this
 have hk: ∀i,(enc i).length=k:=λ i=>by
  have:=M i;simp only[enc,aaE,abh,K];omega
 have h1: ∀i,∀v∈enc i,v.oneCell'=true:=λ i v hv=>G v (abD (abr hv));have hR: ∀i:Fin x.length,dX w F es x[i] (enc i):=λ i=>(jW es).get x cs a5 i x[i] Θ
 let d:Array (Fin x.length):=(List.finRange x.length).toArray
 have N:d.size=x.length:=by simp[d]
 have a8: ∀(i:Nat) (O:i<x.length),d[i]! =⟨i,O⟩:=λ i O=>by
  rw[getElem!_pos d i (by rw[N];exact O)];simp[d]
 have hH:HoldsK enc k w b 0 d:=by
  intro t ht;have l:t<d.size*k:=by simpa using ht
  rw[get_flatK _ _ _ _ l];rw[N]at l;have hq:t/k<x.length:=Nat.div_lt_of_lt_mul (by rw[abW];exact l);have hm:=Nat.mod_lt t a2;refine⟨?_,by simp[World.frozen?,C]⟩;rw[aa2,cell_of_heap C,a8 _ hq,getElem!_pos (enc _) _ (by rw[hk];exact hm)]
  have A:cs[t]? =cur[t]? :=by
   simp only[cs,aan,if_pos l,aaW]
  rw[←A];simp only[enc,abV,List.getElem_drop,id];rw[aad];refine⟨by rw[K];exact l,?_⟩;congr 1;have:=Nat.div_add_mod t k;rw[abW]at this;exact this.symm
 have a9:b<w.heap.size:=lt_of_heap C
 have hC:CmpLays P c #[] enc k (λ i j:Fin x.length=>cmp x[i] x[j]) b 0 d.size w:=by
  intro m os dk d3 i j;have Q:=ac5 C id (flatK enc k dk) m os;have S:Keeps w (sortWorldK enc k w b 0 m dk os) F F:=Q.keeps hF I;have hc:=B (sortWorldK enc k w b 0 m dk os) F i j (enc i) (enc j) (dX.keeps S _ _ _ (hR i)) (dX.keeps S _ _ _ (hR j)) (λ q o hf=>abp (I q o hf) Q.size);simpa using hc
 have key:=AnyQ.slices_SortFunc L k aE zE enc hk h1 (λ i j:Fin x.length=>cmp x[i] x[j]) hO c #[] b 0 u d w ec hC hH a9 (by rw[N];exact a3);rw[N]at key;refine key.mono ?_;rintro e w' ⟨rfl,p,n,os,hp,hs,rfl⟩;refine⟨rfl,?_⟩;have b0:p.size=x.length:=by rw[hp.1,N]
 let z:List (ElA es):=p.toList.map λ i=>x[i]
 have U:z.Perm x:=by
  have A:=hp.2.2;rw[Array.extract_eq_self_of_le Ω,Array.extract_eq_self_of_le Ω]at A;have h3:=A.map λ i:Fin x.length=>x[i]
  have h4:d.toList.map (λ i:Fin x.length=>x[i])=x:=by
   apply acK
   ·simp[d]
   ·intro i h1 A;simp[d]
  rw[h4]at h3;exact h3
 have b1:z.Pairwise λ a b=> ¬cmp b a<0:=by
  rw[aaN];intro i j O hj b2;have b3:i<p.size:=by simpa [z]using O
  have b4:j<p.size:=by simpa [z]using hj
  have A:=hs i j (abH _) b2 Ω;rw[getElem!_pos p i b3,getElem!_pos p j b4]at A;have h3:=of_decide_eq_false A;simpa [z]using h3
 have W:=hy z U b1;have Y:y.length=x.length:=by rw[←W];exact U.length_eq
 have Z:(flatK enc k p).size=x.length*k:=by rw[size_flatK,b0]
 refine⟨putCells id 0 (flatK enc k p) cur,by simp[putCells],?_,Y,ac5 C id (flatK enc k p) n os⟩;have ht:=WX (enc:=id) (d:=flatK enc k p) (cur:=cur) (by rw[Z,E];exact aaA k D);rw[Z]at ht;rw[Y,ht,List.map_id,agv hk,←W];exact OV (R:=dX w F es) (f:=λ i:Fin x.length=>x[i]) hR p.toList
theorem ae1 {w:World} {F:Fz}: ∀(es:List Sh) (x:ElA es) (cs:LV),dX w F es x cs-> ∀u∈cs,u.oneCell'=true:=λ es x cs h=>
 uQ (kE (uK es x)) (cells_ok (g:=zI F) .hand es x 0 cs h)
theorem IE {w:World} {F:Fz} {es:List Sh}: ∀(l:List (ElA es)) (cs:LV),fH (dX w F es) l cs-> ∀u∈cs,u.oneCell'=true
 | [],cs,h,u,d=>by rw[show cs= []from h]at d;cases d
 |e::l,_,⟨f,g,rfl,i,k⟩,u,d=>by
  rcases aap.1 d with d|d
  ·exact ae1 es e f i u d
  ·exact IE l g k u d
end Go.AM
end
section
namespace Go.AM
open Go Go.Sort Go.Proofs Go.RowKit
theorem born {w w':World} {g:Gh} (i: ∀k ow,g.own k=some ow->k<w.heap.size) (l: ∀k o,g.F k o->k<w.heap.size)
 (y: ∀k ow cs t f,g.own k=some ow->w.heap[k]? =some (.cells cs t f)->f=(0,0)) {v:Value} {n:Nat} {es:List Sh} {M:LV} {x:List (ElA es)} {e:TypeId} (N:w'.ownsRow w.heap.size e es.length v n M) (O:fH (dX w' g.F es) x M)
 (Q:x.length=n) (d:Below w.heap.size w w'): ∃g':Gh,g'.F=g.F/\g'.at_=g.at_/\(∀b,b<w.heap.size->g'.own b=g.own b)/\Base w g.F (λ b=> ∃ow,g.own b=some ow) w' g'/\Fg w' g' .hand 0 false [⟨.sl es,.own,x⟩] v:=by
 have z:Keeps w w' g.F g.F:=⟨λ _ _ h=>h,λ b o m=>by simp only[World.cell?,d.block b (l b o m)]⟩;subst Q;rcases N with⟨U,⟨rfl,R⟩|⟨b,B,cur,rfl,C,p,D,E,G,A⟩⟩
 ·have I:x= []:=aav R;subst I;refine⟨g,rfl,rfl,λ _ _=>rfl,⟨d.os,d.tape,d.output,d.size,λ b p _=>d.block b p,λ b ow e=>⟨.inl ⟨ow,e⟩,abp (i b ow e) d.size⟩,z,λ b o m=>⟨.inl m,abp (l b o m) d.size⟩,λ b ow cs t f e q=> ?_⟩,rfl,_,[],rfl,?_,rfl⟩
  ·rw[d.block b (i b ow e)]at q;exact y b ow cs t f e q
  ·show zK _ _ _ _ _ _ _;exact .inl ⟨rfl,rfl⟩
 ·have K:b<w'.heap.size:=lt_of_heap p
  let g':Gh:={g with own:=λ k=>if k=b then some (.hand 0)else g.own k}
  have S:g'.own b=some (.hand 0):=if_pos rfl;have L: ∀k,k<w.heap.size->g'.own k=g.own k:=λ k u=>if_neg Ω;refine⟨g',rfl,rfl,L,⟨d.os,d.tape,d.output,d.size,λ b p _=>d.block b p,λ k ow e=> ?_,z,λ b o m=>⟨.inl m,abp (l b o m) d.size⟩,λ k ow cs t f e q=> ?_⟩,rfl,_,[],rfl,?_,rfl⟩
  ·by_cases u:k=b
   ·subst u;exact⟨.inr C,K⟩
   ·have e:g.own k=some ow:=by rw[←e];exact(if_neg u).symm
    exact⟨.inl ⟨ow,e⟩,abp (i k ow e) d.size⟩
  ·by_cases u:k=b
   ·subst u;rw[p]at q;cases q;rfl
   ·have e:g.own k=some ow:=by rw[←e];exact(if_neg u).symm
    rw[d.block k (i k ow e)]at q;exact y k ow cs t f e q
  ·show zK _ _ _ _ _ _ _;refine .inr ⟨b,B,cur,e,rfl,D,E,S,p,G,?_,λ o=>⟨λ m=> ?_,λ h=>by cases h.1⟩⟩
   ·show fH (dX w' g.F es) x (cur.toList.take (x.length*es.length));rw[A];exact O
   ·have:=l b o m;omega
noncomputable def E0:Env:=⟨0,λ _=>false,λ _=>none,λ _=>none,λ _=>⟨0,[],[]⟩,λ _=>0,λ _ _=>none,[]⟩
theorem akP {w d:World} {F0:Fz} {X:Nat->Prop} {g:Gh} (h:Base w F0 X d g):Rel E0 ⟨w,F0,X,λ _=>none,λ _ _=>none⟩ ⟨λ _=>(.dead,0),λ _=>none⟩ ⟨#[],[]⟩ d g:=
 ⟨λ _=>trivial,λ _ _ h=>(by cases h),rfl,rfl,λ _ _ h=>(by cases h),h,λ _ _ h=>(by cases h),λ _ _ _ h=>(by cases h)⟩
theorem PN {P:Program} {d:Array Oper} {rest:List Oper} {o:Oper} {a:Act} {w:World} {Q:Exit->Act->World->Prop} (e:o.guard=none) (s x:Operand) (t f:TypeId) (i:o.op= .call {callee:= .builtin .append,args:= #[s,x],argTypes:= #[t,f]}) {g:Value} {w':World}
 (k:(Builtin.append_ #[t,f] o.type #[a.eval s,a.eval x]).run P w= .ok g w') (h:wpList P d Q rest (a.put o.dst g) w'):wpList P d Q (o::rest) a w:=by
 refine wpList_plain e λ K l=> ?_;unfold Oper.wp execOp;simp only[i,resolve,invoke,builtin,Sem.run_bind,Sem.run_pure,Result.andThen_ok,acW,abo,acP,k];exact l _ _ h
theorem Qn {w:World} {F:Fz} {k:IntKind} (l:List Int):fH (dX w F [.int k]) l (l.map (Value.int k)):=
 (zl (enc:=Value.int k) (λ z cs=>by simp only[dX,jM,exists_eq_right]) l _).2 rfl
theorem Rx {P:Program} {w m:World} {g:Gh} {X:Nat->Prop} {F0:Fz} (G:Base w F0 X m g) {x y:List Int} {v u:Value} (I:zK m g (.hand 0) false (.sl [.int .u8]) x v) {t D e ty:TypeId} {i:TypeInfo} {z:Value} (K:P.underlying t=some (.slice e)) (L:P.info? e=some i)
 (M:i.zero=some z) (p:i.size=1) (q:z.cells.size=1) (A:i.bytes<=128) (d:x.length+y.length<=ay) (hs:Src P 1 D u y.length (y.map (Value.int .u8)) m):
 ∃f k g3,(Builtin.append_ #[t,D] ty #[v,u]).run P m= .ok f k/\Base w F0 X k g3/\Fg k g3 .hand 0 false [⟨.sl [.int .u8],.own,List.append x y⟩] f:=by
 have l:Behind (.sl [.int .u8]) x y (List.append x y):=⟨aaq,λ w F cs ds B C=>(jW [.int .u8]).append x y cs ds B C⟩;obtain⟨f,k,g3,B,C,N,E,_⟩:=OJ (akP G) (sh:= .sl [.int .u8]) rfl l I (ty:=ty) K L M p q A (by rw[l.len];exact d) hs (Qn y);exact⟨f,k,g3,B,C.base,E,f,[],by rw[aH E],N,rfl⟩
end Go.AM
end
