import Derived.Test.YtdchbjmbgecejaaGreatDoorMo
import Derived.Test.YtdchbjmbgecejaaGreatDoorMk
set_option linter.unusedVariables false
noncomputable section
namespace Go.Bk
open Go Go.AM
theorem Ih {α β:Type} {q:α->α->Bool} (x:α) (y:β): ∀l:List (α×β),og q x l=none->(E5 q x y l).length=l.length+1
 | [],_=>rfl
 |p::l,h=>by
  simp only[og,cond_eq_ite]at h;split at h
  ·cases h
  ·rename_i hn;simp only[E5,cond_eq_ite];rw[if_neg hn,abe,abe,Ih x y l h]
def ahl {α:Type} (q:α->α->Bool) (x1:Option (List (α×Int))×List Int×List α×Int×Int) (rec2:Option (List (α×Int))×List Int×List α×Int×Int->Option (Option (List (α×Int))×List Int)):Option (Option (List (α×Int))×List Int):=
 bif decide (x1.2.2.2.2<x1.2.2.2.1)then
  (nth? x1.2.2.1 x1.2.2.2.2).bind λ e3=>
   (bif !(Option.isSome (og q e3 (l9 x1.1)))then
    ((x1.1).bind λ m4=>some (some (E5 q e3 ((VB x1.1:Nat):Int) m4),x1.2.1,((VB x1.1:Nat):Int),x1.2.2.1,x1.2.2.2.1,x1.2.2.2.2))
   else some (x1.1,x1.2.1,Option.getD (og q e3 (l9 x1.1)) (0:Int),x1.2.2.1,x1.2.2.2.1,x1.2.2.2.2)).bind λ x5=>
   bif decide (List.length x5.2.1+List.length ([x5.2.2.1]:List Int)<=au)then
    rec2 (x5.1,List.append x5.2.1 ([x5.2.2.1]:List Int),x5.2.2.2.1,x5.2.2.2.2.1,IntKind.wrap .i64 (x5.2.2.2.2.2+(1:Int)))
   else none
 else some (x1.1,x1.2.1)
def MOk {α:Type} (q:α->α->Bool) (mm:List (α×Int)):Prop:=(∀a v,og q a mm=some v->0<=v/\v<((mm.length:Nat):Int))/\ ∀a b v,og q a mm=some v->og q b mm=some v->a=b
theorem MOk.put {α:Type} [DecidableEq α] {q:α->α->Bool} (hq: ∀a b,q a b=true ↔ a=b) {mm:List (α×Int)} (h:MOk q mm) {x:α} (hx:og q x mm=none):MOk q (E5 q x ((mm.length:Nat):Int) mm):=by
 have hl:=Ih (q:=q) x ((mm.length:Nat):Int) mm hx;refine⟨λ a v ha=> ?_,λ a b v ha hb=> ?_⟩
 ·rw[hl];rw[qQ hq]at ha;split at ha
  ·cases ha;omega
  ·have:=h.1 a v ha;omega
 ·rw[qQ hq]at ha hb;split at ha<;>split at hb
  ·rename_i e1 e2;rw[e1,e2]
  ·cases ha;have:=(h.1 b _ hb).2;omega
  ·cases hb;have:=(h.1 a _ ha).2;omega
  ·exact h.2 a b v ha hb
def adK {α:Type} (x:List α) (r:List Int×Int):Prop:=
 r.1.length=x.length/\0<=r.2/\r.2<=((x.length:Nat):Int)/\(∀v∈r.1,0<=v/\v<r.2)/\(∀v:Int,0<=v->v<r.2->v∈r.1)/\ ∀(i j:Nat) (a b:α) (u v:Int),x[i]? =some a->x[j]? =some b->r.1[i]? =some u->r.1[j]? =some v->(u=v ↔ a=b)
theorem ad2 {α:Type} [DecidableEq α] {q:α->α->Bool} (hq: ∀a b,q a b=true ↔ a=b) (x:List α) (hl:x.length<=1000000):
 Tt (λ n=>(cu (ahl q) n ((some []:Option (List (α×Int))),([]:List Int),x,((x.length:Nat):Int),(0:Int))).bind λ x6=>some (x6.2,((VB x6.1:Nat):Int))) (adK x):=by
 refine Tt.bind (R:=λ t=>adK x (t.2,((VB t.1:Nat):Int)))
  (Tt.loop (L:=λ _=>ahl q) (Lp.count x.length (λ i t=> ∃(mm:List (α×Int)) (out:List Int),t=(some mm,out,x,((x.length:Nat):Int),(i:Int))/\out.length=i/\mm.length<=i/\MOk q mm/\(∀v:Int,0<=v->v<((mm.length:Nat):Int)->v∈out)/\
   ∀(j:Nat) (a:α) (v:Int),x[j]? =some a->out[j]? =some v->og q a mm=some v) ?_ ?_ ?_)) λ r hr=>Tt.pure hr
 ·rintro i t hi ⟨mm,out,rfl,ho,hm,hk,hs,hg⟩;unfold ahl;dsimp only
  have hold: ∀(j:Nat) (a:α) (v w:Int),x[j]? =some a->(out++[w])[j]? =some v->(j<i/\out[j]? =some v)\/(j=i/\a=x[i]/\v=w):=by
   intro j a v w hj hv;rcases aaE j out.length with h|h
   ·rw[aax h]at hv;exact .inl ⟨by omega,hv⟩
   ·have hlt:=(aaf.1 hv).1;simp at hlt;have:j=i:=by omega
    subst this;rw[aaz (by omega),ho,acz]at hv;rw[aac hi]at hj;exact .inr ⟨rfl,(aao hj).symm,by simpa using hv.symm⟩
  refine Bd.yes (aT (by omega)) (Bd.nth hi ?_);refine Bd.eU (λ hc=> ?_) (λ hc=> ?_)
  ·have hnone:og q x[i] mm=none:=by simpa [l9]using hc
   have hml:=Ih (q:=q) x[i] ((mm.length:Nat):Int) mm hnone;refine Bd.aG (Bd.aG (Bd.chk (pY (by dsimp only;simp;omega)) (Bd.again ⟨E5 q x[i] ((mm.length:Nat):Int) mm,out++[((mm.length:Nat):Int)],by dsimp only;rw[aA (by omega)];rfl,by simp;omega,by rw[hml];omega,hk.put hq hnone,λ v h0 h1=> ?_,λ j a v hj hv=> ?_⟩)))
   ·rw[hml]at h1;by_cases e:v=((mm.length:Nat):Int)
    ·rw[e];exact abl _ (by simp)
    ·exact aaH _ (hs v h0 (by omega))
   ·rw[qQ hq];rcases hold j a v _ hj hv with⟨h,h2⟩|⟨h,h2,h3⟩
    ·split
     ·rename_i e;have:=hg j a v hj h2;rw[e,hnone]at this;cases this
     ·exact hg j a v hj h2
    ·rw[if_pos h2,h3]
  ·have hsome:(og q x[i] mm).isSome=true:=by simpa [l9]using hc
   obtain⟨w,hw⟩:=aci.1 hsome;have e1:Option.getD (og q x[i] (l9 (some mm))) (0:Int)=w:=by rw[show l9 (some mm)=mm from rfl,hw];rfl
   refine Bd.aG (Bd.chk (pY (by dsimp only;simp;omega)) (Bd.again ⟨mm,out++[w],by dsimp only;rw[aA (by omega),e1];rfl,by simp;omega,by omega,hk,λ v h0 h1=>aaH _ (hs v h0 h1),λ j a v hj hv=> ?_⟩));rcases hold j a v _ hj hv with⟨h,h2⟩|⟨h,h2,h3⟩
   ·exact hg j a v hj h2
   ·rw[h2,h3];exact hw
 ·rintro t ⟨mm,out,rfl,ho,hm,hk,hs,hg⟩;unfold ahl;dsimp only;refine Bd.no (decide_eq_false (by omega)) (Bd.done ⟨ho,by show(0:Int)<=((mm.length:Nat):Int);omega,by show((mm.length:Nat):Int)<=_;omega,λ v hv=> ?_,hs,λ i j a b u v hi hj hu hv=> ?_⟩)
  ·obtain⟨i,hi,rfl⟩:=aay hv;exact hk.1 x[i] _ (hg i _ _ (aac (by have hi:i<out.length:=hi;omega)) (aac hi))
  ·have h1:=hg i a u hi hu;have h2:=hg j b v hj hv;constructor
   ·intro e;subst e;exact hk.2 a b u h1 h2
   ·intro e;subst e;rw[h1]at h2;exact aao h2
 ·exact⟨[],[],rfl,rfl,by simp,⟨λ a v h=>by simp[og]at h,λ a b v h=>by simp[og]at h⟩,λ v h0 h1=>absurd h1 (by simp;omega),λ j a v _ h=>by simp at h⟩
theorem LV (x:List Bool) (hl:x.length<=1000000):Sp kS.P x (adK x):=ad2 ZY x hl
theorem H7 (x:List ByteArray) (hl:x.length<=1000000):Sp jP.P x (adK x):=ad2 Bo x hl
theorem BO {α:Type} {R:α->α->Prop} (aZ': ∀a b,R a b-> ¬R b a): ∀{l l':List α},l.Pairwise R->l'.Pairwise R->(∀y,y∈l ↔ y∈l')->l=l'
 | [],[],_,_,_=>rfl
 | [],b::l',_,_,h=>absurd ((h b).2 (abT ..)) (by simp)
 |a::l,[],_,_,h=>absurd ((h a).1 (abT ..)) (by simp)
 |a::l,b::l',h1,h2,h=>by
  obtain⟨p1,p2⟩:=acs.1 h1;obtain⟨q1,q2⟩:=acs.1 h2
  have hab:a=b:=by
   rcases aaR.1 ((h a).1 (abT ..))with e|e
   ·exact e
   ·rcases aaR.1 ((h b).2 (abT ..))with e'|e'
    ·exact e'.symm
    ·exact absurd (q1 a e) (aZ' _ _ (p1 b e'))
  subst hab;rw[BO aZ' p2 q2 λ y=>⟨λ hy=> ?_,λ hy=> ?_⟩]
  ·rcases aaR.1 ((h y).1 (aaX _ hy))with e|e
   ·subst e;exact absurd (p1 y hy) (aZ' _ _ (p1 y hy))
   ·exact e
  ·rcases aaR.1 ((h y).2 (aaX _ hy))with e|e
   ·subst e;exact absurd (q1 y hy) (aZ' _ _ (q1 y hy))
   ·exact e
theorem FY.at {rs:List Rule} (h:FY rs) {j k:Nat} {r r':Rule} (hj:rs[j]? =some r) (hk:rs[k]? =some r') (e1:r.1=r'.1) (e2:r.2.1=r'.2.1):j=k:=by
 rcases acE j k with h1|h1|h1
 ·exact absurd ⟨e1,e2⟩ (h j k r r' h1 hj hk)
 ·exact h1
 ·exact absurd ⟨e1.symm,e2.symm⟩ (h k j r' r h1 hk hj)
theorem FY.det {rs:List Rule} (h:FY rs):Det rs:=λ r hr r' hr' e1 e2=>by
 obtain⟨j,hj,rfl⟩:=aay hr;obtain⟨k,hk,rfl⟩:=aay hr';have:=h.at (aac hj) (aac hk) e1 e2;subst this;rfl
theorem X4 {r r':Rule} {k k':Nat} {s:Int} (hn: ∀q∈r'.2.1,0<=q) (a2:r.2.1[k]? =some s) (b2:r'.2.1[k']? =some s) (e2:r.2.1.set k (-1)=r'.2.1.set k' (-1)):k=k'/\r.2.1=r'.2.1:=by
 have hk:k<r.2.1.length:=(aaf.1 a2).1;have hk':k'<r'.2.1.length:=(aaf.1 b2).1;have hl:r.2.1.length=r'.2.1.length:=by have:=congrArg List.length e2;simpa using this
 have hkk:k=k':=by
  apply abp;intro hne;have h1:(r.2.1.set k (-1))[k]? =(r'.2.1.set k' (-1))[k]? :=congrArg (λ l:List Int=>l[k]?) e2;rw[aby (by omega),abk (λ e=>hne e.symm)]at h1;have:=hn (-1) (aak h1.symm);omega
 subst hkk;refine⟨rfl,aaP λ x=> ?_⟩;by_cases hx:x=k
 ·rw[hx,a2,b2]
 ·have h1:(r.2.1.set k (-1))[x]? =(r'.2.1.set k (-1))[x]? :=congrArg (λ l:List Int=>l[x]?) e2
  rwa [abk (λ e=>hx e.symm),abk (λ e=>hx e.symm)]at h1
def Occ (rs:List Rule) (r:Rule) (i:Nat) (s:Int):Prop:=r∈rs/\r.2.1[i]? =some s
def afP (S:Int) (rs:List Rule) (U:List (List (Int×Int))):Prop:=
 U.length=S.toNat/\(∀l∈U,(l.length<=3*rs.length/\l.Pairwise λ a b=>a.1<b.1)/\ ∀p∈l,0<=p.1/\p.1<=300000/\dH S p.2)/\ ∃κ:Int->List Int->Int,
  (∀r i s r' i' s',Occ rs r i s->Occ rs r' i' s'->κ r.1 (r.2.1.set i (-1))=κ r'.1 (r'.2.1.set i' (-1))->r.1=r'.1/\r.2.1.set i (-1)=r'.2.1.set i' (-1))/\
  ∀(s:Int) (l:List (Int×Int)),0<=s->U[s.toNat]? =some l-> ∀c to,(c,to)∈l ↔ ∃r i,Occ rs r i s/\c=κ r.1 (r.2.1.set i (-1))/\to=r.2.2
abbrev afO (F:Nat->List (Int×Int)->Option (List (Int×Int))):Prop:= ∀x:List (Int×Int),x.length<=1000000->(∀p∈x,0<=p.1/\p.1<=300000)->(∀p∈x,∀p'∈x,p.1=p'.1->p=p')->Sp F x (λ r=>r.Perm x/\r.Pairwise λ a b=>a.1<=b.1)
def UI (rs:List Rule) (dn:Nat->Nat->Prop) (V:List (List (Int×Int))) (mm:List (ByteArray×Int)):Prop:=
 (∀(s:Int) (l:List (Int×Int)),0<=s->V[s.toNat]? =some l-> ∀c to,(c,to)∈l-> ∃(j i:Nat) (r:Rule),dn j i/\rs[j]? =some r/\r.2.1[i]? =some s/\og seq (LD r.1 (r.2.1.set i (-1))) mm=some c/\to=r.2.2)/\
 ∀(j i:Nat) (r:Rule) (s:Int),dn j i->rs[j]? =some r->r.2.1[i]? =some s-> ∃l c,V[s.toNat]? =some l/\(c,r.2.2)∈l/\og seq (LD r.1 (r.2.1.set i (-1))) mm=some c
theorem UI.step {rs:List Rule} {dn:Nat->Nat->Prop} {V:List (List (Int×Int))} {mm m3:List (ByteArray×Int)} (h:UI rs dn V mm) (hm: ∀key c,og seq key mm=some c->og seq key m3=some c) {k p:Nat} {r0:Rule} {s0 c0:Int} (h0:0<=s0) (hr0:rs[k]? =some r0) (hs0:r0.2.1[p]? =some s0)
 (hc0:og seq (LD r0.1 (r0.2.1.set p (-1))) m3=some c0) (hl:s0.toNat<V.length):UI rs (λ j i=>dn j i\/(j=k/\i=p)) (V.set s0.toNat (List.append V[s0.toNat] [(c0,r0.2.2)])) m3:=by
 obtain⟨hA,hB⟩:=h;refine⟨λ s l hs hVl c to hct=> ?_,λ j i r s hd hr hsi=> ?_⟩
 ·rw[aaS]at hVl;split at hVl
  ·rename_i e;cases hVl;have es:s0=s:=by omega
   subst es;simp only[abt,aau,aam,aas]at hct;rcases hct with hct|⟨rfl,rfl⟩
   ·obtain⟨j,i,r,a1,a2,a3,a4,a5⟩:=hA s0 _ hs (aac hl) c to hct;exact⟨j,i,r,.inl a1,a2,a3,hm _ _ a4,a5⟩
   ·exact⟨k,p,r0,.inr ⟨rfl,rfl⟩,hr0,hs0,hc0,rfl⟩
  ·obtain⟨j,i,r,a1,a2,a3,a4,a5⟩:=hA s l hs hVl c to hct;exact⟨j,i,r,.inl a1,a2,a3,hm _ _ a4,a5⟩
 ·rw[aaS];rcases hd with hd|⟨rfl,rfl⟩
  ·obtain⟨l,c,a1,a2,a3⟩:=hB j i r s hd hr hsi;split
   ·rename_i e;rw[e]at hl;rw[aac hl]at a1;cases a1;exact⟨_,c,rfl,by simp only[abt,aau];left;simpa [e]using a2,hm _ _ a3⟩
   ·exact⟨l,c,a1,a2,hm _ _ a3⟩
  ·rw[hr0]at hr;cases hr;rw[hs0]at hsi;cases hsi;rw[if_pos rfl,if_pos hl];exact⟨_,c0,rfl,by simp,hc0⟩
theorem UI.congr {rs:List Rule} {dn dn':Nat->Nat->Prop} {V:List (List (Int×Int))} {mm:List (ByteArray×Int)} (h:UI rs dn V mm) (hd: ∀j i r s,rs[j]? =some r->r.2.1[i]? =some s->(dn' j i ↔ dn j i)):UI rs dn' V mm:=by
 refine⟨λ s l hs hVl c to hct=> ?_,λ j i r s hdn hr hsi=>h.2 j i r s ((hd j i r s hr hsi).1 hdn) hr hsi⟩;obtain⟨j,i,r,a1,a2,a3,a4⟩:=h.1 s l hs hVl c to hct;exact⟨j,i,r,(hd j i r s a2 a3).2 a1,a2,a3,a4⟩
def afE (S:Int) (V:List (List (Int×Int))) (b:Nat):Prop:=V.length=S.toNat/\ ∀l∈V,(l.length<=b/\l.Nodup)/\ ∀p∈l,0<=p.1/\p.1<=300000/\dH S p.2
theorem afp {K:Nat->Int×List Int->Option ByteArray} {Cl:Nat->List Int->Option (List Int)} {So:Nat->List (Int×Int)->Option (List (Int×Int))} (hK: ∀s l,I64 s->(∀q∈l,I64 q)->l.length<=1000000->Sp K (s,l) (λ r=>r=LD s l))
 (hCl: ∀l:List Int,l.length<=1000000->Sp Cl l (λ r=>r=l)) (hSo:afO So) (S:Int) (fin:List Int) (rs:List Rule) (hw:Wf S fin rs) (hsy: ∀r∈rs,I64 r.1) (hdn:FY rs):
 Sp (λ n=>iD.P (K n) (Cl n) (So n) n) (S,fin,rs) (λ x=> ∃U,x=rows U/\afP S rs U):=by
 obtain⟨h0,hS,hfl,hrl,hfin,hr⟩:=hw;have hdet:=hdn.det
 have i64q: ∀r∈rs,∀q∈r.2.1,I64 q:=λ r h q hq=>by
  have:=(hr r h).2.1 q hq;exact⟨by have:=this.1;omega,by have:=this.2;omega⟩
 have i64s: ∀r∈rs,∀i:Nat,∀q∈r.2.1.set i (-1),I64 q:=λ r h i q hq=>by
  rcases abE hq with h2|rfl
  ·exact i64q r h q h2
  ·exact⟨by omega,by omega⟩
 show Tt (λ n=>iD.P (K n) (Cl n) (So n) n (S,fin,rs)) _;unfold iD.P;dsimp only;refine Tt.chk (wP h0 (by omega)) ?_
 refine Tt.bind (R:=λ x=> ∃(U:List (List (Int×Int))) (mm:List (ByteArray×Int)),x=rows U/\MOk seq mm/\mm.length<=3*rs.length/\afE S U (3*rs.length)/\UI rs (λ j _=>j<rs.length) U mm)
  (Tt.loop (L:=λ n=>iD.L2 (Cl n) (K n) n) (Lp.count rs.length (λ k t=> ∃(U:List (List (Int×Int))) (mm:List (ByteArray×Int)),t=(some mm,rows U,rs,((rs.length:Nat):Int),(k:Int))/\MOk seq mm/\mm.length<=3*k/\afE S U (3*k)/\UI rs (λ j _=>j<k) U mm) ?_ ?_ ?_)) ?_
 ·rintro k t hk ⟨U,mm,rfl,hm,hml,hU,hui⟩;unfold iD.L2;dsimp only;obtain⟨hto,hfr,hfl3⟩:=hr rs[k] (aag hk);have hrm:=aag hk;have hrk:=aac hk;refine Bd.yes (aT (by omega)) (Bd.nth hk ?_)
  refine Bd.bind (R:=λ t=> ∃(V:List (List (Int×Int))) (m2:List (ByteArray×Int)),t=(some m2,rows V,rs,((rs.length:Nat):Int),(k:Int))/\MOk seq m2/\m2.length<=3*k+3/\afE S V (3*k+3)/\UI rs (λ j _=>j<k+1) V m2)
   (Tt.loop (L:=λ n=>iD.L1 (Cl n) (K n)) (Lp.count rs[k].2.1.length (λ p t=> ∃(V:List (List (Int×Int))) (m2:List (ByteArray×Int)),t=(some m2,rows V,rs[k].1,rs[k].2.1,rs[k].2.2,rs,((rs.length:Nat):Int),(k:Int),rs[k].2.1,((rs[k].2.1.length:Nat):Int),(p:Int))/\MOk seq m2/\m2.length<=3*k+p/\afE S V (3*k+p)/\
    UI rs (λ j i=>j<k\/(j=k/\i<p)) V m2) ?_ ?_ ⟨U,mm,rfl,hm,by omega,hU,hui.congr λ j i r s _ _=>by omega⟩)) ?_
  ·rintro p t hp ⟨V,m2,rfl,g1,g2,g3,g4⟩;unfold iD.L1;dsimp only;have hsp:=hfr _ (aag hp);have hsl:rs[k].2.1[p].toNat<V.length:=by have:=hsp.1;have:=hsp.2;have:=g3.1;omega
   refine Bd.yes (aT (by omega)) (Bd.nth hp (Bd.bind (hCl rs[k].2.1 (by omega)) ?_));rintro _ rfl;refine Bd.chk (rng (by omega) (by omega)) ?_;rw[aat];refine Bd.at hp λ _ _ _=>Bd.bind (hK _ _ (hsy _ hrm) (i64s _ hrm p) (by rw[aa0];omega)) ?_;rintro _ rfl
   have tail: ∀(m3:List (ByteArray×Int)) (c0:Int),MOk seq m3->m3.length<=3*k+(p+1)->og seq (LD rs[k].1 (rs[k].2.1.set p (-1))) m3=some c0->(∀key c,og seq key m2=some c->og seq key m3=some c)->
    Bd (λ n rec=>bif decide (0<=rs[k].2.1[p])&&decide (rs[k].2.1[p]<((List.length (rows V):Nat):Int))then
     (rowAt? (rows V) (Int.toNat rs[k].2.1[p])).bind λ e12=>(rowAt? (rows V) (Int.toNat rs[k].2.1[p])).bind λ e13=>
     bif decide (List.length e13+List.length ([(c0,rs[k].2.2)]:List (Int×Int))<=au)then
     bif decide (0<=rs[k].2.1[p])&&decide (rs[k].2.1[p]<((List.length (List.set (rows V) (Int.toNat rs[k].2.1[p]) none):Nat):Int))then
     rec (some m3,List.set (List.set (rows V) (Int.toNat rs[k].2.1[p]) none) (Int.toNat rs[k].2.1[p]) (some (List.append e13 ([(c0,rs[k].2.2)]:List (Int×Int)))),rs[k].1,rs[k].2.1,rs[k].2.2,rs,((rs.length:Nat):Int),(k:Int),rs[k].2.1,((rs[k].2.1.length:Nat):Int),IntKind.wrap .i64 ((p:Int)+(1:Int)))
     else none else none else none)
    (λ t=> ∃(V:List (List (Int×Int))) (m2:List (ByteArray×Int)),t=(some m2,rows V,rs[k].1,rs[k].2.1,rs[k].2.2,rs,((rs.length:Nat):Int),(k:Int),rs[k].2.1,((rs[k].2.1.length:Nat):Int),((p+1:Nat):Int))/\MOk seq m2/\m2.length<=3*k+(p+1)/\afE S V (3*k+(p+1))/\UI rs (λ j i=>j<k\/(j=k/\i<p+1)) V m2)
    (λ t=> ∃(V:List (List (Int×Int))) (m2:List (ByteArray×Int)),t=(some m2,rows V,rs,((rs.length:Nat):Int),(k:Int))/\MOk seq m2/\m2.length<=3*k+3/\afE S V (3*k+3)/\UI rs (λ j _=>j<k+1) V m2):=by
    intro m3 c0 q1 q2 q3 q4;have hrow:=g3.2 _ (aag hsl);refine Bd.chk (rng hsp.1 (by rw[sU];have:=hsp.1;omega)) (Bd.row hsl (Bd.row hsl (Bd.chk (pY (by simp;omega)) (Bd.chk (rng hsp.1 (by rw[aa0,sU];have:=hsp.1;omega)) (Bd.again ?_)))));rw[EL];refine⟨_,m3,by rw[aA (by omega)],q1,q2,⟨by rw[aa0];exact g3.1,λ l hl=> ?_⟩,(g4.step q4 hsp.1 hrk (aac hp) q3 hsl).congr λ j i r s _ _=>by omega⟩;rcases abE hl with h|rfl
    ·have:=g3.2 l h;exact⟨⟨by omega,this.1.2⟩,this.2⟩
    ·have hnew:((c0,rs[k].2.2):Int×Int)∉V[rs[k].2.1[p].toNat]:=λ hin=>by
      obtain⟨j,i,r,d1,d2,d3,d4,_⟩:=g4.1 rs[k].2.1[p] _ hsp.1 (aac hsl) _ _ hin;have hm:=aak d2;obtain⟨e1,e2⟩:=key_inj (hsy _ hm) (hsy _ hrm) (i64s _ hm i) (i64s _ hrm p) (q1.2 _ _ _ (q4 _ _ d4) q3);obtain⟨e3,e4⟩:=X4 (λ q hq=>(hfr q hq).1) d3 (aac hp) e2;have:=hdn.at d2 hrk e1 e4;omega
     refine⟨⟨by simp;omega,?_⟩,λ x hx=> ?_⟩
     ·rw[abt,acC];exact⟨hrow.1.2,by simp,λ a ha b hb e=>hnew (by rw[aam.1 hb]at e;rw[←e];exact ha)⟩
     simp only[abt,aau,aam]at hx;rcases hx with hx|rfl
     ·exact hrow.2 x hx
     ·have:=q1.1 _ _ q3;exact⟨this.1,by have:=this.2;dsimp only;omega,hto⟩
   refine Bd.eU (λ hc=> ?_) (λ hc=> ?_)
   ·have hnone:og seq (LD rs[k].1 (rs[k].2.1.set p (-1))) m2=none:=by simpa [l9]using hc
    have hml:=Ih (q:=seq) (LD rs[k].1 (rs[k].2.1.set p (-1))) ((m2.length:Nat):Int) m2 hnone;refine Bd.aG (Bd.aG ?_);refine tail (E5 seq (LD rs[k].1 (rs[k].2.1.set p (-1))) ((m2.length:Nat):Int) m2) ((m2.length:Nat):Int) (g1.put Bo hnone) (by rw[hml];omega) (by rw[qQ Bo,if_pos rfl]) λ key c h=> ?_;rw[qQ Bo,if_neg]
    ·exact h
    ·rintro rfl;rw[hnone]at h;cases h
   ·have hsome:(og seq (LD rs[k].1 (rs[k].2.1.set p (-1))) m2).isSome=true:=by simpa [l9]using hc
    obtain⟨w,hw⟩:=aci.1 hsome;refine Bd.aG ?_;have:=tail m2 w g1 (by omega) hw λ _ _ h=>h;have e1:Option.getD (og seq (LD rs[k].1 (rs[k].2.1.set p (-1))) (l9 (some m2))) (0:Int)=w:=by rw[show l9 (some m2)=m2 from rfl,hw];rfl
    dsimp only;rw[e1];exact this
  ·rintro t ⟨V,m2,rfl,g1,g2,g3,g4⟩;unfold iD.L1;dsimp only;refine Bd.no (decide_eq_false (by omega)) (Bd.done ⟨V,m2,rfl,g1,by omega,⟨g3.1,λ l hl=>⟨⟨by have:=(g3.2 l hl).1.1;omega,(g3.2 l hl).1.2⟩,(g3.2 l hl).2⟩⟩,g4.congr λ j i r s hj hi=> ?_⟩);constructor
   ·intro h;rcases aaY (aa8 h)with h|rfl
    ·exact .inl h
    ·rw[hrk]at hj;cases hj;exact .inr ⟨rfl,(aaf.1 hi).1⟩
   ·omega
  ·rintro _ ⟨V,m2,rfl,g1,g2,g3,g4⟩;exact Bd.again ⟨V,m2,by dsimp only;rw[aA (by omega)],g1,by omega,g3,g4⟩
 ·rintro t ⟨U,mm,rfl,hm,hml,hU,hui⟩;unfold iD.L2;dsimp only;exact Bd.no (decide_eq_false (by omega)) (Bd.done ⟨U,mm,rfl,hm,hml,hU,hui⟩)
 ·refine⟨List.replicate S.toNat [],[],by rw[Ii];rfl,⟨λ a v h=>by simp[og]at h,λ a b v h=>by simp[og]at h⟩,by simp,⟨by simp,λ l hl=>by rw[(List.mem_replicate.1 hl).2];simp⟩,⟨λ s l hs hl c to h=> ?_,λ j i r s h=>absurd h (by omega)⟩⟩;rw[abw]at hl;split at hl
  ·cases hl;cases h
  ·cases hl
 rintro _ ⟨U,mm,rfl,hm,hml,⟨hU1,hU2⟩,hA,hB⟩
 have huniq: ∀(i:Nat) (hi:i<U.length),∀p∈U[i],∀p'∈U[i],p.1=p'.1->p=p':=by
  intro i hi p hp p' hp' e;have ei:U[((i:Nat):Int).toNat]? =some U[i]:=by rw[aat];exact aac hi
  obtain⟨j,k,r,_,a1,a2,a3,a4⟩:=hA (i:Int) _ (by omega) ei p.1 p.2 hp;obtain⟨j',k',r',_,b1,b2,b3,b4⟩:=hA (i:Int) _ (by omega) ei p'.1 p'.2 hp';rw[←e]at b3;have m1:=aak a1;have m2:=aak b1;obtain⟨e1,e2⟩:=key_inj (hsy _ m1) (hsy _ m2) (i64s _ m1 k) (i64s _ m2 k') (hm.2 _ _ _ a3 b3);have hf:=(X4 (λ q hq=>((hr r' m2).2.1 q hq).1) a2 b2 e2).2;exact acM e (by rw[a4,b4];exact hdet r m1 r' m2 e1 hf)
 refine Tt.bind (R:=λ x=> ∃V:List (List (Int×Int)),x=rows V/\V.length=S.toNat/\ ∀(s:Nat) (l:List (Int×Int)),V[s]? =some l-> ∃l0,U[s]? =some l0/\l.Perm l0/\l.Pairwise λ a b=>a.1<=b.1)
  (Tt.loop (L:=λ n=>iD.L3 (So n)) (Lp.count S.toNat (λ i t=> ∃V:List (List (Int×Int)),t=(rows V,((S.toNat:Nat):Int),(i:Int))/\V.length=S.toNat/\(∀s,i<=s->V[s]? =U[s]?)/\ ∀(s:Nat) (l:List (Int×Int)),s<i->V[s]? =some l-> ∃l0,U[s]? =some l0/\l.Perm l0/\l.Pairwise λ a b=>a.1<=b.1) ?_ ?_ ?_)) ?_
 ·rintro i t hi ⟨V,rfl,hV1,hV2,hV3⟩;unfold iD.L3;dsimp only;have hil:i<V.length:=by omega
  have hiu:i<U.length:=by omega
  have hvi:V[i]=U[i]:=by
   have:=hV2 i (aaq _);rw[aac hil,aac hiu]at this;exact aao this
  have hui:=hU2 _ (aag hiu);refine Bd.yes (aT (by omega)) (Bd.chk (rng (by omega) (by rw[sU];omega)) ?_);rw[aat];refine Bd.row hil (Bd.row hil ?_);rw[hvi];refine Bd.bind (hSo U[i] (by omega) (λ p hp=>⟨(hui.2 p hp).1,(hui.2 p hp).2.1⟩) λ p hp p' hp' e=>huniq i hiu p hp p' hp' e) ?_;rintro l' ⟨hl1,hl2⟩;refine Bd.again ⟨V.set i l',by rw[EL,aA (by omega)],by simpa using hV1,λ s hs=> ?_,λ s l hsi hl=> ?_⟩
  ·rw[abk (by omega)];exact hV2 s (by omega)
  ·rw[aaS]at hl;split at hl
   ·rename_i e;cases hl;exact⟨U[i],by rw[←e];exact aac hiu,hl1,hl2⟩
   ·exact hV3 s l (by omega) hl
 ·rintro t ⟨V,rfl,hV1,hV2,hV3⟩;unfold iD.L3;dsimp only;exact Bd.no (decide_eq_false (by omega)) (Bd.done ⟨V,rfl,hV1,λ s l hl=>hV3 s l (by have:=(aaf.1 hl).1;omega) hl⟩)
 ·exact⟨U,by rw[sU,hU1];rfl,hU1,λ _ _=>rfl,λ s l h=>absurd h (by omega)⟩
 rintro _ ⟨V,rfl,hV1,hV3⟩;refine Tt.pure ⟨V,rfl,hV1,λ l hl=> ?_,λ f l=>(og seq (LD f l) mm).getD 0,λ r i s r' i' s' ⟨o1,o2⟩ ⟨o3,o4⟩ he=> ?_,λ s l hs hl c to=> ?_⟩
 ·obtain⟨i,hi,rfl⟩:=aay hl;obtain⟨l0,e1,e2,e3⟩:=hV3 i _ (aac hi);have:=hU2 l0 (aak e1);obtain⟨hil,eil⟩:=aaf.1 e1;refine⟨⟨by rw[e2.length_eq];omega,List.Pairwise.imp_of_mem (λ ha hb h=> ?_) (e3.and (e2.nodup_iff.2 this.1.2))⟩,λ p hp=>this.2 p (e2.mem_iff.1 hp)⟩;rename_i a b;rcases abP h.1 with h1|h1
  ·exact h1
  ·exact absurd (huniq i hil a (by rw[eil];exact e2.mem_iff.1 ha) b (by rw[eil];exact e2.mem_iff.1 hb) h1) h.2
 ·obtain⟨j,hj,rfl⟩:=aay o1;obtain⟨j',hj',rfl⟩:=aay o3;obtain⟨_,c,_,_,a3⟩:=hB j i _ s hj (aac hj) o2;obtain⟨_,c',_,_,b3⟩:=hB j' i' _ s' hj' (aac hj') o4;dsimp only at he;rw[a3,b3]at he;have he:c=c':=he;subst he;exact key_inj (hsy _ o1) (hsy _ o3) (i64s _ o1 i) (i64s _ o3 i') (hm.2 _ _ c a3 b3)
 ·obtain⟨l0,e1,e2,e3⟩:=hV3 s.toNat l hl;rw[e2.mem_iff];constructor
  ·intro h;obtain⟨j,i,r,a1,a2,a3,a4,a5⟩:=hA s l0 hs e1 c to h;exact⟨r,i,⟨aak a2,a3⟩,by dsimp only;rw[a4];rfl,a5⟩
  ·rintro⟨r,i,⟨o1,o2⟩,hc,rfl⟩;obtain⟨j,hj,rfl⟩:=aay o1;obtain⟨l2,c',b1,b2,b3⟩:=hB j i _ s hj (aac hj) o2;rw[e1]at b1;cases b1;dsimp only at hc;rw[b3]at hc;have hc:c=c':=hc;rw[hc];exact b2
def Za (c:Int):List Int:=(List.range c.toNat).map λ i:Nat=>(i:Int)
theorem wO {c v:Int}:v∈Za c ↔ 0<=v/\v<c:=by
 unfold Za;rw[aaL];constructor
 ·rintro⟨i,hi,rfl⟩;have:=abW.1 hi;omega
 ·rintro⟨h0,h1⟩;exact⟨v.toNat,abW.2 (by omega),by omega⟩
theorem yu (c:Int):(Za c).Nodup:=by
 unfold Za;rw[List.nodup_iff_pairwise_ne,acD];exact(List.nodup_iff_pairwise_ne.1 List.nodup_range).imp λ h e=>h (by omega)
theorem Eu (c:Int):(Za c).length=c.toNat:=by unfold Za;simp
theorem pig {out cls:List Int} {c m:Int} (hl:out.length=cls.length) (hc0:0<=c) (hm0:0<=m) (ho: ∀v∈out,0<=v/\v<c) (hc: ∀v:Int,0<=v->v<m->v∈cls)
 (hf: ∀(i j:Nat) (u:Int) (a b:Int),out[i]? =some u->out[j]? =some u->cls[i]? =some a->cls[j]? =some b->a=b):
 m<=c/\(c=m-> ∀(i j:Nat) (u v a:Int),out[i]? =some u->out[j]? =some v->cls[i]? =some a->cls[j]? =some a->u=v):=by
 classical
 let f:Int->Int:=λ v=>if h: ∃i:Nat,out[i]? =some v then(cls[h.choose]?).getD 0 else 0
 have hfv: ∀(i:Nat) (u a:Int),out[i]? =some u->cls[i]? =some a->f u=a:=by
  intro i u a h1 h2;have hex: ∃i:Nat,out[i]? =some u:=⟨i,h1⟩;have hs:=hex.choose_spec;have hlt:=(aaf.1 hs).1;have e:f u=(cls[hex.choose]?).getD 0:=dif_pos hex;have hcl:=aac (show hex.choose<cls.length by omega);rw[e,hcl];exact hf _ i u _ a hs h1 hcl h2
 have sur: ∀w∈Za m,∃(i:Nat) (u:Int),out[i]? =some u/\cls[i]? =some w:=by
  intro w hw;obtain⟨h0,h1⟩:=wO.1 hw;obtain⟨i,hi,e⟩:=aay (hc w h0 h1);exact⟨i,out[i],aac (by omega),by rw[aac hi,e]⟩
 refine⟨?_,λ hcm i j u v a h1 h2 h3 h4=> ?_⟩
 ·have:=(yu m).length_le_of_subset (l₂:=(Za c).map f) λ w hw=>by
   obtain⟨i,u,h1,h2⟩:=sur w hw;exact aaL.2 ⟨u,wO.2 (ho u (aak h1)),hfv i u w h1 h2⟩
  rw[aaN,Eu,Eu]at this;omega
 ·apply abp;intro hne;have hv:=ho v (aak h2);have hvm:v∈Za c:=wO.2 hv
  have:=(yu m).length_le_of_subset (l₂:=((Za c).erase v).map f) λ w hw=>by
   obtain⟨k,x,g1,g2⟩:=sur w hw;by_cases e:x=v
   ·subst e;have:w=a:=hf k j x w a g1 h2 g2 h4;refine aaL.2 ⟨u,((yu c).mem_erase_iff).2 ⟨hne,wO.2 (ho u (aak h1))⟩,?_⟩;rw[hfv i u a h1 h3,this]
   ·exact aaL.2 ⟨x,((yu c).mem_erase_iff).2 ⟨e,wO.2 (ho x (aak g1))⟩,hfv k x w g1 g2⟩
  rw[aaN,List.length_erase_of_mem hvm,Eu,Eu]at this;omega
def jA (cl:List Int) (l:List (Int×Int)):List (Int×Int):=l.flatMap λ p=>[((32:Int),p.1),((58:Int),iat cl p.2)]
def aik (cl:List Int) (c:Int) (l:List (Int×Int)):ByteArray:=wo (dig c++enc (jA cl l))
theorem Y1 (cl:List Int) (l:List (Int×Int)):(jA cl l).length=2*l.length:=by
 induction l with
 |nil=>rfl
 |cons p l ih=>
  have e:jA cl (p::l)= [((32:Int),p.1),((58:Int),iat cl p.2)]++jA cl l:=rfl;rw[e,aap,ih,abe,abe,abe,acy];omega
theorem VG (cl:List Int): ∀l l':List (Int×Int),jA cl l=jA cl l'-> ∀p∈l,∃p'∈l',p'.1=p.1/\iat cl p.2=iat cl p'.2
 | [],_,_,p,hp=>by cases hp
 |q::l,[],h,_,_=>by cases h
 |q::l,q'::l',h,p,hp=>by
  have h:((32:Int),q.1)::((58:Int),iat cl q.2)::jA cl l=((32:Int),q'.1)::((58:Int),iat cl q'.2)::jA cl l':=h;simp only[aa5,aas,true_and]at h;obtain⟨e1,e2,e3⟩:=h;rcases aaR.1 hp with rfl|hp
  ·exact⟨q',by simp,e1.symm,e2⟩
  ·obtain⟨p',h1,h2⟩:=VG cl l l' e3 p hp;exact⟨p',by simp[h1],h2⟩
def KH (S:Int) (fin:List Int) (rs:List Rule) (h:Int->Int):Prop:=
 (∀s t,dH S s->dH S t->h s=h t->(s∈fin ↔ t∈fin))/\
 ∀s t,dH S s->dH S t->h s=h t-> ∀r i,Occ rs r i s-> ∃r'∈rs,r'.1=r.1/\r'.2.1=r.2.1.set i t/\h r'.2.2=h r.2.2
theorem ael {S:Int} {fin:List Int} {rs:List Rule} {U:List (List (Int×Int))} {h:Int->Int} (hw:Wf S fin rs) (hU:afP S rs U)
 (hc: ∀s t l l',dH S s->dH S t->h s=h t->U[s.toNat]? =some l->U[t.toNat]? =some l'-> ∀p∈l,∃p'∈l',p'.1=p.1/\h p.2=h p'.2):
 ∀s t,dH S s->dH S t->h s=h t-> ∀r i,Occ rs r i s-> ∃r'∈rs,r'.1=r.1/\r'.2.1=r.2.1.set i t/\h r'.2.2=h r.2.2:=by
 intro s t hs ht hst r i ho;obtain⟨hU1,hU2,κ,hκ,hm⟩:=hU;have lt: ∀s,dH S s->s.toNat<U.length:=λ s hs=>by have:=hs.1;have:=hs.2;omega
 have es:=aac (lt s hs);have et:=aac (lt t ht);obtain⟨p',h1,h2,h3⟩:=hc s t _ _ hs ht hst es et (κ r.1 (r.2.1.set i (-1)),r.2.2) ((hm s _ hs.1 es _ _).2 ⟨r,i,ho,rfl,rfl⟩);obtain⟨r',i',ho',e1,e2⟩:=(hm t _ ht.1 et p'.1 p'.2).1 h1;obtain⟨a1,a2⟩:=hκ r i s r' i' t ho ho' (h2.symm.trans e1);have hil:i<r.2.1.length:=(aaf.1 ho.2).1;have hil':i'<r'.2.1.length:=(aaf.1 ho'.2).1;have hlen:r.2.1.length=r'.2.1.length:=by have:=congrArg List.length a2;simpa using this
 have hii:i=i':=by
  apply abp;intro hne;have:(r.2.1.set i (-1))[i]? =(r'.2.1.set i' (-1))[i]? :=congrArg (λ l:List Int=>l[i]?) a2;rw[aby (by omega),abk (λ e=>hne e.symm)]at this;have hm:=aak this.symm;have:=((hw.2.2.2.2.2 r' ho'.1).2.1 (-1) hm).1;omega
 subst hii;refine⟨r',ho'.1,a1.symm,?_,?_⟩
 ·apply aaP;intro j;rw[aaS];split
  ·rename_i e;subst e;exact ho'.2
  ·rename_i e;have:(r.2.1.set i (-1))[j]? =(r'.2.1.set i (-1))[j]? :=congrArg (λ l:List Int=>l[j]?) a2;rw[abk e,abk e]at this;exact this.symm
 ·rw[←e2];exact h3.symm
def ZN (S:Int) (fin:List Int) (rs:List Rule) (cl:List Int):Prop:=
 (∀h,KH S fin rs h-> ∀s t,dH S s->dH S t->h s=h t->iat cl s=iat cl t)/\ ∀w∈cl,∀v:Int,0<=v->v<=w->v∈cl
theorem Xa {S:Int} {fin:List Int} {rs:List Rule} {U:List (List (Int×Int))} {h:Int->Int} {cl:List Int} (hw:Wf S fin rs) (hU:afP S rs U) (hc:KH S fin rs h) (hcl: ∀s t,dH S s->dH S t->h s=h t->iat cl s=iat cl t)
 {s t:Int} (hs:dH S s) (ht:dH S t) (e:h s=h t) {l l':List (Int×Int)} (es:U[s.toNat]? =some l) (et:U[t.toNat]? =some l'):jA cl l=jA cl l':=by
 obtain⟨hU1,hU2,κ,_,hm⟩:=hU
 have sub: ∀{s t:Int} {l l':List (Int×Int)},dH S s->dH S t->h s=h t->U[s.toNat]? =some l->U[t.toNat]? =some l'-> ∀y∈l.map (λ p=>(p.1,iat cl p.2)),y∈l'.map (λ p=>(p.1,iat cl p.2)):=by
  intro s t l l' hs ht e es et y hy;obtain⟨p,hp,rfl⟩:=aaL.1 hy;obtain⟨r,i,ho,e1,e2⟩:=(hm s l hs.1 es p.1 p.2).1 hp;obtain⟨r',a1,a2,a3,a4⟩:=hc.2 s t hs ht e r i ho;have hi:=(aaf.1 ho.2).1;refine aaL.2 ⟨(p.1,r'.2.2),(hm t l' ht.1 et _ _).2 ⟨r',i,⟨a1,by rw[a3];exact aby hi⟩,by rw[e1,a2,a3,List.set_set],rfl⟩,?_⟩;dsimp only;rw[e2,hcl _ _ (hw.2.2.2.2.2 r' a1).1 (hw.2.2.2.2.2 r ho.1).1 a4]
 have key:l.map (λ p=>(p.1,iat cl p.2))=l'.map (λ p=>(p.1,iat cl p.2)):=
  BO (R:=λ a b:Int×Int=>a.1<b.1) (λ a b h1 h2=>by omega) (acD.2 (hU2 l (aak es)).1.2) (acD.2 (hU2 l' (aak et)).1.2) λ y=>⟨sub hs ht e es et y,sub ht hs e.symm et es y⟩
 have fm: ∀l:List (Int×Int),jA cl l=(l.map λ p=>(p.1,iat cl p.2)).flatMap λ p=>[((32:Int),p.1),((58:Int),p.2)]:=λ l=>by unfold jA;rw[List.flatMap_map]
 rw[fm,fm,key]
theorem Xm {Fi:Nat->Int×List Int×List Rule->Option (List Bool)} {NB:Nat->List Bool->Option (List Int×Int)} {NS:Nat->List ByteArray->Option (List Int×Int)} {Us:Nat->Int×List Int×List Rule->Option (List (Option (List (Int×Int))))} {A:Nat->List Int×Int×Int->Option (List Int)}
 (hFi:ZP Fi) (hNB: ∀x:List Bool,x.length<=1000000->Sp NB x (adK x)) (hNS: ∀x:List ByteArray,x.length<=1000000->Sp NS x (adK x)) (hA:aho A) (S:Int) (fin:List Int) (rs:List Rule) (hw:Wf S fin rs) (hS:S<=300)
 (hUs:Sp Us (S,fin,rs) (λ x=> ∃U,x=rows U/\afP S rs U)):
 Sp (λ n=>dP.P (Fi n) (NB n) (NS n) (Us n) (A n) n) (S,fin,rs) (λ cl=>cl.length=S.toNat/\(∀v∈cl,dH S v)/\KH S fin rs (iat cl)/\ZN S fin rs cl):=by
 have h0:=hw.1;show Tt (λ n=>dP.P (Fi n) (NB n) (NS n) (Us n) (A n) n (S,fin,rs)) _;unfold dP.P;dsimp only;refine Tt.bind (hFi S fin rs h0 hS (by have:=hw.2.2.1;omega) hw.2.2.2.2.1) λ R hR=> ?_;obtain⟨hR1,hR2⟩:=hR;refine Tt.bind (hNB R (by omega)) λ nb hnb=> ?_;obtain⟨b1,b2,b3,b4,b5,b6⟩:=hnb;refine Tt.bind hUs ?_;rintro _ ⟨U,rfl,hU⟩;rw[EK];refine Tt.aG ?_
 have gS: ∀(l:List Int) (s:Int),l.length=S.toNat->dH S s->l[s.toNat]? =some (iat l s):=λ l s hl hs=>by
  have hlt:s.toNat<l.length:=by have:=hs.1;have:=hs.2;omega
  rw[aac hlt,uo hlt]
 refine Tt.bind (R:=λ t=> ∃cl:List Int,t=Sum.inr cl/\cl.length=S.toNat/\(∀v∈cl,dH S v)/\KH S fin rs (iat cl)/\ZN S fin rs cl)
  (Tt.loop (L:=λ n=>dP.L3 (A n) n (NS n)) (Lp.measure (λ t=> ∃(cl:List Int) (m:Int),t=(S,fin,rs,cl,m,U)/\cl.length=S.toNat/\0<=m/\m<=S/\(∀v∈cl,0<=v/\v<m)/\(∀v:Int,0<=v->v<m->v∈cl)/\
   (∀s t,dH S s->dH S t->iat cl s=iat cl t->(s∈fin ↔ t∈fin))/\ ∀h,KH S fin rs h-> ∀s t,dH S s->dH S t->h s=h t->iat cl s=iat cl t) (λ t=>(S-t.2.2.2.2.1).toNat) ?_ ?_)) ?_
 ·rintro _ ⟨cl,m,rfl,hcl,hm0,hmS,hv,hs,hf,hco⟩;unfold dP.L3;dsimp only;refine Bd.chk (wP h0 (by omega)) ?_;rw[abJ];have hUl:=hU.1;have hi64: ∀v∈cl,I64 v:=λ v h=>⟨by have:=(hv v h).1;omega,by have:=(hv v h).2;omega⟩;have hiat: ∀s,dH S s->iat cl s∈cl:=λ s hs=>aak (gS cl s hcl hs)
  refine Bd.bind (R:=λ t=> ∃keys:List ByteArray,t=(S,fin,rs,m,U,keys)/\keys.length=S.toNat/\ ∀(s:Nat) (k:ByteArray),keys[s]? =some k-> ∃c l,cl[s]? =some c/\U[s]? =some l/\k=aik cl c l)
   (Tt.loop (L:=λ n=>dP.L2 (A n) n) (Lp.count S.toNat (λ i t=> ∃keys:List ByteArray,t=(S,fin,rs,cl,m,U,keys,((S.toNat:Nat):Int),(i:Int))/\keys.length=S.toNat/\ ∀(s:Nat) (k:ByteArray),s<i->keys[s]? =some k-> ∃c l,cl[s]? =some c/\U[s]? =some l/\k=aik cl c l) ?_ ?_ ⟨_,rfl,by simp,λ s k h=>absurd h (by omega)⟩)) ?_
  ·rintro i t hi ⟨keys,rfl,hk1,hk2⟩;unfold dP.L2;dsimp only;have hic:i<cl.length:=by omega
   have hiu:i<U.length:=by omega
   have hrow:=hU.2.1 _ (aag hiu);have hrl:=hw.2.2.2.1;refine Bd.yes (aT (by omega)) (Bd.nth hic (Bd.bind (hA [] cl[i] (by simp) (hi64 _ (aag hic))) ?_));rintro _ rfl;refine Bd.chk (rng (by omega) (by omega)) ?_;rw[aat];refine Bd.at hiu λ row _ hrow2=> ?_;rw[aac hiu]at hrow2;cases hrow2
   refine Bd.bind (R:=λ t=>t=(S,fin,rs,cl,m,U,keys,(i:Int),dig cl[i]++enc (jA cl U[i]),((S.toNat:Nat):Int),(i:Int)))
    (Tt.loop (L:=λ n=>dP.L1 (A n)) (Lp.count U[i].length (λ p t=>t=(S,fin,rs,cl,m,U,keys,(i:Int),dig cl[i]++enc (jA cl (U[i].take p)),((S.toNat:Nat):Int),(i:Int),U[i],((U[i].length:Nat):Int),(p:Int))) ?_ ?_ (by simp[jA,enc]))) ?_
   ·rintro p t hp rfl;unfold dP.L1;dsimp only;have hpr:=hrow.2 _ (aag hp)
    have hb:(dig cl[i]++enc (jA cl (U[i].take p))).length<=22+46*p:=by
     have:=NQ cl[i];have:=Yc (jA cl (U[i].take p));rw[Y1,aaB]at this;rw[aap];omega
    have hpl:p<=300000:=by omega
    refine Bd.yes (aT (by omega)) (Bd.nth hp (Bd.chk (pY (by rw[aaT];omega)) (Bd.bind (hA _ U[i][p].1 (by show List.length (_++_)<=_;rw[aap,aaT];omega) ⟨by omega,by omega⟩) ?_)));rintro _ rfl;have hd1:=NQ U[i][p].1;have hcs:=gS cl U[i][p].2 hcl hpr.2.2;have hlt:=(aaf.1 hcs).1
    have en:nth? cl U[i][p].2=some (iat cl U[i][p].2):=by
     rw[AA hpr.2.2.1 (by have:=hpr.2.2.1;omega),uo hlt]
    have hl2:(List.append (dig cl[i]++enc (jA cl (U[i].take p))) [(32:Int)]++dig U[i][p].1).length<=22+46*p+23:=by
     rw[aap];show List.length (_++_)+_<=_;rw[aap,aaT];omega
    refine Bd.chk (pY (by rw[aaT];omega)) ?_;rw[en];refine Bd.aG (Bd.bind (hA _ (iat cl U[i][p].2) (by show List.length (_++_)<=_;rw[aap,aaT];omega) (hi64 _ (hiat _ hpr.2.2))) ?_);rintro _ rfl;refine Bd.again ?_
    have e:jA cl (U[i].take (p+1))=(jA cl (U[i].take p)++[((32:Int),U[i][p].1)])++[((58:Int),iat cl U[i][p].2)]:=by
     unfold jA;rw[aaD,aac hp,List.flatMap_append];simp
    rw[aA (by omega),e,N8,N8];simp
   ·rintro t rfl;unfold dP.L1;dsimp only;rw[aaC];exact Bd.no (decide_eq_false (by omega)) (Bd.done rfl)
   ·rintro _ rfl;dsimp only;refine Bd.chk (rng (by omega) (by omega)) ?_;rw[aat];refine Bd.at (by omega) λ _ _ _=>Bd.again ⟨_,by rw[aA (by omega)],by simpa using hk1,λ s k hs hk=> ?_⟩;rw[aaS]at hk;split at hk
    ·rename_i e;subst e;rw[if_pos (by omega)]at hk;exact⟨cl[i],U[i],aac hic,aac hiu,(aao hk).symm⟩
    ·exact hk2 s k (by omega) hk
  ·rintro t ⟨keys,rfl,hk1,hk2⟩;unfold dP.L2;dsimp only;exact Bd.no (decide_eq_false (by omega)) (Bd.done ⟨keys,rfl,hk1,λ s k hk=>hk2 s k (by have:=(aaf.1 hk).1;omega) hk⟩)
  rintro _ ⟨keys,rfl,hk1,hk2⟩;dsimp only;refine Bd.bind (hNS keys (by omega)) λ nx hnx=> ?_;obtain⟨out,c⟩:=nx;obtain⟨n1,n2,n3,n4,n5,n6⟩:=hnx;dsimp only at n1 n2 n3 n4 n5 n6 ⊢
  have same: ∀(i j:Nat) (u a b:Int) (l l':List (Int×Int)),out[i]? =some u->out[j]? =some u->cl[i]? =some a->cl[j]? =some b->U[i]? =some l->U[j]? =some l'->a=b/\jA cl l=jA cl l':=by
   intro i j u a b l l' h1 h2 h3 h4 h5 h6;have hik:i<keys.length:=by have:=(aaf.1 h1).1;omega
   have hjk:j<keys.length:=by have:=(aaf.1 h2).1;omega
   have hkk:=(n6 i j _ _ u u (aac hik) (aac hjk) h1 h2).1 rfl;obtain⟨c1,l1,d1,d2,d3⟩:=hk2 i _ (aac hik);obtain⟨c2,l2,f1,f2,f3⟩:=hk2 j _ (aac hjk);rw[h3]at d1;cases d1;rw[h4]at f1;cases f1;rw[h5]at d2;cases d2;rw[h6]at f2;cases f2;rw[d3,f3]at hkk
   have bb: ∀l:List (Int×Int),∀p∈jA cl l,0<=p.1/\p.1<256:=λ l p hp=>by
    obtain⟨q,_,hq⟩:=acr.1 hp;simp only[aaR,ab3,or_false]at hq;rcases hq with rfl|rfl
    ·exact⟨show(0:Int)<=32 by decide,show(32:Int)<256 by decide⟩
    ·exact⟨show(0:Int)<=58 by decide,show(58:Int)<256 by decide⟩
   have ss: ∀(i:Nat) (l:List (Int×Int)),U[i]? =some l->ZT (jA cl l):=λ i l hl p hp=>by
    obtain⟨q,hq0,hq⟩:=acr.1 hp;have hq1:=(hU.2.1 l (aak hl)).2 q hq0;simp only[aaR,ab3,or_false]at hq;rcases hq with rfl|rfl
    ·exact⟨λ h=>by rcases h with h|h<;>dsimp only at h<;>omega,by dsimp only;omega,by dsimp only;omega⟩
    ·exact⟨λ h=>by rcases h with h|h<;>dsimp only at h<;>omega,hi64 _ (hiat _ hq1.2.2)⟩
   exact Vo (hi64 _ (aak h3)) (hi64 _ (aak h4)) (ss i l h5) (ss j l' h6) (bytes_inj (Ee (bb l)) (Ee (bb l')) hkk)
  have getU: ∀i:Nat,i<S.toNat-> ∃l,U[i]? =some l:=λ i hi=>⟨_,aac (by omega)⟩
  have hpig:=pig (out:=out) (cls:=cl) (c:=c) (m:=m) (by omega) n2 hm0 n4 hs λ i j u a b h1 h2 h3 h4=>by
   obtain⟨l,e1⟩:=getU i (by have:=(aaf.1 h3).1;omega);obtain⟨l',e2⟩:=getU j (by have:=(aaf.1 h4).1;omega);exact(same i j u a b l l' h1 h2 h3 h4 e1 e2).1
  have hol:out.length=S.toNat:=by omega
  have hsame: ∀s t,dH S s->dH S t->iat out s=iat out t->iat cl s=iat cl t/\ ∀l l',U[s.toNat]? =some l->U[t.toNat]? =some l'->jA cl l=jA cl l':=by
   intro s t hs ht e;have g1:=gS out s hol hs;have g2:=gS out t hol ht;rw[e]at g1;obtain⟨l,e1⟩:=getU s.toNat (by have:=hs.1;have:=hs.2;omega);obtain⟨l',e2⟩:=getU t.toNat (by have:=ht.1;have:=ht.2;omega);refine⟨(same _ _ _ _ _ l l' g1 g2 (gS cl s hcl hs) (gS cl t hcl ht) e1 e2).1,λ l l' e1 e2=>(same _ _ _ _ _ l l' g1 g2 (gS cl s hcl hs) (gS cl t hcl ht) e1 e2).2⟩
  have hfin': ∀s t,dH S s->dH S t->iat out s=iat out t->(s∈fin ↔ t∈fin):=λ s t hs ht e=>hf s t hs ht (hsame s t hs ht e).1
  have hco': ∀h,KH S fin rs h-> ∀s t,dH S s->dH S t->h s=h t->iat out s=iat out t:=λ h hh s t hs ht e=>by
   have hsl:s.toNat<keys.length:=by have:=hs.1;have:=hs.2;omega
   have htl:t.toNat<keys.length:=by have:=ht.1;have:=ht.2;omega
   obtain⟨c1,l1,d1,d2,d3⟩:=hk2 s.toNat _ (aac hsl);obtain⟨c2,l2,f1,f2,f3⟩:=hk2 t.toNat _ (aac htl);rw[gS cl s hcl hs]at d1;cases d1;rw[gS cl t hcl ht]at f1;cases f1;refine(n6 _ _ _ _ _ _ (aac hsl) (aac htl) (gS out s hol hs) (gS out t hol ht)).2 ?_;rw[d3,f3];unfold aik;rw[hco h hh s t hs ht e,Xa hw hU hh (hco h hh) hs ht e d2 f2]
  refine Bd.ite (λ hc=> ?_) (λ hc=> ?_)
  ·have hcm:c=m:=sW hc;refine Bd.aG (Bd.done ⟨out,rfl,hol,λ v hv=>⟨(n4 v hv).1,by have:=(n4 v hv).2;omega⟩,⟨hfin',ael hw hU λ s t l l' hs ht e e1 e2 p hp=> ?_⟩,hco',λ w hw v h0 h1=>n5 v h0 (by have:=(n4 w hw).2;omega)⟩);obtain⟨p',h1,h2,h3⟩:=VG cl l l' ((hsame s t hs ht e).2 l l' e1 e2) p hp;have hp1:=(hU.2.1 l (aak e1)).2 p hp;have hp2:=(hU.2.1 l' (aak e2)).2 p' h1;refine⟨p',h1,h2,?_⟩;have q1:=gS cl p.2 hcl hp1.2.2;rw[h3]at q1;exact hpig.2 hcm _ _ _ _ _ (gS out p.2 hol hp1.2.2) (gS out p'.2 hol hp2.2.2) q1 (gS cl p'.2 hcl hp2.2.2)
  ·have hne:c≠m:=dec_not hc;have:=hpig.1;exact Bd.again ⟨⟨out,c,rfl,hol,n2,by omega,n4,n5,hfin',hco'⟩,by dsimp only;omega⟩
 ·have g: ∀s,dH S s-> ∃x,R[s.toNat]? =some x/\bat R s=x:=λ s hs=>by
   have hlt:s.toNat<R.length:=by have:=hs.1;have:=hs.2;omega
   exact⟨R[s.toNat],aac hlt,by unfold bat;rw[aac hlt];rfl⟩
  refine⟨nb.1,nb.2,rfl,by omega,b2,by omega,b4,b5,λ s t hs ht e=> ?_,λ h hh s t hs ht e=> ?_⟩
  all_goals obtain⟨x,x1,x2⟩:=g s hs
  all_goals obtain⟨y,y1,y2⟩:=g t ht
  all_goals have q1:=gS nb.1 s (by omega) hs
  all_goals have q2:=gS nb.1 t (by omega) ht
  ·have:=(b6 _ _ x y _ _ x1 y1 q1 q2).1 e;rw[←hR2 s hs,←hR2 t ht,x2,y2,this]
  ·refine(b6 _ _ x y _ _ x1 y1 q1 q2).2 ?_;have h1:=hR2 s hs;have h2:=hR2 t ht;rw[x2]at h1;rw[y2]at h2;exact acu.2 (h1.trans ((hh.1 s t hs ht e).trans h2.symm))
 ·rintro _ ⟨cl,rfl,h⟩;exact Tt.pure h
def Img (ν:Int->Int) (rs rs':List Rule):Prop:= ∀r',r'∈rs' ↔ ∃r∈rs,r'=(r.1,r.2.1.map ν,ν r.2.2)
def afJ (ν:Int->Int) (fin fin':List Int):Prop:= ∀q,q∈fin' ↔ ∃s∈fin,q=ν s
theorem KH.list {S:Int} {fin:List Int} {rs:List Rule} {h:Int->Int} (hw:Wf S fin rs) (hc:KH S fin rs h) {r:Rule} (hr:r∈rs) {l:List Int} (hl:l.length=r.2.1.length) (hls: ∀x∈l,dH S x) (hh: ∀(i:Nat) (x y:Int),l[i]? =some x->r.2.1[i]? =some y->h x=h y):
 ∀p,p<=l.length-> ∃r'∈rs,r'.1=r.1/\r'.2.1=l.take p++r.2.1.drop p/\h r'.2.2=h r.2.2
 |0,_=>⟨r,hr,rfl,by simp,rfl⟩
 |p+1,hp=>by
  obtain⟨r1,a1,a2,a3,a4⟩:=KH.list hw hc hr hl hls hh p (by omega);have hpl:p<l.length:=by omega
  have hpr:p<r.2.1.length:=by omega
  have hlt:(l.take p).length=p:=by simp;omega
  have hocc:Occ rs r1 p r.2.1[p]:=⟨a1,by rw[a3,aaz (by omega),hlt,acz,aaI hpr];rfl⟩;obtain⟨r2,c1,c2,c3,c4⟩:=hc.2 r.2.1[p] l[p] ((hw.2.2.2.2.2 r hr).2.1 _ (aag hpr)) (hls _ (aag hpl)) (hh p _ _ (aac hpl) (aac hpr)).symm r1 p hocc;refine⟨r2,c1,c2.trans a2,?_,c4.trans a4⟩;rw[c3,a3,List.set_append_right _ _ (by omega),hlt,acz,aaI hpr,List.set_cons_zero,aaD,aac hpl,aaA];rfl
theorem FQ {S:Int} {fin:List Int} {rs rs':List Rule} {h:Int->Int} (hw:Wf S fin rs) (hc:KH S fin rs h) (hI:Img h rs rs'): ∀t c,Reach rs' t c ↔ ∃s,Reach rs t s/\h s=c:=by
 intro t
 induction t using yA with
 |h a ks ih=>
  intro c;constructor
  ·intro hq;obtain⟨r',hr',h1,h2,h3,h4⟩:=dD.1 hq;obtain⟨r,a1,rfl⟩:=(hI r').1 hr';simp only[aaN]at h3
   have hch: ∀i:Nat,∃q:Int,∀hk:i<ks.length,Reach rs ks[i] q/\ ∀f,r.2.1[i]? =some f->h q=h f:=by
    intro i;by_cases hk:i<ks.length
    ·have hlt:i<r.2.1.length:=by omega
     obtain⟨q,hq,e⟩:=(ih _ (aag hk) (h r.2.1[i])).1 (h4 i _ _ (aac hk) (by rw[aar,aac hlt];rfl));exact⟨q,λ _=>⟨hq,λ f hf=>by rw[aac hlt]at hf;cases hf;exact e⟩⟩
    ·exact⟨0,λ h'=>absurd h' hk⟩
   obtain⟨g,hg⟩: ∃g:Nat->Int,∀i,∀hk:i<ks.length,Reach rs ks[i] (g i)/\ ∀f,r.2.1[i]? =some f->h (g i)=h f:=⟨λ i=>(hch i).choose,λ i=>(hch i).choose_spec⟩
   let l:List Int:=(List.range ks.length).map g
   have hll:l.length=ks.length:=by simp[l]
   have hlg: ∀i,i<ks.length->l[i]? =some (g i):=λ i hi=>by simp only[l,aar,abZ hi,aaK]
   have hst: ∀t q,Reach rs t q->dH S q:=λ t q hq=>by
    cases t with
    |mk a ks=>
     obtain⟨r,c1,_,c3,_⟩:=dD.1 hq;rw[←c3];exact(hw.2.2.2.2.2 r c1).1
   obtain⟨r2,c1,c2,c3,c4⟩:=hc.list hw a1 (l:=l) (by omega) (λ x hx=>by
    obtain⟨i,hi,rfl⟩:=aaL.1 hx;exact hst _ _ (hg i (abW.1 hi)).1) (λ i x y hx hy=>by
    have hi:i<ks.length:=by have:=(aaf.1 hx).1;omega
    rw[hlg i hi]at hx;cases hx;exact(hg i hi).2 y hy) l.length (aaq _)
   rw[aaC,abn (by omega),aaQ]at c3;refine⟨r2.2.2,dD.2 ⟨r2,c1,c2.trans h1,rfl,by rw[c3];exact hll,λ i k f hk hf=> ?_⟩,c4.trans h2⟩;have hi:=(aaf.1 hk).1;rw[c3,hlg i hi]at hf;cases hf;have:=(hg i hi).1
   rwa [(aaf.1 hk).2]at this
  ·rintro⟨s,hs,rfl⟩;obtain⟨r,hr,h1,h2,h3,h4⟩:=dD.1 hs;refine dD.2 ⟨_,(hI _).2 ⟨r,hr,rfl⟩,h1,by rw[h2],by simpa using h3,λ i k f hk hf=> ?_⟩;simp only[aar,aaG]at hf;obtain⟨f0,e,rfl⟩:=hf;exact(ih k (aak hk) _).2 ⟨f0,h4 i k f0 hk e,rfl⟩
theorem OX {S:Int} {fin:List Int} {rs:List Rule} (hw:Wf S fin rs) {t:RT Int} {q:Int} (hq:Reach rs t q):dH S q:=by
 cases t with
 |mk a ks=>
  obtain⟨r,c1,_,c3,_⟩:=dD.1 hq;rw[←c3];exact(hw.2.2.2.2.2 r c1).1
theorem VJ {S:Int} {fin fin':List Int} {rs rs':List Rule} {h:Int->Int} (hw:Wf S fin rs) (hc:KH S fin rs h) (hI:Img h rs rs') (hF:afJ h fin fin') (t:RT Int):Acc rs' fin' t ↔ Acc rs fin t:=by
 constructor
 ·rintro⟨c,h1,h2⟩;obtain⟨s,h3,rfl⟩:=(FQ hw hc hI t c).1 h1;obtain⟨s',h4,h5⟩:=(hF _).1 h2;exact⟨s,h3,(hc.1 s s' (OX hw h3) (hw.2.2.2.2.1 s' h4) h5).2 h4⟩
 ·rintro⟨s,h1,h2⟩;exact⟨h s,(FQ hw hc hI t _).2 ⟨s,h1,rfl⟩,(hF _).2 ⟨s,h2,rfl⟩⟩
end Go.Bk
end
section
namespace Go.Bk
open Go Go.AM
theorem Ox {α:Type} (le:α->α->Bool) (x:α): ∀l:List α,(ins le x l).Perm (x::l)
 | []=>List.Perm.refl _
 |y::l=>by
  unfold ins;cases le x y
  ·rw[cond_false];exact((Ox le x l).cons y).trans (List.Perm.swap x y l)
  ·rw[cond_true]
theorem lU {α:Type} (le:α->α->Bool): ∀l:List α,(Es le l).Perm l
 | []=>List.Perm.refl _
 |x::l=>(Ox le x _).trans ((lU le l).cons x)
theorem MP {α:Type} {le:α->α->Bool} (tot: ∀a b,le a b=true\/le b a=true) (tr: ∀a b c,le a b=true->le b c=true->le a c=true) (x:α): ∀l:List α,l.Pairwise (λ a b=>le a b=true)->(ins le x l).Pairwise (λ a b=>le a b=true)
 | [],_=>List.pairwise_singleton _ _
 |y::l,h=>by
  obtain⟨h1,h2⟩:=acs.1 h;unfold ins;cases hx:le x y
  ·rw[cond_false,acs];refine⟨λ z hz=> ?_,MP tot tr x l h2⟩;rcases aaR.1 ((Ox le x l).mem_iff.1 hz)with rfl|hz
   ·rcases tot z y with h|h
    ·rw[hx]at h;cases h
    ·exact h
   ·exact h1 z hz
  ·rw[cond_true,acs];refine⟨λ z hz=> ?_,h⟩;rcases aaR.1 hz with rfl|hz
   ·exact hx
   ·exact tr _ _ _ hx (h1 z hz)
theorem oz {α:Type} {le:α->α->Bool} (tot: ∀a b,le a b=true\/le b a=true) (tr: ∀a b c,le a b=true->le b c=true->le a c=true): ∀l:List α,(Es le l).Pairwise (λ a b=>le a b=true)
 | []=>List.Pairwise.nil
 |x::l=>MP tot tr x _ (oz tot tr l)
structure Ip {α:Type} (c:α->α->Int):Prop where
 refl: ∀a,c a a=0
 anti: ∀a b,c b a= -c a b
 tr: ∀a b d,c a b<=0->c b d<=0->c a d<=0
 eq: ∀a b,c a b=0->a=b
theorem Ip.lt {α:Type} {c:α->α->Int} (h:Ip c) {a b d:α} (h1:c a b<0) (h2:c b d<=0):c a d<0:=by
 have h3:=h.tr a b d (by omega) h2;rcases abP h3 with h4|h4
 ·exact h4
 ·have:=h.eq a d h4;subst this;have:=h.anti a b;omega
theorem uh:Ip KL:=by
 have key: ∀a b:Int,(a<b/\KL a b= -1)\/(a=b/\KL a b=0)\/(b<a/\KL a b=1):=by
  intro a b;unfold KL;by_cases h1:a<b
  ·simp[h1]
  ·by_cases h2:b<a
   ·simp[h1,h2]
   ·have:a=b:=by omega
    simp[this]
 refine⟨λ a=> ?_,λ a b=> ?_,λ a b d h1 h2=> ?_,λ a b h=> ?_⟩
 ·rcases key a a with h|h|h<;>omega
 ·rcases key a b with h|h|h<;>rcases key b a with h'|h'|h'<;>omega
 ·rcases key a b with h|h|h<;>rcases key b d with h'|h'|h'<;>rcases key a d with h''|h''|h''<;>omega
 ·rcases key a b with h'|h'|h'<;>omega
theorem adY {α β γ:Type} [DecidableEq α] {c1:α->α->Int} {c2:β->β->Int} (h1:Ip c1) (h2:Ip c2) (f:γ->α) (g:γ->β) (hfg: ∀x y,f x=f y->g x=g y->x=y):Ip λ x y:γ=>bif decide (f x=f y)then c2 (g x) (g y)else c1 (f x) (f y):=by
 have t: ∀x y,f x=f y->(bif decide (f x=f y)then c2 (g x) (g y)else c1 (f x) (f y))=c2 (g x) (g y):=λ x y h=>by simp[h]
 have n: ∀x y,f x≠f y->(bif decide (f x=f y)then c2 (g x) (g y)else c1 (f x) (f y))=c1 (f x) (f y):=λ x y h=>by simp[h]
 refine⟨λ a=> ?_,λ a b=> ?_,λ a b d ha hb=> ?_,λ a b h=> ?_⟩
 ·rw[t a a rfl];exact h2.refl _
 ·by_cases e:f a=f b
  ·rw[t a b e,t b a e.symm];exact h2.anti _ _
  ·rw[n a b e,n b a (Ne.symm e)];exact h1.anti _ _
 ·by_cases e1:f a=f b
  ·rw[t a b e1]at ha;by_cases e2:f b=f d
   ·rw[t b d e2]at hb;rw[t a d (e1.trans e2)];exact h2.tr _ _ _ ha hb
   ·rw[n b d e2]at hb;rw[n a d (by rw[e1];exact e2),e1];exact hb
  ·rw[n a b e1]at ha;by_cases e2:f b=f d
   ·rw[n a d (by rw[←e2];exact e1),←e2];exact ha
   ·rw[n b d e2]at hb
    have hl:c1 (f a) (f b)<0:=by
     rcases abP ha with h|h
     ·exact h
     ·exact absurd (h1.eq _ _ h) e1
    have h3:=h1.lt hl hb;have:f a≠f d:=λ e=>by rw[e,h1.refl]at h3;omega
    rw[n a d this];omega
 ·by_cases e:f a=f b
  ·rw[t a b e]at h;exact hfg _ _ e (h2.eq _ _ h)
  ·rw[n a b e]at h;exact absurd (h1.eq _ _ h) e
theorem XY (a b:Int) (l m:List Int):cmpL (a::l) (b::m)=bif decide (a=b)then cmpL l m else KL a b:=rfl
theorem IL: ∀l,cmpL l l=0
 | []=>rfl
 |a::l=>by unfold cmpL;simp[IL l]
theorem P5: ∀l m,cmpL m l= -cmpL l m
 | [],[]=>rfl
 | [],_::_=>rfl
 |_::_,[]=>rfl
 |a::l,b::m=>by
  unfold cmpL;by_cases h:a=b
  ·subst h;simp[P5 l m]
  ·simp[h,Ne.symm h,uh.anti a b]
theorem cmpL_eq: ∀l m,cmpL l m=0->l=m
 | [],[],_=>rfl
 | [],_::_,h=>by simp[cmpL]at h
 |_::_,[],h=>by simp[cmpL]at h
 |a::l,b::m,h=>by
  unfold cmpL at h;by_cases e:a=b
  ·subst e;simp at h;rw[cmpL_eq l m h]
  ·simp[e]at h;exact absurd (uh.eq _ _ h) e
theorem XZ: ∀l m k,cmpL l m<=0->cmpL m k<=0->cmpL l k<=0
 | [],[],_,_,h=>h
 | [],_::_,[],_,h=>by simp[cmpL]at h
 | [],_::_,_::_,_,_=>by simp[cmpL]
 |_::_,[],_,h,_=>by simp[cmpL]at h
 |_::_,_::_,[],_,h=>by simp[cmpL]at h
 |a::l,b::m,c::k,h1,h2=>by
  unfold cmpL at h1 h2 ⊢;by_cases e1:a=b
  ·subst e1;by_cases e2:a=c
   ·subst e2;simp at h1 h2 ⊢;exact XZ l m k h1 h2
   ·simp[e2]at h2 ⊢;exact h2
  ·simp only[e1,decide_false,cond_false]at h1;by_cases e2:b=c
   ·subst e2;simp[e1];exact h1
   ·simp only[e2,decide_false,cond_false]at h2
    have hl:KL a b<0:=by
     rcases abP h1 with h|h
     ·exact h
     ·exact absurd (uh.eq _ _ h) e1
    have h3:=uh.lt hl h2;have:a≠c:=λ e=>by rw[e,uh.refl]at h3;omega
    simp[this];omega
theorem aei:Ip cmpL:=⟨IL,P5,XZ,cmpL_eq⟩
theorem oq:Ip xK:=by
 have h2:Ip λ x y:List Int×Int=>bif decide (x.1=y.1)then KL x.2 y.2 else cmpL x.1 y.1:=adY aei uh Prod.fst Prod.snd λ x y h h'=>acM h h';have h3:=adY uh h2 (Prod.fst:Ru->Int) Prod.snd λ x y h h'=>acM h h'
 have:xK=λ x y:Ru=>bif decide (x.1=y.1)then(bif decide (x.2.1=y.2.1)then KL x.2.2 y.2.2 else cmpL x.2.1 y.2.1)else KL x.1 y.1:=by
  funext x y;unfold xK
  have:decide (cmpL x.2.1 y.2.1=0)=decide (x.2.1=y.2.1):=by
   by_cases h:x.2.1=y.2.1
   ·simp[h,IL]
   ·have:cmpL x.2.1 y.2.1≠0:=λ e=>h (cmpL_eq _ _ e);simp[h,this]
  rw[this]
 rw[this];exact h3
theorem aeE (p q:Ru):decide (xK p q<=0)=true\/decide (xK q p<=0)=true:=by
 have:=oq.anti p q;simp only[decide_eq_true_eq];omega
theorem agy (p q r:Ru) (h1:decide (xK p q<=0)=true) (h2:decide (xK q r<=0)=true):decide (xK p r<=0)=true:=by
 simp only[decide_eq_true_eq]at *;exact oq.tr p q r h1 h2
end Go.Bk
end
noncomputable section
namespace Go.Bk
open Go Go.AM
theorem wrap_small {x:Int} (h0: -4611686018427387904<=x) (h1:x<=4611686018427387904):IntKind.wrap .i64 x=x:=nU _ (by omega) (by omega)
abbrev OrF:Type:=Nat->Int×List Int×Int×Int×List Int×Int->Option Int
def afL (O:OrF):Prop:= ∀x y:Rule,x.2.1.length<=1000->y.2.1.length<=1000->Sp O (x.1,x.2.1,x.2.2,y.1,y.2.1,y.2.2) (λ v=>v=0 ↔ x=y)
def Base (D:List Rule):Prop:=D.length<=100000/\ ∀r∈D,r.2.1.length<=1000
abbrev Same {α:Type} (x y:List α):Prop:= ∀r,r∈x ↔ r∈y
theorem Xk {O:OrF} (hO:afL O) (x y:Rule) (hx:x.2.1.length<=1000) (hy:y.2.1.length<=1000):
 Sp (λ n=>oI.P (O n) n) (x.1,x.2.1,x.2.2,y.1,y.2.1,y.2.2) (λ v=>v=true ↔ x=y):=by
 show Tt (λ n=>oI.P (O n) n (x.1,x.2.1,x.2.2,y.1,y.2.1,y.2.2)) _;unfold oI.P;dsimp only;exact Tt.bind (hO x y hx hy) λ v hv=>Tt.pure (by rw[decide_eq_true_eq,hv])
theorem Gg {α:Type} {d:List α} {k:Nat} {y z:α} (hk:k<d.length):z∈(d.set k y).take (k+1) ↔ z∈d.take k\/z=y:=by
 rw[aaD,List.take_set_of_le (aaq k),aby hk];simp
theorem jH {α:Type} {d:List α} {k:Nat} {y z:α} (hk:d[k]? =some y):z∈d.take (k+1) ↔ z∈d.take k\/z=y:=by
 rw[aaD,hk];simp
abbrev Wk {α:Type} (R:α->α->Prop) (X:List α):Prop:=X.Pairwise λ a b=>a=b\/R a b
structure Strict {α:Type} (R:α->α->Prop):Prop where
 asym: ∀a b,R a b-> ¬R b a
 tr: ∀a b c,R a b->R b c->R a c
theorem GV {α:Type} {R:α->α->Prop}: ∀{X:List α},X.length<2->X.Pairwise R
 | [],_=>List.Pairwise.nil
 | [a],_=>List.pairwise_singleton _ _
 |a::b::l,h=>by simp at h;omega
theorem zo {α:Type} {R:α->α->Prop} (hR:Strict R) {X:List α} (W:Wk R X) {k:Nat} (hk:k<=X.length) (hadj: ∀j,j+1<k->X[j]? ≠X[j+1]?):(X.take k).Pairwise R:=by
 have W:=abx.1 W;refine abx.2 λ i j hi hj hij=> ?_;simp only[aaB]at hi hj;rw[acB,acB];have ad: ∀j (h:j+1<k),X[j]'(by omega)≠X[j+1]'(by omega):=λ j h e=>hadj j h (by rw[aac (show j<X.length by omega),aac (show j+1<X.length by omega),e]);rcases W i j (by omega) (by omega) hij with h|h
 ·have h1:=(W i (i+1) (by omega) (by omega) (by omega)).resolve_left (ad i (by omega));by_cases e:i+1=j
  ·subst e;exact h1
  ·rcases W (i+1) j (by omega) (by omega) (by omega)with h2|h2
   ·rw[←h2];exact h1
   ·exact hR.tr _ _ _ h1 h2
 ·exact h
theorem KC {α:Type} {R:α->α->Prop} (hR:Strict R) {X d:List α} (W:Wk R X) {p k:Nat} {x y:α} (hx:X[p+1]? =some x) (hy:X[p]? =some y) (hne:x≠y) (hsm: ∀z,z∈d.take k->z∈X.take (p+1)) (hk:k<d.length) (hd:(d.take k).Pairwise R):((d.set k x).take (k+1)).Pairwise R:=by
 have e:(d.set k x).take (k+1)=d.take k++[x]:=by
  rw[aaD,List.take_set_of_le (aaq k),aby hk];rfl
 rw[e,List.pairwise_append];refine⟨hd,List.pairwise_singleton _ _,λ z hz b hb=> ?_⟩;rw[aam.1 hb];have W:=abx.1 W;obtain⟨j,hj,ej⟩:=aay (hsm z hz);simp only[aaB]at hj;rw[acB]at ej;obtain⟨hx1,hx2⟩:=aaf.1 hx;obtain⟨hy1,hy2⟩:=aaf.1 hy
 have hyx:R y x:=by
  have:=W p (p+1) hy1 hx1 (by omega);rw[hx2,hy2]at this;exact this.resolve_left λ e=>hne e.symm
 by_cases ejp:j=p
 ·subst ejp;rw[hy2]at ej;rw[←ej];exact hyx
 ·have:=W j p (by omega) hy1 (by omega);rw[ej,hy2]at this;rcases this with h|h
  ·rw[h];exact hyx
  ·exact hR.tr _ _ _ h hyx
theorem Xh {R:Rule->Rule->Prop} (hR:Strict R) {O:OrF} (hO:afL O) {G:Nat->Int×List Int×Int×Int×List Int×Int->Option Bool} (hG: ∀x y:Rule,x.2.1.length<=1000->y.2.1.length<=1000->Sp G (x.1,x.2.1,x.2.2,y.1,y.2.1,y.2.2) (λ v=>v=true ↔ x=y))
 {X:List Rule} (hX:Base X):Sp (λ n=>dA.P (G n) n) X (λ r=>Same r X/\r.length<=X.length/\(Wk R X->r.Pairwise R)):=by
 have hX40:=hX.1;show Tt (λ n=>dA.P (G n) n X) _;unfold dA.P;refine Tt.ite (λ h=>Tt.pure ⟨λ r=>ach,aaq _,λ _=>GV (by have:=sW h;omega)⟩) (λ h2=> ?_);have h2:=dec_not h2;refine Tt.bind (R:=λ q:Sum (List Rule) (List Rule)=> ∃d,(Same d X/\d.length<=X.length/\(Wk R X->d.Pairwise R))/\(q= .inl d\/q= .inr d)) (Tt.loop (Lp.measure (λ s=> ∃k:Nat,1<=k/\k<=X.length/\s=(X,(k:Int))/\ ∀j,j+1<k->X[j]? ≠X[j+1]?) (λ s=>X.length-s.2.toNat) ?_ ⟨1,by omega,by omega,rfl,λ j h=>absurd h (by omega)⟩)) ?_
 rotate_left
 ·rintro _ ⟨d,hd,(rfl|rfl)⟩
  ·exact Tt.pure hd
  ·exact Tt.pure hd
 rintro _ ⟨k0,hk0,hk1,rfl,hadj⟩;unfold dA.L2;dsimp only
 refine Bd.ite (λ h=> ?_) (λ h=>Bd.done ⟨X,⟨λ r=>ach,aaq _,λ W=>by
  have:=zo hR W (k:=k0) hk1 hadj
  rwa [show k0=X.length by have:=dec_not h;omega,aaC]at this⟩,.inl rfl⟩)
 have hkl:k0<X.length:=by have:=sW h;omega
 have e1:(k0:Int)-1=((k0-1:Nat):Int):=by omega
 simp(discharger:=omega) only[wrap_small];rw[e1];refine Bd.chk (rng (by omega) (by omega)) (Bd.at (by omega) λ x hxm hx=>Bd.chk (rng (by omega) (by omega)) (Bd.at (by omega) λ y hym hy=>Bd.bind (hG x y (hX.2 x hxm) (hX.2 y hym)) λ v hv=>Bd.ite (λ hv1=> ?_) (λ hnv=> ?_)))
 rotate_left
 ·rw[show(k0:Int)+1=((k0+1:Nat):Int) by omega];refine Bd.again ⟨⟨k0+1,by omega,by omega,rfl,λ j hj e=> ?_⟩,by dsimp only;omega⟩;by_cases ej:j+1=k0
  ·have hx':X[j+1]? =some x:=by rw[ej];exact hx
   have hy':X[j]? =some y:=by rw[show j=k0-1 by omega];exact hy
   rw[hx',hy']at e;have e:x=y:=(aao e).symm;rw[hv.2 e]at hnv;cases hnv
  ·exact hadj j (by omega) e
 have hxy:=hv.1 hv1;subst hxy
 have hall:(decide (0<=(k0:Int))&&decide ((k0:Int)<=((List.length X:Nat):Int))&&decide (((List.length X:Nat):Int)<=((List.length X:Nat):Int)))=true:=by
  simp only[aad,decide_eq_true_eq];omega
 refine Bd.chk hall ?_;refine Bd.bind (R:=λ t=> ∃(d:List Rule) (k:Nat),d.length=X.length/\k<=X.length/\Same (d.take k) X/\(Wk R X->(d.take k).Pairwise R)/\t=(d,(k:Int))) (Tt.loop (Lp.count (X.length-k0-1) (λ i s=> ∃(d:List Rule) (k:Nat),d.length=X.length/\1<=k/\k<=k0+i/\Same (d.take k) (X.take (k0+i+1))/\(Wk R X->(d.take k).Pairwise R)/\(∀j,k0+i<=j->d[j]? =X[j]?)/\s=(d,(k:Int),(k0:Int),(X.length:Int),((i+1:Nat):Int))) ?_ ?_ ?_)) ?_
 ·rintro i _ hi ⟨d,k,hdl,hk,hki,hsm,hpw,hun,rfl⟩;unfold dA.L1;dsimp only;simp only[aat];simp(discharger:=omega) only[wrap_small];rw[show((i+1:Nat):Int)-1=((i:Nat):Int) by omega];simp only[aat];refine Bd.yes (aT (by simp only[aa7,aaB];omega)) (Bd.chk (rng (by omega) (by omega)) (Bd.at (by omega) λ x hxm hx=>Bd.chk (rng (by omega) (by omega)) (Bd.at (by omega) λ y hym hy=> ?_)));have hx':X[k0+(i+1)]? =some x:=by rw[←hun _ (by omega)];exact hx
  have hy':X[k0+i]? =some y:=by rw[←hun _ (by omega)];exact hy
  have hxX:x∈X:=aak hx';have hyX:y∈X:=aak hy';refine Bd.bind (hG x y (hX.2 x hxX) (hX.2 y hyX)) λ v hv=> ?_;refine Bd.bind (R:=λ t=> ∃(d:List Rule) (k:Nat),d.length=X.length/\1<=k/\k<=k0+(i+1)/\Same (d.take k) (X.take (k0+(i+1)+1))/\(Wk R X->(d.take k).Pairwise R)/\(∀j,k0+(i+1)<=j->d[j]? =X[j]?)/\t=(d,(k:Int),(k0:Int),(X.length:Int),((i+1:Nat):Int))) (Tt.ite (λ hne=> ?_) (λ heq=> ?_)) ?_
  ·refine Tt.chk (rng (by omega) (by omega)) (Tt.atB (by omega) λ x2 _ hx2=>Tt.chk (rng (by omega) (by omega)) (Tt.atB (by omega) λ _ _ _=> ?_));have:x2=x:=by rw[hx]at hx2;exact(aao hx2).symm
   subst this;rw[show(k:Int)+1=((k+1:Nat):Int) by omega];refine Tt.pure ⟨d.set k x2,k+1,by simp only[aa0];exact hdl,by omega,by omega,λ z=> ?_,λ W=>KC hR W hx' hy' ?_ (λ z hz=>(hsm z).1 hz) (by omega) (hpw W),λ j hj=> ?_,rfl⟩
   ·rw[Gg (by omega),jH hx',show k0+(i+1)=k0+i+1 by omega,hsm z]
   ·intro e;rw[hv.2 e]at hne;cases hne
   ·rw[abk (by omega)];exact hun j (by omega)
  ·have hve:v=true:=by cases v<;>simp_all
   have hxy:=hv.1 hve;subst hxy;refine Tt.pure ⟨d,k,hdl,hk,by omega,λ z=> ?_,hpw,λ j hj=>hun j (by omega),rfl⟩;rw[jH hx',show k0+(i+1)=k0+i+1 by omega,hsm z];constructor
   ·exact .inl
   ·rintro(h|rfl)
    ·exact h
    ·rw[jH hy'];exact .inr rfl
  ·rintro _ ⟨d,k,hdl,hk,hki,hsm,hpw,hun,rfl⟩;dsimp only;simp only[aat];rw[aA (by omega)];exact Bd.again ⟨d,k,hdl,hk,by omega,hsm,hpw,hun,rfl⟩
 ·rintro _ ⟨d,k,hdl,hk,hki,hsm,hpw,hun,rfl⟩;unfold dA.L1;dsimp only;simp only[aat];refine Bd.no (by simp only[decide_eq_false_iff_not,aa7,aaB];omega) (Bd.done ⟨d,k,hdl,by omega,?_,hpw,rfl⟩);rw[show k0+(X.length-k0-1)+1=X.length by omega,aaC]at hsm;exact hsm
 ·refine⟨X,k0,rfl,hk0,by omega,λ z=> ?_,λ W=>zo hR W (by omega) hadj,λ j _=>rfl,by simp only[aat];rfl⟩;rw[jH (k:=k0+0) hx];constructor
  ·exact .inl
  ·rintro(h|rfl)
   ·exact h
   ·have hy2:X[k0-1]? =some z:=hy;have:=jH (z:=z) hy2;rw[show k0-1+1=k0 by omega]at this;exact this.2 (.inr rfl)
 ·rintro _ ⟨d,k,hdl,hk,hsm,hpw,rfl⟩;dsimp only;simp only[aat]
  have hlen:List.length (List.append (List.append (List.take k d) (List.replicate (List.length d-k) (((0:Int),([]:List Int),(0:Int)):Int×List Int×Int))) (List.drop (List.length d) d))=X.length:=by
   simp only[abt,aap,aaB,abJ,aa7];omega
  refine Bd.chk (by simp only[aad,decide_eq_true_eq];omega) (Bd.chk (by simp only[aad,decide_eq_true_eq];rw[hlen];omega) (Bd.done ⟨_,⟨?_,?_,?_⟩,.inr rfl⟩))
  rotate_left 1
  ·refine aaJ (List.Sublist.length_le (List.drop_sublist _ _)) ?_;rw[aaB,hlen];omega
  all_goals have e:List.drop (Int.toNat 0) (List.take k (List.append (List.append (List.take k d) (List.replicate (List.length d-k) (((0:Int),([]:List Int),(0:Int)):Int×List Int×Int))) (List.drop (List.length d) d)))=List.take k d:=by(simp only[abt,aaA];rw[abD (by simp only[aaB];omega),abS,Nat.min_self];rfl)
  ·rw[e];exact hpw
  ·rw[e];exact hsm
theorem U6 {R:Int->Int->Prop} (hR:Strict R) {X:List Int} (hX:X.length<=1000000):Sp bP.P X (λ r=>Same r X/\r.length<=X.length/\(Wk R X->r.Pairwise R)):=by
 have hX40:=hX;show Tt (λ n=>bP.P n X) _;unfold bP.P;refine Tt.ite (λ h=>Tt.pure ⟨λ r=>ach,aaq _,λ _=>GV (by have:=sW h;omega)⟩) (λ h2=> ?_);have h2:=dec_not h2;refine Tt.bind (R:=λ q:Sum (List Int) (List Int)=> ∃d,(Same d X/\d.length<=X.length/\(Wk R X->d.Pairwise R))/\(q= .inl d\/q= .inr d)) (Tt.loop (Lp.measure (λ s=> ∃k:Nat,1<=k/\k<=X.length/\s=(X,(k:Int))/\ ∀j,j+1<k->X[j]? ≠X[j+1]?) (λ s=>X.length-s.2.toNat) ?_ ⟨1,by omega,by omega,rfl,λ j h=>absurd h (by omega)⟩)) ?_
 rotate_left
 ·rintro _ ⟨d,hd,(rfl|rfl)⟩
  ·exact Tt.pure hd
  ·exact Tt.pure hd
 rintro _ ⟨k0,hk0,hk1,rfl,hadj⟩;unfold bP.L2;dsimp only
 refine Bd.ite (λ h=> ?_) (λ h=>Bd.done ⟨X,⟨λ r=>ach,aaq _,λ W=>by
  have:=zo hR W (k:=k0) hk1 hadj
  rwa [show k0=X.length by have:=dec_not h;omega,aaC]at this⟩,.inl rfl⟩)
 have hkl:k0<X.length:=by have:=sW h;omega
 have e1:(k0:Int)-1=((k0-1:Nat):Int):=by omega
 simp(discharger:=omega) only[wrap_small];rw[e1];refine Bd.chk (rng (by omega) (by omega)) (Bd.at (by omega) λ x hxm hx=>Bd.chk (rng (by omega) (by omega)) (Bd.at (by omega) λ y hym hy=>Bd.ite (λ hv1=> ?_) (λ hnv=> ?_)))
 rotate_left
 ·rw[show(k0:Int)+1=((k0+1:Nat):Int) by omega];refine Bd.again ⟨⟨k0+1,by omega,by omega,rfl,λ j hj e=> ?_⟩,by dsimp only;omega⟩;by_cases ej:j+1=k0
  ·have hx':X[j+1]? =some x:=by rw[ej];exact hx
   have hy':X[j]? =some y:=by rw[show j=k0-1 by omega];exact hy
   rw[hx',hy']at e;have e:x=y:=(aao e).symm;exact absurd e (dec_not hnv)
  ·exact hadj j (by omega) e
 have hxy:=sW hv1;subst hxy
 have hall:(decide (0<=(k0:Int))&&decide ((k0:Int)<=((List.length X:Nat):Int))&&decide (((List.length X:Nat):Int)<=((List.length X:Nat):Int)))=true:=by
  simp only[aad,decide_eq_true_eq];omega
 refine Bd.chk hall ?_;refine Bd.bind (R:=λ t=> ∃(d:List Int) (k:Nat),d.length=X.length/\k<=X.length/\Same (d.take k) X/\(Wk R X->(d.take k).Pairwise R)/\t=(d,(k:Int))) (Tt.loop (Lp.count (X.length-k0-1) (λ i s=> ∃(d:List Int) (k:Nat),d.length=X.length/\1<=k/\k<=k0+i/\Same (d.take k) (X.take (k0+i+1))/\(Wk R X->(d.take k).Pairwise R)/\(∀j,k0+i<=j->d[j]? =X[j]?)/\s=(d,(k:Int),(k0:Int),(X.length:Int),((i+1:Nat):Int))) ?_ ?_ ?_)) ?_
 ·rintro i _ hi ⟨d,k,hdl,hk,hki,hsm,hpw,hun,rfl⟩;unfold bP.L1;dsimp only;simp only[aat];simp(discharger:=omega) only[wrap_small];rw[show((i+1:Nat):Int)-1=((i:Nat):Int) by omega];simp only[aat];refine Bd.yes (aT (by simp only[aa7,aaB];omega)) (Bd.chk (rng (by omega) (by omega)) (Bd.at (by omega) λ x hxm hx=>Bd.chk (rng (by omega) (by omega)) (Bd.at (by omega) λ y hym hy=> ?_)));have hx':X[k0+(i+1)]? =some x:=by rw[←hun _ (by omega)];exact hx
  have hy':X[k0+i]? =some y:=by rw[←hun _ (by omega)];exact hy
  have hxX:x∈X:=aak hx';have hyX:y∈X:=aak hy';refine Bd.bind (R:=λ t=> ∃(d:List Int) (k:Nat),d.length=X.length/\1<=k/\k<=k0+(i+1)/\Same (d.take k) (X.take (k0+(i+1)+1))/\(Wk R X->(d.take k).Pairwise R)/\(∀j,k0+(i+1)<=j->d[j]? =X[j]?)/\t=(d,(k:Int),(k0:Int),(X.length:Int),((i+1:Nat):Int))) (Tt.ite (λ hne=> ?_) (λ heq=> ?_)) ?_
  ·refine Tt.chk (rng (by omega) (by omega)) (Tt.atB (by omega) λ x2 _ hx2=>Tt.chk (rng (by omega) (by omega)) (Tt.atB (by omega) λ _ _ _=> ?_));have:x2=x:=by rw[hx]at hx2;exact(aao hx2).symm
   subst this;rw[show(k:Int)+1=((k+1:Nat):Int) by omega];refine Tt.pure ⟨d.set k x2,k+1,by simp only[aa0];exact hdl,by omega,by omega,λ z=> ?_,λ W=>KC hR W hx' hy' ?_ (λ z hz=>(hsm z).1 hz) (by omega) (hpw W),λ j hj=> ?_,rfl⟩
   ·rw[Gg (by omega),jH hx',show k0+(i+1)=k0+i+1 by omega,hsm z]
   ·intro e;rw[e]at hne;simp at hne
   ·rw[abk (by omega)];exact hun j (by omega)
  ·have hxy:x=y:=by simpa using heq
   subst hxy;refine Tt.pure ⟨d,k,hdl,hk,by omega,λ z=> ?_,hpw,λ j hj=>hun j (by omega),rfl⟩;rw[jH hx',show k0+(i+1)=k0+i+1 by omega,hsm z];constructor
   ·exact .inl
   ·rintro(h|rfl)
    ·exact h
    ·rw[jH hy'];exact .inr rfl
  ·rintro _ ⟨d,k,hdl,hk,hki,hsm,hpw,hun,rfl⟩;dsimp only;simp only[aat];rw[aA (by omega)];exact Bd.again ⟨d,k,hdl,hk,by omega,hsm,hpw,hun,rfl⟩
 ·rintro _ ⟨d,k,hdl,hk,hki,hsm,hpw,hun,rfl⟩;unfold bP.L1;dsimp only;simp only[aat];refine Bd.no (by simp only[decide_eq_false_iff_not,aa7,aaB];omega) (Bd.done ⟨d,k,hdl,by omega,?_,hpw,rfl⟩);rw[show k0+(X.length-k0-1)+1=X.length by omega,aaC]at hsm;exact hsm
 ·refine⟨X,k0,rfl,hk0,by omega,λ z=> ?_,λ W=>zo hR W (by omega) hadj,λ j _=>rfl,by simp only[aat];rfl⟩;rw[jH (k:=k0+0) hx];constructor
  ·exact .inl
  ·rintro(h|rfl)
   ·exact h
   ·have hy2:X[k0-1]? =some z:=hy;have:=jH (z:=z) hy2;rw[show k0-1+1=k0 by omega]at this;exact this.2 (.inr rfl)
 ·rintro _ ⟨d,k,hdl,hk,hsm,hpw,rfl⟩;dsimp only;simp only[aat]
  have hlen:List.length (List.append (List.append (List.take k d) (List.replicate (List.length d-k) ((0:Int):Int))) (List.drop (List.length d) d))=X.length:=by
   simp only[abt,aap,aaB,abJ,aa7];omega
  refine Bd.chk (by simp only[aad,decide_eq_true_eq];omega) (Bd.chk (by simp only[aad,decide_eq_true_eq];rw[hlen];omega) (Bd.done ⟨_,⟨?_,?_,?_⟩,.inr rfl⟩))
  rotate_left 1
  ·refine aaJ (List.Sublist.length_le (List.drop_sublist _ _)) ?_;rw[aaB,hlen];omega
  all_goals have e:List.drop (Int.toNat 0) (List.take k (List.append (List.append (List.take k d) (List.replicate (List.length d-k) ((0:Int):Int))) (List.drop (List.length d) d)))=List.take k d:=by(simp only[abt,aaA];rw[abD (by simp only[aaB];omega),abS,Nat.min_self];rfl)
  ·rw[e];exact hpw
  ·rw[e];exact hsm
theorem VW (z:Int):Sp (λ n=>cmp_isNaN_int.P n) z (λ r=>r=false):=⟨_,rfl,.all λ n=>by simp only[cmp_isNaN_int.P,decide_true,aa9]⟩
theorem adZ {N:Nat->Int->Option Bool} (hN: ∀z,Sp N z (λ r=>r=false)) (x y:Int):Sp (λ n=>cmp_Compare_int.P (N n) n) (x,y) (λ v=>v=KL x y):=by
 show Tt (λ n=>cmp_Compare_int.P (N n) n (x,y)) _;unfold cmp_Compare_int.P KL;refine Tt.bind (hN _) ?_;rintro _ rfl;refine Tt.bind (hN _) ?_;rintro _ rfl;refine Tt.no rfl (Tt.no rfl (Tt.ite (λ h=> ?_) (λ h=>Tt.ite (λ h2=> ?_) (λ h2=> ?_))))
 ·have h:decide (x<y)=true:=h;exact Tt.pure (by rw[h];rfl)
 ·have h:decide (x<y)=false:=h;have h2:decide (y<x)=true:=h2;exact Tt.pure (by rw[h,h2];rfl)
 ·have h:decide (x<y)=false:=h;have h2:decide (y<x)=false:=h2;exact Tt.pure (by rw[h,h2];rfl)
theorem Kw {C:Nat->Int×Int->Option Int} (hC: ∀x y,Sp C (x,y) (λ v=>v=KL x y)) (xs ys:List Int) (hx:xs.length<=1000):
 Sp (λ n=>cZ.P (C n) n) (xs,ys) (λ v=>v=cmpL xs ys):=by
 show Tt (λ n=>cZ.P (C n) n (xs,ys)) _;unfold cZ.P;dsimp only;refine Tt.bind (R:=λ q:Sum (List Int×List Int) Int=>(q= .inl (xs,ys)/\cmpL [] (ys.drop xs.length)=cmpL xs ys)\/q= .inr (cmpL xs ys)) (Tt.loop (Lp.count xs.length (λ i s=>s=(xs,ys,xs,(xs.length:Int),(i:Int))/\cmpL (xs.drop i) (ys.drop i)=cmpL xs ys) ?_ ?_ ⟨rfl,rfl⟩)) ?_
 ·rintro i _ hi ⟨rfl,hk⟩;unfold cZ.L1;dsimp only;rw[aaI hi]at hk;refine Bd.yes (aT (by omega)) (Bd.nth hi ?_);refine Bd.ite (λ h=> ?_) (λ h=> ?_)
  ·have h:=sW h;rw[List.drop_eq_nil_of_le (as:=ys) (by omega)]at hk;exact Bd.done (.inr (by rw[←hk];rfl))
  ·have h:=dec_not h;have hiy:i<ys.length:=by omega
   rw[aaI hiy,XY]at hk;refine Bd.nth hiy (Bd.bind (hC _ _) λ v hv=>Bd.ite (λ h=> ?_) (λ h=> ?_))
   ·have hne:v≠0:=by simpa using h
    have:xs[i]≠ys[i]:=λ e=>hne (by rw[hv,e,uh.refl]);exact Bd.done (.inr (by rw[←hk,hv];simp[this]))
   ·have he:v=0:=by simpa using h
    rw[hv]at he;rw[aA (by omega)];refine Bd.again ⟨rfl,?_⟩;rw[←hk];simp[uh.eq _ _ he]
 ·rintro _ ⟨rfl,hk⟩;unfold cZ.L1;dsimp only;rw[acF]at hk;exact Bd.no (by simp only[decide_eq_false_iff_not];omega) (Bd.done (.inl ⟨rfl,hk⟩))
 ·rintro _ (⟨rfl,hk⟩|rfl)
  ·dsimp only;refine Tt.ite (λ h=> ?_) (λ h=> ?_)
   ·have h:=sW h;rw[aaI (by omega)]at hk;exact Tt.pure (by rw[←hk];rfl)
   ·have h:=dec_not h;rw[List.drop_eq_nil_of_le (as:=ys) (by omega)]at hk;exact Tt.pure (by rw[←hk];rfl)
  ·exact Tt.pure rfl
def orz:List Int->Int
 | []=>0
 |a::l=>bif decide (a=0)then orz l else a
theorem ad1 (xs:List Int) (hx:xs.length<=1000):Sp (λ n=>lK.P n) xs (λ v=>v=orz xs):=by
 show Tt (λ n=>lK.P n xs) _;unfold lK.P;refine Tt.bind (R:=λ q:Sum Int Int=>q= .inl (orz xs)\/q= .inr (orz xs)) (Tt.loop (Lp.count xs.length (λ i s=>s=((0:Int),xs,(xs.length:Int),(i:Int))/\orz (xs.drop i)=orz xs) ?_ ?_ ⟨rfl,rfl⟩)) ?_
 ·rintro i _ hi ⟨rfl,hk⟩;unfold lK.L1;dsimp only;rw[aaI hi,show∀a l,orz (a::l)=bif decide (a=0)then orz l else a from λ _ _=>rfl]at hk;refine Bd.yes (aT (by omega)) (Bd.nth hi (Bd.ite (λ h=> ?_) (λ h=> ?_)))
  ·have hne:xs[i]≠0:=by simpa using h
   exact Bd.done (.inr (by rw[←hk];simp[hne]))
  ·have he:xs[i]=0:=by simpa using h
   rw[aA (by omega)];exact Bd.again ⟨rfl,by rw[←hk];simp[he]⟩
 ·rintro _ ⟨rfl,hk⟩;unfold lK.L1;dsimp only;rw[acF]at hk;exact Bd.no (by simp only[decide_eq_false_iff_not];omega) (Bd.done (.inl (by rw[←hk];rfl)))
 ·rintro _ (rfl|rfl)<;>exact Tt.pure rfl
theorem Rk {C:Nat->Int×Int->Option Int} {OR:Nat->List Int->Option Int} {S:Nat->List Int×List Int->Option Int}
 (hC: ∀x y,Sp C (x,y) (λ v=>v=KL x y)) (hOr: ∀xs:List Int,xs.length<=1000->Sp OR xs (λ v=>v=orz xs))
 (hS: ∀xs ys:List Int,xs.length<=1000->Sp S (xs,ys) (λ v=>v=cmpL xs ys)) (x y:Rule) (hx:x.2.1.length<=1000):Sp (λ n=>rU.P (C n) (OR n) (S n) n) (x.1,x.2.1,x.2.2,y.1,y.2.1,y.2.2) (λ v=>v=xK x y):=by
 obtain⟨x1,x2,x3⟩:=x;obtain⟨y1,y2,y3⟩:=y;show Tt (λ n=>rU.P (C n) (OR n) (S n) n (x1,x2,x3,y1,y2,y3)) _;unfold rU.P;dsimp only;refine Tt.bind (hC _ _) λ v1 h1=>Tt.bind (hS _ _ hx) λ v2 h2=>Tt.bind (hC _ _) λ v3 h3=>Tt.bind (hOr _ (by simp)) λ v hv=>Tt.pure ?_;subst h1 h2 h3;rw[hv];unfold xK;dsimp only;by_cases e1:x1=y1
 ·subst e1;simp only[orz,uh.refl,decide_true,cond_true];by_cases e2:cmpL x2 y2=0
  ·simp only[e2,decide_true,cond_true];by_cases e3:KL x3 y3=0
   ·simp[e3]
   ·simp[e3]
  ·simp[e2]
 ·have:KL x1 y1≠0:=λ e=>e1 (uh.eq _ _ e);simp[orz,this,e1]
theorem YX {O:OrF} (h: ∀x y:Rule,x.2.1.length<=1000->Sp O (x.1,x.2.1,x.2.2,y.1,y.2.1,y.2.2) (λ v=>v=xK x y)):afL O:=λ x y hx _=>
 (h x y hx).mono λ v hv=>⟨λ e=>oq.eq _ _ (by rw[←hv,e]),λ e=>by rw[hv,e,oq.refl]⟩
theorem Zw:Strict λ a b:Int=>a<b:=⟨λ a b h1 h2=>by omega,λ a b c h1 h2=>by omega⟩
theorem KA:Strict λ a b:Rule=>xK a b<0:=⟨λ a b h1 h2=>by have:=oq.anti a b;omega,λ a b c h1 h2=>oq.lt h1 (by omega)⟩
theorem Zn {SF Cf:Nat->List Rule->Option (List Rule)} (hS:ad9 SF) (hC: ∀X,Base X->Sp Cf X (λ r=>Same r X/\r.length<=X.length/\(Wk (λ a b=>xK a b<0) X->r.Pairwise λ a b=>xK a b<0))):ZU (λ n=>rV.P (Cf n) (SF n) n):=λ x hx hr=>by
 show Tt (λ n=>rV.P (Cf n) (SF n) n x) _;unfold rV.P;refine Tt.bind (hS x hx hr) λ y hy=>Tt.bind (hC y ⟨by omega,λ r h=>by have:=hr r ((hy.2.1 r).1 h);omega⟩) λ z hz=>Tt.pure ⟨by omega,λ r=>(hz.1 r).trans (hy.2.1 r),hz.2.2 (hy.2.2.imp λ{a b} h=> ?_)⟩;rcases abP h with h|h
 ·exact .inr h
 ·exact .inl (oq.eq a b h)
abbrev SortI (F:Nat->List Int->Option (List Int)):Prop:= ∀x:List Int,x.length<=1000000->Sp F x (λ r=>r.length=x.length/\(∀y,y∈r ↔ y∈x)/\r.Pairwise λ a b=>a<=b)
abbrev afG (F:Nat->List Int->Option (List Int)):Prop:= ∀x:List Int,x.length<=1000000->Sp F x (λ r=>Same r x/\r.length<=x.length/\(Wk (λ a b:Int=>a<b) x->r.Pairwise λ a b=>a<b))
theorem Uy {l:List Int} {s S:Int} (hl:l.length=S.toNat) (h:dH S s):nth? l s=some (iat l s):=by
 have hlt:s.toNat<l.length:=by have:=h.1;have:=h.2;omega
 rw[AA h.1 (by have:=h.1;have:=h.2;omega),uo hlt]
theorem Zq {So:Nat->List Rule->Option (List Rule)} {Co SI:Nat->List Int->Option (List Int)} (hSo:ZU So) (hCo:afG Co) (hSI:SortI SI) (S:Int) (fin:List Int) (rs:List Rule) (hw:Wf S fin rs) (m:Int) (to:List Int) (hto:to.length=S.toNat):
 Sp (λ n=>eF.P (So n) (Co n) (SI n) n) (S,fin,rs,m,to) (λ a=>a.1=m/\afJ (iat to) fin a.2.1/\Img (iat to) rs a.2.2/\a.2.1.length<=fin.length/\a.2.2.length<=rs.length/\(a.2.1.Pairwise λ a b=>a<b)/\a.2.2.Pairwise λ a b=>xK a b<0):=by
 obtain⟨h0,hS,hfl,hrl,hfin,hr⟩:=hw;show Tt (λ n=>eF.P (So n) (Co n) (SI n) n (S,fin,rs,m,to)) _;unfold eF.P;dsimp only
 refine Tt.bind (R:=λ t=>t=(to,S,fin,rs,(0:Int),([]:List Int),([]:List Rule),m,fin.map (iat to),([]:List Rule)))
  (Tt.loop (L:=λ n=>eF.L1) (Lp.count fin.length (λ i t=>t=(to,S,fin,rs,(0:Int),([]:List Int),([]:List Rule),m,(fin.take i).map (iat to),([]:List Rule),fin,((fin.length:Nat):Int),(i:Int))) ?_ ?_ rfl)) ?_
 ·rintro i t hi rfl;unfold eF.L1;dsimp only;refine Bd.yes (aT (by omega)) (Bd.nth hi ?_);rw[Uy hto (hfin _ (aag hi))];refine Bd.aG (Bd.chk (pY (by simp;omega)) (Bd.again ?_));rw[aA (by omega),aaD,aac hi,abz];rfl
 ·rintro t rfl;unfold eF.L1;dsimp only;rw[aaC];exact Bd.no (decide_eq_false (by omega)) (Bd.done rfl)
 rintro _ rfl;dsimp only;refine Tt.bind (hSI _ (by simp;omega)) λ f1 hf1=> ?_;rw[aaN]at hf1;refine Tt.bind (hCo f1 (by omega)) λ f2 hf2=> ?_
 refine Tt.bind (R:=λ t=>t=((0:Int),([]:List Int),([]:List Rule),m,f2,rs.map λ r=>(r.1,r.2.1.map (iat to),iat to r.2.2)))
  (Tt.loop (L:=λ n=>eF.L3 n) (Lp.count rs.length (λ i t=>t=(to,(0:Int),([]:List Int),([]:List Rule),m,f2,(rs.take i).map (λ r=>(r.1,r.2.1.map (iat to),iat to r.2.2)),rs,((rs.length:Nat):Int),(i:Int))) ?_ ?_ rfl)) ?_
 ·rintro i t hi rfl;unfold eF.L3;dsimp only;obtain⟨hto2,hfr,hf3⟩:=hr rs[i] (aag hi);refine Bd.yes (aT (by omega)) (Bd.nth hi ?_);rw[Uy hto hto2]
  refine Bd.aG (Bd.bind (R:=λ t=>t=(to,(0:Int),([]:List Int),([]:List Rule),m,f2,(rs.take i).map (λ r=>(r.1,r.2.1.map (iat to),iat to r.2.2)),rs[i].1,rs[i].2.1.map (iat to),iat to rs[i].2.2,rs,((rs.length:Nat):Int),(i:Int)))
   (Tt.loop (L:=λ n=>eF.L2) (Lp.count rs[i].2.1.length (λ j t=>t=(to,(0:Int),([]:List Int),([]:List Rule),m,f2,(rs.take i).map (λ r=>(r.1,r.2.1.map (iat to),iat to r.2.2)),rs[i].1,(rs[i].2.1.take j).map (iat to),iat to rs[i].2.2,rs,((rs.length:Nat):Int),(i:Int),rs[i].2.1,((rs[i].2.1.length:Nat):Int),(j:Int))) ?_ ?_ rfl)) ?_)
  ·rintro j t hj rfl;unfold eF.L2;dsimp only;refine Bd.yes (aT (by omega)) (Bd.nth hj ?_);rw[Uy hto (hfr _ (aag hj))];refine Bd.aG (Bd.chk (pY (by simp;omega)) (Bd.again ?_));rw[aA (by omega),aaD,aac hj,abz];rfl
  ·rintro t rfl;unfold eF.L2;dsimp only;rw[aaC];exact Bd.no (decide_eq_false (by omega)) (Bd.done rfl)
  ·rintro _ rfl;dsimp only;refine Bd.chk (pY (by simp;omega)) (Bd.again ?_);rw[aA (by omega),aaD,aac hi,abz];rfl
 ·rintro t rfl;unfold eF.L3;dsimp only;rw[aaC];exact Bd.no (decide_eq_false (by omega)) (Bd.done rfl)
 rintro _ rfl;dsimp only;refine Tt.bind (hSo _ (by simp;omega) λ r' hr'=> ?_) λ out ho=>Tt.pure ⟨rfl,λ q=> ?_,λ r'=> ?_,by dsimp only;omega,by have:=ho.1;rw[aaN]at this;exact this,hf2.2.2 (hf1.2.2.imp λ{a b} h=> ?_),ho.2.2⟩
 ·obtain⟨r,h1,rfl⟩:=aaL.1 hr';simpa using(hr r h1).2.2
 ·rw[hf2.1,hf1.2.1,aaL];exact⟨λ⟨s,h1,h2⟩=>⟨s,h1,h2.symm⟩,λ⟨s,h1,h2⟩=>⟨s,h1,h2.symm⟩⟩
 ·rw[ho.2.1,aaL];exact⟨λ⟨s,h1,h2⟩=>⟨s,h1,h2.symm⟩,λ⟨s,h1,h2⟩=>⟨s,h1,h2.symm⟩⟩
 ·rcases abP h with h|h
  ·exact .inr h
  ·exact .inl h
def Lbl {σ σo A τ:Type} (L:(σo->Option τ)->σ->(σ->Option (Sum A τ))->Option (Sum A τ)) (s:σ) (Q:A->Prop) (I:σo->Prop):Prop:=
 (∃v,Q v/\ ∃N,∀m,N<=m-> ∀k,cu (L k) m s=some (Sum.inl v))\/(∃s',I s'/\ ∃N,∀m,N<=m-> ∀k,cu (L k) m s=(k s').bind λ r=>some (Sum.inr r))
theorem Lbl.count {σ σo A τ:Type} {L:(σo->Option τ)->σ->(σ->Option (Sum A τ))->Option (Sum A τ)} {Q:A->Prop} {I:σo->Prop} (len:Nat) (J:Nat->σ->Prop)
 (hs: ∀i s,i<len->J i s->(∃s2,J (i+1) s2/\ ∀k r,L k s r=r s2)\/(∃s',I s'/\ ∀k r,L k s r=(k s').bind λ r=>some (Sum.inr r)))
 (hf: ∀s,J len s-> ∃v,Q v/\ ∀k r,L k s r=some (Sum.inl v)) {s:σ} (h:J 0 s):Lbl L s Q I:=by
 have key: ∀d i s,i+d=len->J i s->Lbl L s Q I:=by
  intro d
  induction d with
  |zero=>
   intro i s hi h;obtain rfl:i=len:=by omega
   obtain⟨v,hv,e⟩:=hf s h
   exact .inl ⟨v,hv,1,λ m hm k=>by
    obtain⟨m,rfl⟩: ∃j,m=j+1:=⟨m-1,by omega⟩;exact e k _⟩
  |succ d ih=>
   intro i s hi h;rcases hs i s (by omega) h with⟨s2,h2,e⟩|⟨s',h2,e⟩
   ·rcases ih (i+1) s2 (by omega) h2 with⟨v,hv,N,hN⟩|⟨s',hs',N,hN⟩
    ·exact .inl ⟨v,hv,N+1,λ m hm k=>by
      obtain⟨m,rfl⟩: ∃j,m=j+1:=⟨m-1,by omega⟩;exact(e k _).trans (hN m (by omega) k)⟩
    ·exact .inr ⟨s',hs',N+1,λ m hm k=>by
      obtain⟨m,rfl⟩: ∃j,m=j+1:=⟨m-1,by omega⟩;exact(e k _).trans (hN m (by omega) k)⟩
   ·exact .inr ⟨s',h2,1,λ m hm k=>by
     obtain⟨m,rfl⟩: ∃j,m=j+1:=⟨m-1,by omega⟩;exact e k _⟩
 exact key len 0 s (by omega) h
theorem Bd.label {σ σo A τ:Type} {L:(σo->Option τ)->σ->(σ->Option (Sum A τ))->Option (Sum A τ)} {s:σ} {Q:A->Prop} {I I0:σo->Prop} {R:τ->Prop} {H:Nat->(σo->Option τ)->Sum A τ->Option τ} (h:Lbl L s Q I0) (hG: ∀v,Q v->Bd (λ n k=>H n k (Sum.inl v)) I R) (hI: ∀s',I0 s'->I s')
 (hr: ∀n k r,H n k (Sum.inr r)=some r):Bd (λ n k=>(cu (L k) n s).bind (H n k)) I R:=by
 rcases h with⟨v,hv,N,hN⟩|⟨s',hs',N,hN⟩
 ·rcases hG v hv with⟨s2,h1,M,hM⟩|⟨t,h1,M,hM⟩
  ·exact .inl ⟨s2,h1,max N M,λ n hn k=>by
    show(cu (L k) n s).bind _=_;rw[hN n (by omega) k];exact hM n (by omega) k⟩
  ·exact .inr ⟨t,h1,max N M,λ n hn k=>by
    show(cu (L k) n s).bind _=_;rw[hN n (by omega) k];exact hM n (by omega) k⟩
 ·exact .inl ⟨s',hI s' hs',N,λ n hn k=>by
   show(cu (L k) n s).bind _=_;rw[hN n hn k]
   cases k s' with
   |none=>rfl
   |some r=>exact hr n k r⟩
def ahh (S:Int) (num:List Int) (m:Int):Prop:=
 num.length=S.toNat/\0<=m/\(∀v∈num,-1<=v/\v<m)/\(∀s t,dH S s->dH S t->0<=iat num s->iat num s=iat num t->s=t)/\(num.countP (λ v=>decide (0<=v)):Int)=m
theorem count_set {l:List Int} {i:Nat} {v:Int} (h:i<l.length) (hn:l[i]<0) (hv:0<=v):(l.set i v).countP (λ v=>decide (0<=v))=l.countP (λ v=>decide (0<=v))+1:=by
 rw[List.countP_set h];simp only[hv,decide_true,if_true];rw[decide_eq_false (show¬0<=l[i] by omega)];simp
theorem aeu {l:List Int} {s t v:Int} (h:s.toNat<l.length) (hs:0<=s) (ht:0<=t):iat (l.set s.toNat v) t=if t=s then v else iat l t:=by
 unfold iat;rw[aaS];by_cases e:t=s
 ·subst e;rw[if_pos rfl,if_pos h,if_pos rfl];rfl
 ·rw[if_neg (by omega),if_neg e]
theorem Wq {a b t u:Int} {f g:List Int} (h:xK (a,f,t) (b,g,u)<=0):xK (a,f,0) (b,g,0)<=0:=by
 unfold xK at h ⊢;dsimp only at h ⊢;by_cases e:a=b
 ·simp only[e,decide_true,cond_true]at h ⊢;by_cases e2:cmpL f g=0
  ·simp only[e2,decide_true,cond_true];exact Int.le_of_eq (uh.refl 0)
  ·simp only[e2,decide_false,cond_false]at h ⊢;exact h
 ·simp only[e,decide_false,cond_false]at h ⊢;exact h
def aje (rs:List Rule) (ν:Int->Int) (c:Int) (mm:Nat->Nat):Prop:= ∀n:Nat,(n:Int)<c->
 (mm n<=n/\ ∃r∈rs,ν r.2.2=n/\(∀x∈r.2.1,0<=ν x/\ν x<mm n)/\ ∀r'∈rs,(∀x∈r'.2.1,0<=ν x/\ν x<mm n)->(ν r'.2.2<0\/n<=ν r'.2.2)->xK (r.1,r.2.1.map ν,0) (r'.1,r'.2.1.map ν,0)<=0)/\
 ((n:Int)+1<c->mm (n+1)=mm n\/mm (n+1)=n+1/\ ∀r∈rs,(∀x∈r.2.1,0<=ν x/\ν x<mm n)->0<=ν r.2.2/\ν r.2.2<=n)
def RnI (rs:List Rule) (num:List Int) (m:Int):Prop:= ∃mm:Nat->Nat,mm 0=0/\aje rs (iat num) m mm/\ ∀n:Nat,(n:Int)+1=m-> ∀r∈rs,(∀x∈r.2.1,0<=iat num x/\iat num x<mm n)->0<=iat num r.2.2
def aiv (S:Int) (num num':List Int) (m:Int):Prop:= ∀s,dH S s->(0<=iat num s->iat num' s=iat num s)/\(iat num s<0->iat num' s<0\/m<=iat num' s)
theorem Xe {S:Int} {rs:List Rule} {num num':List Int} {m m':Int} (hr: ∀r∈rs,dH S r.2.2/\ ∀q∈r.2.1,dH S q) (h0:0<=m) (hlt:m<m') (hb: ∀s,dH S s->iat num s<m) (hI:RnI rs num m) (hE:aiv S num num' m)
 (h1: ∀n:Nat,m<=(n:Int)->(n:Int)<m'-> ∃r∈rs,iat num' r.2.2=n/\(∀x∈r.2.1,0<=iat num x)/\ ∀r'∈rs,iat num r'.2.2<0->(∀x∈r'.2.1,0<=iat num x)->(iat num' r'.2.2<0\/n<=iat num' r'.2.2)->xK (r.1,r.2.1.map (iat num),0) (r'.1,r'.2.1.map (iat num),0)<=0)
 (h2: ∀r∈rs,iat num r.2.2<0->(∀x∈r.2.1,0<=iat num x)->0<=iat num' r.2.2):RnI rs num' m':=by
 obtain⟨mm,z0,hP,h3⟩:=hI
 have old: ∀s,dH S s-> ∀b:Int,b<=m->(0<=iat num' s/\iat num' s<b)->0<=iat num s/\iat num s<b/\iat num' s=iat num s:=λ s hs b hbm h=>by
  obtain⟨g1,g2⟩:=hE s hs;rcases acJ (iat num s) 0 with h4|h4
  ·have:=g2 h4;omega
  ·have:=g1 h4;exact⟨h4,by omega,this⟩
 have new: ∀s,dH S s->0<=iat num s->iat num' s=iat num s:=λ s hs h=>(hE s hs).1 h;have mp: ∀r∈rs,(∀x∈r.2.1,0<=iat num x)->r.2.1.map (iat num')=r.2.1.map (iat num):=λ r hr' h=>List.map_congr_left λ x hx=>new x ((hr r hr').2 x hx) (h x hx);refine⟨λ n=>if n<m.toNat then mm n else m.toNat,?_,λ n hn=> ?_,λ n hn r hrm hx=> ?_⟩
 ·dsimp only;split
  ·exact z0
  ·omega
 ·by_cases hnm:n<m.toNat
  ·obtain⟨⟨c1,r,d1,d2,d3,d4⟩,c2⟩:=hP n (by omega);simp only[hnm,if_true];refine⟨⟨c1,r,d1,by rw[new _ (hr r d1).1 (by omega)];exact d2,λ x hx=> ?_,λ r' e1 e2 e3=> ?_⟩,λ hn1=> ?_⟩
   ·rw[new x ((hr r d1).2 x hx) (d3 x hx).1];exact d3 x hx
   ·have e4: ∀x∈r'.2.1,0<=iat num x/\iat num x<mm n:=λ x hx=>by
     have:=old x ((hr r' e1).2 x hx) (mm n) (by omega) (e2 x hx);exact⟨this.1,this.2.1⟩
    rw[mp r d1 λ x hx=>(d3 x hx).1,mp r' e1 λ x hx=>(e4 x hx).1];refine d4 r' e1 e4 ?_;rcases acJ (iat num r'.2.2) 0 with h|h
    ·exact .inl h
    ·rw[new _ (hr r' e1).1 h]at e3;exact e3
   ·by_cases hn2:n+1<m.toNat
    ·simp only[hn2,if_true];rcases c2 (by omega)with h|⟨h,h'⟩
     ·exact .inl h
     ·refine .inr ⟨h,λ r' e1 e2=> ?_⟩
      have e3:=h' r' e1 λ x hx=>by
       have:=old x ((hr r' e1).2 x hx) (mm n) (by omega) (e2 x hx);exact⟨this.1,this.2.1⟩
      rw[new _ (hr r' e1).1 e3.1];exact e3
    ·simp only[hn2,if_false];refine .inr ⟨by omega,λ r' e1 e2=> ?_⟩
     have e3:=h3 n (by omega) r' e1 λ x hx=>by
      have:=old x ((hr r' e1).2 x hx) (mm n) (by omega) (e2 x hx);exact⟨this.1,this.2.1⟩
     have:=hb _ (hr r' e1).1;rw[new _ (hr r' e1).1 e3];exact⟨e3,by omega⟩
  ·have hnm2: ¬n+1<m.toNat:=by omega
   simp only[hnm,hnm2,if_false];obtain⟨r,d1,d2,d3,d4⟩:=h1 n (by omega) hn;refine⟨⟨by omega,r,d1,d2,λ x hx=> ?_,λ r' e1 e2 e3=> ?_⟩,λ _=>by first|exact .inl rfl|exact .inl trivial⟩
   ·have:=hb x ((hr r d1).2 x hx);have h:=d3 x hx;rw[new x ((hr r d1).2 x hx) h];exact⟨h,by omega⟩
   ·have e4: ∀x∈r'.2.1,0<=iat num x:=λ x hx=>(old x ((hr r' e1).2 x hx) m.toNat (by omega) (e2 x hx)).1;rw[mp r d1 d3,mp r' e1 e4];refine d4 r' e1 ?_ e4 e3;rcases acJ (iat num r'.2.2) 0 with h|h
    ·exact h
    ·have:=new _ (hr r' e1).1 h;have:=hb _ (hr r' e1).1;omega
 ·have hnm: ¬n<m.toNat:=by omega
  simp only[hnm,if_false]at hx;have e4: ∀x∈r.2.1,0<=iat num x:=λ x hx'=>(old x ((hr r hrm).2 x hx') m.toNat (by omega) (hx x hx')).1;rcases acJ (iat num r.2.2) 0 with h|h
  ·exact h2 r hrm h e4
  ·rw[new _ (hr r hrm).1 h];exact h
def LIn (num:List Int) (rs l:List Rule):Prop:= ∀r',r'∈l ↔ ∃r∈rs,iat num r.2.2<0/\(∀s∈r.2.1,0<=iat num s)/\r'=(r.1,r.2.1.map (iat num),r.2.2)
theorem LIn.skip {num:List Int} {rs l:List Rule} {i:Nat} (hi:i<rs.length) (h:LIn num (rs.take i) l) (hn: ¬(iat num rs[i].2.2<0/\ ∀s∈rs[i].2.1,0<=iat num s)):LIn num (rs.take (i+1)) l:=by
 intro r';rw[h r',aaD,aac hi];constructor
 ·rintro⟨r,h1,h2⟩;exact⟨r,aaH _ h1,h2⟩
 ·rintro⟨r,h1,h2,h3,h4⟩;rcases aau.1 h1 with h1|h1
  ·exact⟨r,h1,h2,h3,h4⟩
  ·simp only[abd,aam]at h1;subst h1;exact absurd ⟨h2,h3⟩ hn
theorem LIn.main {num:List Int} {rs l:List Rule} {i:Nat} (hi:i<rs.length) (h:LIn num (rs.take i) l) (h2:iat num rs[i].2.2<0) (h3: ∀s∈rs[i].2.1,0<=iat num s):LIn num (rs.take (i+1)) (l++[(rs[i].1,rs[i].2.1.map (iat num),rs[i].2.2)]):=by
 intro r';rw[aau,h r',aaD,aac hi,aam];constructor
 ·rintro(⟨r,h1,h2⟩|rfl)
  ·exact⟨r,aaH _ h1,h2⟩
  ·exact⟨rs[i],abl _ (by simp),h2,h3,rfl⟩
 ·rintro⟨r,h1,h2,h3,h4⟩;rcases aau.1 h1 with h1|h1
  ·exact .inl ⟨r,h1,h2,h3,h4⟩
  ·simp only[abd,aam]at h1;subst h1;exact .inr h4
def ad8 (S:Int) (rs:List Rule) (num:List Int):Prop:=
 num.length=S.toNat/\(∀s t,dH S s->dH S t->0<=iat num s->iat num s=iat num t->s=t)/\(∀v∈num,v<S)/\(∀r∈rs,(∀s∈r.2.1,0<=iat num s)->0<=iat num r.2.2)/\ ∃m,ahh S num m/\RnI rs num m
theorem Zm {SF:Nat->List Rule->Option (List Rule)} (hSF:ad9 SF) (S:Int) (fin:List Int) (rs:List Rule) (hw:Wf S fin rs):
 Sp (λ n=>bH.P (SF n) n) (S,fin,rs) (ad8 S rs):=by
 obtain⟨h0,hS,hfl,hrl,hfin,hr⟩:=hw;have hr2: ∀r∈rs,dH S r.2.2/\ ∀q∈r.2.1,dH S q:=λ r h=>⟨(hr r h).1,(hr r h).2.1⟩;show Tt (λ n=>bH.P (SF n) n (S,fin,rs)) _;unfold bH.P;dsimp only;refine Tt.chk (wP h0 (by omega)) ?_;rw[abJ]
 refine Tt.bind (R:=λ t=>t=(S,fin,rs,List.replicate S.toNat (-1:Int)))
  (Tt.loop (L:=λ n=>bH.L1) (Lp.count S.toNat (λ i t=> ∃num:List Int,t=(S,fin,rs,num,((S.toNat:Nat):Int),(i:Int))/\num.length=S.toNat/\ ∀j:Nat,j<i->num[j]? =some (-1)) ?_ ?_ ⟨_,rfl,by simp,λ j h=>absurd h (by omega)⟩)) ?_
 ·rintro i t hi ⟨num,rfl,hn,hI⟩;unfold bH.L1;dsimp only;refine Bd.yes (aT (by omega)) (Bd.chk (rng (by omega) (by omega)) ?_);rw[aat];refine Bd.at (by omega) λ _ _ _=>Bd.again ⟨_,by rw[aA (by omega)],by simpa using hn,λ j hj=> ?_⟩;rw[aaS];split
  ·rename_i e;rw[if_pos (by omega)]
  ·exact hI j (by omega)
 ·rintro t ⟨num,rfl,hn,hI⟩;unfold bH.L1;dsimp only;refine Bd.no (decide_eq_false (by omega)) (Bd.done ?_)
  have:num=List.replicate S.toNat (-1:Int):=by
   apply aaP;intro j;rw[abw];split
   ·rename_i h;exact hI j h
   ·rw[aah (by omega)]
  rw[this]
 rintro _ rfl;dsimp only
 refine Tt.bind (R:=λ num:List Int=>ad8 S rs num)
  (Tt.loop (L:=λ n=>bH.L5 n (SF n)) (Lp.measure (λ t=> ∃(num:List Int) (m:Int),t=(S,fin,rs,num,m)/\ahh S num m/\RnI rs num m) (λ t=>(S-t.2.2.2.2).toNat) ?_ ?_)) λ num h=>Tt.pure h
 ·rintro _ ⟨num,m,rfl,hn,hin⟩;have hn':=hn;obtain⟨n1,n2,n3,n4,n5⟩:=hn;unfold bH.L5;dsimp only;have hmS:m<=S:=by have:=ab5 (p:=λ v:Int=>decide (0<=v)) (l:=num);omega
  have hnl: ∀s,dH S s->s.toNat<num.length:=λ s hs=>by have:=hs.1;have:=hs.2;omega
  have hbm: ∀s,dH S s->iat num s<m:=λ s hs=>(n3 _ (by rw[←uo (hnl s hs)];exact aag (hnl s hs))).2;by_cases hms:m<S
  ·refine Bd.yes (aT hms) ?_
   refine Bd.bind (R:=λ t=> ∃l:List Rule,t=(S,fin,rs,num,m,l)/\l.length<=rs.length/\LIn num rs l)
    (Tt.loop (L:=λ n=>bH.L3 n) (Lp.count rs.length (λ i t=> ∃l:List Rule,t=(S,fin,rs,num,m,l,rs,((rs.length:Nat):Int),(i:Int))/\l.length<=i/\LIn num (rs.take i) l) ?_ ?_ ⟨[],rfl,by simp,λ r'=>by simp⟩)) ?_
   ·rintro i t hi ⟨l,rfl,hl1,hl2⟩;unfold bH.L3;dsimp only;obtain⟨hto,hfr,hf3⟩:=hr rs[i] (aag hi);refine Bd.yes (aT (by omega)) (Bd.nth hi (Bd.chk (rng hto.1 (by have:=hto.1;have:=hto.2;omega)) (Bd.at (hnl _ hto) λ e _ he=> ?_)));have hie:iat num rs[i].2.2=e:=Js he;refine Bd.ite (λ hc=> ?_) (λ hc=> ?_)
    ·have hc:=of_decide_eq_true hc;exact Bd.again ⟨l,by rw[aA (by omega)],by omega,hl2.skip hi λ h=>by omega⟩
    ·have hc:=of_decide_eq_false hc
     refine Bd.label (s:=(S,fin,rs,num,m,l,rs[i].1,([]:List Int),rs[i].2.2,rs,((rs.length:Nat):Int),(i:Int),rs[i].2.1,((rs[i].2.1.length:Nat):Int),(0:Int))) (I0:=λ s'=>s'=(S,fin,rs,num,m,l,rs,((rs.length:Nat):Int),IntKind.wrap .i64 ((i:Int)+1))/\ ∃s∈rs[i].2.1,iat num s<0) (Q:=λ v=>v=(S,fin,rs,num,m,l,rs[i].1,(rs[i].2.1.take rs[i].2.1.length).map (iat num),rs[i].2.2,rs,((rs.length:Nat):Int),(i:Int))/\ ∀s∈rs[i].2.1.take rs[i].2.1.length,0<=iat num s)
      (Lbl.count (L:=bH.L2) rs[i].2.1.length (λ j t=>t=(S,fin,rs,num,m,l,rs[i].1,(rs[i].2.1.take j).map (iat num),rs[i].2.2,rs,((rs.length:Nat):Int),(i:Int),rs[i].2.1,((rs[i].2.1.length:Nat):Int),(j:Int))/\ ∀s∈rs[i].2.1.take j,0<=iat num s) ?_ ?_ ⟨rfl,by simp⟩) ?_ ?_ (λ _ _ _=>rfl)
     ·rintro j t hj ⟨rfl,hpos⟩;have hsj:=hfr _ (aag hj);have hgl:=hnl _ hsj;have hx:=fE hj;have hre:(decide (0<=rs[i].2.1[j])&&decide (rs[i].2.1[j]<((List.length num:Nat):Int)))=true:=rng hsj.1 (by have:=hsj.1;have:=hsj.2;omega);have hat:at? num rs[i].2.1[j].toNat=some (iat num rs[i].2.1[j]):=by unfold at?;rw[aac hgl,uo hgl]
      have hfl':((rs[i].2.1.take j).map (iat num)).length<=3:=by simp;omega
      by_cases hneg:iat num rs[i].2.1[j]<0
      ·refine .inr ⟨_,⟨rfl,_,aag hj,hneg⟩,λ k r=> ?_⟩;unfold bH.L2;dsimp only;rw[aT (show(j:Int)<((rs[i].2.1.length:Nat):Int) by omega),cond_true,hx,aai,hre,cond_true,hat,aai,aT hneg,cond_true]
      ·refine .inl ⟨_,⟨by rw[aaD,aac hj,abz],λ s hs=> ?_⟩,λ k r=> ?_⟩
       ·rw[aaD,aac hj,aau]at hs;rcases hs with hs|hs
        ·exact hpos s hs
        ·simp only[abd,aam]at hs;rw[hs];omega
       unfold bH.L2;dsimp only;rw[aT (show(j:Int)<((rs[i].2.1.length:Nat):Int) by omega),cond_true,hx,aai,hre,cond_true,hat,aai,decide_eq_false hneg,cond_false,cond_true,aai,pY (by simp;omega),cond_true,aA (by omega)];rfl
     ·rintro t ⟨rfl,hpos⟩;refine⟨_,⟨rfl,hpos⟩,λ k r=> ?_⟩;unfold bH.L2;dsimp only;rw[decide_eq_false (by omega)];rfl
     ·rintro _ ⟨rfl,hpos⟩;dsimp only;rw[aaC]at hpos ⊢;exact Bd.chk (pY (by simp;omega)) (Bd.again ⟨_,by rw[aA (by omega)];rfl,by simp;omega,hl2.main hi (by omega) hpos⟩)
     ·rintro s' ⟨rfl,s,hs1,hs2⟩;exact⟨l,by rw[aA (by omega)],by omega,hl2.skip hi λ h=>by have:=h.2 s hs1;omega⟩
   ·rintro t ⟨l,rfl,hl1,hl2⟩;unfold bH.L3;dsimp only;rw[aaC]at hl2;exact Bd.no (decide_eq_false (by omega)) (Bd.done ⟨l,rfl,hl1,hl2⟩)
   rintro _ ⟨l,rfl,hl1,hl2⟩;dsimp only;refine Bd.ite (λ hc=> ?_) (λ hc=> ?_)
   ·have hl0:l= []:=aav (by have:=sW hc;omega);refine Bd.done ⟨n1,n4,λ v hv=>by have:=(n3 v hv).2;omega,λ r hr' hf=> ?_,m,hn',hin⟩;rcases acJ (iat num r.2.2) 0 with h|h
    ·have:=(hl2 _).2 ⟨r,hr',h,hf,rfl⟩;rw[hl0]at this;cases this
    ·exact h
   ·have hne:l≠[]:=λ h=>absurd (dec_not hc) (by rw[h];simp);refine Bd.bind (hSF l (by omega) λ r' h=> ?_) λ l' hl'=> ?_
    ·obtain⟨r,h1,_,_,rfl⟩:=(hl2 r').1 h;simpa using(hr r h1).2.2
    obtain⟨k1,k2,k3⟩:=hl'
    have hl2': ∀r'∈l',dH S r'.2.2/\iat num r'.2.2<0:=λ r' h=>by
     obtain⟨r,h1,h2,_,rfl⟩:=(hl2 r').1 ((k2 r').1 h);exact⟨(hr r h1).1,h2⟩
    refine Bd.bind (R:=λ t=> ∃(num':List Int) (m':Int),t=(S,fin,rs,num',m')/\ahh S num' m'/\RnI rs num' m'/\m<m')
     (Tt.loop (L:=λ n=>bH.L4) (Lp.count l'.length (λ i t=> ∃(num':List Int) (m':Int),t=(S,fin,rs,num',m',l',((l'.length:Nat):Int),(i:Int))/\ahh S num' m'/\m<=m'/\aiv S num num' m/\
      (∀n:Nat,m<=(n:Int)->(n:Int)<m'-> ∃(j:Nat) (r0:Rule),j<i/\l'[j]? =some r0/\iat num' r0.2.2=n/\ ∀(k:Nat) (r1:Rule),k<j->l'[k]? =some r1->iat num' r1.2.2<n)/\ ∀(k:Nat) (r1:Rule),k<i->l'[k]? =some r1->0<=iat num' r1.2.2) ?_ ?_
      ⟨num,m,rfl,hn',acN _,λ s hs=>⟨λ _=>rfl,λ h=> .inl h⟩,λ n h1 h2=>absurd h1 (by omega),λ k r1 h=>absurd h (by omega)⟩)) ?_
    ·rintro i t hi ⟨num',m',rfl,⟨p1,p2,p3,p4,p5⟩,hmm,hE,hK1,hK2⟩;unfold bH.L4;dsimp only;obtain⟨hto,hneg⟩:=hl2' l'[i] (aag hi);have hgl:l'[i].2.2.toNat<num'.length:=by have:=hto.1;have:=hto.2;omega
     have hre:(decide (0<=l'[i].2.2)&&decide (l'[i].2.2<((List.length num':Nat):Int)))=true:=rng hto.1 (by have:=hto.1;have:=hto.2;omega);refine Bd.yes (aT (by omega)) (Bd.chk (rng (by omega) (by omega)) ?_);rw[aat];refine Bd.at hi λ r hrm hre2=> ?_;rw[aac hi]at hre2;cases hre2;refine Bd.chk hre (Bd.at hgl λ e _ he=> ?_);have hie:iat num' l'[i].2.2=e:=Js he;have hcS:m'<=S:=by have:=ab5 (p:=λ v:Int=>decide (0<=v)) (l:=num');omega
     have hb: ∀s,dH S s->iat num' s<m':=λ s hs=>(p3 _ (by
      have hlt:s.toNat<num'.length:=by have:=hs.1;have:=hs.2;omega
      rw[←uo hlt];exact aag hlt)).2
     refine Bd.eU (λ hc=> ?_) (λ hc=> ?_)
     ·have hc:=of_decide_eq_true hc;have hset: ∀s,dH S s->iat (num'.set l'[i].2.2.toNat m') s=if s=l'[i].2.2 then m' else iat num' s:=λ s hs=>aeu hgl hto.1 hs.1;have hmem: ∀(k:Nat) (r1:Rule),l'[k]? =some r1->dH S r1.2.2:=λ k r1 h=>(hl2' r1 (aak h)).1;refine Bd.iU hre (Bd.fB (Bd.at hgl λ _ _ _=>Bd.aG (Bd.again ⟨_,m'+1,by rw[aA (by omega),nU (m'+1) (by omega) (by omega)],⟨by simpa using p1,by omega,λ v hv=> ?_,λ s t hs ht h0 e=> ?_,?_⟩,by omega,λ s hs=> ?_,λ n g1 g2=> ?_,λ k r1 g1 g2=> ?_⟩)))
      ·rcases abE hv with h|rfl
       ·have:=p3 v h;exact⟨this.1,by omega⟩
       ·exact⟨by omega,by omega⟩
      ·rw[hset s hs,hset t ht]at e;rw[hset s hs]at h0;split at e<;>split at e
       ·rename_i e1 e2;rw[e1,e2]
       ·have:=hb t ht;omega
       ·have:=hb s hs;omega
       ·rename_i e1 e2;rw[if_neg e1]at h0;exact p4 s t hs ht h0 e
      ·rw[count_set hgl (by rw[uo hgl,hie];exact hc) p2];omega
      ·rw[hset s hs];split
       ·rename_i e1;rw[e1];exact⟨λ h=>by omega,λ _=> .inr hmm⟩
       ·exact hE s hs
      ·rcases abP (Int.lt_add_one_iff.1 g2)with h|h
       ·obtain⟨j,r0,a1,a2,a3,a4⟩:=hK1 n g1 h;refine⟨j,r0,by omega,a2,?_,λ k r1 b1 b2=> ?_⟩
        ·rw[hset _ (hmem j r0 a2),if_neg]
         ·exact a3
         ·intro e1;rw[e1]at a3;omega
        ·have b3:=a4 k r1 b1 b2;have b4:=hK2 k r1 (by omega) b2;rw[hset _ (hmem k r1 b2),if_neg]
         ·exact b3
         ·intro e1;rw[e1]at b4;omega
       ·refine⟨i,l'[i],by omega,aac hi,by rw[hset _ hto,if_pos rfl];exact h.symm,λ k r1 b1 b2=> ?_⟩;have b4:=hK2 k r1 b1 b2;have:=hb _ (hmem k r1 b2);rw[hset _ (hmem k r1 b2),if_neg]
        ·omega
        ·intro e1;rw[e1]at b4;omega
      ·rw[hset _ (hmem k r1 g2)];split
       ·exact p2
       ·rename_i e1;rcases aaY (aa8 g1)with h|rfl
        ·exact hK2 k r1 h g2
        ·rw[aac hi]at g2;cases g2;exact absurd rfl e1
     ·have hc:=of_decide_eq_false hc;refine Bd.aG (Bd.again ⟨num',m',by rw[aA (by omega)],⟨p1,p2,p3,p4,p5⟩,hmm,hE,λ n g1 g2=> ?_,λ k r1 g1 g2=> ?_⟩)
      ·obtain⟨j,r0,a1,a2⟩:=hK1 n g1 g2;exact⟨j,r0,by omega,a2⟩
      ·rcases aaY (aa8 g1)with h|rfl
       ·exact hK2 k r1 h g2
       ·rw[aac hi]at g2;cases g2;omega
    ·rintro t ⟨num',m',rfl,hp,hmm,hE,hK1,hK2⟩;unfold bH.L4;dsimp only;have hK2': ∀(k:Nat) (r1:Rule),l'[k]? =some r1->0<=iat num' r1.2.2:=λ k r1 h=>hK2 k r1 (aaf.1 h).1 h
     have hlt:m<m':=by
      obtain⟨r,hr'⟩:=List.exists_mem_of_ne_nil l hne;have h1:=(k2 r).2 hr';obtain⟨k,hk,e⟩:=aay h1;have h2:=hK2' k r (by rw[aac hk,e]);obtain⟨h3,h4⟩:=hl2' r h1;have h5:=(hE _ h3).2 h4;have h6:r.2.2.toNat<num'.length:=by have:=hp.1;have:=h3.1;have:=h3.2;omega
      have h7:=(hp.2.2.1 _ (by rw[←uo h6];exact aag h6:iat num' r.2.2∈num')).2;omega
     refine Bd.no (decide_eq_false (by omega)) (Bd.done ⟨num',m',rfl,hp,Xe hr2 n2 hlt hbm hin hE (λ n g1 g2=> ?_) (λ r g1 g2 g3=> ?_),hlt⟩)
     ·obtain⟨j,r0,a1,a2,a3,a4⟩:=hK1 n g1 g2;obtain⟨r,b1,b2,b3,rfl⟩:=(hl2 r0).1 ((k2 r0).1 (aak a2));refine⟨r,b1,a3,b3,λ r' c1 c2 c3 c4=> ?_⟩;have hm':=(k2 _).2 ((hl2 (r'.1,r'.2.1.map (iat num),r'.2.2)).2 ⟨r',c1,c2,c3,rfl⟩);obtain⟨k,hk,e⟩:=aay hm';have e':l'[k]? =some (r'.1,r'.2.1.map (iat num),r'.2.2):=by rw[aac hk,e]
      have hkj: ¬k<j:=λ h=>by
       have h1:=a4 k _ h e';have h2:=hK2' k _ e';dsimp only at h1 h2;omega
      rcases aaY (Nat.not_lt.1 hkj)with h|rfl
      ·obtain⟨hj',ej⟩:=aaf.1 a2;have:=abx.1 k3 j k hj' hk h;rw[ej,e]at this;exact Wq this
      ·rw[a2]at e';have:=aao e';simp only[aas]at this;rw[this.1,this.2.1];exact Int.le_of_eq (oq.refl _)
     ·have hm':=(k2 _).2 ((hl2 (r.1,r.2.1.map (iat num),r.2.2)).2 ⟨r,g1,g2,g3,rfl⟩);obtain⟨k,hk,e⟩:=aay hm';exact hK2' k (r.1,r.2.1.map (iat num),r.2.2) (by rw[aac hk,e])
    ·rintro _ ⟨num',m',rfl,hp,hi',hlt⟩;refine Bd.again ⟨⟨num',m',rfl,hp,hi'⟩,?_⟩;dsimp only;omega
  ·refine Bd.no (decide_eq_false hms) (Bd.done ⟨n1,n4,λ v hv=>by have:=(n3 v hv).2;omega,λ r hr' _=> ?_,m,hn',hin⟩);have hcl:num.countP (λ v=>decide (0<=v))=num.length:=by have:=ab5 (p:=λ v:Int=>decide (0<=v)) (l:=num);omega
   have hall:=List.countP_eq_length.1 hcl;have hlt:=hnl _ (hr r hr').1;have:=hall _ (aag hlt);rw[uo hlt]at this;exact of_decide_eq_true this
 ·refine⟨_,0,rfl,⟨by simp,acN _,λ v hv=>by rw[(List.mem_replicate.1 hv).2];exact⟨by omega,by omega⟩,λ s t hs ht h=> ?_,?_⟩,λ _=>0,rfl,λ n h=>absurd h (by omega),λ n h=>absurd h (by omega)⟩
  ·have hlt:s.toNat<(List.replicate S.toNat (-1:Int)).length:=by rw[abJ];have:=hs.1;have:=hs.2;omega
   rw[←uo hlt,List.getElem_replicate]at h;omega
  ·rw[List.countP_replicate];simp
end Go.Bk
end
