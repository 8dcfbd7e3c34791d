import Derived.Test.YtdchbjmbgecejaaGreatDoorMj
set_option linter.unusedVariables false
noncomputable section
namespace Go.Bk
open Go Go.AM
def iat (l:List Int) (s:Int):Int:=l[s.toNat]?.getD 0
theorem Js {l:List Int} {s:Int} {v:Int} (h:l[s.toNat]? =some v):iat l s=v:=by unfold iat;rw[h];rfl
theorem uo {l:List Int} {s:Int} (h:s.toNat<l.length):l[s.toNat]=iat l s:=by unfold iat;rw[aac h];rfl
def Ren (kp:Int->Prop) (ν:Int->Int) (rs rs':List Rule):Prop:=
 ∀r',r'∈rs' ↔ ∃r∈rs,kp r.2.2/\(∀s∈r.2.1,kp s)/\r'=(r.1,r.2.1.map ν,ν r.2.2)
def ahg (kp:Int->Prop) (ν:Int->Int) (fin fin':List Int):Prop:= ∀q,q∈fin' ↔ ∃s∈fin,kp s/\q=ν s
abbrev adL (F:Nat->List Rule->Option (List Rule)):Prop:= ∀x:List Rule,x.length<=100000->(∀r∈x,r.2.1.length<=3)->Sp F x (λ r=>r.length<=x.length/\ ∀y,y∈r ↔ y∈x)
abbrev ad9 (F:Nat->List Rule->Option (List Rule)):Prop:= ∀x:List Rule,x.length<=100000->(∀r∈x,r.2.1.length<=3)->Sp F x (λ r=>r.length<=x.length/\(∀y,y∈r ↔ y∈x)/\r.Pairwise λ a b=>xK a b<=0)
abbrev ZU (F:Nat->List Rule->Option (List Rule)):Prop:= ∀x:List Rule,x.length<=100000->(∀r∈x,r.2.1.length<=3)->Sp F x (λ r=>r.length<=x.length/\(∀y,y∈r ↔ y∈x)/\r.Pairwise λ a b=>xK a b<0)
theorem ahs {l z:List Int} (h:z.length=l.length):List.append (List.append (List.take 0 z) (List.take (Nat.min l.length (z.length-0)) l)) (List.drop (0+Nat.min l.length (z.length-0)) z)=l:=by
 have h1:Nat.min l.length (z.length-0)=l.length:=by rw[h,Nat.sub_zero];exact Nat.min_self _
 rw[h1,aaW,←h,acF,h,aaC];simp
theorem ada {l:List Int} {f:Int->Int} {i:Nat} (h:i<l.length):List.set ((l.take i).map f++l.drop i) i (f l[i])=(l.take (i+1)).map f++l.drop (i+1):=by
 have hl:((l.take i).map f).length=i:=by simp;omega
 rw[List.set_append_right _ _ (by omega),hl,acz,aaI h,List.set_cons_zero,aaD,aac h,abz,aaA];rfl
theorem agC {l:List Int} {f:Int->Int} {i:Nat} (h:i<l.length):((l.take i).map f++l.drop i)[i]? =some l[i]:=by
 have hl:((l.take i).map f).length=i:=by simp;omega
 rw[aaz (by omega),hl,acz,aaI h];rfl
def wG (S:Int) (fin:List Int) (rs:List Rule) (keep:List Bool) (a:Aut):Prop:=
 (Wf a.1 a.2.1 a.2.2/\a.1<=S)/\ ∃ν:Int->Int,(∀s s',dH S s->dH S s'->bat keep s=true->bat keep s'=true->ν s=ν s'->s=s')/\ahg (λ s=>bat keep s=true) ν fin a.2.1/\Ren (λ s=>bat keep s=true) ν rs a.2.2/\
  (∀s,dH S s->bat keep s=true->dH a.1 (ν s))/\(∀q,dH a.1 q-> ∃s,dH S s/\bat keep s=true/\ν s=q)/\a.2.2.length<=rs.length/\a.2.2.Pairwise λ a b=>xK a b<0
theorem afg {F:Nat->List Rule->Option (List Rule)} {C:Nat->List Int×List Bool->Option Bool} (hF:ZU F) (hC:Xy C (!·)) (S:Int) (fin:List Int) (rs:List Rule) (keep:List Bool) (h:Wf S fin rs) (hk:keep.length=S.toNat):
 Sp (λ n=>gu.P (F n) (C n) n) (S,fin,rs,keep) (wG S fin rs keep):=by
 obtain⟨h0,hS,hfl,hrl,hfin,hr⟩:=h;show Tt (λ n=>gu.P (F n) (C n) n (S,fin,rs,keep)) _;unfold gu.P;dsimp only;refine Tt.chk (wP h0 (by omega)) ?_
 refine Tt.bind (R:=λ t=> ∃(num:List Int) (c:Int),num.length=S.toNat/\0<=c/\c<=S/\(∀s,dH S s->bat keep s=true->dH c (iat num s))/\(∀s s',dH S s->dH S s'->bat keep s=true->bat keep s'=true->iat num s=iat num s'->s=s')/\(∀q,dH c q-> ∃s,dH S s/\bat keep s=true/\iat num s=q)/\
  t=(S,fin,rs,keep,(0:Int),([]:List Int),([]:List Rule),c,([]:List Int),([]:List Rule),num))
  (Tt.loop (Lp.count keep.length (λ i t=> ∃(num:List Int) (c:Int),num.length=S.toNat/\0<=c/\c<=(i:Int)/\(∀s,dH (i:Int) s->bat keep s=true->dH c (iat num s))/\(∀s s',dH (i:Int) s->dH (i:Int) s'->bat keep s=true->bat keep s'=true->iat num s=iat num s'->s=s')/\(∀q,dH c q-> ∃s,dH (i:Int) s/\bat keep s=true/\iat num s=q)/\
   t=(S,fin,rs,keep,(0:Int),([]:List Int),([]:List Rule),c,([]:List Int),([]:List Rule),num,keep,((keep.length:Nat):Int),(i:Int))) ?_ ?_ ?_)) ?_
 ·rintro i t hi ⟨num,c,hn,hc0,hci,hI,hJ,hK,rfl⟩;unfold gu.L1;dsimp only;have hbi:bat keep (i:Int)=keep[i]:=by unfold bat;rw[aat,aac hi];rfl
  refine Bd.yes (aT (by omega)) (Bd.nth hi (Bd.eU (λ hki=> ?_) (λ hki=> ?_)))
  ·refine Bd.iU (rng (by omega) (by omega)) (Bd.fB ?_);rw[aat];refine Bd.at (by omega) λ e _ _=>Bd.aG (Bd.again ?_)
   have hset: ∀s:Int,dH ((i+1:Nat):Int) s->iat (num.set i c) s=if s=(i:Int)then c else iat num s:=by
    intro s hs;unfold iat;rw[aaS];by_cases e:s=(i:Int)
    ·subst e;rw[if_pos rfl,aat,if_pos rfl,if_pos (by omega)];rfl
    ·rw[if_neg e,if_neg (by have:=hs.1;omega)]
   have hlt: ∀s:Int,dH ((i+1:Nat):Int) s->s≠(i:Int)->dH (i:Int) s:=λ s hs e=>⟨hs.1,by have:=hs.2;omega⟩;refine⟨num.set i c,c+1,by simpa using hn,by omega,by omega,λ s hs hb=> ?_,λ s s' hs hs' hb hb' e=> ?_,λ q hq=> ?_,by rw[aA (by omega),nU _ (by omega) (by omega)]⟩
   ·rw[hset s hs];split
    ·exact⟨hc0,by omega⟩
    ·rename_i e;obtain⟨a1,a2⟩:=hI s (hlt s hs e) hb;exact⟨a1,by omega⟩
   ·rw[hset s hs,hset s' hs']at e;split at e<;>split at e
    ·rename_i e1 e2;rw[e1,e2]
    ·rename_i e1 e2;have:=(hI s' (hlt s' hs' e2) hb').2;omega
    ·rename_i e1 e2;have:=(hI s (hlt s hs e1) hb).2;omega
    ·rename_i e1 e2;exact hJ s s' (hlt s hs e1) (hlt s' hs' e2) hb hb' e
   ·rcases abP (Int.lt_add_one_iff.1 hq.2)with h|rfl
    ·obtain⟨s,h1,h2,h3⟩:=hK q ⟨hq.1,h⟩;have h4:dH ((i+1:Nat):Int) s:=⟨h1.1,by have:=h1.2;omega⟩;exact⟨s,h4,h2,by rw[hset s h4,if_neg (by have:=h1.2;omega)];exact h3⟩
    ·have h4:dH ((i+1:Nat):Int) (i:Int):=⟨by omega,by omega⟩;exact⟨i,h4,hbi.trans hki,by rw[hset _ h4,if_pos rfl]⟩
  ·have hlt: ∀s:Int,dH ((i+1:Nat):Int) s->bat keep s=true->dH (i:Int) s:=λ s hs hb=>⟨hs.1,by
    have:=hs.2;have:s≠(i:Int):=by rintro rfl;rw[hbi,hki]at hb;cases hb
    omega⟩
   exact Bd.aG (Bd.again ⟨num,c,hn,hc0,by omega,λ s hs hb=>hI s (hlt s hs hb) hb,λ s s' hs hs' hb hb' e=>hJ s s' (hlt s hs hb) (hlt s' hs' hb') hb hb' e,λ q hq=>by obtain⟨s,h1,h2,h3⟩:=hK q hq;exact⟨s,⟨h1.1,by have:=h1.2;omega⟩,h2,h3⟩,by rw[aA (by omega)]⟩)
 ·rintro t ⟨num,c,hn,hc0,hci,hI,hJ,hK,rfl⟩;unfold gu.L1;dsimp only;have e:((keep.length:Nat):Int)=S:=by omega
  rw[e]at hI hJ hK;exact Bd.no (decide_eq_false (by omega)) (Bd.done ⟨num,c,hn,hc0,by omega,hI,hJ,hK,rfl⟩)
 ·exact⟨_,0,by simp,by omega,by omega,λ s hs=>absurd hs.1 (by have:=hs.2;omega),λ s s' hs=>absurd hs.1 (by have:=hs.2;omega),λ q hq=>absurd hq.1 (by have:=hq.2;omega),rfl⟩
 rintro _ ⟨num,c,hn,hc0,hcS,hI,hJ,hK,rfl⟩;dsimp only;have hnl: ∀s,dH S s->s.toNat<num.length:=λ s hs=>by have:=hs.1;have:=hs.2;omega
 refine Tt.bind (R:=λ t=> ∃fin':List Int,fin'.length<=fin.length/\ahg (λ s=>bat keep s=true) (iat num) fin fin'/\t=(S,fin,rs,keep,(0:Int),([]:List Int),([]:List Rule),c,fin',([]:List Rule),num))
  (Tt.loop (Lp.count fin.length (λ i t=> ∃fin':List Int,fin'.length<=i/\ahg (λ s=>bat keep s=true) (iat num) (fin.take i) fin'/\t=(S,fin,rs,keep,(0:Int),([]:List Int),([]:List Rule),c,fin',([]:List Rule),num,fin,((fin.length:Nat):Int),(i:Int))) ?_ ?_ ⟨[],by simp,λ q=>by simp,rfl⟩)) ?_
 ·rintro i t hi ⟨fin',hf1,hf2,rfl⟩;unfold gu.L2;dsimp only;have hs:=hfin fin[i] (aag hi);refine Bd.yes (aT (by omega)) (Bd.nth hi ?_);rw[JG hk hs];refine Bd.aG (Bd.eU (λ hb=> ?_) (λ hb=> ?_))
  ·refine Bd.iU (rng hs.1 (by have:=hs.1;have:=hs.2;omega)) (Bd.fB (Bd.at (hnl _ hs) λ v _ hv=>Bd.iU (pY (by simp;omega)) (Bd.aG (Bd.again ⟨fin'++[v],by simp;omega,λ q=> ?_,by rw[aA (by omega)];rfl⟩))));rw[aau,hf2,aaD,aac hi,aam,←Js hv];constructor
   ·rintro(⟨s,h1,h2,h3⟩|h)
    ·exact⟨s,aaH _ h1,h2,h3⟩
    ·exact⟨fin[i],abl _ (by simp),hb,h⟩
   ·rintro⟨s,h1,h2,h3⟩;rcases aau.1 h1 with h1|h1
    ·exact .inl ⟨s,h1,h2,h3⟩
    ·simp only[abd,aam]at h1;rw[h1]at h3;exact .inr h3
  ·refine Bd.aG (Bd.again ⟨fin',by omega,λ q=> ?_,by rw[aA (by omega)]⟩);rw[hf2,aaD,aac hi];constructor
   ·rintro⟨s,h1,h2,h3⟩;exact⟨s,aaH _ h1,h2,h3⟩
   ·rintro⟨s,h1,h2,h3⟩;rcases aau.1 h1 with h1|h1
    ·exact⟨s,h1,h2,h3⟩
    ·simp only[abd,aam]at h1;rw[h1,hb]at h2;cases h2
 ·rintro t ⟨fin',hf1,hf2,rfl⟩;unfold gu.L2;dsimp only;rw[aaC]at hf2;exact Bd.no (decide_eq_false (by omega)) (Bd.done ⟨fin',hf1,hf2,rfl⟩)
 rintro _ ⟨fin',hf1,hf2,rfl⟩;dsimp only
 refine Tt.bind (R:=λ t=> ∃rs':List Rule,rs'.length<=rs.length/\Ren (λ s=>bat keep s=true) (iat num) rs rs'/\t=((0:Int),([]:List Int),([]:List Rule),c,fin',rs'))
  (Tt.loop (Lp.count rs.length (λ i t=> ∃rs':List Rule,rs'.length<=i/\Ren (λ s=>bat keep s=true) (iat num) (rs.take i) rs'/\t=(keep,(0:Int),([]:List Int),([]:List Rule),c,fin',rs',num,rs,((rs.length:Nat):Int),(i:Int))) ?_ ?_ ⟨[],by simp,λ q=>by simp,rfl⟩)) ?_
 ·rintro i t hi ⟨rs',hf1,hf2,rfl⟩;unfold gu.L4;dsimp only;obtain⟨hto,hfr,hfl3⟩:=hr rs[i] (aag hi)
  have skip: ¬(bat keep rs[i].2.2=true/\ ∀s∈rs[i].2.1,bat keep s=true)->Ren (λ s=>bat keep s=true) (iat num) (rs.take (i+1)) rs':=by
   intro hn q;rw[hf2,aaD,aac hi];constructor
   ·rintro⟨s,h1,h2⟩;exact⟨s,aaH _ h1,h2⟩
   ·rintro⟨s,h1,h2,h3,h4⟩;rcases aau.1 h1 with h1|h1
    ·exact⟨s,h1,h2,h3,h4⟩
    ·simp only[abd,aam]at h1;subst h1;exact absurd ⟨h2,h3⟩ hn
  have main:bat keep rs[i].2.2=true->(∀s∈rs[i].2.1,bat keep s=true)->Ren (λ s=>bat keep s=true) (iat num) (rs.take (i+1)) (rs'++[(rs[i].1,rs[i].2.1.map (iat num),iat num rs[i].2.2)]):=by
   intro hb1 hb2 q;rw[aau,hf2,aaD,aac hi,aam];constructor
   ·rintro(⟨s,h1,h2⟩|h)
    ·exact⟨s,aaH _ h1,h2⟩
    ·exact⟨rs[i],abl _ (by simp),hb1,hb2,h⟩
   ·rintro⟨s,h1,h2,h3,h4⟩;rcases aau.1 h1 with h1|h1
    ·exact .inl ⟨s,h1,h2,h3,h4⟩
    ·simp only[abd,aam]at h1;rw[h1]at h4;exact .inr h4
  refine Bd.yes (aT (by omega)) (Bd.nth hi (Bd.fB ?_));rw[JG hk hto];refine Bd.aG (Bd.eU (λ hb=> ?_) (λ hb=> ?_))
  ·have hb:bat keep rs[i].2.2=false:=by simpa using hb
   exact Bd.aG (Bd.yes rfl (Bd.again ⟨rs',by omega,skip (λ h=>by rw[hb]at h;cases h.1),by dsimp only;rw[aA (by omega)]⟩))
  ·have hb:bat keep rs[i].2.2=true:=by simpa using hb
   refine Bd.fB (Bd.bind (hC S rs[i].2.1 keep hk hfr (by omega)) ?_);intro b hbb;refine Bd.aG (Bd.ite (λ hc=> ?_) (λ hc=> ?_))
   ·have hc:b=true:=hc;refine Bd.again ⟨rs',by omega,skip λ h=> ?_,by dsimp only;rw[aA (by omega)]⟩;rw[hc]at hbb;obtain⟨s,hs,hn⟩:=abV.1 hbb.symm;rw[h.2 s hs]at hn;cases hn
   ·have hc:b=false:=hc;rw[hc]at hbb;have hall:=Xy.all hbb.symm;dsimp only;refine Bd.chk (wP (by omega) (by omega)) (Bd.chk (rng hto.1 (by have:=hto.1;have:=hto.2;omega)) (Bd.at (hnl _ hto) λ v _ hv=> ?_));rw[ahs (by rw[abJ,aat])]
    refine Bd.bind (R:=λ t=>t=(keep,(0:Int),([]:List Int),([]:List Rule),c,fin',rs',num,rs[i].1,rs[i].2.1.map (iat num),v,rs,((rs.length:Nat):Int),(i:Int)))
     (Tt.loop (L:=λ n=>gu.L3) (Lp.count rs[i].2.1.length (λ j t=>t=(keep,(0:Int),([]:List Int),([]:List Rule),c,fin',rs',num,rs[i].1,(rs[i].2.1.take j).map (iat num)++rs[i].2.1.drop j,v,rs,((rs.length:Nat):Int),(i:Int),((rs[i].2.1.length:Nat):Int),(j:Int))) ?_ ?_ rfl)) ?_
    ·rintro j t hj rfl;unfold gu.L3;dsimp only;have hl:((rs[i].2.1.take j).map (iat num)++rs[i].2.1.drop j).length=rs[i].2.1.length:=by simp;omega
     have hs:=hfr _ (aag hj);refine Bd.yes (aT (by omega)) (Bd.chk (rng (by omega) (by omega)) ?_);rw[aat];refine Bd.at (by omega) λ e _ he=> ?_;rw[agC hj]at he;cases he;refine Bd.chk (rng hs.1 (by have:=hs.1;have:=hs.2;omega)) (Bd.at (hnl _ hs) λ v2 _ hv2=> ?_);refine Bd.chk (rng (by omega) (by omega)) (Bd.at (by omega) λ e2 _ _=>Bd.again ?_);rw[aA (by omega),←Js hv2,ada hj]
    ·rintro t rfl;unfold gu.L3;dsimp only;rw[aaC,acF,aaQ];exact Bd.no (decide_eq_false (by omega)) (Bd.done rfl)
    ·rintro _ rfl;dsimp only;refine Bd.chk (pY (by simp;omega)) (Bd.again ⟨_,?_,main hb hall,by rw[aA (by omega),Js hv];rfl⟩);simp;omega
 ·rintro t ⟨rs',hf1,hf2,rfl⟩;unfold gu.L4;dsimp only;rw[aaC]at hf2;exact Bd.no (decide_eq_false (by omega)) (Bd.done ⟨rs',hf1,hf2,rfl⟩)
 rintro _ ⟨rs',hl',hf3,rfl⟩;dsimp only;refine Tt.bind (hF rs' (by omega) λ r' hr'=> ?_) ?_
 ·obtain⟨r,h1,_,_,e⟩:=(hf3 r').1 hr';rw[e];simpa using(hr r h1).2.2
 ·rintro out ⟨ho1,ho2,ho3⟩;have hren:Ren (λ s=>bat keep s=true) (iat num) rs out:=λ r'=>(ho2 r').trans (hf3 r');refine Tt.pure ⟨⟨⟨hc0,by dsimp only;omega,by dsimp only;omega,by dsimp only;omega,λ q hq=> ?_,λ r' hr'=> ?_⟩,hcS⟩,iat num,hJ,hf2,hren,hI,hK,by dsimp only;omega,ho3⟩
  ·obtain⟨s,h1,h2,e⟩:=(hf2 q).1 hq;rw[e];exact hI s (hfin s h1) h2
  ·obtain⟨r,h1,h2,h3,e⟩:=(hren r').1 hr';obtain⟨b1,b2,b3⟩:=hr r h1;rw[e];refine⟨hI _ b1 h2,λ q hq=> ?_,by simpa using b3⟩;obtain⟨s,hs,e⟩:=aaL.1 hq;rw[←e];exact hI s (b2 s hs) (h3 s hs)
def Uni (rs:List Rule):Prop:= ∀t q q',Reach rs t q->Reach rs t q'->q=q'
theorem Closed.reach {rs:List Rule} {R:List Bool} (h:Closed rs R) (t:RT Int): ∀q,Reach rs t q->bat R q=true:=by
 induction t using yA with
 |h a ks ih=>
  intro q hq;obtain⟨r,hr,h1,h2,h3,h4⟩:=dD.1 hq;rw[←h2];refine h r hr λ s hs=> ?_;obtain⟨i,hi,e⟩:=aay hs;have hik:i<ks.length:=by omega
  exact ih ks[i] (aag hik) s (h4 i ks[i] s (aac hik) (by rw[aac hi,e]))
theorem WQ {S:Int} {fin:List Int} {rs rs':List Rule} {keep:List Bool} {ν:Int->Int} (hr: ∀r∈rs,dH S r.2.2/\ ∀q∈r.2.1,dH S q)
 (hν: ∀s s',dH S s->dH S s'->bat keep s=true->bat keep s'=true->ν s=ν s'->s=s') (hR:Ren (λ s=>bat keep s=true) ν rs rs') (t:RT Int):
 ∀q,Reach rs' t q-> ∃s,dH S s/\bat keep s=true/\q=ν s/\Reach rs t s:=by
 induction t using yA with
 |h a ks ih=>
  intro q hq;obtain⟨r',hr',h1,h2,h3,h4⟩:=dD.1 hq;obtain⟨r,a1,a2,a3,e⟩:=(hR r').1 hr';subst e;simp only[aaN]at h3;refine⟨r.2.2,(hr r a1).1,a2,h2.symm,dD.2 ⟨r,a1,h1,rfl,h3,λ i k f hk hf=> ?_⟩⟩;have hfm:f∈r.2.1:=aak hf;obtain⟨s,b1,b2,b3,b4⟩:=ih k (aak hk) (ν f) (h4 i k (ν f) hk (by rw[aar,hf];rfl))
  rwa [hν f s ((hr r a1).2 f hfm) b1 (a3 f hfm) b2 b3]
theorem QO {fin:List Int} {rs rs':List Rule} {R keep:List Bool} {ν:Int->Int} (hcl:Closed rs R) (hU:Useful fin rs R keep) (hR:Ren (λ s=>bat keep s=true) ν rs rs') (t:RT Int):
 ∀s,Reach rs t s->bat keep s=true->Reach rs' t (ν s):=by
 induction t using yA with
 |h a ks ih=>
  intro s hs hb;obtain⟨r,hr,h1,h2,h3,h4⟩:=dD.1 hs;subst h2
  have hfr: ∀f∈r.2.1,∃(i:Nat) (k:RT Int),ks[i]? =some k/\r.2.1[i]? =some f:=λ f hf=>by
   obtain⟨i,hi,e⟩:=aay hf;exact⟨i,ks[i],aac (by omega),by rw[aac hi,e]⟩
  have hall:=hU.2 r hr hb λ f hf=>by
   obtain⟨i,k,e1,e2⟩:=hfr f hf;exact hcl.reach k f (h4 i k f e1 e2)
  refine dD.2 ⟨_,(hR _).2 ⟨r,hr,hb,hall,rfl⟩,h1,rfl,by simpa using h3,λ i k f hk hf=> ?_⟩;simp only[aar,aaG]at hf;obtain⟨f0,e,rfl⟩:=hf;exact ih k (aak hk) f0 (h4 i k f0 hk e) (hall f0 (aak e))
theorem ac1 {S:Int} {fin:List Int} {rs:List Rule} {keep R:List Bool} {a:Aut} (hw:Wf S fin rs) (hcl:Closed rs R) (hU:Useful fin rs R keep) (h:wG S fin rs keep a) (t:RT Int):Acc a.2.2 a.2.1 t ↔ Acc rs fin t:=by
 obtain⟨_,ν,hν,hf,hR,_⟩:=h;have hr: ∀r∈rs,dH S r.2.2/\ ∀q∈r.2.1,dH S q:=λ r h=>⟨(hw.2.2.2.2.2 r h).1,(hw.2.2.2.2.2 r h).2.1⟩;constructor
 ·rintro⟨q,h1,h2⟩;obtain⟨s,b1,b2,b3,b4⟩:=WQ (fin:=fin) hr hν hR t q h1;obtain⟨s',c1,c2,c3⟩:=(hf q).1 h2;have:s=s':=hν s s' b1 (hw.2.2.2.2.1 s' c1) b2 c2 (b3.symm.trans c3);exact⟨s,b4,this▸c1⟩
 ·rintro⟨s,h1,h2⟩;have hb:=hU.1 s h2 (hcl.reach t s h1);exact⟨ν s,QO hcl hU hR t s h1 hb,(hf _).2 ⟨s,h2,hb,rfl⟩⟩
theorem ac2 {S:Int} {fin:List Int} {rs:List Rule} {keep:List Bool} {a:Aut} (hw:Wf S fin rs) (h:wG S fin rs keep a) (hd: ∀r∈rs,∀r'∈rs,r.1=r'.1->r.2.1=r'.2.1->r.2.2=r'.2.2):
 ∀r∈a.2.2,∀r'∈a.2.2,r.1=r'.1->r.2.1=r'.2.1->r.2.2=r'.2.2:=by
 obtain⟨_,ν,hν,hf,hR,_⟩:=h;intro x hx y hy e1 e2;obtain⟨r,a1,a2,a3,rfl⟩:=(hR x).1 hx;obtain⟨r',b1,b2,b3,rfl⟩:=(hR y).1 hy;have hl:r.2.1.length=r'.2.1.length:=by have:=congrArg List.length e2;simpa using this
 have he:r.2.1=r'.2.1:=List.ext_getElem hl λ i hi hi'=>by
  have:=congrArg (λ l=>l[i]?) e2;simp only[aar,aac hi,aac hi',aaK,aae]at this;have m1:=aag hi;have m2:=aag hi';exact hν _ _ ((hw.2.2.2.2.2 r a1).2.1 _ m1) ((hw.2.2.2.2.2 r' b1).2.1 _ m2) (a3 _ m1) (b3 _ m2) this
 show ν r.2.2=ν r'.2.2;rw[hd r a1 r' b1 e1 he]
def dval (l:List Int):Nat:=l.foldl (λ a d=>10*a+(d.toNat-48)) 0
theorem Ea: ∀(f u:Nat),u<10^(f+1)->dval (BI f u)=u
 |0,u,h=>by simp[BI,dval];omega
 |f+1,u,h=>by
  unfold BI
  cases hb:Nat.blt u 10 with
  |true=>rw[cond_true];simp[dval];omega
  |false=>
   rw[cond_false];have h1:u/10<10^(f+1):=by rw[Nat.pow_succ]at h;omega
   have:=Ea f (u/10) h1;unfold dval at this ⊢;rw[List.foldl_append,this];simp;omega
theorem zY: ∀(f u:Nat),∀c∈BI f u,(48:Int)<=c/\c<=57
 |0,u,c,h=>by simp only[BI,aam]at h;omega
 |f+1,u,c,h=>by
  unfold BI at h
  cases hb:Nat.blt u 10 with
  |true=>
   rw[hb,cond_true,aam]at h;have:u<10:=aa6 hb;omega
  |false=>
   rw[hb,cond_false,aau,aam]at h;rcases h with h|h
   ·exact zY f _ c h
   ·omega
theorem IU: ∀(f u:Nat),(BI f u).length<=f+1
 |0,u=>by simp[BI]
 |f+1,u=>by
  unfold BI
  cases hb:Nat.blt u 10 with
  |true=>rw[cond_true];simp
  |false=>rw[cond_false];have:=IU f (u/10);simp;omega
def afH (c:Int):Prop:=c=45\/(48<=c/\c<=57)
theorem zZ (v:Int): ∀c∈dig v,afH c:=by
 intro c h;unfold dig at h;cases hv:decide (v<0)with
 |true=>
  rw[hv,cond_true,aaR]at h;rcases h with h|h
  ·exact .inl h
  ·exact .inr (zY _ _ c h)
 |false=>rw[hv,cond_false]at h;exact .inr (zY _ _ c h)
theorem NQ (v:Int):(dig v).length<=22:=by
 unfold dig;cases hv:decide (v<0)with
 |true=>rw[cond_true];have:=IU 20 v.natAbs;simp;omega
 |false=>rw[cond_false];have:=IU 20 v.toNat;omega
def I64 (v:Int):Prop:= -9223372036854775808<=v/\v<9223372036854775808
theorem X6 {v w:Int} (hv:I64 v) (hw:I64 w) (h:dig v=dig w):v=w:=by
 have hp:(10:Nat)^(20+1)=1000000000000000000000:=by decide
 obtain⟨v0,v1⟩:=hv;obtain⟨w0,w1⟩:=hw;unfold dig at h;cases e1:decide (v<0)<;>cases e2:decide (w<0)<;>rw[e1,e2]at h<;>simp only[cond_true,cond_false]at h
 ·have a:=congrArg dval h;rw[Ea 20 _ (by omega),Ea 20 _ (by omega)]at a;have:=of_decide_eq_false e1;have:=of_decide_eq_false e2;omega
 ·have:=zY 20 v.toNat 45 (by rw[h];simp);omega
 ·have:=zY 20 w.toNat 45 (by rw[←h];simp);omega
 ·have a:=congrArg dval (abI h).2;rw[Ea 20 _ (by omega),Ea 20 _ (by omega)]at a;have:=of_decide_eq_true e1;have:=of_decide_eq_true e2;omega
def enc (l:List (Int×Int)):List Int:=l.flatMap λ p=>p.1::dig p.2
theorem run_eq {P:Int->Prop}: ∀(A B X Y:List Int),(∀c∈A,P c)->(∀c∈B,P c)->(∀c,X.head? =some c-> ¬P c)->(∀c,Y.head? =some c-> ¬P c)->A++X=B++Y->A=B/\X=Y
 | [],[],X,Y,_,_,_,_,h=>⟨rfl,h⟩
 | [],b::B,X,Y,_,hB,hX,_,h=>by
   have h:X=b::(B++Y):=h;exact absurd (hB b (by simp)) (hX b (by rw[h];rfl))
 |a::A,[],X,Y,hA,_,_,hY,h=>by
  have h:a::(A++X)=Y:=h;exact absurd (hA a (by simp)) (hY a (by rw[←h];rfl))
 |a::A,b::B,X,Y,hA,hB,hX,hY,h=>by
  have h:a::(A++X)=b::(B++Y):=h;obtain⟨e,h⟩:=abI h;obtain⟨e2,e3⟩:=run_eq A B X Y (λ c hc=>hA c (by simp[hc])) (λ c hc=>hB c (by simp[hc])) hX hY h;exact⟨by rw[e,e2],e3⟩
def ZT (l:List (Int×Int)):Prop:= ∀p∈l,¬afH p.1/\I64 p.2
theorem Ib {l:List (Int×Int)} (h:ZT l): ∀c,(enc l).head? =some c-> ¬afH c:=by
 cases l with
 |nil=>intro c hc;simp[enc]at hc
 |cons p l=>intro c hc;simp[enc]at hc;rw[←hc];exact(h p (by simp)).1
theorem Yb: ∀(l l':List (Int×Int)),ZT l->ZT l'->enc l=enc l'->l=l'
 | [],[],_,_,_=>rfl
 | [],p::l',_,_,h=>by simp[enc]at h
 |p::l,[],_,_,h=>by simp[enc]at h
 |p::l,p'::l',h1,h2,h=>by
  have h:p.1::(dig p.2++enc l)=p'.1::(dig p'.2++enc l'):=by simpa [enc]using h
  obtain⟨e,h⟩:=abI h;have s1:ZT l:=λ q hq=>h1 q (by simp[hq]);have s2:ZT l':=λ q hq=>h2 q (by simp[hq]);obtain⟨e2,e3⟩:=run_eq (P:=afH) _ _ _ _ (zZ _) (zZ _) (Ib s1) (Ib s2) h;have:=X6 (h1 p (by simp)).2 (h2 p' (by simp)).2 e2;rw[Yb l l' s1 s2 e3,acM e this]
theorem Vo {v v':Int} {l l':List (Int×Int)} (hv:I64 v) (hv':I64 v') (h1:ZT l) (h2:ZT l') (h:dig v++enc l=dig v'++enc l'):v=v'/\l=l':=by
 obtain⟨e2,e3⟩:=run_eq (P:=afH) _ _ _ _ (zZ _) (zZ _) (Ib h1) (Ib h2) h;exact⟨X6 hv hv' e2,Yb l l' h1 h2 e3⟩
theorem bytes_inj {l l':List Int} (h1: ∀c∈l,0<=c/\c<256) (h2: ∀c∈l',0<=c/\c<256) (h:wo l=wo l'):l=l':=by
 have h:(l.map λ n=>UInt8.ofNat n.toNat)=l'.map λ n=>UInt8.ofNat n.toNat:=by
  have:=congrArg (λ b=>b.data.toList) h;simpa [wo]using this
 have inj: ∀c d:Int,0<=c/\c<256->0<=d/\d<256->UInt8.ofNat c.toNat=UInt8.ofNat d.toNat->c=d:=by
  intro c d hc hd e;have:=congrArg UInt8.toNat e;simp only[UInt8.toNat_ofNat']at this;omega
 have key: ∀l l':List Int,(∀c∈l,0<=c/\c<256)->(∀c∈l',0<=c/\c<256)->(l.map λ n=>UInt8.ofNat n.toNat)=(l'.map λ n=>UInt8.ofNat n.toNat)->l=l':=by
  intro l
  induction l with
  |nil=>intro l' _ _ h;cases l' with
   |nil=>rfl
   |cons b l'=>cases h
  |cons a l ih=>intro l' h1 h2 h;cases l' with
   |nil=>cases h
   |cons b l'=>
    obtain⟨e1,e2⟩:=abI h;rw[inj a b (h1 a (by simp)) (h2 b (by simp)) e1,ih l' (λ c hc=>h1 c (aaX _ hc)) (λ c hc=>h2 c (aaX _ hc)) e2]
 exact key l l' h1 h2 h
theorem Ee {v:Int} {l:List (Int×Int)} (h: ∀p∈l,0<=p.1/\p.1<256): ∀c∈dig v++enc l,0<=c/\c<256:=by
 have hd: ∀v,∀c∈dig v,0<=c/\c<256:=λ v c hc=>by rcases zZ v c hc with h|h<;>omega
 intro c hc;rcases aau.1 hc with hc|hc
 ·exact hd v c hc
 ·obtain⟨p,hp,hc⟩:=acr.1 hc;rcases aaR.1 hc with rfl|hc
  ·exact h p hp
  ·exact hd _ c hc
theorem Yc (l:List (Int×Int)):(enc l).length<=23*l.length:=by
 induction l with
 |nil=>simp[enc]
 |cons p l ih=>
  have e:enc (p::l)=(p.1::dig p.2)++enc l:=rfl;have:=NQ p.2;rw[e,aap,abe,abe];omega
abbrev aho (A:Nat->List Int×Int×Int->Option (List Int)):Prop:= ∀b v,b.length<=1000000000->I64 v->Sp A (b,v,(10:Int)) (λ r=>r=b++dig v)
def LD (s:Int) (l:List Int):ByteArray:=wo (dig s++enc (l.map λ q=>((44:Int),q)))
theorem N8 (l:List (Int×Int)) (c v:Int):enc (l++[(c,v)])=(enc l++[c])++dig v:=by
 unfold enc;rw[List.flatMap_append,aaA];simp
theorem aha {A:Nat->List Int×Int×Int->Option (List Int)} (hA:aho A) (s:Int) (l:List Int) (hs:I64 s) (hl: ∀q∈l,I64 q) (hll:l.length<=1000000):Sp (λ n=>qC.P (A n) n) (s,l) (λ r=>r=LD s l):=by
 show Tt (λ n=>qC.P (A n) n (s,l)) _;unfold qC.P;dsimp only;refine Tt.bind (hA [] s (by simp) hs) ?_;rintro _ rfl
 refine Tt.bind (R:=λ b=>b=dig s++enc (l.map λ q=>((44:Int),q)))
  (Tt.loop (L:=λ n=>qC.L1 (A n)) (Lp.count l.length (λ i t=>t=(dig s++enc ((l.take i).map λ q=>((44:Int),q)),l,((l.length:Nat):Int),(i:Int))) ?_ ?_ (by simp[enc]))) λ b hb=>Tt.pure (by rw[hb];rfl)
 ·rintro i t hi rfl;unfold qC.L1;dsimp only
  have hb:(dig s++enc ((l.take i).map λ q=>((44:Int),q))).length<=22+23*i:=by
   have:=NQ s;have:=Yc ((l.take i).map λ q=>((44:Int),q));rw[aaN,aaB]at this;rw[aap];omega
  refine Bd.yes (aT (by omega)) (Bd.nth hi (Bd.chk (pY (by rw[aaT];omega)) (Bd.bind (hA _ l[i] (by show List.length (_++_)<=_;rw[aap,aaT];omega) (hl _ (aag hi))) ?_)));rintro _ rfl;refine Bd.again ?_;rw[aA (by omega),aaD,aac hi,abz];show(_++_++_,_)=(_++enc (_++[((44:Int),l[i])]),_);rw[N8];simp
 ·rintro t rfl;unfold qC.L1;dsimp only;rw[aaC];exact Bd.no (decide_eq_false (by omega)) (Bd.done rfl)
theorem key_inj {s s':Int} {l l':List Int} (hs:I64 s) (hs':I64 s') (hl: ∀q∈l,I64 q) (hl': ∀q∈l',I64 q) (h:LD s l=LD s' l'):s=s'/\l=l':=by
 have b: ∀l:List Int,∀p∈l.map (λ q=>((44:Int),q)),0<=p.1/\p.1<256:=λ l p hp=>by obtain⟨q,_,rfl⟩:=aaL.1 hp;exact⟨show(0:Int)<=44 by decide,show(44:Int)<256 by decide⟩
 have se: ∀l:List Int,(∀q∈l,I64 q)->ZT (l.map (λ q=>((44:Int),q))):=λ l h p hp=>by
  obtain⟨q,hq,rfl⟩:=aaL.1 hp;exact⟨λ h=>by rcases h with h|h<;>omega,h q hq⟩
 obtain⟨e1,e2⟩:=Vo hs hs' (se l hl) (se l' hl') (bytes_inj (Ee (b l)) (Ee (b l')) h);refine⟨e1,?_⟩;have:=congrArg (List.map Prod.snd) e2;rw[abN,abN]at this;have e:(Prod.snd∘λ q:Int=>((44:Int),q))=id:=rfl
 rwa [e,List.map_id,List.map_id]at this
def Det (rs:List Rule):Prop:= ∀r∈rs,∀r'∈rs,r.1=r'.1->r.2.1=r'.2.1->r.2.2=r'.2.2
theorem Det.uni {rs:List Rule} (h:Det rs):Uni rs:=by
 intro t
 induction t using yA with
 |h a ks ih=>
  intro q q' hq hq';obtain⟨r,hr,h1,h2,h3,h4⟩:=dD.1 hq;obtain⟨r',hr',g1,g2,g3,g4⟩:=dD.1 hq';rw[←h2,←g2];refine h r hr r' hr' (h1.trans g1.symm) (List.ext_getElem (h3.trans g3.symm) λ i hi hi'=> ?_);have hk:i<ks.length:=by omega
  exact ih _ (aag hk) _ _ (h4 i _ _ (aac hk) (aac hi)) (g4 i _ _ (aac hk) (aac hi'))
def FY (rs:List Rule):Prop:= ∀(j k:Nat) (r r':Rule),j<k->rs[j]? =some r->rs[k]? =some r'-> ¬(r.1=r'.1/\r.2.1=r'.2.1)
theorem H6 {V:Nat->List Int×Int×List Int×List Rule->Option Bool} {K:Nat->Int×List Int->Option ByteArray} (hK: ∀s l,I64 s->(∀q∈l,I64 q)->l.length<=1000000->Sp K (s,l) (λ r=>r=LD s l))
 (al:List Int) (S:Int) (fin:List Int) (rs:List Rule) (hV:Sp V (al,S,fin,rs) (λ r=>r=true ↔ dV al (S,fin,rs))):
 Sp (λ n=>dW.P (V n) (K n) n) (al,S,fin,rs) (λ r=>(dV al (S,fin,rs)/\r.2=0/\(r.1=true->Det rs)/\(FY rs->r.1=true))\/(¬dV al (S,fin,rs)/\r.2=1)):=by
 show Tt (λ n=>dW.P (V n) (K n) n (al,S,fin,rs)) _;unfold dW.P;dsimp only;refine Tt.bind hV λ b hb=> ?_;by_cases hv:dV al (S,fin,rs)
 ·have hb:b=true:=hb.2 hv;subst hb;refine Tt.no rfl ?_;have hw:=hv.wf
  have i64: ∀r∈rs,I64 r.1/\ ∀q∈r.2.1,I64 q:=λ r hr=>by
   have h1:=hv.rule hr;have h2:=hv.1.1;have h3:=hw.2.2.2.2.2 r hr;have h4:=hw.2.1;refine⟨⟨by have:=h1.1;omega,by have:=h1.2.1;omega⟩,λ q hq=> ?_⟩;have h5:=h3.2.1 q hq;dsimp only at h4 h5;exact⟨by have:=h5.1;omega,by have:=h5.2;omega⟩
  refine Tt.bind (R:=λ t=>(t= .inl ()/\Det rs)\/(t= .inr (false,(0:Int))/\ ¬FY rs))
   (Tt.loop (L:=λ n=>dW.L1 (K n)) (Lp.count rs.length (λ i t=> ∃m:List (ByteArray×Bool),t=(some m,rs,((rs.length:Nat):Int),(i:Int))/\(∀(j:Nat) (r:Rule),j<i->rs[j]? =some r->og seq (LD r.1 r.2.1) m=some true)/\(∀(k:ByteArray) (v:Bool),og seq k m=some v-> ∃(j:Nat) (r:Rule),j<i/\rs[j]? =some r/\k=LD r.1 r.2.1)/\
    ∀(j k:Nat) (r r':Rule),j<k->k<i->rs[j]? =some r->rs[k]? =some r'-> ¬(r.1=r'.1/\r.2.1=r'.2.1)) ?_ ?_ ⟨[],rfl,λ j r h=>absurd h (by omega),λ k v h=>(by cases h),λ j k r r' h h'=>absurd h' (by omega)⟩)) ?_
  ·rintro i t hi ⟨m,rfl,hm,hm2,hd⟩;unfold dW.L1;dsimp only;obtain⟨h1,h2⟩:=i64 rs[i] (aag hi);have h3:=(hw.2.2.2.2.2 rs[i] (aag hi)).2.2;have h4:=hw.2.2.2.1;dsimp only at h4;refine Bd.yes (aT (by omega)) (Bd.nth hi (Bd.bind (hK _ _ h1 h2 (by omega)) ?_));rintro _ rfl;refine Bd.ite (λ hc=>Bd.done (.inr ⟨rfl,λ hn=> ?_⟩)) (λ hc=> ?_)
   ·have hex: ∃v,og seq (LD rs[i].1 rs[i].2.1) m=some v:=by
     cases e:og seq (LD rs[i].1 rs[i].2.1) m with
     |some v=>exact⟨v,rfl⟩
     |none=>rw[show l9 (some m)=m from rfl,e]at hc;cases hc
    obtain⟨v,hv'⟩:=hex;obtain⟨j,r,hj,hr,e⟩:=hm2 _ v hv';obtain⟨g1,g2⟩:=i64 r (aak hr);obtain⟨e1,e2⟩:=key_inj h1 g1 h2 g2 e;exact hn j i r rs[i] hj hr (aac hi) ⟨e1.symm,e2.symm⟩
   refine Bd.again ⟨_,by rw[aA (by omega)],λ j r hj hr=> ?_,λ k v hk=> ?_,λ j k r r' hjk hk hr hr'=> ?_⟩
   ·rw[qQ Bo];split
    ·rfl
    ·rename_i hne;rcases aaY (aa8 hj)with h|rfl
     ·exact hm j r h hr
     ·rw[aac hi]at hr;cases hr;exact absurd rfl hne
   ·rw[qQ Bo]at hk;split at hk
    ·rename_i e;exact⟨i,rs[i],by omega,aac hi,e⟩
    ·obtain⟨j,r,a,b,c⟩:=hm2 k v hk;exact⟨j,r,by omega,b,c⟩
   ·rcases aaY (aa8 hk)with h|rfl
    ·exact hd j k r r' hjk h hr hr'
    ·rintro⟨e1,e2⟩;rw[aac hi]at hr';cases hr';have:=hm j r hjk hr;rw[e1,e2]at this;rw[show l9 (some m)=m from rfl,this]at hc;cases hc
  ·rintro t ⟨m,rfl,hm,_,hd⟩;unfold dW.L1;dsimp only;refine Bd.no (decide_eq_false (by omega)) (Bd.done (.inl ⟨rfl,λ r hr r' hr' e1 e2=> ?_⟩));obtain⟨j,hj,rfl⟩:=aay hr;obtain⟨k,hk,rfl⟩:=aay hr';rcases acE j k with h|rfl|h
   ·exact absurd ⟨e1,e2⟩ (hd j k _ _ h hk (aac hj) (aac hk))
   ·rfl
   ·exact absurd ⟨e1.symm,e2.symm⟩ (hd k j _ _ h hj (aac hk) (aac hj))
  ·rintro _ (⟨rfl,h⟩|⟨rfl,h⟩)
   ·exact Tt.pure (.inl ⟨hv,rfl,λ _=>h,λ _=>rfl⟩)
   ·exact Tt.pure (.inl ⟨hv,rfl,λ h=>(by cases h),λ h2=>absurd h2 h⟩)
 ·have hb:b=false:=by cases b with|false=>rfl|true=>exact absurd (hb.1 rfl) hv
  subst hb;exact Tt.yes rfl (Tt.pure (.inr ⟨hv,rfl⟩))
theorem wrap_u64 {n:Nat} (h:n<18446744073709551616):IntKind.wrap .u64 (n:Int)=(n:Int):=by
 simp only[IntKind.wrap,IntKind.signed,IntKind.bits,Bool.false_and,aa3,if_false];omega
theorem wrap_u8 {n:Nat} (h:n<256):IntKind.wrap .u8 (n:Int)=(n:Int):=by
 simp only[IntKind.wrap,IntKind.signed,IntKind.bits,Bool.false_and,aa3,if_false];omega
theorem Ey {n:Nat} (h:n<18446744073709551616):(BitVec.ofInt (IntKind.bits .u64) (n:Int)).toNat=n:=by
 show(BitVec.ofInt 64 (n:Int)).toNat=n;rw[BitVec.toNat_ofInt];omega
theorem XM {x:Nat} (h:x<256):Go.bits .and .u64 (x:Int) 1=((x % 2:Nat):Int):=by
 have e:(BitVec.ofInt (IntKind.bits .u64) (x:Int) &&& BitVec.ofInt (IntKind.bits .u64) 1).toNat=x % 2:=by
  rw[BitVec.toNat_and,Ey (by omega)];have:=Ey (n:=1) (by omega);rw[show((1:Nat):Int)=1 from rfl]at this;rw[this,Nat.and_one_is_mod]
 show IntKind.wrap .u64 (((BitVec.ofInt (IntKind.bits .u64) (x:Int) &&& BitVec.ofInt (IntKind.bits .u64) 1).toNat:Nat):Int)=_;rw[e,wrap_u64 (by omega)]
theorem aeg {a b:Nat} (ha:a<256) (hb:b<256):Go.bits .or .u64 (a:Int) (b:Int)=((a ||| b:Nat):Int):=by
 have e:(BitVec.ofInt (IntKind.bits .u64) (a:Int) ||| BitVec.ofInt (IntKind.bits .u64) (b:Int)).toNat=a ||| b:=by
  rw[BitVec.toNat_or,Ey (by omega),Ey (by omega)]
 show IntKind.wrap .u64 (((BitVec.ofInt (IntKind.bits .u64) (a:Int) ||| BitVec.ofInt (IntKind.bits .u64) (b:Int)).toNat:Nat):Int)=_;have:a ||| b<2^8:=Nat.or_lt_two_pow ha hb;rw[e,wrap_u64 (by omega)]
def yJ (s:List Int):Prop:= ∃w:Nat,w<256/\s= [(w:Int)]
def DY (s:List Int) (v:Int):Bool:=(s[0]?.getD 0).toNat.testBit v.toNat
theorem EY (w:Nat) (v:Int):DY [(w:Int)] v=w.testBit v.toNat:=rfl
theorem afb {s s':List Int} (h:yJ s) (h':yJ s') (hm: ∀v:Int,0<=v->v<8->DY s v=DY s' v):s=s':=by
 obtain⟨w,hw,rfl⟩:=h;obtain⟨w',hw',rfl⟩:=h'
 have:w=w':=Nat.eq_of_testBit_eq λ i=>by
  rcases aaE i 8 with h|h
  ·exact hm (i:Int) (by omega) (by omega)
  ·have h2:256<=2^i:=Nat.pow_le_pow_right (n:=2) (by omega) (show 8<=i from h);rw[Nat.testBit_lt_two_pow (by omega),Nat.testBit_lt_two_pow (by omega)]
 rw[this]
theorem Zg {s:List Int} (h:yJ s) {v:Int} (hv:DY s v=true) (h0:0<=v):v<8:=by
 obtain⟨w,hw,rfl⟩:=h;rcases acJ v 8 with h|h
 ·exact h
 ·rw[EY,Nat.testBit_lt_two_pow]at hv
  ·cases hv
  ·have h2:256<=2^v.toNat:=Nat.pow_le_pow_right (n:=2) (by omega) (show 8<=v.toNat by omega);omega
theorem aht {v:Int} (h0:0<=v) (h8:v<8):IntKind.wrap .i64 (Int.tdiv v 64)=0:=by
 rw[ab2 h0,Int.ediv_eq_zero_of_lt h0 (by omega)];rfl
theorem ail {v:Int} (h0:0<=v) (h8:v<8):Int.tmod v 64=v:=by
 rw[Int.tmod_eq_emod_of_nonneg h0,Int.emod_eq_of_lt h0 (by omega)]
theorem ZG (n w v:Nat) (hw:w<256) (hv:v<64):lq.P n ([(w:Int)],(v:Int))=some (DY [(w:Int)] (v:Int)):=by
 unfold lq.P;dsimp only
 have d:IntKind.wrap .i64 (Int.tdiv (v:Int) 64)=0:=by
  rw[ab2 (by omega),Int.ediv_eq_zero_of_lt (by omega) (by omega)];rfl
 have m:Int.tmod (v:Int) 64=(v:Int):=by rw[Int.tmod_eq_emod_of_nonneg (by omega),Int.emod_eq_of_lt (by omega) (by omega)]
 rw[d,m];have e1:nth? [(w:Int)] 0=some (w:Int):=rfl;have e2:(w:Int)/2^Int.toNat (v:Int)=((w/2^v:Nat):Int):=by rw[aat];push_cast;rfl
 have e3:w/2^v<256:=Nat.lt_of_le_of_lt (Nat.div_le_self ..) hw;rw[e1,aai,e2,XM e3,aT (show(0:Int)<=(v:Int) by omega),aT (show(v:Int)<=((IntKind.bits .u64:Nat):Int) by show(v:Int)<=((64:Nat):Int);omega),EY,aat,Nat.testBit_eq_decide_div_mod_eq];rw[show(!decide ((64:Int)=0))=true from rfl];simp only[Bool.and_self,cond_true];congr 1;by_cases h:w/2^v % 2=1
 ·rw[h];rfl
 ·rw[decide_eq_false (by omega),decide_eq_false h]
theorem afq (s:List Int) (v:Int) (hs:yJ s) (h0:0<=v) (h8:v<8):Sp lq.P (s,v) (λ r=>r=DY s v):=by
 obtain⟨w,hw,rfl⟩:=hs;obtain⟨k,rfl⟩: ∃k:Nat,v=(k:Int):=⟨v.toNat,by omega⟩;exact⟨_,rfl,.all λ n=>ZG n w k hw (by omega)⟩
def keyS (s:List Int):ByteArray:=wo ((List.range 8).map λ i=>IntKind.wrap .u8 ((s[0]?.getD 0)/2^(8*i)))
theorem Xn (s:List Int) (hs:yJ s):Sp fJ.P s (λ r=>r=keyS s):=by
 obtain⟨w,hw,rfl⟩:=hs;show Tt (λ n=>fJ.P n [(w:Int)]) _;unfold fJ.P;refine Tt.chk (show(decide ((0:Int)<=0)&&decide ((0:Int)<=IntKind.wrap .i64 ((8:Int)*(1:Int)))&&decide (IntKind.wrap .i64 ((8:Int)*(1:Int))<=((au:Nat):Int)))=true by decide) ?_
 refine Tt.bind (R:=λ b=>b=(List.range 8).map λ i=>IntKind.wrap .u8 ((w:Int)/2^(8*i)))
  (Tt.loop (Lp.count 1 (λ i t=>t=((List.range (8*i)).map (λ i=>IntKind.wrap .u8 ((w:Int)/2^(8*i))),[(w:Int)],(1:Int),(i:Int))) ?_ ?_ (by simp))) λ b hb=>Tt.pure (by rw[hb];rfl)
 ·rintro i t hi rfl;obtain rfl:i=0:=by omega
  unfold fJ.L2;dsimp only;refine Bd.yes (show decide ((0:Int)<1)=true by decide) ?_;rw[show nth? [(w:Int)] ((0:Nat):Int)=some (w:Int)from rfl]
  refine Bd.aG (Bd.bind (R:=λ t=>t=((List.range 8).map (λ i=>IntKind.wrap .u8 ((w:Int)/2^(8*i))),[(w:Int)],(1:Int),((0:Nat):Int)))
   (Tt.loop (L:=λ n=>fJ.L1) (Lp.count 8 (λ j t=>t=((List.range j).map (λ i=>IntKind.wrap .u8 ((w:Int)/2^(8*i))),(w:Int),[(w:Int)],(1:Int),((0:Nat):Int),(j:Int))) ?_ ?_ rfl)) ?_)
  ·rintro j t hj rfl;unfold fJ.L1;dsimp only;have e:IntKind.wrap .i64 ((8:Int)*(j:Int))=((8*j:Nat):Int):=by rw[nU _ (by omega) (by omega)];omega
   rw[e]
   refine Bd.yes (aT (by omega)) (Bd.chk (by
    rw[aT (show(0:Int)<=((8*j:Nat):Int) by omega),aT (show((8*j:Nat):Int)<=((IntKind.bits .u64:Nat):Int) by show((8*j:Nat):Int)<=((64:Nat):Int);omega)];rfl) (Bd.chk (pY (by simp;omega)) (Bd.again ?_)))
   rw[aA (by omega),aat,List.range_succ,abz];rfl
  ·rintro t rfl;unfold fJ.L1;dsimp only;exact Bd.no (show decide ((8:Int)<8)=false by decide) (Bd.done rfl)
  ·rintro _ rfl;dsimp only;exact Bd.again (by rw[aA (by omega)])
 ·rintro t rfl;unfold fJ.L2;dsimp only;exact Bd.no (show decide ((1:Int)<1)=false by decide) (Bd.done rfl)
theorem ac3 {s s':List Int} (h:yJ s) (h':yJ s') (e:keyS s=keyS s'):s=s':=by
 obtain⟨w,hw,rfl⟩:=h;obtain⟨w',hw',rfl⟩:=h'
 have b: ∀w:Nat,∀c∈(List.range 8).map λ i=>IntKind.wrap .u8 ((([(w:Int)]:List Int)[0]?.getD 0)/2^(8*i)),0<=c/\c<256:=by
  intro w c hc;obtain⟨i,_,rfl⟩:=aaL.1 hc;simp only[IntKind.wrap,IntKind.signed,IntKind.bits,Bool.false_and,aa3,if_false];omega
 have:=bytes_inj (b w) (b w') e;have h0:=congrArg (λ l=>l[0]?) this
 have e0: ∀w:Nat,w<256->((List.range 8).map λ i=>IntKind.wrap .u8 ((([(w:Int)]:List Int)[0]?.getD 0)/2^(8*i)))[0]? =some (w:Int):=by
  intro w hw;show some (IntKind.wrap .u8 ((w:Int)/2^(8*0)))=_;rw[Nat.mul_zero,Int.pow_zero,Int.ediv_one,wrap_u8 hw]
 rw[e0 w hw,e0 w' hw']at h0;rw[aao h0]
theorem afo {W:Nat->List Int×Int->Option Bool} (hW: ∀n x,W (n+1) x=lq.P n x) (s:List Int) (hs:yJ s):
 Sp (λ n=>iq.P (W n) n) s (λ r=>r.length<=64/\ ∀v,v∈r ↔ 0<=v/\v<8/\DY s v=true):=by
 have hlen:s.length=1:=by obtain⟨w,_,rfl⟩:=hs;rfl
 have hall: ∀v:Nat,v<64->Sp W (s,(v:Int)) (λ r=>r=DY s (v:Int)):=by
  intro v hv;obtain⟨w,hw,rfl⟩:=hs;exact Sp.step hW ⟨_,rfl,.all λ n=>ZG n w v hw hv⟩
 show Tt (λ n=>iq.P (W n) n s) _;unfold iq.P;rw[hlen]
 refine Tt.bind (R:=λ r:List Int=>r.length<=64/\ ∀v,v∈r ↔ 0<=v/\v<64/\DY s v=true)
  (Tt.loop (L:=λ n=>iq.L1 (W n)) (Lp.count 64 (λ i t=> ∃out:List Int,t=(s,out,(64:Int),(i:Int))/\out.length<=i/\ ∀v,v∈out ↔ 0<=v/\v<(i:Int)/\DY s v=true) ?_ ?_ ⟨[],rfl,by simp,λ v=>⟨λ h=>by simp at h,λ h=>absurd h.1 (by have:=h.2.1;omega)⟩⟩)) λ r hr=>Tt.pure ⟨hr.1,λ v=> ?_⟩
 ·rintro i t hi ⟨out,rfl,ho,hm⟩;unfold iq.L1;dsimp only;refine Bd.yes (aT (by omega)) (Bd.bind (hall i hi) ?_);rintro _ rfl;refine Bd.eU (λ hc=> ?_) (λ hc=> ?_)
  ·refine Bd.iU (pY (by simp;omega)) (Bd.aG (Bd.again ⟨_,by rw[aA (by omega)],by simp;omega,λ v=> ?_⟩));simp only[abt,aau,aam,hm];constructor
   ·rintro(⟨h1,h2,h3⟩|rfl)
    ·exact⟨h1,by omega,h3⟩
    ·exact⟨by omega,by omega,hc⟩
   ·rintro⟨h1,h2,h3⟩;by_cases e:v=(i:Int)
    ·exact .inr e
    ·exact .inl ⟨h1,by omega,h3⟩
  ·refine Bd.aG (Bd.again ⟨out,by rw[aA (by omega)],by omega,λ v=> ?_⟩);rw[hm];constructor
   ·rintro⟨h1,h2,h3⟩;exact⟨h1,by omega,h3⟩
   ·rintro⟨h1,h2,h3⟩;have:v≠(i:Int):=by rintro rfl;rw[hc]at h3;cases h3
    exact⟨h1,by omega,h3⟩
 ·rintro t ⟨out,rfl,ho,hm⟩;unfold iq.L1;dsimp only;exact Bd.no (show decide ((64:Int)<64)=false by decide) (Bd.done ⟨ho,hm⟩)
 ·rw[hr.2];exact⟨λ⟨h1,h2,h3⟩=>⟨h1,Zg hs h3 h1,h3⟩,λ⟨h1,h2,h3⟩=>⟨h1,by omega,h3⟩⟩
abbrev KM:=Option (List (ByteArray×Int))
def KOk (sets:List (List Int)) (m:KM):Prop:=
 (∀s∈sets,yJ s)/\ ∃mm,m=some mm/\(∀(n:Nat) (s:List Int),sets[n]? =some s->og seq (keyS s) mm=some (n:Int))/\ ∀(s:List Int) (v:Int),yJ s->og seq (keyS s) mm=some v-> ∃n:Nat,v=(n:Int)/\sets[n]? =some s
theorem KOk.inj {sets:List (List Int)} {m:KM} (h:KOk sets m) {n n':Nat} {s:List Int} (h1:sets[n]? =some s) (h2:sets[n']? =some s):n=n':=by
 obtain⟨_,mm,_,hk,_⟩:=h;have:=aao ((hk n s h1).symm.trans (hk n' s h2));omega
def At (rs:List Rule) (v:Int) (r:Rule):Prop:= ∃j:Nat,v=(j:Int)/\rs[j]? =some r
theorem air {K:Nat->List Int->Option ByteArray} (hK: ∀s,yJ s->Sp K s (λ r=>r=keyS s)) (S:Int) (fin:List Int) (rs:List Rule) (by_ sets:List (List Int)) (m:KM) (rl:List Rule) (old done:Int) (full:Bool) (idx:List Int)
 (hS:S<=8) (hidx: ∀i∈idx,∃r,At rs i r/\dH S r.2.2) (hne:idx≠[]) (hk:KOk sets m) (hsl:sets.length<=1000) (hil:idx.length<=1000000):
 Sp (λ n=>gB.P (K n) n) (S,fin,rs,by_,sets,m,rl,old,done,full,idx) (λ r=> ∃(n:Nat) (z:List (List Int)) (m':KM) (s:List Int),r=((n:Int),S,fin,rs,by_,sets++z,m',rl,old,done,full)/\z.length<=1/\(∀x∈z,x=s)/\KOk (sets++z) m'/\(sets++z)[n]? =some s/\
  ∀v:Int,0<=v->(DY s v=true ↔ ∃i∈idx,∃r,At rs i r/\r.2.2=v)):=by
 have hS1:1<=S:=by
  obtain⟨i,hi⟩:=List.exists_mem_of_ne_nil idx hne;obtain⟨r,_,h⟩:=hidx i hi;have:=h.1;have:=h.2;omega
 show Tt (λ n=>gB.P (K n) n (S,fin,rs,by_,sets,m,rl,old,done,full,idx)) _;unfold gB.P;dsimp only;have hl0:idx.length≠0:=λ e=>hne (aav e);refine Tt.no (decide_eq_false (by omega)) (Tt.chk rfl ?_)
 have hw:IntKind.wrap .i64 (Int.tdiv (IntKind.wrap .i64 (S+63)) 64)=1:=by
  have e1:IntKind.wrap .i64 (S+63)=S+63:=nU _ (by omega) (by omega);have:(S+63)/64=1:=by omega
  rw[e1,ab2 (by omega),this];rfl
 rw[hw];refine Tt.chk (by decide) ?_
 refine Tt.bind (R:=λ t=> ∃s,t=(S,fin,rs,by_,sets,m,rl,old,done,full,s)/\yJ s/\ ∀v:Int,0<=v->(DY s v=true ↔ ∃i∈idx,∃r,At rs i r/\r.2.2=v))
  (Tt.loop (L:=λ n=>gB.L1) (Lp.count idx.length (λ p t=> ∃s,t=(S,fin,rs,by_,sets,m,rl,old,done,full,s,idx,((idx.length:Nat):Int),(p:Int))/\yJ s/\ ∀v:Int,0<=v->(DY s v=true ↔ ∃i∈idx.take p,∃r,At rs i r/\r.2.2=v)) ?_ ?_ ?_)) ?_
 ·rintro p t hp ⟨s,rfl,⟨w,hw,rfl⟩,hm⟩;unfold gB.L1;dsimp only;obtain⟨r,⟨j,hj,hjr⟩,hto⟩:=hidx idx[p] (aag hp);have hjl:j<rs.length:=(aaf.1 hjr).1;have hrj:rs[j]=r:=(aaf.1 hjr).2;refine Bd.yes (aT (by omega)) (Bd.nth hp ?_);rw[hj,fE hjl,hrj];have h0:=hto.1;have h8:r.2.2<8:=by have:=hto.2;omega
  obtain⟨k,hk2⟩: ∃k:Nat,r.2.2=(k:Int):=⟨r.2.2.toNat,by omega⟩;refine Bd.aG (Bd.chk rfl ?_);rw[aht h0 h8,ail h0 h8];have hp2:2^k<2^8:=Nat.pow_lt_pow_right (by omega) (by omega)
  refine Bd.chk rfl (Bd.at (by show 0<1;omega) λ e5 _ he5=>Bd.chk rfl (Bd.chk (by
   rw[hk2,aT (show(0:Int)<=(k:Int) by omega),aT (show(k:Int)<=((IntKind.bits .u64:Nat):Int) by show(k:Int)<=((64:Nat):Int);omega)];rfl) (Bd.chk rfl (Bd.at (by show 0<1;omega) λ e6 _ _=>Bd.again ?_))))
  have he5:e5=(w:Int):=(aao he5).symm;subst he5
  have e1:IntKind.wrap .u64 ((1:Int)*2^Int.toNat r.2.2)=((2^k:Nat):Int):=by
   rw[hk2,aat,Int.one_mul,show((2:Int)^k)=((2^k:Nat):Int) by push_cast;rfl,wrap_u64 (by omega)]
  rw[e1,aeg hw (by omega)];refine⟨[((w ||| 2^k:Nat):Int)],by rw[aA (by omega)];rfl,⟨_,Nat.or_lt_two_pow (n:=8) hw hp2,rfl⟩,λ v hv=> ?_⟩;rw[EY,Nat.testBit_or,abO,Nat.testBit_two_pow,←EY,hm v hv,aaD,aac hp];constructor
  ·rintro(⟨i,h1,h2⟩|h)
   ·exact⟨i,aaH _ h1,h2⟩
   ·have:=of_decide_eq_true h;exact⟨idx[p],abl _ (by simp),r,⟨j,hj,hjr⟩,by omega⟩
  ·rintro⟨i,h1,r',⟨j',e,hr'⟩,h2⟩;rcases aau.1 h1 with h1|h1
   ·exact .inl ⟨i,h1,r',⟨j',e,hr'⟩,h2⟩
   ·simp only[abd,aam]at h1;have:j'=j:=by rw[h1,hj]at e;omega
    subst this;rw[hjr]at hr';cases hr';exact .inr (aT (by omega))
 ·rintro t ⟨s,rfl,hs,hm⟩;unfold gB.L1;dsimp only;rw[aaC]at hm;exact Bd.no (decide_eq_false (by omega)) (Bd.done ⟨s,rfl,hs,hm⟩)
 ·refine⟨[((0:Nat):Int)],rfl,⟨0,by omega,rfl⟩,λ v _=> ?_⟩;rw[EY];simp
 rintro _ ⟨s,rfl,hs,hm⟩;dsimp only;refine Tt.bind (hK s hs) ?_;rintro _ rfl;obtain⟨hall,mm,rfl,hk1,hk2⟩:=hk;refine Tt.eU (λ hc=> ?_) (λ hc=> ?_)
 ·refine Tt.fB (Tt.aG (Tt.iU (pY (by simp;omega)) (Tt.aG (Tt.pure ⟨sets.length,[s],_,s,rfl,by simp,by simp,⟨λ x hx=> ?_,_,rfl,λ n x hn=> ?_,λ x v hx hv=> ?_⟩,by simp,hm⟩))))
  ·rcases aau.1 hx with h|h
   ·exact hall x h
   ·rw[aam.1 h];exact hs
  ·have hnone:og seq (keyS s) mm=none:=by simpa [l9]using hc
   rw[qQ Bo];rcases aaE n sets.length with h|h
   ·rw[aax h]at hn;rw[if_neg]
    ·exact hk1 n x hn
    ·intro e;rw[←e,hk1 n x hn]at hnone;cases hnone
   ·rw[aaz h]at hn
    have h0:n-sets.length=0:=by
     rcases ab8 (n-sets.length)with h|h
     ·exact h
     ·rw[aah (by simp;omega)]at hn;cases hn
    rw[h0]at hn;have hn:s=x:=by simpa using hn
    rw[if_pos (by rw[hn])];congr 1;omega
  ·rw[qQ Bo]at hv;split at hv
   ·rename_i e;have:=ac3 hx hs e;subst this;refine⟨sets.length,(aao hv).symm,by simp⟩
   ·obtain⟨n,e,h⟩:=hk2 x v hx hv;exact⟨n,e,by rw[aax (aaf.1 h).1];exact h⟩
 ·have hsome:(og seq (keyS s) mm).isSome=true:=by simpa [l9]using hc
  obtain⟨v,hv⟩:=aci.1 hsome;obtain⟨n,e,h⟩:=hk2 s v hs hv;refine Tt.aG (Tt.pure ⟨n,[],some mm,s,?_,by simp,by simp,by rw[aaQ];exact⟨hall,mm,rfl,hk1,hk2⟩,by rw[aaQ];exact h,hm⟩);rw[aaQ,show l9 (some mm)=mm from rfl,hv,e];rfl
def Xz (sets:List (List Int)) (f:Int) (l:List Int) (r:Rule):Prop:=r.1=f/\ ∀(j:Nat) (x q:Int),l[j]? =some x->r.2.1[j]? =some q-> ∃s,sets[x.toNat]? =some s/\DY s q=true
def Fits (sets:List (List Int)) (f:Int) (l:List Int) (r:Rule):Prop:=r.2.1.length=l.length/\Xz sets f l r
theorem Ja {sets z:List (List Int)} {f:Int} {l:List Int} {r:Rule} (h: ∀x∈l,dH ((sets.length:Nat):Int) x):Xz (sets++z) f l r ↔ Xz sets f l r:=by
 have e: ∀x∈l,(sets++z)[x.toNat]? =sets[x.toNat]? :=λ x hx=>aax (by have:=(h x hx).1;have:=(h x hx).2;omega);constructor
 ·rintro⟨h1,h2⟩;exact⟨h1,λ j x q hx hq=>by rw[←e x (aak hx)];exact h2 j x q hx hq⟩
 ·rintro⟨h1,h2⟩;exact⟨h1,λ j x q hx hq=>by rw[e x (aak hx)];exact h2 j x q hx hq⟩
theorem vJ {sets z:List (List Int)} {f:Int} {l:List Int} {r:Rule} (h: ∀x∈l,dH ((sets.length:Nat):Int) x):Fits (sets++z) f l r ↔ Fits sets f l r:=and_congr ach (Ja h)
theorem BK {sets:List (List Int)} {f:Int} {l l2:List Int} {r:Rule} (h:Xz sets f (l++l2) r):Xz sets f l r:=
 ⟨h.1,λ j x q hx hq=>h.2 j x q (by rw[aax (aaf.1 hx).1];exact hx) hq⟩
theorem Qn {sets:List (List Int)} {f:Int} {l:List Int} {x:Int} {r:Rule} {q:Int} (hq:r.2.1[l.length]? =some q):Xz sets f (l++[x]) r ↔ Xz sets f l r/\ ∃s,sets[x.toNat]? =some s/\DY s q=true:=by
 constructor
 ·intro h;exact⟨BK h,h.2 l.length x q (by simp) hq⟩
 ·rintro⟨h1,h2⟩;refine⟨h1.1,λ j y q' hy hq'=> ?_⟩;rcases aaE j l.length with h|h
  ·rw[aax h]at hy;exact h1.2 j y q' hy hq'
  ·have hj:j=l.length:=by
    have:=(aaf.1 hy).1;simp at this;omega
   subst hj;have hy:y=x:=by simpa using hy.symm
   rw[hq]at hq';cases hq';rw[hy];exact h2
def afN (al:List Int) (rs:List Rule) (sets:List (List Int)) (rl:List Rule):Prop:=
 ∀r'∈rl,0<=r'.1/\al[r'.1.toNat]? =some ((r'.2.1.length:Nat):Int)/\(∀x∈r'.2.1,dH ((sets.length:Nat):Int) x)/\dH ((sets.length:Nat):Int) r'.2.2/\(∃r∈rs,Fits sets r'.1 r'.2.1 r)/\
  ∃s,sets[r'.2.2.toNat]? =some s/\ ∀v:Int,0<=v->(DY s v=true ↔ ∃r∈rs,Fits sets r'.1 r'.2.1 r/\r.2.2=v)
theorem afN.more {al:List Int} {rs:List Rule} {sets z:List (List Int)} {rl:List Rule} (h:afN al rs sets rl):afN al rs (sets++z) rl:=by
 intro r' hr';obtain⟨h1,h2,h3,h4,⟨r,h5,h6⟩,s,h7,h8⟩:=h r' hr';have le: ∀x,dH ((sets.length:Nat):Int) x->dH (((sets++z).length:Nat):Int) x:=λ x hx=>⟨hx.1,by have:=hx.2;rw[aap];omega⟩;refine⟨h1,h2,λ x hx=>le x (h3 x hx),le _ h4,⟨r,h5,(vJ h3).2 h6⟩,s,by rw[aax (aaf.1 h7).1];exact h7,λ v hv=> ?_⟩;rw[h8 v hv];exact⟨λ⟨r,a,b,c⟩=>⟨r,a,(vJ h3).2 b,c⟩,λ⟨r,a,b,c⟩=>⟨r,a,(vJ h3).1 b,c⟩⟩
abbrev Sb:=Int×List Int×List Rule×List (List Int)×List (List Int)×KM×List Rule×Int×Int×Bool×List Int
def Cov (rs:List Rule) (sets:List (List Int)) (rl:List Rule) (sym:Int) (l:List Int):Prop:=(∃r∈rs,Fits sets sym l r)-> ∃q,(sym,l,q)∈rl
def SOk (S:Int) (al:List Int) (rs:List Rule) (sets:List (List Int)) (m:KM) (rl:List Rule) (full:Bool):Prop:=
 KOk sets m/\afN al rs sets rl/\sets.length<=301/\rl.length<=20001/\(full=false->sets.length<=300/\rl.length<=20000)/\ ∀s∈sets,∀v:Int,0<=v->DY s v=true->v<S
def PG (al:List Int) (rs:List Rule) (sym:Int) (rank:Nat) (frm:List Int) (fresh full:Bool) (S:Int) (fin:List Int) (by_:List (List Int)) (old done:Int) (sets:List (List Int)) (rl:List Rule) (r:Sb):Prop:=
 ∃(z:List (List Int)) (m':KM) (y:List Rule) (full':Bool),r=(S,fin,rs,by_,sets++z,m',rl++y,old,done,full',frm)/\SOk S al rs (sets++z) m' (rl++y) full'/\(full'=false->full=false)/\
  (full'=false-> ∀l2,frm.length+l2.length=rank->(∀x∈l2,dH done x)->(fresh=true\/ ∃x∈l2,old<=x)->Cov rs (sets++z) (rl++y) sym (frm++l2))
abbrev LsT:=Int×List Int×List Rule×List (List Int)×List (List Int)×KM×List Rule×Int×Int×Bool×Int×Int×List Int×List Int×Bool
theorem adB {W:Nat->List Int×Int->Option Bool} {T:Nat->Sb->Option (Int×Int×List Int×List Rule×List (List Int)×List (List Int)×KM×List Rule×Int×Int×Bool)} {C:Nat->List Int->Option (List Int×List Int)} {F:Nat->LsT->Option Sb}
 (hF: ∀n x,F (n+1) x=bJ.P (W n) (F n) (T n) (C n) n x) (hW: ∀s v,yJ s->0<=v->v<8->Sp W (s,v) (λ r=>r=DY s v)) (hC: ∀l:List Int,l.length<=1000000->Sp C l (λ r=>r=(l,l)))
 (al:List Int) (S:Int) (fin:List Int) (rs:List Rule) (by_:List (List Int)) (hS:S<=8) (hrl:rs.length<=100000) (hr: ∀r∈rs,dH S r.2.2/\(∀q∈r.2.1,dH S q)) (hAr:Ar al rs)
 (hT: ∀(sets:List (List Int)) (m:KM) (rl:List Rule) (old done:Int) (full:Bool) (idx:List Int),(∀i∈idx,∃r,At rs i r/\dH S r.2.2)->idx≠[]->KOk sets m->sets.length<=1000->idx.length<=1000000->
  Sp T (S,fin,rs,by_,sets,m,rl,old,done,full,idx) (λ r=> ∃(n:Nat) (z:List (List Int)) (m':KM) (s:List Int),r=((n:Int),S,fin,rs,by_,sets++z,m',rl,old,done,full)/\z.length<=1/\(∀x∈z,x=s)/\KOk (sets++z) m'/\(sets++z)[n]? =some s/\
   ∀v:Int,0<=v->(DY s v=true ↔ ∃i∈idx,∃r,At rs i r/\r.2.2=v)))
 (sym:Int) (rank:Nat) (hsym:0<=sym) (hrank:al[sym.toNat]? =some (rank:Int)) (hr3:rank<=3) (old done:Int) (ho:0<=old) (hod:old<=done):
 ∀(d:Nat) (frm idx:List Int) (fresh full:Bool) (sets:List (List Int)) (m:KM) (rl:List Rule),frm.length+d=rank->(∀x∈frm,dH done x)->done<=((sets.length:Nat):Int)->SOk S al rs sets m rl full->idx.length<=rs.length->
  (∀v,v∈idx ↔ ∃r,At rs v r/\Xz sets sym frm r)->
  Sp F (S,fin,rs,by_,sets,m,rl,old,done,full,sym,(rank:Int),frm,idx,fresh) (PG al rs sym rank frm fresh full S fin by_ old done sets rl):=by
 have hrlen: ∀(v:Int) (r:Rule),At rs v r->r.1=sym->r.2.1.length=rank:=λ v r ⟨j,_,hj⟩ e=>by
  have:=(hAr r (aak hj)).2;rw[e,hrank]at this;have:=aao this;omega
 intro d
 induction d with
 |zero=>
  intro frm idx fresh full sets m rl hd hfrm hdone hok hil hidx;refine Sp.step hF ?_;show Tt (λ n=>bJ.P (W n) (F n) (T n) (C n) n (S,fin,rs,by_,sets,m,rl,old,done,full,sym,(rank:Int),frm,idx,fresh)) _;unfold bJ.P;dsimp only;have hs301:=hok.2.2.1
  have stop:(full=true\/idx= [])->PG al rs sym rank frm fresh full S fin by_ old done sets rl (S,fin,rs,by_,sets,m,rl,old,done,full,frm):=by
   intro h;refine⟨[],m,[],full,by rw[aaQ,aaQ],by rw[aaQ,aaQ];exact hok,id,λ hf l2 h1 h2 h3 ⟨r,h4,h5⟩=> ?_⟩;rw[aaQ]at h5;rcases h with h|h
   ·rw[h]at hf;cases hf
   ·obtain⟨j,hj,rfl⟩:=aay h4;have:=(hidx (j:Int)).2 ⟨_,⟨j,rfl,aac hj⟩,BK h5.2⟩;rw[h]at this;cases this
  refine Tt.eU (λ hc=>Tt.aG (Tt.yes rfl (Tt.pure (stop (.inl hc))))) (λ hc=>Tt.aG (Tt.ite (λ hi=>Tt.pure (stop (.inr ?_))) (λ hi=> ?_)))
  ·have hi:=of_decide_eq_true hi;exact aav (by omega)
  subst hc;have hi:=of_decide_eq_false hi;dsimp only;refine Tt.yes (aT (by omega)) (Tt.bind (hC frm (by omega)) ?_);rintro _ rfl;refine Tt.bind (hT sets m rl old done false idx (λ i h=> ?_) (λ h=>hi (by rw[h];rfl)) hok.1 (by omega) (by omega)) ?_
  ·obtain⟨r,h1,h2⟩:=(hidx i).1 h;obtain⟨j,e,hj⟩:=h1;exact⟨r,⟨j,e,hj⟩,(hr r (aak hj)).1⟩
  rintro _ ⟨n,z,m',s,rfl,hz,hzs,hk',hn,hm⟩;dsimp only;have hrl20:=hok.2.2.2.2.1 rfl;refine Tt.chk (pY (by simp;omega)) ?_;have hnl:n<(sets++z).length:=(aaf.1 hn).1;have hfr2: ∀x∈frm,dH ((sets.length:Nat):Int) x:=λ x hx=>⟨(hfrm x hx).1,by have:=(hfrm x hx).2;omega⟩
  have hfit: ∀r,(r∈rs/\Fits (sets++z) sym frm r) ↔ ∃i∈idx,At rs i r:=by
   intro r;constructor
   ·rintro⟨h1,h2⟩;obtain⟨j,hj,rfl⟩:=aay h1;have ha:At rs (j:Int) rs[j]:=⟨j,rfl,aac hj⟩;exact⟨(j:Int),(hidx _).2 ⟨_,ha,((vJ hfr2).1 h2).2⟩,ha⟩
   ·rintro⟨i,h1,h2⟩;obtain⟨r',h3,h4⟩:=(hidx i).1 h1
    have:r'=r:=by
     obtain⟨j,e,hj⟩:=h2;obtain⟨j',e',hj'⟩:=h3;have:j=j':=by omega
     subst this;rw[hj]at hj';exact(aao hj').symm
    subst this;have hl:=hrlen i _ h2 h4.1;obtain⟨j,e,hj⟩:=h2;exact⟨aak hj,(vJ hfr2).2 ⟨by omega,h4⟩⟩
  have hnew:afN al rs (sets++z) (rl++[(sym,frm,(n:Int))]):=by
   intro r' hr';rcases aau.1 hr' with h|h
   ·exact hok.2.1.more r' h
   ·rw[aam.1 h];obtain⟨i0,hi0⟩:=List.exists_mem_of_ne_nil idx (λ h=>hi (by rw[h];rfl));obtain⟨r0,ha0,_⟩:=(hidx i0).1 hi0;obtain⟨hr0,hf0⟩:=(hfit r0).2 ⟨i0,hi0,ha0⟩;refine⟨hsym,by rw[hrank];dsimp only;congr 2;omega,λ x hx=>⟨(hfr2 x hx).1,by have:=(hfr2 x hx).2;rw[aap];omega⟩,⟨by dsimp only;omega,by dsimp only;omega⟩,⟨r0,hr0,hf0⟩,s,by dsimp only;rw[aat];exact hn,λ v hv=> ?_⟩;rw[hm v hv];constructor
    ·rintro⟨i,h1,r,h2,h3⟩;obtain⟨a,b⟩:=(hfit r).2 ⟨i,h1,h2⟩;exact⟨r,a,b,h3⟩
    ·rintro⟨r,a,b,h3⟩;obtain⟨i,h1,h2⟩:=(hfit r).1 ⟨a,b⟩;exact⟨i,h1,r,h2,h3⟩
  have hmem: ∀s∈sets++z,∀v:Int,0<=v->DY s v=true->v<S:=by
   intro x hx v hv hs;rcases aau.1 hx with h|h
   ·exact hok.2.2.2.2.2 x h v hv hs
   ·rw[hzs x h]at hs;obtain⟨i,_,r,⟨j,_,hj⟩,e⟩:=(hm v hv).1 hs;rw[←e];exact(hr r (aak hj)).1.2
  have fin2: ∀fl:Bool,(fl=false->(sets++z).length<=300/\rl.length+1<=20000)->PG al rs sym rank frm fresh false S fin by_ old done sets rl (S,fin,rs,by_,sets++z,m',List.append rl [(sym,frm,(n:Int))],old,done,fl,frm):=by
   intro fl hfl;refine⟨z,m',[(sym,frm,(n:Int))],fl,rfl,⟨hk',hnew,by rw[aap];omega,by rw[aap];simp;omega,λ h=>⟨(hfl h).1,by rw[aap];exact(hfl h).2⟩,hmem⟩,λ _=>rfl,λ _ l2 h1 _ _ _=> ?_⟩;have:l2= []:=aav (by omega);rw[this,aaQ];exact⟨(n:Int),abl _ (by simp)⟩
  have elen:(List.append rl [(sym,frm,(n:Int))]).length=rl.length+1:=by
   show(rl++_).length=_;rw[aap];rfl
  refine Tt.eU (λ h1=>Tt.aG (Tt.pure (fin2 true λ h=>by cases h))) (λ h1=>Tt.aG (Tt.pure (fin2 _ λ h=> ?_)));have h1:=of_decide_eq_false h1;have h:=of_decide_eq_false h;rw[elen]at h1;omega
 |succ d ih=>
  intro frm idx fresh full sets m rl hd hfrm hdone hok hil hidx;refine Sp.step hF ?_;show Tt (λ n=>bJ.P (W n) (F n) (T n) (C n) n (S,fin,rs,by_,sets,m,rl,old,done,full,sym,(rank:Int),frm,idx,fresh)) _;unfold bJ.P;dsimp only;have hs301:=hok.2.2.1
  have stop:(full=true\/idx= [])->PG al rs sym rank frm fresh full S fin by_ old done sets rl (S,fin,rs,by_,sets,m,rl,old,done,full,frm):=by
   intro h;refine⟨[],m,[],full,by rw[aaQ,aaQ],by rw[aaQ,aaQ];exact hok,id,λ hf l2 h1 h2 h3 ⟨r,h4,h5⟩=> ?_⟩;rw[aaQ]at h5;rcases h with h|h
   ·rw[h]at hf;cases hf
   ·obtain⟨j,hj,rfl⟩:=aay h4;have:=(hidx (j:Int)).2 ⟨_,⟨j,rfl,aac hj⟩,BK h5.2⟩;rw[h]at this;cases this
  refine Tt.eU (λ hc=>Tt.aG (Tt.yes rfl (Tt.pure (stop (.inl hc))))) (λ hc=>Tt.aG (Tt.ite (λ hi=>Tt.pure (stop (.inr ?_))) (λ hi=> ?_)))
  ·have hi:=of_decide_eq_true hi;exact aav (by omega)
  subst hc;dsimp only;refine Tt.no (decide_eq_false (by omega)) ?_
  have main: ∀first:Nat,(first:Int)<=done->(∀x:Int,0<=x->x<(first:Int)->fresh=false/\d=0/\x<old)->
   Tt (λ n=>(cu (bJ.L2 (W n) n (F n)) n (S,fin,rs,by_,sets,m,rl,old,done,false,sym,(rank:Int),frm,idx,fresh,(first:Int))).bind λ x21=>some (x21.1,x21.2.1,x21.2.2.1,x21.2.2.2.1,x21.2.2.2.2.1,x21.2.2.2.2.2.1,x21.2.2.2.2.2.2.1,x21.2.2.2.2.2.2.2.1,x21.2.2.2.2.2.2.2.2.1,x21.2.2.2.2.2.2.2.2.2.1,x21.2.2.2.2.2.2.2.2.2.2))
    (PG al rs sym rank frm fresh false S fin by_ old done sets rl):=by
   intro first hfd hfirst
   refine Tt.bind (R:=PG al rs sym rank frm fresh false S fin by_ old done sets rl) (Tt.loop (L:=λ n=>bJ.L2 (W n) n (F n)) (Lp.measure (λ t=> ∃(x:Nat) (z:List (List Int)) (m':KM) (y:List Rule) (full':Bool),t=(S,fin,rs,by_,sets++z,m',rl++y,old,done,full',sym,(rank:Int),frm,idx,fresh,(x:Int))/\(x:Int)<=done/\
    SOk S al rs (sets++z) m' (rl++y) full'/\(full'=false-> ∀(x':Int) (l2:List Int),(first:Int)<=x'->x'<(x:Int)->frm.length+1+l2.length=rank->(∀x∈l2,dH done x)->(fresh=true\/old<=x'\/ ∃x∈l2,old<=x)->Cov rs (sets++z) (rl++y) sym (frm++x'::l2)))
    (λ t=>(done-t.2.2.2.2.2.2.2.2.2.2.2.2.2.2.2).toNat) ?_ ?_)) λ r hr=>Tt.pure hr
   ·rintro _ ⟨x,z,m',y,full',rfl,hxd,hok',hcov⟩;unfold bJ.L2;dsimp only;have hz301:=hok'.2.2.1;have hslen:sets.length<=(sets++z).length:=by rw[aap];omega
    by_cases hx:(x:Int)<done
    ·have hxl:x<(sets++z).length:=by omega
     have hsx:yJ (sets++z)[x]:=hok'.1.1 _ (aag hxl);have hfr2: ∀x∈frm,dH ((sets.length:Nat):Int) x:=λ x hx=>⟨(hfrm x hx).1,by have:=(hfrm x hx).2;omega⟩
     have hq: ∀v∈idx,∃r q,At rs v r/\Xz (sets++z) sym frm r/\r.2.1[frm.length]? =some q/\dH S q:=by
      intro v hv;obtain⟨r,h1,h2⟩:=(hidx v).1 hv;have hl:=hrlen v r h1 h2.1;have hlt:frm.length<r.2.1.length:=by omega
      refine⟨r,r.2.1[frm.length],h1,(Ja hfr2).2 h2,aac hlt,?_⟩;obtain⟨j,_,hj⟩:=h1;exact(hr r (aak hj)).2 _ (aag hlt)
     refine Bd.yes (aT hx) ?_
     refine Bd.bind (R:=λ t=> ∃left:List Int,t=(S,fin,rs,by_,sets++z,m',rl++y,old,done,full',sym,(rank:Int),frm,idx,fresh,(x:Int),left)/\left.length<=idx.length/\ ∀v,v∈left ↔ ∃r,At rs v r/\Xz (sets++z) sym (frm++[(x:Int)]) r)
      (Tt.loop (L:=λ n=>bJ.L1 (W n)) (Lp.count idx.length (λ p t=> ∃left:List Int,t=(S,fin,rs,by_,sets++z,m',rl++y,old,done,full',sym,(rank:Int),frm,idx,fresh,(x:Int),left,idx,((idx.length:Nat):Int),(p:Int))/\left.length<=p/\
       ∀v,v∈left ↔ v∈idx.take p/\ ∃r,At rs v r/\Xz (sets++z) sym (frm++[(x:Int)]) r) ?_ ?_ ⟨[],rfl,by simp,by simp⟩)) ?_
     ·rintro p t hp ⟨left,rfl,hll,hlm⟩;unfold bJ.L1;dsimp only;obtain⟨r,q,⟨j,ej,hj⟩,h2,h3,h4⟩:=hq idx[p] (aag hp);have hjl:j<rs.length:=(aaf.1 hj).1;have hrj:rs[j]=r:=(aaf.1 hj).2;have hlt:frm.length<r.2.1.length:=(aaf.1 h3).1;have hqe:r.2.1[frm.length]=q:=(aaf.1 h3).2;refine Bd.yes (aT (by omega)) (Bd.nth hp (Bd.chk (rng (by omega) (by omega)) ?_));rw[aat];refine Bd.at hxl λ e12 _ he12=> ?_;rw[aac hxl]at he12;cases he12;rw[ej,fE hjl,hrj];refine Bd.aG ?_;rw[fE hlt,hqe]
      have htk: ∀v,v∈idx.take (p+1) ↔ v∈idx.take p\/v=(j:Int):=λ v=>by
       rw[aaD,aac hp,aau,ej];simp
      have hjfit:(∃r,At rs (j:Int) r/\Xz (sets++z) sym (frm++[(x:Int)]) r) ↔ DY (sets++z)[x] q=true:=by
       constructor
       ·rintro⟨r',⟨j',e',hj'⟩,hf⟩;have:j'=j:=by omega
        subst this;rw[hj]at hj';cases hj';obtain⟨s,hs,hm⟩:=((Qn h3).1 hf).2;rw[aat,aac hxl]at hs;cases hs;exact hm
       ·intro hm;exact⟨r,⟨j,rfl,hj⟩,(Qn h3).2 ⟨h2,_,by rw[aat];exact aac hxl,hm⟩⟩
      refine Bd.aG (Bd.bind (hW _ q hsx h4.1 (by have:=h4.2;omega)) ?_);rintro _ rfl;refine Bd.eU (λ hc=> ?_) (λ hc=> ?_)
      ·refine Bd.iU (pY (by simp;omega)) (Bd.aG (Bd.again ⟨_,by rw[aA (by omega)],by simp;omega,λ v=> ?_⟩));simp only[abt,aau,aam,hlm,htk];constructor
       ·rintro(⟨a,b⟩|rfl)
        ·exact⟨.inl a,b⟩
        ·exact⟨.inr rfl,hjfit.2 hc⟩
       ·rintro⟨a|a,b⟩
        ·exact .inl ⟨a,b⟩
        ·exact .inr a
      ·refine Bd.aG (Bd.again ⟨left,by rw[aA (by omega)],by omega,λ v=> ?_⟩);rw[hlm,htk];constructor
       ·rintro⟨a,b⟩;exact⟨.inl a,b⟩
       ·rintro⟨a|a,b⟩
        ·exact⟨a,b⟩
        ·rw[a,hjfit,hc]at b;cases b
     ·rintro t ⟨left,rfl,hll,hlm⟩;unfold bJ.L1;dsimp only;rw[aaC]at hlm;refine Bd.no (decide_eq_false (by omega)) (Bd.done ⟨left,rfl,hll,λ v=>(hlm v).trans ⟨λ h=>h.2,λ h=>⟨?_,h⟩⟩⟩);obtain⟨r,h1,h2⟩:=h;exact(hidx v).2 ⟨r,h1,(Ja hfr2).1 (BK h2)⟩
     rintro _ ⟨left,rfl,hll,hlm⟩;dsimp only;refine Bd.iU (pY (by simp;omega)) ?_
     have call:=λ fresh2=>ih (frm++[(x:Int)]) left fresh2 full' (sets++z) m' (rl++y) (by rw[aap];simp;omega) (λ w hw=>by
      rcases aau.1 hw with h|h
      ·exact hfrm w h
      ·rw[aam.1 h];exact⟨by omega,hx⟩) (by omega) hok' (by omega) hlm
     have hpre:pre frm (frm++[(x:Int)])=true:=by
      unfold pre;rw[abG];exact aT rfl
     have next: ∀fresh2:Bool,((fresh2=true ↔ (fresh=true\/old<=(x:Int))))-> ∀r,PG al rs sym rank (frm++[(x:Int)]) fresh2 full' S fin by_ old done (sets++z) (rl++y) r->
      ∃(z2:List (List Int)) (m2:KM) (y2:List Rule) (full2:Bool),r=(S,fin,rs,by_,sets++z2,m2,rl++y2,old,done,full2,frm++[(x:Int)])/\SOk S al rs (sets++z2) m2 (rl++y2) full2/\
       (full2=false-> ∀(x':Int) (l2:List Int),(first:Int)<=x'->x'<((x+1:Nat):Int)->frm.length+1+l2.length=rank->(∀x∈l2,dH done x)->(fresh=true\/old<=x'\/ ∃x∈l2,old<=x)->Cov rs (sets++z2) (rl++y2) sym (frm++x'::l2)):=by
      rintro fresh2 hf2 r ⟨z2,m2,y2,full2,rfl,hok2,hmono,hcov2⟩;refine⟨z++z2,m2,y++y2,full2,by rw[aaA,aaA],by rw[←aaA,←aaA];exact hok2,λ hfl x' l2 h1 h2 h3 h4 h5=> ?_⟩;rw[←aaA,←aaA];by_cases hxx:x'=(x:Int)
      ·subst hxx
       have:=hcov2 hfl l2 (by rw[aap];simp;omega) h4 (by
        rcases h5 with h|h|h
        ·exact .inl (hf2.2 (.inl h))
        ·exact .inl (hf2.2 (.inr h))
        ·exact .inr h)
       have e:frm++[(x:Int)]++l2=frm++(x:Int)::l2:=by simp
       rw[e]at this;exact this
      ·have hfl':=hmono hfl;intro⟨r,h6,h7⟩;have hx1:x'<(x:Int):=by omega
       have h8: ∀w∈frm++x'::l2,dH (((sets++z).length:Nat):Int) w:=by
        intro w hw
        have:dH done w:=by
         rcases aau.1 hw with h|h
         ·exact hfrm w h
         ·rcases aaR.1 h with rfl|h
          ·exact⟨by omega,by omega⟩
          ·exact h4 w h
        exact⟨this.1,by have:=this.2;omega⟩
       obtain⟨q,hq⟩:=hcov hfl' x' l2 h1 hx1 h3 h4 h5 ⟨r,h6,(vJ h8).1 h7⟩;exact⟨q,aaH _ hq⟩
     refine Bd.eU (λ hf=> ?_) (λ hf=> ?_)
     ·refine Bd.fB (Bd.bind (call true) ?_);intro r hr;obtain⟨z2,m2,y2,full2,rfl,hok2,hcov2⟩:=next true (by simp[hf]) r hr
      dsimp only;exact Bd.iU hpre (Bd.aG (Bd.again ⟨⟨x+1,z2,m2,y2,full2,by rw[aA (by omega)],by omega,hok2,hcov2⟩,by dsimp only;rw[aA (by omega)];omega⟩))
     ·refine Bd.fB (Bd.bind (call (decide (old<=(x:Int)))) ?_);intro r hr;obtain⟨z2,m2,y2,full2,rfl,hok2,hcov2⟩:=next _ (by simp[hf]) r hr
      dsimp only;exact Bd.iU hpre (Bd.aG (Bd.again ⟨⟨x+1,z2,m2,y2,full2,by rw[aA (by omega)],by omega,hok2,hcov2⟩,by dsimp only;rw[aA (by omega)];omega⟩))
    ·refine Bd.no (decide_eq_false hx) (Bd.done ⟨z,m',y,full',rfl,hok',λ _=>rfl,λ hfl l2 h1 h2 h3=> ?_⟩)
     cases l2 with
     |nil=>rw[acy]at h1;omega
     |cons x' l3=>
      rw[abe]at h1;have hx':=h2 x' (by simp);by_cases hlt:x'<(first:Int)
      ·obtain⟨a1,a2,a3⟩:=hfirst x' hx'.1 hlt;have:l3= []:=aav (by omega);subst this;rcases h3 with h|⟨w,h,hw⟩
       ·rw[a1]at h;cases h
       ·rw[aam.1 h]at hw;omega
      ·exact hcov hfl x' l3 (by omega) (by have:=hx'.2;omega) (by omega) (λ w hw=>h2 w (by simp[hw])) (by
        rcases h3 with h|⟨w,h,hw⟩
        ·exact .inl h
        ·rcases aaR.1 h with rfl|h
         ·exact .inr (.inl hw)
         ·exact .inr (.inr ⟨w,h,hw⟩))
   ·exact⟨first,[],m,[],false,by rw[aaQ,aaQ],hfd,by rw[aaQ,aaQ];exact hok,λ _ x' l2 h1 h2=>absurd h1 (by omega)⟩
  have m0:=main 0 (by omega) λ x h0 h1=>absurd h0 (by omega);refine Tt.eU (λ hf=> ?_) (λ hf=> ?_)
  ·refine Tt.aG (Tt.eU (λ hg=> ?_) (λ hg=> ?_))
   ·refine Tt.aG ?_;have e:((old.toNat:Nat):Int)=old:=by omega
    have hg:=of_decide_eq_true hg;rw[nU _ (by omega) (by omega)]at hg;have:=main old.toNat (by omega) λ x h0 h1=>⟨by simpa using hf,by omega,by omega⟩;rw[e]at this;exact this
   ·exact Tt.aG m0
  ·exact Tt.aG (Tt.eU (λ hg=>by cases hg) (λ hg=>Tt.aG m0))
abbrev ZP (Fi:Nat->Int×List Int×List Rule->Option (List Bool)):Prop:= ∀(S:Int) (fin:List Int) (rs:List Rule),0<=S->S<=300->fin.length<=1000000->(∀q∈fin,dH S q)->
 Sp Fi (S,fin,rs) (λ r=>r.length=S.toNat/\ ∀q:Int,dH S q->(bat r q=true ↔ q∈fin))
theorem af2 {Fi:Nat->Int×List Int×List Rule->Option (List Bool)} (h: ∀n x,Fi (n+1) x=lJ.P n x):ZP Fi:=λ S fin rs h0 h1 h2 h3=>
 Sp.step h ((ady S fin rs h0 h1 (by rw[yZ];omega) h3).mono λ r hr=>⟨hr.1,λ q hq=>by
  have:=(hr.2 q hq).2;unfold at? at this;rw[zW,this];simp⟩)
def Sy (rs:List Rule):Prop:= ∀r∈rs,I64 r.1
def V6 (al fin:List Int) (rs:List Rule) (D:Aut):Prop:=Wf D.1 D.2.1 D.2.2/\D.1<=300/\Det D.2.2/\(∀t,Acc D.2.2 D.2.1 t ↔ Acc rs fin t)/\Sy D.2.2/\D.2.2.length<=20000/\Ar al D.2.2
theorem U8 {al:List Int} {S:Int} {fin fin':List Int} {rs rl:List Rule} {sets:List (List Int)} {m:KM} {full:Bool} (hw:Wf S fin rs) (hAr:Ar al rs) (hok:SOk S al rs sets m rl full)
 (hcov: ∀(sym:Nat) (k:Nat),al[sym]? =some (k:Int)-> ∀l:List Int,l.length=k->(∀x∈l,dH ((sets.length:Nat):Int) x)->Cov rs sets rl (sym:Int) l)
 (hfin: ∀n:Int,n∈fin' ↔ ∃s,0<=n/\sets[n.toNat]? =some s/\ ∃v:Int,0<=v/\DY s v=true/\v∈fin):Det rl/\ ∀t,Acc rl fin' t ↔ Acc rs fin t:=by
 obtain⟨hk,hrl,_,_,_,hmem⟩:=hok;have h0: ∀r∈rs,∀q∈r.2.1,0<=q:=λ r hr q hq=>((hw.2.2.2.2.2 r hr).2.1 q hq).1
 have sound: ∀t q,Reach rl t q->dH ((sets.length:Nat):Int) q/\ ∃s,sets[q.toNat]? =some s/\ ∀v:Int,0<=v->(DY s v=true ↔ Reach rs t v):=by
  intro t
  induction t using yA with
  |h a ks ih=>
   intro q hq;obtain⟨r',hr',h1,h2,h3,h4⟩:=dD.1 hq;obtain⟨b1,b2,b3,b4,b5,s,b6,b7⟩:=hrl r' hr';rw[←h2];refine⟨b4,s,b6,λ v hv=> ?_⟩;rw[b7 v hv];constructor
   ·rintro⟨r,c1,⟨c2,c3,c4⟩,c5⟩;refine dD.2 ⟨r,c1,c3.trans h1,c5,by omega,λ i k f hk hf=> ?_⟩;have hil:i<r'.2.1.length:=by have:=(aaf.1 hf).1;omega
    obtain⟨s',e1,e2⟩:=c4 i _ f (aac hil) hf;obtain⟨_,s2,e3,e4⟩:=ih k (aak hk) _ (h4 i k _ hk (aac hil));rw[e1]at e3;cases e3;exact(e4 f (h0 r c1 f (aak hf))).1 e2
   ·intro h;obtain⟨r,c1,c2,c3,c4,c5⟩:=dD.1 h;refine⟨r,c1,⟨by omega,c2.trans h1.symm,λ j x f hx hf=> ?_⟩,c3⟩;have hjl:j<ks.length:=by have:=(aaf.1 hx).1;omega
    have hkj:=aac hjl;obtain⟨_,s2,e3,e4⟩:=ih _ (aag hjl) x (h4 j _ x hkj hx);exact⟨s2,e3,(e4 f (h0 r c1 f (aak hf))).2 (c5 j _ f hkj hf)⟩
 have full: ∀t v,Reach rs t v-> ∃q,Reach rl t q:=by
  intro t
  induction t using yA with
  |h a ks ih=>
   intro v hv;obtain⟨r,c1,c2,c3,c4,c5⟩:=dD.1 hv
   have hch: ∀i:Nat,∃q:Int,∀h:i<ks.length,Reach rl ks[i] q:=by
    intro i;by_cases h:i<ks.length
    ·have hlt:i<r.2.1.length:=by omega
     obtain⟨q,hq⟩:=ih _ (aag h) _ (c5 i _ _ (aac h) (aac hlt));exact⟨q,λ _=>hq⟩
    ·exact⟨0,λ h'=>absurd h' h⟩
   obtain⟨g,hg⟩: ∃g:Nat->Int,∀i,∀h:i<ks.length,Reach rl ks[i] (g i):=⟨λ i=>(hch i).choose,λ i=>(hch i).choose_spec⟩
   let l:List Int:=(List.range ks.length).map g
   have hll:l.length=ks.length:=by simp[l]
   have hlg: ∀i,i<ks.length->l[i]? =some (g i):=λ i hi=>by
    simp only[l,aar,abZ hi,aaK]
   obtain⟨d1,d2⟩:=hAr r c1;have hsym:((r.1.toNat:Nat):Int)=r.1:=by omega
   have hcv:=hcov r.1.toNat r.2.1.length d2 l (by omega) λ x hx=>by
    obtain⟨i,hi,rfl⟩:=aaL.1 hx;exact(sound _ _ (hg i (abW.1 hi))).1
   rw[hsym]at hcv
   obtain⟨q,hq⟩:=hcv ⟨r,c1,by omega,rfl,λ j x f hx hf=>by
    have hj:j<ks.length:=by have:=(aaf.1 hx).1;omega
    rw[hlg j hj]at hx;cases hx;obtain⟨_,s,e1,e2⟩:=sound _ _ (hg j hj);exact⟨s,e1,(e2 f (h0 r c1 f (aak hf))).2 (c5 j _ f (aac hj) hf)⟩⟩
   refine⟨q,dD.2 ⟨_,hq,c2,rfl,hll,λ i k f hk hf=> ?_⟩⟩;have hi:=(aaf.1 hk).1;rw[hlg i hi]at hf;cases hf;have:=hg i hi
   rwa [(aaf.1 hk).2]at this
 have pos: ∀t v,Reach rs t v->0<=v:=λ t v h=>by
  cases t with
  |mk a ks=>
   obtain⟨r,c1,_,c3,_⟩:=dD.1 h;rw[←c3];exact(hw.2.2.2.2.2 r c1).1.1
 refine⟨λ r hr r' hr' e1 e2=> ?_,λ t=>⟨?_,?_⟩⟩
 ·obtain⟨_,_,_,a1,_,s,a2,a3⟩:=hrl r hr;obtain⟨_,_,_,b1,_,s',b2,b3⟩:=hrl r' hr';rw[←e1,←e2]at b3
  have:s=s':=afb (hk.1 _ (aak a2)) (hk.1 _ (aak b2)) λ v h0 _=>by
   cases e:DY s v<;>cases e':DY s' v<;>first|rfl|skip
   ·have:=(a3 v h0).2 ((b3 v h0).1 e');rw[e]at this;cases this
   ·have:=(b3 v h0).2 ((a3 v h0).1 e);rw[e']at this;cases this
  subst this;have:=hk.inj a2 b2;have:=a1.1;have:=b1.1;omega
 ·rintro⟨q,h1,h2⟩;obtain⟨s,_,e1,v,e2,e3,e4⟩:=(hfin q).1 h2;obtain⟨_,s',a2,a3⟩:=sound t q h1;rw[e1]at a2;cases a2;exact⟨v,(a3 v e2).1 e3,e4⟩
 ·rintro⟨v,h1,h2⟩;obtain⟨q,hq⟩:=full t v h1;obtain⟨a1,s,a2,a3⟩:=sound t q hq;have hv:=pos t v h1;exact⟨q,hq,(hfin q).2 ⟨s,a1.1,a2,v,hv,(a3 v hv).2 h1,h2⟩⟩
theorem Cov.more {rs:List Rule} {sets z:List (List Int)} {rl y:List Rule} {sym:Int} {l:List Int} (h:Cov rs sets rl sym l) (hl: ∀x∈l,dH ((sets.length:Nat):Int) x):Cov rs (sets++z) (rl++y) sym l:=λ⟨r,h1,h2⟩=>by
 obtain⟨q,hq⟩:=h ⟨r,h1,(vJ hl).1 h2⟩;exact⟨q,aaH _ hq⟩
abbrev aiw (al:List Int) (S:Int) (fin:List Int) (rs:List Rule) (Ls:Nat->LsT->Option Sb):Prop:=
 ∀(by_:List (List Int)) (sym:Int) (rank:Nat),0<=sym->al[sym.toNat]? =some (rank:Int)-> ∀(old done:Int),0<=old->old<=done-> ∀(idx:List Int) (fresh full:Bool) (sets:List (List Int)) (m:KM) (rl:List Rule),done<=((sets.length:Nat):Int)->SOk S al rs sets m rl full->idx.length<=rs.length->
  (∀v,v∈idx ↔ ∃r,At rs v r/\r.1=sym)->Sp Ls (S,fin,rs,by_,sets,m,rl,old,done,full,sym,(rank:Int),[],idx,fresh) (PG al rs sym rank [] fresh full S fin by_ old done sets rl)
theorem Zo {B:Nat->List Int×Int×List Int×List Rule->Option (List (List Int))} {Fi:Nat->Int×List Int×List Rule->Option (List Bool)} {So:Nat->List Rule->Option (List Rule)} {V:Nat->List Int×Int×List Int×List Rule->Option Bool} {Li:Nat->List Int->Option (List Int)}
 {Ls:Nat->LsT->Option Sb} {C:Nat->List Int×List Bool->Option Bool} (hFi:ZP Fi) (hSo:adL So) (hLi: ∀s,yJ s->Sp Li s (λ r=>r.length<=64/\ ∀v,v∈r ↔ 0<=v/\v<8/\DY s v=true)) (hC:Xy C id)
 (al:List Int) (S:Int) (fin:List Int) (rs:List Rule) (hS:S<=8) (hV:Sp V (al,S,fin,rs) (λ r=>r=true ↔ dV al (S,fin,rs)))
 (hB:dV al (S,fin,rs)->Sp B (al,S,fin,rs) (ahf al rs)) (hLs:dV al (S,fin,rs)->aiw al S fin rs Ls):
 Sp (λ n=>dL.P (B n) (Fi n) (So n) (V n) (Li n) (Ls n) (C n) n) (al,S,fin,rs) (λ r=>r.2.2.2.2=0->V6 al fin rs (r.1,r.2.1,r.2.2.1)):=by
 show Tt (λ n=>dL.P (B n) (Fi n) (So n) (V n) (Li n) (Ls n) (C n) n (al,S,fin,rs)) _;unfold dL.P;dsimp only;refine Tt.bind hV λ b hb=>Tt.ite (λ hc=>Tt.pure λ h=>by cases h) (λ hc=> ?_);have hv:dV al (S,fin,rs):=hb.1 (by simpa using hc);have hw:=hv.wf;have hAr:=hv.ar;dsimp only at hw hAr;have hB:=hB hv;have hLs:=hLs hv;have hal:=hv.1;have hal1:=hal.1;refine Tt.bind hB λ by_ hby=> ?_;obtain⟨hby1,hby2⟩:=hby
 refine Tt.bind (R:=λ t=>t=Sum.inr ((0:Int),([]:List Int),([]:List Rule),([]:List (List Int)),(3:Int))\/ ∃(sets:List (List Int)) (m:KM) (rl:List Rule) (old done:Int),t=Sum.inl (S,fin,rs,(0:Int),([]:List Int),([]:List Rule),S,fin,rs,by_,sets,m,rl,old,done,false)/\SOk S al rs sets m rl false/\
  ∀(sym:Nat) (k:Nat),al[sym]? =some (k:Int)-> ∀l:List Int,l.length=k->(∀x∈l,dH ((sets.length:Nat):Int) x)->Cov rs sets rl (sym:Int) l)
  (Tt.loop (L:=λ n=>dL.L2 (Ls n) n) (Lp.measure (λ t=> ∃(rd:Int) (sets:List (List Int)) (m:KM) (rl:List Rule) (old done:Int),t=(al,S,fin,rs,(0:Int),([]:List Int),([]:List Rule),rd,S,fin,rs,by_,sets,m,rl,old,done,false)/\SOk S al rs sets m rl false/\
   0<=rd/\rd<=old+1/\0<=old/\old<=done/\done<=((sets.length:Nat):Int)/\((rd≠0->done=((sets.length:Nat):Int))/\(rd=0->done=0))/\(rd≠0-> ∀sym:Nat,al[sym]? =some 0->Cov rs sets rl (sym:Int) [])/\
   ∀(sym:Nat) (k:Nat),al[sym]? =some ((k+1:Nat):Int)-> ∀l:List Int,l.length=k+1->(∀x∈l,dH old x)->Cov rs sets rl (sym:Int) l)
   (λ t=>(302-t.2.2.2.2.2.2.2.2.2.2.2.2.2.2.2.1).toNat*2+if t.2.2.2.2.2.2.2.1=0 then 1 else 0) ?_ ?_)) ?_
 ·rintro _ ⟨rd,sets,m,rl,old,done,rfl,hok,h0,hrd,ho,hod,hds,hrs,hz,hp⟩;unfold dL.L2;dsimp only;have hlen:=hok.2.2.1
  have body:(rd=0\/old<done)->Bd (λ n k=>(cu (dL.L1 (Ls n)) n (al,S,fin,rs,(0:Int),([]:List Int),([]:List Rule),rd,S,fin,rs,by_,sets,m,rl,old,done,false,al,((al.length:Nat):Int),(0:Int))).bind λ x12=>
   bif x12.2.2.2.2.2.2.2.2.2.2.2.2.2.2.2.2.2 then((some ((0:Int),([]:List Int),([]:List Rule),([]:List (List Int)),(3:Int))).bind λ r=>some (Sum.inr r))
   else k (x12.1,x12.2.1,x12.2.2.1,x12.2.2.2.1,x12.2.2.2.2.1,x12.2.2.2.2.2.1,x12.2.2.2.2.2.2.1,IntKind.wrap .i64 (x12.2.2.2.2.2.2.2.1+(1:Int)),x12.2.2.2.2.2.2.2.2.1,x12.2.2.2.2.2.2.2.2.2.1,x12.2.2.2.2.2.2.2.2.2.2.1,x12.2.2.2.2.2.2.2.2.2.2.2.1,x12.2.2.2.2.2.2.2.2.2.2.2.2.1,x12.2.2.2.2.2.2.2.2.2.2.2.2.2.1,x12.2.2.2.2.2.2.2.2.2.2.2.2.2.2.1,x12.2.2.2.2.2.2.2.2.2.2.2.2.2.2.2.2.1,((List.length x12.2.2.2.2.2.2.2.2.2.2.2.2.1:Nat):Int),x12.2.2.2.2.2.2.2.2.2.2.2.2.2.2.2.2.2))
   (λ s'=>(∃(rd':Int) (sets:List (List Int)) (m:KM) (rl:List Rule) (old' done:Int),s'=(al,S,fin,rs,(0:Int),([]:List Int),([]:List Rule),rd',S,fin,rs,by_,sets,m,rl,old',done,false)/\SOk S al rs sets m rl false/\
    0<=rd'/\rd'<=old'+1/\0<=old'/\old'<=done/\done<=((sets.length:Nat):Int)/\((rd'≠0->done=((sets.length:Nat):Int))/\(rd'=0->done=0))/\(rd'≠0-> ∀sym:Nat,al[sym]? =some 0->Cov rs sets rl (sym:Int) [])/\
    ∀(sym:Nat) (k:Nat),al[sym]? =some ((k+1:Nat):Int)-> ∀l:List Int,l.length=k+1->(∀x∈l,dH old' x)->Cov rs sets rl (sym:Int) l)/\s'.2.2.2.2.2.2.2.1=rd+1/\s'.2.2.2.2.2.2.2.2.2.2.2.2.2.2.2.1=done)
   (λ t=>t=Sum.inr ((0:Int),([]:List Int),([]:List Rule),([]:List (List Int)),(3:Int))\/ ∃(sets:List (List Int)) (m:KM) (rl:List Rule) (old done:Int),t=Sum.inl (S,fin,rs,(0:Int),([]:List Int),([]:List Rule),S,fin,rs,by_,sets,m,rl,old,done,false)/\SOk S al rs sets m rl false/\
    ∀(sym:Nat) (k:Nat),al[sym]? =some (k:Int)-> ∀l:List Int,l.length=k->(∀x∈l,dH ((sets.length:Nat):Int) x)->Cov rs sets rl (sym:Int) l):=by
   intro hg
   refine Bd.bind (R:=λ t=> ∃(z:List (List Int)) (m':KM) (y:List Rule) (full':Bool),t=(al,S,fin,rs,(0:Int),([]:List Int),([]:List Rule),rd,S,fin,rs,by_,sets++z,m',rl++y,old,done,full')/\SOk S al rs (sets++z) m' (rl++y) full'/\
    (full'=false-> ∀(sym k:Nat),al[sym]? =some (k:Int)->(k=0 ↔ rd=0)-> ∀l:List Int,l.length=k->(∀x∈l,dH done x)->(k=0\/ ∃x∈l,old<=x)->Cov rs (sets++z) (rl++y) (sym:Int) l))
    (Tt.loop (L:=λ n=>dL.L1 (Ls n)) (Lp.count al.length (λ i t=> ∃(z:List (List Int)) (m':KM) (y:List Rule) (full':Bool),t=(al,S,fin,rs,(0:Int),([]:List Int),([]:List Rule),rd,S,fin,rs,by_,sets++z,m',rl++y,old,done,full',al,((al.length:Nat):Int),(i:Int))/\SOk S al rs (sets++z) m' (rl++y) full'/\
     (full'=false-> ∀(sym k:Nat),sym<i->al[sym]? =some (k:Int)->(k=0 ↔ rd=0)-> ∀l:List Int,l.length=k->(∀x∈l,dH done x)->(k=0\/ ∃x∈l,old<=x)->Cov rs (sets++z) (rl++y) (sym:Int) l)) ?_ ?_
     ⟨[],m,[],false,by rw[aaQ,aaQ];rfl,by rw[aaQ,aaQ];exact hok,λ _ sym k h=>absurd h (by omega)⟩)) ?_
   ·rintro i t hi ⟨z,m',y,full',rfl,hok',hc'⟩;unfold dL.L1;dsimp only;have hdz:done<=(((sets++z).length:Nat):Int):=by rw[aap];omega
    obtain⟨k0,hk0⟩: ∃k:Nat,al[i]=(k:Int):=⟨al[i].toNat,by have:=(hal.2 i hi).1;omega⟩;have hai:al[i]? =some (k0:Int):=by rw[aac hi,hk0]
    refine Bd.yes (aT (by omega)) (Bd.nth hi ?_);rw[hk0];refine Bd.eU (λ he=> ?_) (λ he=> ?_)
    ·have hiff:k0=0 ↔ rd=0:=by
      have:decide ((k0:Int)=0)=decide (rd=0):=by simpa using he
      have:=decide_eq_decide.1 this;omega
     refine Bd.fB ?_;have hib:i<by_.length:=by omega
     rw[fE hib];have hrow:=hby2 i by_[i] (aac hib);refine Bd.aG (Bd.fB (Bd.bind (hLs by_ (i:Int) k0 (by omega) (by rw[aat];exact hai) old done ho hod by_[i] (decide ((k0:Int)=0)) full' (sets++z) m' (rl++y) hdz hok' hrow.1 λ v=>(hrow.2 v).trans ⟨?_,?_⟩) ?_))
     ·rintro⟨j,r,e,h1,h2⟩;exact⟨r,⟨j,e,h1⟩,h2⟩
     ·rintro⟨r,⟨j,e,h1⟩,h2⟩;exact⟨j,r,e,h1,h2⟩
     rintro _ ⟨z2,m2,y2,full2,rfl,hok2,hmono,hcov2⟩;refine Bd.aG (Bd.again ⟨z++z2,m2,y++y2,full2,?_,by rw[←aaA,←aaA];exact hok2,λ hf sym k hsym hk hkr l hl hld hlo=> ?_⟩)
     ·dsimp only;rw[aA (by omega),aaA,aaA]
     ·rw[←aaA,←aaA];rcases aaY (aa8 hsym)with h|rfl
      ·exact(hc' (hmono hf) sym k h hk hkr l hl hld hlo).more λ x hx=>⟨(hld x hx).1,by have:=(hld x hx).2;omega⟩
      ·rw[hai]at hk;have hk:k0=k:=by have:=aao hk;omega
       subst hk;refine hcov2 hf l (by simpa using hl) hld ?_;rcases hlo with h|h
       ·exact .inl (aT (by omega))
       ·exact .inr h
    ·have hiff: ¬(k0=0 ↔ rd=0):=by
      intro h
      have:(decide ((k0:Int)=0)==decide (rd=0))=true:=by
       rw[beq_iff_eq];exact decide_eq_decide.2 (by omega)
      rw[this]at he;cases he
     refine Bd.aG (Bd.again ⟨z,m',y,full',by dsimp only;rw[aA (by omega)],hok',λ hf sym k hsym hk hkr l hl hld hlo=> ?_⟩);rcases aaY (aa8 hsym)with h|rfl
     ·exact hc' hf sym k h hk hkr l hl hld hlo
     ·rw[hai]at hk;have hk:k0=k:=by have:=aao hk;omega
      subst hk;exact absurd hkr hiff
   ·rintro t ⟨z,m',y,full',rfl,hok',hc'⟩;unfold dL.L1;dsimp only;exact Bd.no (decide_eq_false (by omega)) (Bd.done ⟨z,m',y,full',rfl,hok',λ hf sym k hk=>hc' hf sym k (aaf.1 hk).1 hk⟩)
   ·rintro _ ⟨z,m',y,full',rfl,hok',hc'⟩;refine Bd.ite (λ hf=>Bd.aG (Bd.done (.inl rfl))) (λ hf=> ?_);have hf:full'=false:=hf;subst hf;have hdz:done<=(((sets++z).length:Nat):Int):=by rw[aap];omega
    have hrdb:rd<=302:=by omega
    have hw1:IntKind.wrap .i64 (rd+1)=rd+1:=nU _ (by omega) (by omega);have leS: ∀x,dH done x->dH ((sets.length:Nat):Int) x:=λ x h=>⟨h.1,by have:=h.2;omega⟩;refine Bd.again ⟨⟨rd+1,sets++z,m',rl++y,done,(((sets++z).length:Nat):Int),by dsimp only;rw[hw1],hok',by omega,?_,by omega,hdz,acN _,⟨λ _=>rfl,λ h=>by omega⟩,λ _ sym hs=> ?_,λ sym k hs l hl hld=> ?_⟩,by dsimp only;rw[hw1],rfl⟩
    ·omega
    ·by_cases hr0:rd=0
     ·exact hc' rfl sym 0 hs (by omega) [] rfl (by simp) (.inl rfl)
     ·exact(hz hr0 sym hs).more (by simp)
    ·by_cases hr0:rd=0
     ·have h0:=hrs.2 hr0;have hx:=hld l[0] (aag (by omega));exact absurd hx.1 (by have:=hx.2;omega)
     ·by_cases hex: ∃x∈l,old<=x
      ·exact hc' rfl sym (k+1) hs (by omega) l hl hld (.inr hex)
      ·refine(hp sym k hs l hl λ x hx=>⟨(hld x hx).1,?_⟩).more λ x hx=>leS x (hld x hx);rcases acJ x old with h|h
       ·exact h
       ·exact absurd ⟨x,hx,h⟩ hex
  have meas: ∀s':List Int×Int×List Int×List Rule×Int×List Int×List Rule×Int×Int×List Int×List Rule×List (List Int)×List (List Int)×KM×List Rule×Int×Int×Bool,(rd=0\/old<done)->s'.2.2.2.2.2.2.2.1=rd+1->s'.2.2.2.2.2.2.2.2.2.2.2.2.2.2.2.1=done->
   (302-s'.2.2.2.2.2.2.2.2.2.2.2.2.2.2.2.1).toNat*2+(if s'.2.2.2.2.2.2.2.1=0 then 1 else 0)<(302-old).toNat*2+if rd=0 then 1 else 0:=by
   intro s' hg e1 e2;rw[e1,e2,if_neg (by omega)];split<;>omega
  refine Bd.eU (λ h=> ?_) (λ h=> ?_)
  ·have hg:rd=0\/old<done:= .inl (sW h);exact Bd.aG (Bd.yes rfl ((body hg).mono (λ s' hs=>⟨hs.1,meas s' hg hs.2.1 hs.2.2⟩) λ t ht=>ht))
  ·have hr0:rd≠0:=dec_not h;refine Bd.aG (Bd.ite (λ h2=> ?_) (λ h2=> ?_))
   ·have hg:rd=0\/old<done:= .inr (sW h2);exact(body hg).mono (λ s' hs=>⟨hs.1,meas s' hg hs.2.1 hs.2.2⟩) λ t ht=>ht
   ·have h2: ¬old<done:=dec_not h2;have e1:=hrs.1 hr0;refine Bd.done (.inr ⟨sets,m,rl,old,done,rfl,hok,λ sym k hk l hl hld=> ?_⟩)
    cases k with
    |zero=>
     have:l= []:=aav hl;rw[this];exact hz hr0 sym hk
    |succ k=>exact hp sym k hk l hl λ x hx=>⟨(hld x hx).1,by have:=(hld x hx).2;omega⟩
 ·refine⟨0,[],some [],[],0,0,rfl,⟨⟨by simp,[],rfl,λ n s h=>by simp at h,λ s v h h2=>by simp[og]at h2⟩,λ r h=>by simp at h,by simp,by simp,λ _=>⟨by simp,by simp⟩,by simp⟩,by omega,by omega,by omega,by omega,by simp,⟨λ h=>absurd rfl h,λ _=>rfl⟩,λ h=>absurd rfl h,λ sym k hk l hl hld=> ?_⟩;have hx:=hld l[0] (aag (by omega));exact absurd hx.1 (by have:=hx.2;omega)
 rintro _ (rfl|⟨sets,m,rl,old,done,rfl,hok,hcov⟩)
 ·exact Tt.pure λ h=>by cases h
 dsimp only;have hrl20:=(hok.2.2.2.2.1 rfl)
 have hr3: ∀r∈rl,r.2.1.length<=3:=λ r hr=>by
  obtain⟨a1,a2,_⟩:=hok.2.1 r hr;obtain⟨hlt,e⟩:=aaf.1 a2;have:=(hal.2 _ hlt).2;omega
 refine Tt.bind (hSo rl (by omega) hr3) λ rl' hrl'=> ?_;obtain⟨hl1,hl2⟩:=hrl';have hok':SOk S al rs sets m rl' false:=⟨hok.1,λ r hr=>hok.2.1 r ((hl2 r).1 hr),hok.2.2.1,by omega,λ _=>⟨hrl20.1,by omega⟩,hok.2.2.2.2.2⟩;refine Tt.bind (hFi S fin rs hw.1 (by omega) (by have:=hw.2.2.1;omega) hw.2.2.2.2.1) λ R hR=> ?_;obtain⟨hR1,hR2⟩:=hR
 refine Tt.bind (R:=λ t=> ∃(fin':List Int) (sl:List (List Int)),t=((0:Int),([]:List Int),([]:List Rule),((sets.length:Nat):Int),fin',rl',sl)/\fin'.length<=sets.length/\ ∀n:Int,n∈fin' ↔ ∃s,0<=n/\sets[n.toNat]? =some s/\ ∃v:Int,0<=v/\DY s v=true/\v∈fin)
  (Tt.loop (L:=λ n=>dL.L3 (Li n) (C n)) (Lp.count sets.length (λ i t=> ∃(fin':List Int) (sl:List (List Int)),t=((0:Int),([]:List Int),([]:List Rule),((sets.length:Nat):Int),fin',rl',R,sl,S,fin,rs,by_,sets,m,rl,old,done,false,((sets.length:Nat):Int),(i:Int))/\fin'.length<=i/\sl.length<=i/\
   ∀n:Int,n∈fin' ↔ ∃s,0<=n/\n<(i:Int)/\sets[n.toNat]? =some s/\ ∃v:Int,0<=v/\DY s v=true/\v∈fin) ?_ ?_ ⟨[],[],rfl,by simp,by simp,λ n=>⟨λ h=>by simp at h,λ⟨s,h1,h2,_⟩=>absurd h1 (by omega)⟩⟩)) ?_
 ·rintro i t hi ⟨fin',sl,rfl,hf1,hf2,hf3⟩;unfold dL.L3;dsimp only;have hsi:=hok.1.1 _ (aag hi);refine Bd.yes (aT (by omega)) (Bd.chk (rng (by omega) (by omega)) ?_);rw[aat];refine Bd.at hi λ s _ hs=> ?_;rw[aac hi]at hs;cases hs;refine Bd.bind (hLi _ hsi) λ l hl=> ?_;obtain⟨hll0,hl⟩:=hl
  have hlS: ∀v∈l,dH S v:=λ v hv=>by
   obtain⟨a1,a2,a3⟩:=(hl v).1 hv;exact⟨a1,hok.2.2.2.2.2 _ (aag hi) v a1 a3⟩
  have hll:l.length<=1000000:=by omega
  refine Bd.chk (pY (by simp;omega)) (Bd.bind (hC S l R hR1 hlS hll) λ b hb=> ?_)
  have hbiff:b=true ↔ ∃v:Int,0<=v/\DY sets[i] v=true/\v∈fin:=by
   rw[hb,abV];constructor
   ·rintro⟨v,h1,h2⟩;obtain⟨a1,a2,a3⟩:=(hl v).1 h1;exact⟨v,a1,a3,(hR2 v (hlS v h1)).1 h2⟩
   ·rintro⟨v,h1,h2,h3⟩;have hm:v∈l:=(hl v).2 ⟨h1,Zg hsi h2 h1,h2⟩;exact⟨v,hm,(hR2 v (hlS v hm)).2 h3⟩
  refine Bd.eU (λ hc=> ?_) (λ hc=> ?_)
  ·refine Bd.iU (pY (by simp;omega)) (Bd.aG (Bd.again ⟨_,_,by rw[aA (by omega)],by simp;omega,by simp;omega,λ n=> ?_⟩));simp only[abt,aau,aam,hf3];constructor
   ·rintro(⟨s,h1,h2,h3⟩|rfl)
    ·exact⟨s,h1,by omega,h3⟩
    ·exact⟨sets[i],by omega,by omega,by rw[aat];exact aac hi,hbiff.1 hc⟩
   ·rintro⟨s,h1,h2,h3⟩;by_cases e:n=(i:Int)
    ·exact .inr e
    ·exact .inl ⟨s,h1,by omega,h3⟩
  ·refine Bd.aG (Bd.again ⟨fin',_,by rw[aA (by omega)],by omega,by simp;omega,λ n=> ?_⟩);rw[hf3];constructor
   ·rintro⟨s,h1,h2,h3⟩;exact⟨s,h1,by omega,h3⟩
   ·rintro⟨s,h1,h2,h3,h4⟩
    have:n≠(i:Int):=by
     rintro rfl;rw[aat,aac hi]at h3;cases h3;rw[hbiff.2 h4]at hc;cases hc
    exact⟨s,h1,by omega,h3,h4⟩
 ·rintro t ⟨fin',sl,rfl,hf1,hf2,hf3⟩;unfold dL.L3;dsimp only;refine Bd.no (decide_eq_false (by omega)) (Bd.done ⟨fin',sl,rfl,hf1,λ n=>(hf3 n).trans ⟨λ⟨s,h1,h2,h3⟩=>⟨s,h1,h3⟩,λ⟨s,h1,h3⟩=>⟨s,h1,?_,h3⟩⟩⟩);have:=(aaf.1 h3.1).1;omega
 ·rintro _ ⟨fin',sl,rfl,hf1,hf2⟩;dsimp only
  obtain⟨hu,hacc⟩:=U8 (fin':=fin') hw hAr hok' (λ sym k hk l hl hld ⟨r,h1,h2⟩=>by
   obtain⟨q,hq⟩:=hcov sym k hk l hl hld ⟨r,h1,h2⟩;exact⟨q,(hl2 _).2 hq⟩) hf2
  refine Tt.pure λ _=>⟨⟨by dsimp only;omega,by dsimp only;omega,by dsimp only;omega,by dsimp only;omega,λ q hq=> ?_,λ r hr=> ?_⟩,by dsimp only;omega,hu,hacc,λ r hr=> ?_,by dsimp only;omega,λ r hr=>⟨(hok'.2.1 r hr).1,(hok'.2.1 r hr).2.1⟩⟩
  ·obtain⟨s,h1,h2,_⟩:=(hf2 q).1 hq;have:=(aaf.1 h2).1;exact⟨h1,by dsimp only;omega⟩
  ·have h:=hok'.2.1 r hr;exact⟨h.2.2.2.1,h.2.2.1,hr3 r ((hl2 r).1 hr)⟩
  ·have h:=hok'.2.1 r hr;have:=(aaf.1 h.2.1).1;exact⟨by have:=h.1;omega,by have:=h.1;omega⟩
theorem ag6 {Cp:Nat->Int×List Int×List Rule->Option (Int×List Int×List Rule)} {De:Nat->List Int×Int×List Int×List Rule->Option (Bool×Int)} {Tr:Nat->List Int×Int×List Int×List Rule->Option (Int×List Int×List Rule×Int)}
 {Su:Nat->List Int×Int×List Int×List Rule->Option (Int×List Int×List Rule×List (List Int)×Int)} (al:List Int) (S:Int) (fin:List Int) (rs:List Rule) (hS:dV al (S,fin,rs)->S<=8\/FY rs)
 (hCp:dV al (S,fin,rs)->Sp Cp (S,fin,rs) (λ r=>r=(S,fin,rs))) (hDe:Sp De (al,S,fin,rs) (λ r=>(dV al (S,fin,rs)/\r.2=0/\(r.1=true->Det rs)/\(FY rs->r.1=true))\/(¬dV al (S,fin,rs)/\r.2=1)))
 (hTr:dV al (S,fin,rs)->Sp Tr (al,S,fin,rs) (λ r=>r.2.2.2=0/\Wf r.1 r.2.1 r.2.2.1/\r.1<=S/\ ∀t,Acc r.2.2.1 r.2.1 t ↔ Acc rs fin t))
 (hSu: ∀(S':Int) (fin':List Int) (rs':List Rule),S'<=8->Wf S' fin' rs'->Sp Su (al,S',fin',rs') (λ r=>r.2.2.2.2=0->V6 al fin' rs' (r.1,r.2.1,r.2.2.1))):
 Sp (λ n=>xP.P (Cp n) (De n) (Tr n) (Su n) n) (al,S,fin,rs) (λ r=>(r.2.2.2=0->dV al (S,fin,rs)/\V6 al fin rs (r.1,r.2.1,r.2.2.1))/\(dV al (S,fin,rs)->FY rs->r.2.2.2=0)):=by
 show Tt (λ n=>xP.P (Cp n) (De n) (Tr n) (Su n) n (al,S,fin,rs)) _;unfold xP.P;dsimp only;refine Tt.bind hDe λ r hr=> ?_;rcases hr with⟨hv,h0,hd,hdn⟩|⟨h,h1⟩
 ·refine Tt.no (by rw[h0];rfl) (Tt.ite (λ hc=> ?_) (λ hc=> ?_))
  ·refine Tt.bind (hCp hv) ?_;rintro _ rfl;refine Tt.pure ⟨λ _=>⟨hv,hv.wf,by have:=hv.2.2.1;dsimp only at this ⊢;omega,hd hc,λ t=>ach,λ r hr=> ?_,by have:=hv.2.2.2.1;dsimp only at this ⊢;omega,hv.ar⟩,λ _ _=>rfl⟩;have h1:=hv.rule hr;have h2:=hv.1.1;exact⟨by have:=h1.1;omega,by have:=h1.2.1;omega⟩
  ·have hnd: ¬FY rs:=λ h=>by rw[hdn h]at hc;cases hc
   have hS:S<=8:=(hS hv).resolve_right hnd;refine Tt.bind (hTr hv) λ r2 hr2=> ?_;obtain⟨e0,hw,hle,ha⟩:=hr2;refine Tt.no (by rw[e0];rfl) (Tt.bind (hSu _ _ _ (by omega) hw) λ r3 hr3=>Tt.pure ⟨λ h=> ?_,λ _ h=>absurd h hnd⟩);obtain⟨d1,d2,d3,d4,d5,d6,d7⟩:=hr3 h;exact⟨hv,d1,d2,d3,λ t=>(d4 t).trans (ha t),d5,d6,d7⟩
 ·refine Tt.yes (by rw[h1];rfl) (Tt.pure ⟨λ h'=> ?_,λ h'=>absurd h' h⟩);dsimp only at h';rw[h1]at h';cases h'
end Go.Bk
end
