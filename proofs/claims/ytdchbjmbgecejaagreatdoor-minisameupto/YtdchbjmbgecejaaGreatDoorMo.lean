import Derived.Test.YtdchbjmbgecejaaGreatDoorMj
set_option linter.unusedVariables false
noncomputable section
namespace Go.Bk
open Go Go.AM
def iat (l:LI) (s:Int):Int:=l[s.toNat]?.getD 0
theorem l9 {l:LI} {s:Int} {v:Int} (h:l[s.toNat]? =some v):iat l s=v:=by unfold iat;rw[h];rfl
theorem sV {l:LI} {s:Int} (h:s.toNat<l.length):l[s.toNat]=iat l s:=by unfold iat;rw[aac h];rfl
def Ren (e:Int->Prop) (ν:Int->Int) (rs d:LR):Prop:=
 ∀f,f∈d ↔ ∃r∈rs,e r.2.2/\(∀s∈r.2.1,e s)/\f=(r.1,r.2.1.map ν,ν r.2.2)
def ahc (d:Int->Prop) (ν:Int->Int) (fin fin':LI):Prop:= ∀q,q∈fin' ↔ ∃s∈fin,d s/\q=ν s
abbrev aeR (F:Nat->LR->Option (LR)):Prop:= ∀x:LR,x.length<=100000->(∀r∈x,r.2.1.length<=3)->Sp F x (λ r=>r.length<=x.length/\ ∀y,y∈r ↔ y∈x)
abbrev afq (F:Nat->LR->Option (LR)):Prop:= ∀x:LR,x.length<=100000->(∀r∈x,r.2.1.length<=3)->Sp F x (λ r=>r.length<=x.length/\(∀y,y∈r ↔ y∈x)/\r.Pairwise λ a b=>uY a b<=0)
abbrev adx (F:Nat->LR->Option (LR)):Prop:= ∀x:LR,x.length<=100000->(∀r∈x,r.2.1.length<=3)->Sp F x (λ r=>r.length<=x.length/\(∀y,y∈r ↔ y∈x)/\r.Pairwise λ a b=>uY a b<0)
theorem aiE {l z:LI} (h:z.length=l.length):List.append (List.append (List.take 0 z) (List.take (Nat.min l.length (z.length-0)) l)) (List.drop (0+Nat.min l.length (z.length-0)) z)=l:=by
 have d:Nat.min l.length (z.length-0)=l.length:=by rw[h,Nat.sub_zero];exact Nat.min_self _
 rw[d,aa0,←h,acT,h,aat];simp
theorem ad9 {l:LI} {f:Int->Int} {i:Nat} (h:i<l.length):List.set ((l.take i).map f++l.drop i) i (f l[i])=(l.take (i+1)).map f++l.drop (i+1):=by
 have d:((l.take i).map f).length=i:=by simp;omega
 rw[List.set_append_right _ _ (by omega),d,acH,aaI h,List.set_cons_zero,aau,aac h,abr,aaD];rfl
theorem ahZ {l:LI} {f:Int->Int} {i:Nat} (h:i<l.length):((l.take i).map f++l.drop i)[i]? =some l[i]:=by
 have d:((l.take i).map f).length=i:=by simp;omega
 rw[aaC (by omega),d,acH,aaI h];rfl
def su (S:Int) (fin:LI) (rs:LR) (keep:List Bool) (a:Aut):Prop:=
 (Wf a.1 a.2.1 a.2.2/\a.1<=S/\((fin.Pairwise λ a b=>a<b)->a.2.1.Pairwise λ a b=>a<b))/\ ∃ν:Int->Int,(∀s s',bC S s->bC S s'->bat keep s=true->bat keep s'=true->ν s=ν s'->s=s')/\ahc (λ s=>bat keep s=true) ν fin a.2.1/\Ren (λ s=>bat keep s=true) ν rs a.2.2/\
  (∀s,bC S s->bat keep s=true->bC a.1 (ν s))/\(∀q,bC a.1 q-> ∃s,bC S s/\bat keep s=true/\ν s=q)/\a.2.2.length<=rs.length/\a.2.2.Pairwise λ a b=>uY a b<0
theorem agD {F:Nat->LR->Option (LR)} {C:Nat->LI×List Bool->Option Bool} (hF:adx F) (hC:XT C (!·)) (S:Int) (fin:LI) (rs:LR) (keep:List Bool) (h:Wf S fin rs) (hk:keep.length=S.toNat):
 Sp (λ n=>iJ.P (F n) (C n) n) (S,fin,rs,keep) (su S fin rs keep):=by
 obtain⟨h0,hS,d0,d1,I,hr⟩:=h;show Tt (λ n=>iJ.P (F n) (C n) n (S,fin,rs,keep)) _;unfold iJ.P;dsimp only;refine aX0 (tY h0 (by omega)) ?_
 refine aZ1 (R:=λ t=> ∃(num:LI) (c:Int),num.length=S.toNat/\0<=c/\c<=S/\(∀s,bC S s->bat keep s=true->bC c (iat num s))/\(∀s s',bC S s->bC S s'->bat keep s=true->bat keep s'=true->s<s'->iat num s<iat num s')/\(∀q,bC c q-> ∃s,bC S s/\bat keep s=true/\iat num s=q)/\
  t=(S,fin,rs,keep,(0:Int),([]:LI),([]:LR),c,([]:LI),([]:LR),num))
  (aZ8 (aZ6 keep.length (λ i t=> ∃(num:LI) (c:Int),num.length=S.toNat/\0<=c/\c<=(i:Int)/\(∀s,bC (i:Int) s->bat keep s=true->bC c (iat num s))/\(∀s s',bC (i:Int) s->bC (i:Int) s'->bat keep s=true->bat keep s'=true->s<s'->iat num s<iat num s')/\(∀q,bC c q-> ∃s,bC (i:Int) s/\bat keep s=true/\iat num s=q)/\
   t=(S,fin,rs,keep,(0:Int),([]:LI),([]:LR),c,([]:LI),([]:LR),num,keep,(keep.length:Int),(i:Int))) ?_ ?_ ?_)) ?_
 ·rintro i t A ⟨num,c,Q,B,b7,K,U,Z,rfl⟩;unfold iJ.L1;dsimp only;have a7:bat keep (i:Int)=keep[i]:=by unfold bat;rw[aal,aac A];rfl
  refine aY1 (by omega) (aY A (aY2 (λ a0=> ?_) (λ a0=> ?_)))
  ·refine aY0 (rng (by omega) (by omega)) (aY5 ?_);rw[aal];refine aY6 (by omega) λ e _ _=>aZ3 (aZ2 ?_)
   have u: ∀s:Int,bC ((i+1:Nat):Int) s->iat (num.set i c) s=if s=(i:Int)then c else iat num s:=by
    intro s hs;unfold iat;rw[aaU];by_cases e:s=(i:Int)
    ·subst e;rw[if_pos rfl,aal,if_pos rfl,if_pos (by omega)];rfl
    ·rw[if_neg e,if_neg (by have:=hs.1;omega)]
   have D: ∀s:Int,bC ((i+1:Nat):Int) s->s≠(i:Int)->bC (i:Int) s:=λ s hs e=>⟨hs.1,by have:=hs.2;omega⟩;refine⟨num.set i c,c+1,by simpa using Q,by omega,by omega,λ s hs k=> ?_,λ s s' hs p k z e=> ?_,λ q M=> ?_,by rw[ak (by omega),kS _ (by omega) (by omega)]⟩
   ·rw[u s hs];split
    ·exact⟨B,by omega⟩
    ·rename_i e;obtain⟨a1,a2⟩:=K s (D s hs e) k;exact⟨a1,by omega⟩
   ·rw[u s hs,u s' p,if_neg (show s≠(i:Int) by have:=p.2;omega)];split
    ·rename_i e2;exact(K s ⟨hs.1,by omega⟩ k).2
    ·rename_i e2;exact U s s' ⟨hs.1,by have:=p.2;omega⟩ (D s' p e2) k z e
   ·rcases abS (Int.lt_add_one_iff.1 M.2)with h|rfl
    ·obtain⟨s,d,l,m⟩:=Z q ⟨M.1,h⟩;have N:bC ((i+1:Nat):Int) s:=⟨d.1,by have:=d.2;omega⟩;exact⟨s,N,l,by rw[u s N,if_neg (by have:=d.2;omega)];exact m⟩
    ·have N:bC ((i+1:Nat):Int) (i:Int):=⟨by omega,by omega⟩;exact⟨i,N,a7.trans a0,by rw[u _ N,if_pos rfl]⟩
  ·have D: ∀s:Int,bC ((i+1:Nat):Int) s->bat keep s=true->bC (i:Int) s:=λ s hs k=>⟨hs.1,by
    have:=hs.2;have:s≠(i:Int):=by rintro rfl;rw[a7,a0]at k;cases k
    omega⟩
   exact aZ3 (aZ2 ⟨num,c,Q,B,by omega,λ s hs k=>K s (D s hs k) k,λ s s' hs p k z e=>U s s' (D s hs k) (D s' p z) k z e,λ q M=>by obtain⟨s,d,l,m⟩:=Z q M;exact⟨s,⟨d.1,by have:=d.2;omega⟩,l,m⟩,by rw[ak (by omega)]⟩)
 ·rintro t ⟨num,c,Q,B,b7,K,U,Z,rfl⟩;unfold iJ.L1;dsimp only;have e:(keep.length:Int)=S:=by omega
  rw[e]at K U Z;exact aY3 (by omega) (aZ4 ⟨num,c,Q,B,by omega,K,U,Z,rfl⟩)
 ·exact⟨_,0,by simp,by omega,by omega,λ s hs=>absurd hs.1 (by have:=hs.2;omega),λ s s' hs=>absurd hs.1 (by have:=hs.2;omega),λ q M=>absurd M.1 (by have:=M.2;omega),rfl⟩
 rintro _ ⟨num,c,Q,B,b9,K,U,Z,rfl⟩;dsimp only;have a3: ∀s,bC S s->s.toNat<num.length:=λ s hs=>by have:=hs.1;have:=hs.2;omega
 refine aZ1 (R:=λ t=> ∃fin':LI,(fin'.length<=fin.length/\((fin.Pairwise λ a b=>a<b)->fin'.Pairwise λ a b=>a<b))/\ahc (λ s=>bat keep s=true) (iat num) fin fin'/\t=(S,fin,rs,keep,(0:Int),([]:LI),([]:LR),c,fin',([]:LR),num))
  (aZ8 (aZ6 fin.length (λ i t=> ∃fin':LI,(fin'.length<=i/\((fin.Pairwise λ a b=>a<b)->fin'.Pairwise λ a b=>a<b))/\ahc (λ s=>bat keep s=true) (iat num) (fin.take i) fin'/\t=(S,fin,rs,keep,(0:Int),([]:LI),([]:LR),c,fin',([]:LR),num,fin,(fin.length:Int),(i:Int))) ?_ ?_ ⟨[],⟨by simp,λ _=> .nil⟩,λ q=>by simp,rfl⟩)) ?_
 ·rintro i t A ⟨fin',⟨E,G⟩,g,rfl⟩;unfold iJ.L2;dsimp only;have hs:=I fin[i] (aaf A);refine aY1 (by omega) (aY A ?_);rw[LJ hk hs];refine aZ3 (aY2 (λ k=> ?_) (λ k=> ?_))
  ·refine aY0 (rng hs.1 (by have:=hs.1;have:=hs.2;omega)) (aY5 (aY6 (a3 _ hs) λ v _ hv=>aY0 (jS (by simp;omega)) (aZ3 (aZ2 ⟨fin'++[v],⟨by simp;omega,λ hp=>abZ.2 ⟨G hp,abR ..,λ x hx y hy=> ?_⟩⟩,λ q=> ?_,by rw[ak (by omega)];rfl⟩))))
   ·obtain⟨s,d,l,rfl⟩:=(g x).1 hx;rw[aah.1 hy,←l9 hv];obtain⟨j,hj,rfl⟩:=aaz d;rw[aaE]at hj;rw[abV]at l ⊢;exact U _ _ (I _ (aaf (by omega))) hs l k (aaR.1 hp j i (by omega) A (by omega))
   rw[aap,g,aau,aac A,aah,←l9 hv];constructor
   ·rintro(⟨s,d,l,m⟩|h)
    ·exact⟨s,aaG _ d,l,m⟩
    ·exact⟨fin[i],aa6 _ (by simp),k,h⟩
   ·rintro⟨s,d,l,m⟩;rcases aap.1 d with d|d
    ·exact .inl ⟨s,d,l,m⟩
    ·simp only[aaS,aah]at d;rw[d]at m;exact .inr m
  ·refine aZ3 (aZ2 ⟨fin',⟨by omega,G⟩,λ q=> ?_,by rw[ak (by omega)]⟩);rw[g,aau,aac A];constructor
   ·rintro⟨s,d,l,m⟩;exact⟨s,aaG _ d,l,m⟩
   ·rintro⟨s,d,l,m⟩;rcases aap.1 d with d|d
    ·exact⟨s,d,l,m⟩
    ·simp only[aaS,aah]at d;rw[d,k]at l;cases l
 ·rintro t ⟨fin',⟨E,G⟩,g,rfl⟩;unfold iJ.L2;dsimp only;rw[aat]at g;exact aY3 (by omega) (aZ4 ⟨fin',⟨E,G⟩,g,rfl⟩)
 rintro _ ⟨fin',⟨E,G⟩,g,rfl⟩;dsimp only
 refine aZ1 (R:=λ t=> ∃f:LR,f.length<=rs.length/\Ren (λ s=>bat keep s=true) (iat num) rs f/\t=((0:Int),([]:LI),([]:LR),c,fin',f))
  (aZ8 (aZ6 rs.length (λ i t=> ∃f:LR,f.length<=i/\Ren (λ s=>bat keep s=true) (iat num) (rs.take i) f/\t=(keep,(0:Int),([]:LI),([]:LR),c,fin',f,num,rs,(rs.length:Int),(i:Int))) ?_ ?_ ⟨[],by simp,λ q=>by simp,rfl⟩)) ?_
 ·rintro i t A ⟨f,E,g,rfl⟩;unfold iJ.L4;dsimp only;obtain⟨O,a9,c6⟩:=hr rs[i] (aaf A)
  have skip: ¬(bat keep rs[i].2.2=true/\ ∀s∈rs[i].2.1,bat keep s=true)->Ren (λ s=>bat keep s=true) (iat num) (rs.take (i+1)) f:=by
   intro Q q;rw[g,aau,aac A];constructor
   ·rintro⟨s,d,l⟩;exact⟨s,aaG _ d,l⟩
   ·rintro⟨s,d,l,m,N⟩;rcases aap.1 d with d|d
    ·exact⟨s,d,l,m,N⟩
    ·simp only[aaS,aah]at d;subst d;exact absurd ⟨l,m⟩ Q
  have main:bat keep rs[i].2.2=true->(∀s∈rs[i].2.1,bat keep s=true)->Ren (λ s=>bat keep s=true) (iat num) (rs.take (i+1)) (f++[(rs[i].1,rs[i].2.1.map (iat num),iat num rs[i].2.2)]):=by
   intro c0 c1 q;rw[aap,g,aau,aac A,aah];constructor
   ·rintro(⟨s,d,l⟩|h)
    ·exact⟨s,aaG _ d,l⟩
    ·exact⟨rs[i],aa6 _ (by simp),c0,c1,h⟩
   ·rintro⟨s,d,l,m,N⟩;rcases aap.1 d with d|d
    ·exact .inl ⟨s,d,l,m,N⟩
    ·simp only[aaS,aah]at d;rw[d]at N;exact .inr N
  refine aY1 (by omega) (aY A (aY5 ?_));rw[LJ hk O];refine aZ3 (aY2 (λ k=> ?_) (λ k=> ?_))
  ·have k:bat keep rs[i].2.2=false:=by simpa using k
   exact aZ3 (aX7 rfl (aZ2 ⟨f,by omega,skip (λ h=>by rw[k]at h;cases h.1),by dsimp only;rw[ak (by omega)]⟩))
  ·have k:bat keep rs[i].2.2=true:=by simpa using k
   refine aY5 (aZ5 (hC S rs[i].2.1 keep hk a9 (by omega)) ?_);intro b W;refine aZ3 (aY9 (λ hc=> ?_) (λ hc=> ?_))
   ·have hc:b=true:=hc;refine aZ2 ⟨f,by omega,skip λ h=> ?_,by dsimp only;rw[ak (by omega)]⟩;rw[hc]at W;obtain⟨s,hs,Q⟩:=ab8.1 W.symm;rw[h.2 s hs]at Q;cases Q
   ·have hc:b=false:=hc;rw[hc]at W;have b0:=XT.all W.symm;dsimp only;refine aZ9 (tY (by omega) (by omega)) (aZ9 (rng O.1 (by have:=O.1;have:=O.2;omega)) (aY6 (a3 _ O) λ v _ hv=> ?_));rw[aiE (by rw[abB,aal])]
    refine aZ5 (R:=λ t=>t=(keep,(0:Int),([]:LI),([]:LR),c,fin',f,num,rs[i].1,rs[i].2.1.map (iat num),v,rs,(rs.length:Int),(i:Int)))
     (aZ8 (L:=λ n=>iJ.L3) (aZ6 rs[i].2.1.length (λ j t=>t=(keep,(0:Int),([]:LI),([]:LR),c,fin',f,num,rs[i].1,(rs[i].2.1.take j).map (iat num)++rs[i].2.1.drop j,v,rs,(rs.length:Int),(i:Int),((rs[i].2.1.length:Nat):Int),(j:Int))) ?_ ?_ rfl)) ?_
    ·rintro j t hj rfl;unfold iJ.L3;dsimp only;have hl:((rs[i].2.1.take j).map (iat num)++rs[i].2.1.drop j).length=rs[i].2.1.length:=by simp;omega
     have hs:=a9 _ (aaf hj);refine aY1 (by omega) (aZ9 (rng (by omega) (by omega)) ?_);rw[aal];refine aY6 (by omega) λ e _ he=> ?_;rw[ahZ hj]at he;cases he;refine aZ9 (rng hs.1 (by have:=hs.1;have:=hs.2;omega)) (aY6 (a3 _ hs) λ v2 _ c2=> ?_);refine aZ9 (rng (by omega) (by omega)) (aY6 (by omega) λ e2 _ _=>aZ2 ?_);rw[ak (by omega),←l9 c2,ad9 hj]
    ·rintro t rfl;unfold iJ.L3;dsimp only;rw[aat,acT,aaM];exact aY3 (by omega) (aZ4 rfl)
    ·rintro _ rfl;dsimp only;refine aZ9 (jS (by simp;omega)) (aZ2 ⟨_,?_,main k b0,by rw[ak (by omega),l9 hv];rfl⟩);simp;omega
 ·rintro t ⟨f,E,g,rfl⟩;unfold iJ.L4;dsimp only;rw[aat]at g;exact aY3 (by omega) (aZ4 ⟨f,E,g,rfl⟩)
 rintro _ ⟨f,d5,b4,rfl⟩;dsimp only;refine aZ1 (hF f (by omega) λ r' a5=> ?_) ?_
 ·obtain⟨r,d,_,_,e⟩:=(b4 r').1 a5;rw[e];simpa using(hr r d).2.2
 ·rintro out ⟨d6,c3,c4⟩;have Y:Ren (λ s=>bat keep s=true) (iat num) rs out:=λ r'=>(c3 r').trans (b4 r');refine aZ0 ⟨⟨⟨B,by dsimp only;omega,by dsimp only;omega,by dsimp only;omega,λ q M=> ?_,λ r' a5=> ?_⟩,b9,G⟩,iat num,λ s s' hs p k z e=> ?_,g,Y,K,Z,by dsimp only;omega,c4⟩
  ·obtain⟨s,d,l,e⟩:=(g q).1 M;rw[e];exact K s (I s d) l
  ·obtain⟨r,d,l,m,e⟩:=(Y r').1 a5;obtain⟨b1,b2,b3⟩:=hr r d;rw[e];refine⟨K _ b1 l,λ q M=> ?_,by simpa using b3⟩;obtain⟨s,hs,e⟩:=aaB.1 M;rw[←e];exact K s (b2 s hs) (m s hs)
  ·rcases Int.lt_trichotomy s s' with h|h|h
   ·have:=U s s' hs p k z h;omega
   ·exact h
   ·have:=U s' s p hs z k h;omega
def Uni (rs:LR):Prop:= ∀t q d,Reach rs t q->Reach rs t d->q=d
theorem Closed.reach {rs:LR} {R:List Bool} (h:Closed rs R) (t:RT Int): ∀q,Reach rs t q->bat R q=true:=by
 induction t using y8 with
 |h a f g=>
  intro q k;obtain⟨r,l,v,m,y,p⟩:=bY.1 k;rw[←m];refine h r l λ s hs=> ?_;obtain⟨i,u,e⟩:=aaz hs;have d:i<f.length:=by omega
  exact g f[i] (aaf d) s (p i f[i] s (aac d) (by rw[aac u,e]))
theorem Xg {S:Int} {fin:LI} {rs d:LR} {keep:List Bool} {ν:Int->Int} (u: ∀r∈rs,bC S r.2.2/\ ∀q∈r.2.1,bC S q)
 (l: ∀s s',bC S s->bC S s'->bat keep s=true->bat keep s'=true->ν s=ν s'->s=s') (A:Ren (λ s=>bat keep s=true) ν rs d) (t:RT Int):
 ∀q,Reach d t q-> ∃s,bC S s/\bat keep s=true/\q=ν s/\Reach rs t s:=by
 induction t using y8 with
 |h a Q B=>
  intro q C;obtain⟨D,m,E,G,v,I⟩:=bY.1 C;obtain⟨r,p,K,L,e⟩:=(A D).1 m;subst e;simp only[aaH]at v;refine⟨r.2.2,(u r p).1,K,G.symm,bY.2 ⟨r,p,E,rfl,v,λ i k f y z=> ?_⟩⟩;have g:f∈r.2.1:=aaj z;obtain⟨s,M,N,O,R⟩:=B k (aaj y) (ν f) (I i k (ν f) y (by rw[aas,z];rfl))
  rwa [l f s ((u r p).2 f g) M (L f g) N O]
theorem RI {fin:LI} {rs l:LR} {R keep:List Bool} {ν:Int->Int} (m:Closed rs R) (B:Useful fin rs R keep) (C:Ren (λ s=>bat keep s=true) ν rs l) (t:RT Int):
 ∀s,Reach rs t s->bat keep s=true->Reach l t (ν s):=by
 induction t using y8 with
 |h a u D=>
  intro s hs v;obtain⟨r,y,E,G,I,z⟩:=bY.1 hs;subst G
  have p: ∀f∈r.2.1,∃(i:Nat) (k:RT Int),u[i]? =some k/\r.2.1[i]? =some f:=λ f g=>by
   obtain⟨i,K,e⟩:=aaz g;exact⟨i,u[i],aac (by omega),by rw[aac K,e]⟩
  have d:=B.2 r y v λ f g=>by
   obtain⟨i,k,L,M⟩:=p f g;exact m.reach k f (z i k f L M)
  refine bY.2 ⟨_,(C _).2 ⟨r,y,v,d,rfl⟩,E,rfl,by simpa using I,λ i k f A g=> ?_⟩;simp only[aas,aaK]at g;obtain⟨q,e,rfl⟩:=g;exact D k (aaj A) q (z i k q A e) (d q (aaj e))
theorem adX {S:Int} {fin:LI} {rs:LR} {keep R:List Bool} {a:Aut} (i:Wf S fin rs) (d:Closed rs R) (k:Useful fin rs R keep) (h:su S fin rs keep a) (t:RT Int):Acc a.2.2 a.2.1 t ↔ Acc rs fin t:=by
 obtain⟨_,ν,e,l,m,_⟩:=h;have v: ∀r∈rs,bC S r.2.2/\ ∀q∈r.2.1,bC S q:=λ r h=>⟨(i.2.2.2.2.2 r h).1,(i.2.2.2.2.2 r h).2.1⟩;constructor
 ·rintro⟨q,f,g⟩;obtain⟨s,y,z,A,B⟩:=Xg (fin:=fin) v e m t q f;obtain⟨s',p,C,D⟩:=(l q).1 g;have:s=s':=e s s' y (i.2.2.2.2.1 s' p) z C (A.symm.trans D);exact⟨s,B,this▸p⟩
 ·rintro⟨s,f,g⟩;have u:=k.1 s g (d.reach t s f);exact⟨ν s,RI d k m t s f u,(l _).2 ⟨s,g,u,rfl⟩⟩
theorem adY {S:Int} {fin:LI} {rs:LR} {keep:List Bool} {a:Aut} (g:Wf S fin rs) (h:su S fin rs keep a) (z: ∀r∈rs,∀d∈rs,r.1=d.1->r.2.1=d.2.1->r.2.2=d.2.2):
 ∀r∈a.2.2,∀d∈a.2.2,r.1=d.1->r.2.1=d.2.1->r.2.2=d.2.2:=by
 obtain⟨_,ν,f,K,k,_⟩:=h;intro x A y B C m;obtain⟨r,p,L,D,rfl⟩:=(k x).1 A;obtain⟨d,q,M,E,rfl⟩:=(k y).1 B;have G:r.2.1.length=d.2.1.length:=by have:=congrArg List.length m;simpa using this
 have I:r.2.1=d.2.1:=acI G λ i t e=>by
  have:=congrArg (λ l=>l[i]?) m;simp only[aas,aac t,aac e,aaL,aag]at this;have u:=aaf t;have v:=aaf e;exact f _ _ ((g.2.2.2.2.2 r p).2.1 _ u) ((g.2.2.2.2.2 d q).2.1 _ v) (D _ u) (E _ v) this
 show ν r.2.2=ν d.2.2;rw[z r p d q C I]
def dval (l:LI):Nat:=l.foldl (λ a d=>10*a+(d.toNat-48)) 0
theorem Gq: ∀(f u:Nat),u<10^(f+1)->dval (Ep f u)=u
 |0,u,h=>by simp[Ep,dval];omega
 |f+1,u,h=>by
  unfold Ep
  cases e:Nat.blt u 10 with
  |true=>rw[cond_true];simp[dval];omega
  |false=>
   rw[cond_false];have d:u/10<10^(f+1):=by rw[acY]at h;omega
   have:=Gq f (u/10) d;unfold dval at this ⊢;rw[List.foldl_append,this];simp;omega
theorem Dt: ∀(f u:Nat),∀c∈Ep f u,(48:Int)<=c/\c<=57
 |0,u,c,h=>by simp only[Ep,aah]at h;omega
 |f+1,u,c,h=>by
  unfold Ep at h
  cases d:Nat.blt u 10 with
  |true=>
   rw[d,cond_true,aah]at h;have:u<10:=abk d;omega
  |false=>
   rw[d,cond_false,aap,aah]at h;rcases h with h|h
   ·exact Dt f _ c h
   ·omega
theorem KC: ∀(f u:Nat),(Ep f u).length<=f+1
 |0,u=>by simp[Ep]
 |f+1,u=>by
  unfold Ep
  cases d:Nat.blt u 10 with
  |true=>rw[cond_true];simp
  |false=>rw[cond_false];have:=KC f (u/10);simp;omega
def ahg (c:Int):Prop:=c=45\/(48<=c/\c<=57)
theorem Dv (v:Int): ∀c∈dig v,ahg c:=by
 intro c h;unfold dig at h;cases hv:decide (v<0)with
 |true=>
  rw[hv,cond_true,aaQ]at h;rcases h with h|h
  ·exact .inl h
  ·exact .inr (Dt _ _ c h)
 |false=>rw[hv,cond_false]at h;exact .inr (Dt _ _ c h)
theorem PD (v:Int):(dig v).length<=22:=by
 unfold dig;cases hv:decide (v<0)with
 |true=>rw[cond_true];have:=KC 20 v.natAbs;simp;omega
 |false=>rw[cond_false];have:=KC 20 v.toNat;omega
def I64 (v:Int):Prop:= -9223372036854775808<=v/\v<9223372036854775808
theorem Yu {v w:Int} (hv:I64 v) (f:I64 w) (h:dig v=dig w):v=w:=by
 have g:(10:Nat)^(20+1)=1000000000000000000000:=by decide
 obtain⟨i,k⟩:=hv;obtain⟨w0,l⟩:=f;unfold dig at h;cases d:decide (v<0)<;>cases e:decide (w<0)<;>rw[d,e]at h<;>simp only[cond_true,cond_false]at h
 ·have a:=congrArg dval h;rw[Gq 20 _ (by omega),Gq 20 _ (by omega)]at a;have:=of_decide_eq_false d;have:=of_decide_eq_false e;omega
 ·have:=Dt 20 v.toNat 45 (by rw[h];simp);omega
 ·have:=Dt 20 w.toNat 45 (by rw[←h];simp);omega
 ·have a:=congrArg dval (abJ h).2;rw[Gq 20 _ (by omega),Gq 20 _ (by omega)]at a;have:=of_decide_eq_true d;have:=of_decide_eq_true e;omega
def enc (l:List Ac):LI:=l.flatMap λ p=>p.1::dig p.2
theorem run_eq {P:Int->Prop}: ∀(A B X Y:LI),(∀c∈A,P c)->(∀c∈B,P c)->(∀c,X.head? =some c-> ¬P c)->(∀c,Y.head? =some c-> ¬P c)->A++X=B++Y->A=B/\X=Y
 | [],[],X,Y,_,_,_,_,h=>⟨rfl,h⟩
 | [],b::B,X,Y,_,d,f,_,h=>by
   have h:X=b::(B++Y):=h;exact absurd (d b (by simp)) (f b (by rw[h];rfl))
 |a::A,[],X,Y,g,_,_,i,h=>by
  have h:a::(A++X)=Y:=h;exact absurd (g a (by simp)) (i a (by rw[←h];rfl))
 |a::A,b::B,X,Y,g,d,f,i,h=>by
  have h:a::(A++X)=b::(B++Y):=h;obtain⟨e,h⟩:=abJ h;obtain⟨l,m⟩:=run_eq A B X Y (λ c k=>g c (by simp[k])) (λ c k=>d c (by simp[k])) f i h;exact⟨by rw[e,l],m⟩
def adw (l:List Ac):Prop:= ∀p∈l,¬ahg p.1/\I64 p.2
theorem JO {l:List Ac} (h:adw l): ∀c,(enc l).head? =some c-> ¬ahg c:=by
 cases l with
 |nil=>intro c d;simp[enc]at d
 |cons p l=>intro c d;simp[enc]at d;rw[←d];exact(h p (by simp)).1
theorem Yy: ∀(l d:List Ac),adw l->adw d->enc l=enc d->l=d
 | [],[],_,_,_=>rfl
 | [],p::d,_,_,h=>by simp[enc]at h
 |p::l,[],_,_,h=>by simp[enc]at h
 |p::l,f::d,i,k,h=>by
  have h:p.1::(dig p.2++enc l)=f.1::(dig f.2++enc d):=by simpa [enc]using h
  obtain⟨e,h⟩:=abJ h;have m:adw l:=λ q g=>i q (by simp[g]);have t:adw d:=λ q g=>k q (by simp[g]);obtain⟨u,v⟩:=run_eq (P:=ahg) _ _ _ _ (Dv _) (Dv _) (JO m) (JO t) h;have:=Yu (i p (by simp)).2 (k f (by simp)).2 u;rw[Yy l d m t v,abU e this]
theorem VF {v e:Int} {l d:List Ac} (hv:I64 v) (f:I64 e) (g:adw l) (i:adw d) (h:dig v++enc l=dig e++enc d):v=e/\l=d:=by
 obtain⟨k,m⟩:=run_eq (P:=ahg) _ _ _ _ (Dv _) (Dv _) (JO g) (JO i) h;exact⟨Yu hv f k,Yy l d g i m⟩
theorem bytes_inj {l f:LI} (g: ∀c∈l,0<=c/\c<256) (i: ∀c∈f,0<=c/\c<256) (h:xO l=xO f):l=f:=by
 have h:(l.map λ n=>UInt8.ofNat n.toNat)=f.map λ n=>UInt8.ofNat n.toNat:=by
  have:=congrArg (λ b=>b.data.toList) h;simpa [xO]using this
 have inj: ∀c d:Int,0<=c/\c<256->0<=d/\d<256->UInt8.ofNat c.toNat=UInt8.ofNat d.toNat->c=d:=by
  intro c d k t e;have:=congrArg UInt8.toNat e;simp only[UInt8.toNat_ofNat']at this;omega
 have key: ∀l f:LI,(∀c∈l,0<=c/\c<256)->(∀c∈f,0<=c/\c<256)->(l.map λ n=>UInt8.ofNat n.toNat)=(f.map λ n=>UInt8.ofNat n.toNat)->l=f:=by
  intro l
  induction l with
  |nil=>intro f _ _ h;cases f with
   |nil=>rfl
   |cons b f=>cases h
  |cons a l m=>intro f g i h;cases f with
   |nil=>cases h
   |cons b f=>
    obtain⟨p,q⟩:=abJ h;rw[inj a b (g a (by simp)) (i b (by simp)) p,m f (λ c k=>g c (aaO _ k)) (λ c k=>i c (aaO _ k)) q]
 exact key l f g i h
theorem Gv {v:Int} {l:List Ac} (h: ∀p∈l,0<=p.1/\p.1<256): ∀c∈dig v++enc l,0<=c/\c<256:=by
 have e: ∀v,∀c∈dig v,0<=c/\c<256:=λ v c d=>by rcases Dv v c d with h|h<;>omega
 intro c d;rcases aap.1 d with d|d
 ·exact e v c d
 ·obtain⟨p,f,d⟩:=acp.1 d;rcases aaQ.1 d with rfl|d
  ·exact h p f
  ·exact e _ c d
theorem Yz (l:List Ac):(enc l).length<=23*l.length:=by
 induction l with
 |nil=>simp[enc]
 |cons p l d=>
  have e:enc (p::l)=(p.1::dig p.2)++enc l:=rfl;have:=PD p.2;rw[e,aaq,abl,abl];omega
abbrev aix (A:Nat->LI×Int×Int->Option LI):Prop:= ∀b v,b.length<=1000000000->I64 v->Sp A (b,v,(10:Int)) (λ r=>r=b++dig v)
def NH (s:Int) (l:LI):ByteArray:=xO (dig s++enc (l.map λ q=>((44:Int),q)))
theorem PE (l:List Ac) (c v:Int):enc (l++[(c,v)])=(enc l++[c])++dig v:=by
 unfold enc;rw[List.flatMap_append,aaD];simp
theorem aik {A:Nat->An->Option LI} (e:aix A) (s:Int) (l:LI) (hs:I64 s) (g: ∀q∈l,I64 q) (k:l.length<=1000000):Sp (λ n=>uM.P (A n) n) (s,l) (λ r=>r=NH s l):=by
 show Tt (λ n=>uM.P (A n) n (s,l)) _;unfold uM.P;dsimp only;refine aZ1 (e [] s (by simp) hs) ?_;rintro _ rfl
 refine aZ1 (R:=λ b=>b=dig s++enc (l.map λ q=>((44:Int),q)))
  (aZ8 (L:=λ n=>uM.L1 (A n)) (aZ6 l.length (λ i t=>t=(dig s++enc ((l.take i).map λ q=>((44:Int),q)),l,(l.length:Int),(i:Int))) ?_ ?_ (by simp[enc]))) λ b f=>aZ0 (by rw[f];rfl)
 ·rintro i t d rfl;unfold uM.L1;dsimp only
  have f:(dig s++enc ((l.take i).map λ q=>((44:Int),q))).length<=22+23*i:=by
   have:=PD s;have:=Yz ((l.take i).map λ q=>((44:Int),q));rw[aaH,aaE]at this;rw[aaq];omega
  refine aY1 (by omega) (aY d (aZ9 (jS (by rw[aaY];omega)) (aZ5 (e _ l[i] (by show List.length (_++_)<=_;rw[aaq,aaY];omega) (g _ (aaf d))) ?_)));rintro _ rfl;refine aZ2 ?_;rw[ak (by omega),aau,aac d,abr];show(_++_++_,_)=(_++enc (_++[((44:Int),l[i])]),_);rw[PE];simp
 ·rintro t rfl;unfold uM.L1;dsimp only;rw[aat];exact aY3 (by omega) (aZ4 rfl)
theorem key_inj {s s':Int} {l d:LI} (hs:I64 s) (f:I64 s') (m: ∀q∈l,I64 q) (g: ∀q∈d,I64 q) (h:NH s l=NH s' d):s=s'/\l=d:=by
 have b: ∀l:LI,∀p∈l.map (λ q=>((44:Int),q)),0<=p.1/\p.1<256:=λ l p i=>by obtain⟨q,_,rfl⟩:=aaB.1 i;exact⟨show(0:Int)<=44 by decide,show(44:Int)<256 by decide⟩
 have k: ∀l:LI,(∀q∈l,I64 q)->adw (l.map (λ q=>((44:Int),q))):=λ l h p i=>by
  obtain⟨q,t,rfl⟩:=aaB.1 i;exact⟨λ h=>by rcases h with h|h<;>omega,h q t⟩
 obtain⟨u,v⟩:=VF hs f (k l m) (k d g) (bytes_inj (Gv (b l)) (Gv (b d)) h);refine⟨u,?_⟩;have:=congrArg (List.map Prod.snd) v;rw[abM,abM]at this;have e:(Prod.snd∘λ q:Int=>((44:Int),q))=id:=rfl
 rwa [e,List.map_id,List.map_id]at this
def Det (rs:LR):Prop:= ∀r∈rs,∀d∈rs,r.1=d.1->r.2.1=d.2.1->r.2.2=d.2.2
theorem Det.uni {rs:LR} (h:Det rs):Uni rs:=by
 intro t
 induction t using y8 with
 |h a k l=>
  intro q D m d;obtain⟨r,p,u,v,y,z⟩:=bY.1 m;obtain⟨A,e,B,g2,g3,g4⟩:=bY.1 d;rw[←v,←g2];refine h r p A e (u.trans B.symm) (acI (y.trans g3.symm) λ i C f=> ?_);have g:i<k.length:=by omega
  exact l _ (aaf g) _ _ (z i _ _ (aac g) (aac C)) (g4 i _ _ (aac g) (aac f))
def Ia (rs:LR):Prop:= ∀(j k:Nat) (r d:Rule),j<k->rs[j]? =some r->rs[k]? =some d-> ¬(r.1=d.1/\r.2.1=d.2.1)
theorem JG {V:Nat->Aa->Option Bool} {K:Nat->BK->Option ByteArray} (hK: ∀s l,I64 s->(∀q∈l,I64 q)->l.length<=1000000->Sp K (s,l) (λ r=>r=NH s l))
 (al:LI) (S:Int) (fin:LI) (rs:LR) (hV:Sp V (al,S,fin,rs) (λ r=>r=true ↔ cu al (S,fin,rs))):
 Sp (λ n=>fQ.P (V n) (K n) n) (al,S,fin,rs) (λ r=>(cu al (S,fin,rs)/\r.2=0/\(r.1=true->Det rs)/\(Ia rs->r.1=true))\/(¬cu al (S,fin,rs)/\r.2=1)):=by
 show Tt (λ n=>fQ.P (V n) (K n) n (al,S,fin,rs)) _;unfold fQ.P;dsimp only;refine aZ1 hV λ b z=> ?_;by_cases hv:cu al (S,fin,rs)
 ·have z:b=true:=z.2 hv;subst z;refine aW rfl ?_;have N:=hv.wf
  have C: ∀r∈rs,I64 r.1/\ ∀q∈r.2.1,I64 q:=λ r d=>by
   have D:=hv.rule d;have E:=hv.1.1;have h3:=N.2.2.2.2.2 r d;have Q:=N.2.1;refine⟨⟨by have:=D.1;omega,by have:=D.2.1;omega⟩,λ q hq=> ?_⟩;have U:=h3.2.1 q hq;dsimp only at Q U;exact⟨by have:=U.1;omega,by have:=U.2;omega⟩
  refine aZ1 (R:=λ t=>(t= .inl ()/\Det rs)\/(t= .inr (false,(0:Int))/\ ¬Ia rs))
   (aZ8 (L:=λ n=>fQ.L1 (K n)) (aZ6 rs.length (λ i t=> ∃m:List (ByteArray×Bool),t=(some m,rs,(rs.length:Int),(i:Int))/\(∀(j:Nat) (r:Rule),j<i->rs[j]? =some r->oU seq (NH r.1 r.2.1) m=some true)/\(∀(k:ByteArray) (v:Bool),oU seq k m=some v-> ∃(j:Nat) (r:Rule),j<i/\rs[j]? =some r/\k=NH r.1 r.2.1)/\
    ∀(j k:Nat) (r p:Rule),j<k->k<i->rs[j]? =some r->rs[k]? =some p-> ¬(r.1=p.1/\r.2.1=p.2.1)) ?_ ?_ ⟨[],rfl,λ j r h=>absurd h (by omega),λ k v h=>(by cases h),λ j k r p h h'=>absurd h' (by omega)⟩)) ?_
  ·rintro i t u ⟨m,rfl,W,G,O⟩;unfold fQ.L1;dsimp only;obtain⟨D,E⟩:=C rs[i] (aaf u);have h3:=(N.2.2.2.2.2 rs[i] (aaf u)).2.2;have Q:=N.2.2.2.1;dsimp only at Q;refine aY1 (by omega) (aY u (aZ5 (hK _ _ D E (by omega)) ?_));rintro _ rfl;refine aY9 (λ I=>aZ4 (.inr ⟨rfl,λ hn=> ?_⟩)) (λ I=> ?_)
   ·have Y: ∃v,oU seq (NH rs[i].1 rs[i].2.1) m=some v:=by
     cases e:oU seq (NH rs[i].1 rs[i].2.1) m with
     |some v=>exact⟨v,rfl⟩
     |none=>rw[show ng (some m)=m from rfl,e]at I;cases I
    obtain⟨v,Z⟩:=Y;obtain⟨j,r,y,d,e⟩:=G _ v Z;obtain⟨g1,g2⟩:=C r (aaj d);obtain⟨A,B⟩:=key_inj D g1 E g2 e;exact hn j i r rs[i] y d (aac u) ⟨A.symm,B.symm⟩
   refine aZ2 ⟨_,by rw[ak (by omega)],λ j r y d=> ?_,λ k v g=> ?_,λ j k r p M g d f=> ?_⟩
   ·rw[sW Ed];split
    ·rfl
    ·rename_i a0;rcases aa1 (abf y)with h|rfl
     ·exact W j r h d
     ·rw[aac u]at d;cases d;exact absurd rfl a0
   ·rw[sW Ed]at g;split at g
    ·rename_i e;exact⟨i,rs[i],by omega,aac u,e⟩
    ·obtain⟨j,r,a,b,c⟩:=G k v g;exact⟨j,r,by omega,b,c⟩
   ·rcases aa1 (abf g)with h|rfl
    ·exact O j k r p M h d f
    ·rintro⟨A,B⟩;rw[aac u]at f;cases f;have:=W j r M d;rw[A,B]at this;rw[show ng (some m)=m from rfl,this]at I;cases I
  ·rintro t ⟨m,rfl,W,_,O⟩;unfold fQ.L1;dsimp only;refine aY3 (by omega) (aZ4 (.inl ⟨rfl,λ r d p f A B=> ?_⟩));obtain⟨j,y,rfl⟩:=aaz d;obtain⟨k,g,rfl⟩:=aaz f;rcases acg j k with h|rfl|h
   ·exact absurd ⟨A,B⟩ (O j k _ _ h g (aac y) (aac g))
   ·rfl
   ·exact absurd ⟨A.symm,B.symm⟩ (O k j _ _ h y (aac g) (aac y))
  ·rintro _ (⟨rfl,h⟩|⟨rfl,h⟩)
   ·exact aZ0 (.inl ⟨hv,rfl,λ _=>h,λ _=>rfl⟩)
   ·exact aZ0 (.inl ⟨hv,rfl,λ h=>(by cases h),λ E=>absurd E h⟩)
 ·have z:b=false:=by cases b with|false=>rfl|true=>exact absurd (z.1 rfl) hv
  subst z;exact aX6 rfl (aZ0 (.inr ⟨hv,rfl⟩))
theorem wrap_u64 {n:Nat} (h:n<18446744073709551616):IntKind.wrap .u64 (n:Int)=(n:Int):=by
 simp only[IntKind.wrap,IntKind.signed,IntKind.bits,Bool.false_and,abb,if_false];omega
theorem wrap_u8 {n:Nat} (h:n<256):IntKind.wrap .u8 (n:Int)=(n:Int):=by
 simp only[IntKind.wrap,IntKind.signed,IntKind.bits,Bool.false_and,abb,if_false];omega
theorem GY {n:Nat} (h:n<18446744073709551616):(BitVec.ofInt (IntKind.bits .u64) (n:Int)).toNat=n:=by
 show(BitVec.ofInt 64 (n:Int)).toNat=n;rw[BitVec.toNat_ofInt];omega
theorem Ye {x:Nat} (h:x<256):Go.bits .and .u64 (x:Int) 1=((x % 2:Nat):Int):=by
 have e:(BitVec.ofInt (IntKind.bits .u64) (x:Int) &&& BitVec.ofInt (IntKind.bits .u64) 1).toNat=x % 2:=by
  rw[BitVec.toNat_and,GY (by omega)];have:=GY (n:=1) (by omega);rw[show((1:Nat):Int)=1 from rfl]at this;rw[this,Nat.and_one_is_mod]
 show IntKind.wrap .u64 ((BitVec.ofInt (IntKind.bits .u64) (x:Int) &&& BitVec.ofInt (IntKind.bits .u64) 1).toNat:Int)=_;rw[e,wrap_u64 (by omega)]
theorem afx {a b:Nat} (d:a<256) (f:b<256):Go.bits .or .u64 (a:Int) (b:Int)=((a ||| b:Nat):Int):=by
 have e:(BitVec.ofInt (IntKind.bits .u64) (a:Int) ||| BitVec.ofInt (IntKind.bits .u64) (b:Int)).toNat=a ||| b:=by
  rw[BitVec.toNat_or,GY (by omega),GY (by omega)]
 show IntKind.wrap .u64 ((BitVec.ofInt (IntKind.bits .u64) (a:Int) ||| BitVec.ofInt (IntKind.bits .u64) (b:Int)).toNat:Int)=_;have:a ||| b<2^8:=Nat.or_lt_two_pow d f;rw[e,wrap_u64 (by omega)]
def zu (s:LI):Prop:= ∃w:Nat,w<256/\s= [(w:Int)]
def FB (s:LI) (v:Int):Bool:=(s[0]?.getD 0).toNat.testBit v.toNat
theorem EI (w:Nat) (v:Int):FB [(w:Int)] v=w.testBit v.toNat:=rfl
theorem agw {s s':LI} (h:zu s) (d:zu s') (e: ∀v:Int,0<=v->v<8->FB s v=FB s' v):s=s':=by
 obtain⟨w,g,rfl⟩:=h;obtain⟨w',f,rfl⟩:=d
 have:w=w':=Nat.eq_of_testBit_eq λ i=>by
  rcases aaF i 8 with h|h
  ·exact e (i:Int) (by omega) (by omega)
  ·have k:256<=2^i:=abN (n:=2) (by omega) (show 8<=i from h);rw[Nat.testBit_lt_two_pow (by omega),Nat.testBit_lt_two_pow (by omega)]
 rw[this]
theorem ZL {s:LI} (h:zu s) {v:Int} (hv:FB s v=true) (d:0<=v):v<8:=by
 obtain⟨w,e,rfl⟩:=h;rcases acs v 8 with h|h
 ·exact h
 ·rw[EI,Nat.testBit_lt_two_pow]at hv
  ·cases hv
  ·have f:256<=2^v.toNat:=abN (n:=2) (by omega) (show 8<=v.toNat by omega);omega
theorem aiG {v:Int} (d:0<=v) (e:v<8):IntKind.wrap .i64 (Int.tdiv v 64)=0:=by
 rw[aco d,Int.ediv_eq_zero_of_lt d (by omega)];rfl
theorem aiS {v:Int} (d:0<=v) (e:v<8):Int.tmod v 64=v:=by
 rw[Int.tmod_eq_emod_of_nonneg d,Int.emod_eq_of_lt d (by omega)]
theorem adf (n w v:Nat) (e:w<256) (hv:v<64):oz.P n ([(w:Int)],(v:Int))=some (FB [(w:Int)] (v:Int)):=by
 unfold oz.P;dsimp only
 have d:IntKind.wrap .i64 (Int.tdiv (v:Int) 64)=0:=by
  rw[aco (by omega),Int.ediv_eq_zero_of_lt (by omega) (by omega)];rfl
 have m:Int.tmod (v:Int) 64=(v:Int):=by rw[Int.tmod_eq_emod_of_nonneg (by omega),Int.emod_eq_of_lt (by omega) (by omega)]
 rw[d,m];have f:nth? [(w:Int)] 0=some (w:Int):=rfl;have g:(w:Int)/2^Int.toNat (v:Int)=((w/2^v:Nat):Int):=by rw[aal];push_cast;rfl
 have i:w/2^v<256:=Nat.lt_of_le_of_lt (Nat.div_le_self ..) e;rw[f,aan,g,Ye i,fE (show(0:Int)<=(v:Int) by omega),fE (show(v:Int)<=((IntKind.bits .u64:Nat):Int) by show(v:Int)<=((64:Nat):Int);omega),EI,aal,Nat.testBit_eq_decide_div_mod_eq];rw[show(!decide ((64:Int)=0))=true from rfl];simp only[Bool.and_self,cond_true];congr 1;by_cases h:w/2^v % 2=1
 ·rw[h];rfl
 ·rw[decide_eq_false (by omega),decide_eq_false h]
theorem agR (s:LI) (v:Int) (hs:zu s) (e:0<=v) (f:v<8):Sp oz.P (s,v) (λ r=>r=FB s v):=by
 obtain⟨w,d,rfl⟩:=hs;obtain⟨k,rfl⟩: ∃k:Nat,v=(k:Int):=⟨v.toNat,by omega⟩;exact⟨_,rfl,.all λ n=>adf n w k d (by omega)⟩
def keyS (s:LI):ByteArray:=xO ((List.range 8).map λ i=>IntKind.wrap .u8 ((s[0]?.getD 0)/2^(8*i)))
theorem XF (s:LI) (hs:zu s):Sp gY.P s (λ r=>r=keyS s):=by
 obtain⟨w,f,rfl⟩:=hs;show Tt (λ n=>gY.P n [(w:Int)]) _;unfold gY.P;refine aX0 (show(decide ((0:Int)<=0)&&decide ((0:Int)<=IntKind.wrap .i64 ((8:Int)*(1:Int)))&&decide (IntKind.wrap .i64 ((8:Int)*(1:Int))<=(ay:Int)))=true by decide) ?_
 refine aZ1 (R:=λ b=>b=(List.range 8).map λ i=>IntKind.wrap .u8 ((w:Int)/2^(8*i)))
  (aZ8 (aZ6 1 (λ i t=>t=((List.range (8*i)).map (λ i=>IntKind.wrap .u8 ((w:Int)/2^(8*i))),[(w:Int)],(1:Int),(i:Int))) ?_ ?_ (by simp))) λ b d=>aZ0 (by rw[d];rfl)
 ·rintro i t g rfl;obtain rfl:i=0:=by omega
  unfold gY.L2;dsimp only;refine aX7 (show decide ((0:Int)<1)=true by decide) ?_;rw[show nth? [(w:Int)] ((0:Nat):Int)=some (w:Int)from rfl]
  refine aZ3 (aZ5 (R:=λ t=>t=((List.range 8).map (λ i=>IntKind.wrap .u8 ((w:Int)/2^(8*i))),[(w:Int)],(1:Int),((0:Nat):Int)))
   (aZ8 (L:=λ n=>gY.L1) (aZ6 8 (λ j t=>t=((List.range j).map (λ i=>IntKind.wrap .u8 ((w:Int)/2^(8*i))),(w:Int),[(w:Int)],(1:Int),((0:Nat):Int),(j:Int))) ?_ ?_ rfl)) ?_)
  ·rintro j t k rfl;unfold gY.L1;dsimp only;have e:IntKind.wrap .i64 ((8:Int)*(j:Int))=((8*j:Nat):Int):=by rw[kS _ (by omega) (by omega)];omega
   rw[e]
   refine aY1 (by omega) (aZ9 (by
    rw[fE (show(0:Int)<=((8*j:Nat):Int) by omega),fE (show((8*j:Nat):Int)<=((IntKind.bits .u64:Nat):Int) by show((8*j:Nat):Int)<=((64:Nat):Int);omega)];rfl) (aZ9 (jS (by simp;omega)) (aZ2 ?_)))
   rw[ak (by omega),aal,List.range_succ,abr];rfl
  ·rintro t rfl;unfold gY.L1;dsimp only;exact aX9 (show decide ((8:Int)<8)=false by decide) (aZ4 rfl)
  ·rintro _ rfl;dsimp only;exact aZ2 (by rw[ak (by omega)])
 ·rintro t rfl;unfold gY.L2;dsimp only;exact aX9 (show decide ((1:Int)<1)=false by decide) (aZ4 rfl)
theorem ad2 {s s':LI} (h:zu s) (m:zu s') (e:keyS s=keyS s'):s=s':=by
 obtain⟨w,d,rfl⟩:=h;obtain⟨w',f,rfl⟩:=m
 have b: ∀w:Nat,∀c∈(List.range 8).map λ i=>IntKind.wrap .u8 ((([(w:Int)]:LI)[0]?.getD 0)/2^(8*i)),0<=c/\c<256:=by
  intro w c p;obtain⟨i,_,rfl⟩:=aaB.1 p;simp only[IntKind.wrap,IntKind.signed,IntKind.bits,Bool.false_and,abb,if_false];omega
 have:=bytes_inj (b w) (b w') e;have g:=congrArg (λ l=>l[0]?) this
 have k: ∀w:Nat,w<256->((List.range 8).map λ i=>IntKind.wrap .u8 ((([(w:Int)]:LI)[0]?.getD 0)/2^(8*i)))[0]? =some (w:Int):=by
  intro w d;show some (IntKind.wrap .u8 ((w:Int)/2^(8*0)))=_;rw[Nat.mul_zero,Int.pow_zero,Int.ediv_one,wrap_u8 d]
 rw[k w d,k w' f]at g;rw[aak g]
theorem agO {W:Nat->Ah->Option Bool} (y: ∀n x,W (n+1) x=oz.P n x) (s:LI) (hs:zu s):
 Sp (λ n=>jB.P (W n) n) s (λ r=>r.length<=64/\ ∀v,v∈r ↔ 0<=v/\v<8/\FB s v=true):=by
 have g:s.length=1:=by obtain⟨w,_,rfl⟩:=hs;rfl
 have k: ∀v:Nat,v<64->Sp W (s,(v:Int)) (λ r=>r=FB s (v:Int)):=by
  intro v hv;obtain⟨w,z,rfl⟩:=hs;exact aZ7 y ⟨_,rfl,.all λ n=>adf n w v z hv⟩
 show Tt (λ n=>jB.P (W n) n s) _;unfold jB.P;rw[g]
 refine aZ1 (R:=λ r:LI=>r.length<=64/\ ∀v,v∈r ↔ 0<=v/\v<64/\FB s v=true)
  (aZ8 (L:=λ n=>jB.L1 (W n)) (aZ6 64 (λ i t=> ∃out:LI,t=(s,out,(64:Int),(i:Int))/\out.length<=i/\ ∀v,v∈out ↔ 0<=v/\v<(i:Int)/\FB s v=true) ?_ ?_ ⟨[],rfl,by simp,λ v=>⟨λ h=>by simp at h,λ h=>absurd h.1 (by have:=h.2.1;omega)⟩⟩)) λ r q=>aZ0 ⟨q.1,λ v=> ?_⟩
 ·rintro i t A ⟨out,rfl,u,m⟩;unfold jB.L1;dsimp only;refine aY1 (by omega) (aZ5 (k i A) ?_);rintro _ rfl;refine aY2 (λ p=> ?_) (λ p=> ?_)
  ·refine aY0 (jS (by simp;omega)) (aZ3 (aZ2 ⟨_,by rw[ak (by omega)],by simp;omega,λ v=> ?_⟩));simp only[abC,aap,aah,m];constructor
   ·rintro(⟨f,l,d⟩|rfl)
    ·exact⟨f,by omega,d⟩
    ·exact⟨by omega,by omega,p⟩
   ·rintro⟨f,l,d⟩;by_cases e:v=(i:Int)
    ·exact .inr e
    ·exact .inl ⟨f,by omega,d⟩
  ·refine aZ3 (aZ2 ⟨out,by rw[ak (by omega)],by omega,λ v=> ?_⟩);rw[m];constructor
   ·rintro⟨f,l,d⟩;exact⟨f,by omega,d⟩
   ·rintro⟨f,l,d⟩;have:v≠(i:Int):=by rintro rfl;rw[p]at d;cases d
    exact⟨f,by omega,d⟩
 ·rintro t ⟨out,rfl,u,m⟩;unfold jB.L1;dsimp only;exact aX9 (show decide ((64:Int)<64)=false by decide) (aZ4 ⟨u,m⟩)
 ·rw[q.2];exact⟨λ⟨f,l,d⟩=>⟨f,ZL hs d f,d⟩,λ⟨f,l,d⟩=>⟨f,by omega,d⟩⟩
def lZ (al:LI) (m:Nat):Nat:=(al.map λ a=>m^a.toNat).sum
theorem Eu {al:LI} {m i:Nat} (d:i<al.length):lZ (al.take (i+1)) m=lZ (al.take i) m+m^al[i].toNat:=by
 unfold lZ;rw[aau,aac d,abr,List.sum_append];simp
theorem VJ {al:LI} {m i:Nat}:lZ (al.take i) m<=lZ al m:=by
 have h:=abj i al
 have:lZ al m=lZ (al.take i) m+lZ (al.drop i) m:=by
  unfold lZ;rw[←List.sum_append,←abr,h]
 omega
theorem Xc {al:LI} {m k:Nat} (h:m<=k):lZ al m<=lZ al k:=by
 unfold lZ
 induction al with
 |nil=>simp
 |cons a l d=>
  simp only[abm,List.sum_cons];have:=ab1 h a.toNat;omega
def UpB (rs:LR) (fin:LI) (k:Nat):Prop:= ∀l:LI,l.Nodup->(∀s∈l,0<=s/\Up rs fin s)->l.length<=k
def QM (al fin:LI) (rs:LR):Prop:= ∃k:Nat,2^k<=300/\lZ al (2^k)<=20000/\UpB rs fin k
abbrev KM:=Option (List (ByteArray×Int))
def KOk (sets:LL) (m:KM):Prop:=
 (∀s∈sets,zu s)/\ ∃d,m=some d/\(∀(n:Nat) (s:LI),sets[n]? =some s->oU seq (keyS s) d=some (n:Int))/\ ∀(s:LI) (v:Int),zu s->oU seq (keyS s) d=some v-> ∃n:Nat,v=(n:Int)/\sets[n]? =some s
theorem KOk.inj {sets:LL} {m:KM} (h:KOk sets m) {n d:Nat} {s:LI} (f:sets[n]? =some s) (g:sets[d]? =some s):n=d:=by
 obtain⟨_,i,_,e,_⟩:=h;have:=aak ((e n s f).symm.trans (e d s g));omega
def At (rs:LR) (v:Int) (r:Rule):Prop:= ∃j:Nat,v=(j:Int)/\rs[j]? =some r
theorem ajb {K:Nat->LI->Option ByteArray} (hK: ∀s,zu s->Sp K s (λ r=>r=keyS s)) (S:Int) (fin:LI) (rs:LR) (g sets:LL) (m:KM) (N:LR) (old done:Int) (d:Bool) (idx:LI)
 (hS:S<=8) (y: ∀i∈idx,∃r,At rs i r/\bC S r.2.2) (O:idx≠[]) (hk:KOk sets m) (b2:sets.length<=1000) (b3:idx.length<=1000000):
 Sp (λ n=>iR.P (K n) n) (S,fin,rs,g,sets,m,N,old,done,d,idx) (λ r=> ∃(n:Nat) (z:LL) (m':KM) (s:LI),r=((n:Int),S,fin,rs,g,sets++z,m',N,old,done,d)/\z.length<=1/\(∀x∈z,x=s)/\KOk (sets++z) m'/\(sets++z)[n]? =some s/\
  ∀v:Int,0<=v->(FB s v=true ↔ ∃i∈idx,∃r,At rs i r/\r.2.2=v)):=by
 have b4:1<=S:=by
  obtain⟨i,hi⟩:=List.exists_mem_of_ne_nil idx O;obtain⟨r,_,h⟩:=y i hi;have:=h.1;have:=h.2;omega
 show Tt (λ n=>iR.P (K n) n (S,fin,rs,g,sets,m,N,old,done,d,idx)) _;unfold iR.P;dsimp only;have b6:idx.length≠0:=λ e=>O (aax e);refine aW6 (by omega) (aX0 rfl ?_)
 have U:IntKind.wrap .i64 (Int.tdiv (IntKind.wrap .i64 (S+63)) 64)=1:=by
  have Z:IntKind.wrap .i64 (S+63)=S+63:=kS _ (by omega) (by omega);have:(S+63)/64=1:=by omega
  rw[Z,aco (by omega),this];rfl
 rw[U];refine aX0 (by decide) ?_
 refine aZ1 (R:=λ t=> ∃s,t=(S,fin,rs,g,sets,m,N,old,done,d,s)/\zu s/\ ∀v:Int,0<=v->(FB s v=true ↔ ∃i∈idx,∃r,At rs i r/\r.2.2=v))
  (aZ8 (L:=λ n=>iR.L1) (aZ6 idx.length (λ p t=> ∃s,t=(S,fin,rs,g,sets,m,N,old,done,d,s,idx,(idx.length:Int),(p:Int))/\zu s/\ ∀v:Int,0<=v->(FB s v=true ↔ ∃i∈idx.take p,∃r,At rs i r/\r.2.2=v)) ?_ ?_ ?_)) ?_
 ·rintro p t hp ⟨s,rfl,⟨w,U,rfl⟩,C⟩;unfold iR.L1;dsimp only;obtain⟨r,⟨j,hj,u⟩,Q⟩:=y idx[p] (aaf hp);have a2:j<rs.length:=(aad.1 u).1;have a3:rs[j]=r:=(aad.1 u).2;refine aY1 (by omega) (aY hp ?_);rw[hj,gQ a2,a3];have W:=Q.1;have h8:r.2.2<8:=by have:=Q.2;omega
  obtain⟨k,f⟩: ∃k:Nat,r.2.2=(k:Int):=⟨r.2.2.toNat,by omega⟩;refine aZ3 (aZ9 rfl ?_);rw[aiG W h8,aiS W h8];have a4:2^k<2^8:=Nat.pow_lt_pow_right (by omega) (by omega)
  refine aZ9 rfl (aY6 (by show 0<1;omega) λ e5 _ D=>aZ9 rfl (aZ9 (by
   rw[f,fE (show(0:Int)<=(k:Int) by omega),fE (show(k:Int)<=((IntKind.bits .u64:Nat):Int) by show(k:Int)<=((64:Nat):Int);omega)];rfl) (aZ9 rfl (aY6 (by show 0<1;omega) λ e6 _ _=>aZ2 ?_))))
  have D:e5=(w:Int):=(aak D).symm;subst D
  have Z:IntKind.wrap .u64 ((1:Int)*2^Int.toNat r.2.2)=((2^k:Nat):Int):=by
   rw[f,aal,Int.one_mul,show((2:Int)^k)=((2^k:Nat):Int) by push_cast;rfl,wrap_u64 (by omega)]
  rw[Z,afx U (by omega)];refine⟨[((w ||| 2^k:Nat):Int)],by rw[ak (by omega)];rfl,⟨_,Nat.or_lt_two_pow (n:=8) U a4,rfl⟩,λ v hv=> ?_⟩;rw[EI,Nat.testBit_or,abX,Nat.testBit_two_pow,←EI,C v hv,aau,aac hp];constructor
  ·rintro(⟨i,A,h2⟩|h)
   ·exact⟨i,aaG _ A,h2⟩
   ·have:=of_decide_eq_true h;exact⟨idx[p],aa6 _ (by simp),r,⟨j,hj,u⟩,by omega⟩
  ·rintro⟨i,A,r',⟨j',e,E⟩,h2⟩;rcases aap.1 A with A|A
   ·exact .inl ⟨i,A,r',⟨j',e,E⟩,h2⟩
   ·simp only[aaS,aah]at A;have:j'=j:=by rw[A,hj]at e;omega
    subst this;rw[u]at E;cases E;exact .inr (fE (by omega))
 ·rintro t ⟨s,rfl,hs,C⟩;unfold iR.L1;dsimp only;rw[aat]at C;exact aY3 (by omega) (aZ4 ⟨s,rfl,hs,C⟩)
 ·refine⟨[((0:Nat):Int)],rfl,⟨0,by omega,rfl⟩,λ v _=> ?_⟩;rw[EI];simp
 rintro _ ⟨s,rfl,hs,C⟩;dsimp only;refine aZ1 (hK s hs) ?_;rintro _ rfl;obtain⟨B,M,rfl,G,f⟩:=hk;refine aX2 (λ hc=> ?_) (λ hc=> ?_)
 ·refine aW5 (aY8 (aW3 (jS (by simp;omega)) (aY8 (aZ0 ⟨sets.length,[s],_,s,rfl,by simp,by simp,⟨λ x Y=> ?_,_,rfl,λ n x q=> ?_,λ x v Y hv=> ?_⟩,by simp,C⟩))))
  ·rcases aap.1 Y with h|h
   ·exact B x h
   ·rw[aah.1 h];exact hs
  ·have l:oU seq (keyS s) M=none:=by simpa [ng]using hc
   rw[sW Ed];rcases aaF n sets.length with h|h
   ·rw[aaw h]at q;rw[if_neg]
    ·exact G n x q
    ·intro e;rw[←e,G n x q]at l;cases l
   ·rw[aaC h]at q
    have W:n-sets.length=0:=by
     rcases ab6 (n-sets.length)with h|h
     ·exact h
     ·rw[aai (by simp;omega)]at q;cases q
    rw[W]at q;have q:s=x:=by simpa using q
    rw[if_pos (by rw[q])];congr 1;omega
  ·rw[sW Ed]at hv;split at hv
   ·rename_i e;have:=ad2 Y hs e;subst this;refine⟨sets.length,(aak hv).symm,by simp⟩
   ·obtain⟨n,e,h⟩:=f x v Y hv;exact⟨n,e,by rw[aaw (aad.1 h).1];exact h⟩
 ·have I:(oU seq (keyS s) M).isSome=true:=by simpa [ng]using hc
  obtain⟨v,hv⟩:=acE.1 I;obtain⟨n,e,h⟩:=f s v hs hv;refine aY8 (aZ0 ⟨n,[],some M,s,?_,by simp,by simp,by rw[aaM];exact⟨B,M,rfl,G,f⟩,by rw[aaM];exact h,C⟩);rw[aaM,show ng (some M)=M from rfl,hv,e];rfl
def XU (sets:LL) (f:Int) (l:LI) (r:Rule):Prop:=r.1=f/\ ∀(j:Nat) (x q:Int),l[j]? =some x->r.2.1[j]? =some q-> ∃s,sets[x.toNat]? =some s/\FB s q=true
def Fits (sets:LL) (f:Int) (l:LI) (r:Rule):Prop:=r.2.1.length=l.length/\XU sets f l r
theorem KH {sets z:LL} {f:Int} {l:LI} {r:Rule} (h: ∀x∈l,bC (sets.length:Int) x):XU (sets++z) f l r ↔ XU sets f l r:=by
 have e: ∀x∈l,(sets++z)[x.toNat]? =sets[x.toNat]? :=λ x d=>aaw (by have:=(h x d).1;have:=(h x d).2;omega);constructor
 ·rintro⟨g,i⟩;exact⟨g,λ j x q d k=>by rw[←e x (aaj d)];exact i j x q d k⟩
 ·rintro⟨g,i⟩;exact⟨g,λ j x q d k=>by rw[e x (aaj d)];exact i j x q d k⟩
theorem xg {sets z:LL} {f:Int} {l:LI} {r:Rule} (h: ∀x∈l,bC (sets.length:Int) x):Fits (sets++z) f l r ↔ Fits sets f l r:=and_congr acd (KH h)
theorem Et {sets:LL} {f:Int} {l e:LI} {r:Rule} (h:XU sets f (l++e) r):XU sets f l r:=
 ⟨h.1,λ j x q d g=>h.2 j x q (by rw[aaw (aad.1 d).1];exact d) g⟩
theorem Rk {sets:LL} {f:Int} {l:LI} {x:Int} {r:Rule} {q:Int} (g:r.2.1[l.length]? =some q):XU sets f (l++[x]) r ↔ XU sets f l r/\ ∃s,sets[x.toNat]? =some s/\FB s q=true:=by
 constructor
 ·intro h;exact⟨Et h,h.2 l.length x q (by simp) g⟩
 ·rintro⟨i,k⟩;refine⟨i.1,λ j y m e d=> ?_⟩;rcases aaF j l.length with h|h
  ·rw[aaw h]at e;exact i.2 j y m e d
  ·have p:j=l.length:=by
    have:=(aad.1 e).1;simp at this;omega
   subst p;have e:y=x:=by simpa using e.symm
   rw[g]at d;cases d;rw[e];exact k
def ahm (al:LI) (rs:LR) (sets:LL) (e:LR):Prop:=
 ∀d∈e,0<=d.1/\al[d.1.toNat]? =some (d.2.1.length:Int)/\(∀x∈d.2.1,bC (sets.length:Int) x)/\bC (sets.length:Int) d.2.2/\(∃r∈rs,Fits sets d.1 d.2.1 r)/\
  ∃s,sets[d.2.2.toNat]? =some s/\ ∀v:Int,0<=v->(FB s v=true ↔ ∃r∈rs,Fits sets d.1 d.2.1 r/\r.2.2=v)
theorem ahm.more {al:LI} {rs:LR} {sets z:LL} {g:LR} (h:ahm al rs sets g):ahm al rs (sets++z) g:=by
 intro k f;obtain⟨l,m,d,p,⟨r,q,t⟩,s,i,u⟩:=h k f;have le: ∀x,bC (sets.length:Int) x->bC ((sets++z).length:Int) x:=λ x e=>⟨e.1,by have:=e.2;rw[aaq];omega⟩;refine⟨l,m,λ x e=>le x (d x e),le _ p,⟨r,q,(xg d).2 t⟩,s,by rw[aaw (aad.1 i).1];exact i,λ v hv=> ?_⟩;rw[u v hv];exact⟨λ⟨r,a,b,c⟩=>⟨r,a,(xg d).2 b,c⟩,λ⟨r,a,b,c⟩=>⟨r,a,(xg d).1 b,c⟩⟩
abbrev Sb:=Int×LI×LR×LL×LL×KM×LR×Int×Int×Bool×LI
def Cov (rs:LR) (sets:LL) (e:LR) (d:Int) (l:LI):Prop:=(∃r∈rs,Fits sets d l r)-> ∃q,(d,l,q)∈e
def SOk (S:Int) (al:LI) (rs:LR) (sets:LL) (m:KM) (e:LR) (d:Bool):Prop:=
 KOk sets m/\ahm al rs sets e/\sets.length<=301/\e.length<=20001/\((d=false->sets.length<=300/\e.length<=20000)/\(d=true->300<sets.length\/20000<e.length))/\ ∀s∈sets,∀v:Int,0<=v->FB s v=true->v<S
def QO (al:LI) (rs:LR) (k:Int) (rank:Nat) (e:LI) (f g:Bool) (S:Int) (fin:LI) (l:LL) (old done:Int) (sets:LL) (m:LR) (r:Sb):Prop:=
 ∃(z:LL) (p:KM) (y:LR) (d:Bool),r=(S,fin,rs,l,sets++z,p,m++y,old,done,d,e)/\SOk S al rs (sets++z) p (m++y) d/\(d=false->g=false)/\y.length+(if f=true then 0 else old.toNat^(rank-e.length))<=done.toNat^(rank-e.length)/\
  (d=false-> ∀i,e.length+i.length=rank->(∀x∈i,bC done x)->(f=true\/ ∃x∈i,old<=x)->Cov rs (sets++z) (m++y) k (e++i))
abbrev LsT:=Int×LI×LR×LL×LL×KM×LR×Int×Int×Bool×Int×Int×LI×LI×Bool
theorem aeE {W:Nat->Ah->Option Bool} {T:Nat->Sb->Option (Int×Int×LI×LR×LL×LL×KM×LR×Int×Int×Bool)} {C:Nat->LI->Option Ao} {F:Nat->LsT->Option Sb}
 (hF: ∀n x,F (n+1) x=bW.P (W n) (F n) (T n) (C n) n x) (hW: ∀s v,zu s->0<=v->v<8->Sp W (s,v) (λ r=>r=FB s v)) (hC: ∀l:LI,l.length<=1000000->Sp C l (λ r=>r=(l,l)))
 (al:LI) (S:Int) (fin:LI) (rs:LR) (A:LL) (hS:S<=8) (k0:rs.length<=100000) (hr: ∀r∈rs,bC S r.2.2/\(∀q∈r.2.1,bC S q)) (f9:Ar al rs)
 (hT: ∀(sets:LL) (m:KM) (G:LR) (old done:Int) (u:Bool) (idx:LI),(∀i∈idx,∃r,At rs i r/\bC S r.2.2)->idx≠[]->KOk sets m->sets.length<=1000->idx.length<=1000000->
  Sp T (S,fin,rs,A,sets,m,G,old,done,u,idx) (λ r=> ∃(n:Nat) (z:LL) (m':KM) (s:LI),r=((n:Int),S,fin,rs,A,sets++z,m',G,old,done,u)/\z.length<=1/\(∀x∈z,x=s)/\KOk (sets++z) m'/\(sets++z)[n]? =some s/\
   ∀v:Int,0<=v->(FB s v=true ↔ ∃i∈idx,∃r,At rs i r/\r.2.2=v)))
 (k:Int) (rank:Nat) (e7:0<=k) (b8:al[k.toNat]? =some (rank:Int)) (k2:rank<=3) (old done:Int) (ho:0<=old) (k3:old<=done):
 ∀(d:Nat) (f idx:LI) (g u:Bool) (sets:LL) (m:KM) (G:LR),f.length+d=rank->(d=0->g=true)->(∀x∈f,bC done x)->done<=(sets.length:Int)->SOk S al rs sets m G u->idx.length<=rs.length->
  (∀v,v∈idx ↔ ∃r,At rs v r/\XU sets k f r)->
  Sp F (S,fin,rs,A,sets,m,G,old,done,u,k,(rank:Int),f,idx,g) (QO al rs k rank f g u S fin A old done sets G):=by
 have b9: ∀(v:Int) (r:Rule),At rs v r->r.1=k->r.2.1.length=rank:=λ v r ⟨j,_,O⟩ e=>by
  have:=(f9 r (aaj O)).2;rw[e,b8]at this;have:=aak this;omega
 intro d
 induction d with
 |zero=>
  intro f idx g u sets m G hd e8 Q d9 a4 g0 M;refine aZ7 hF ?_;show Tt (λ n=>bW.P (W n) (F n) (T n) (C n) n (S,fin,rs,A,sets,m,G,old,done,u,k,(rank:Int),f,idx,g)) _;unfold bW.P;dsimp only;have e0:=a4.2.2.1
  have stop:(u=true\/idx= [])->QO al rs k rank f g u S fin A old done sets G (S,fin,rs,A,sets,m,G,old,done,u,f):=by
   intro h;refine⟨[],m,[],u,by rw[aaM,aaM],by rw[aaM,aaM];exact a4,id,?_,λ hf l2 I N h3 ⟨r,h4,h5⟩=> ?_⟩
   ·have:=ab1 (show old.toNat<=done.toNat by omega) (rank-f.length);split<;>simp<;>omega
   rw[aaM]at h5;rcases h with h|h
   ·rw[h]at hf;cases hf
   ·obtain⟨j,O,rfl⟩:=aaz h4;have:=(M (j:Int)).2 ⟨_,⟨j,rfl,aac O⟩,Et h5.2⟩;rw[h]at this;cases this
  refine aX2 (λ hc=>aY8 (aX6 rfl (aZ0 (stop (.inl hc))))) (λ hc=>aY8 (aY4 (λ hi=>aZ0 (stop (.inr ?_))) (λ hi=> ?_)))
  ·have hi:=of_decide_eq_true hi;exact aax (by omega)
  subst hc;have hi:=of_decide_eq_false hi;dsimp only;refine aX6 (fE (by omega)) (aZ1 (hC f (by omega)) ?_);rintro _ rfl;refine aZ1 (hT sets m G old done false idx (λ i h=> ?_) (λ h=>hi (by rw[h];rfl)) a4.1 (by omega) (by omega)) ?_
  ·obtain⟨r,I,N⟩:=(M i).1 h;obtain⟨j,e,O⟩:=I;exact⟨r,⟨j,e,O⟩,(hr r (aaj O)).1⟩
  rintro _ ⟨n,z,m',s,rfl,hz,g1,g2,hn,hm⟩;dsimp only;have g3:=a4.2.2.2.2.1.1 rfl;refine aX0 (jS (by simp;omega)) ?_;have k5:n<(sets++z).length:=(aad.1 hn).1;have U: ∀x∈f,bC (sets.length:Int) x:=λ x hx=>⟨(Q x hx).1,by have:=(Q x hx).2;omega⟩
  have c2: ∀r,(r∈rs/\Fits (sets++z) k f r) ↔ ∃i∈idx,At rs i r:=by
   intro r;constructor
   ·rintro⟨I,N⟩;obtain⟨j,O,rfl⟩:=aaz I;have ha:At rs (j:Int) rs[j]:=⟨j,rfl,aac O⟩;exact⟨(j:Int),(M _).2 ⟨_,ha,((xg U).1 N).2⟩,ha⟩
   ·rintro⟨i,I,N⟩;obtain⟨r',h3,h4⟩:=(M i).1 I
    have:r'=r:=by
     obtain⟨j,e,O⟩:=N;obtain⟨j',e',c3⟩:=h3;have:j=j':=by omega
     subst this;rw[O]at c3;exact(aak c3).symm
    subst this;have hl:=b9 i _ N h4.1;obtain⟨j,e,O⟩:=N;exact⟨aaj O,(xg U).2 ⟨by omega,h4⟩⟩
  have e9:ahm al rs (sets++z) (G++[(k,f,(n:Int))]):=by
   intro r' g6;rcases aap.1 g6 with h|h
   ·exact a4.2.1.more r' h
   ·rw[aah.1 h];obtain⟨i0,f0⟩:=List.exists_mem_of_ne_nil idx (λ h=>hi (by rw[h];rfl));obtain⟨r0,g7,_⟩:=(M i0).1 f0;obtain⟨g8,e3⟩:=(c2 r0).2 ⟨i0,f0,g7⟩;refine⟨e7,by rw[b8];dsimp only;congr 2;omega,λ x hx=>⟨(U x hx).1,by have:=(U x hx).2;rw[aaq];omega⟩,⟨by dsimp only;omega,by dsimp only;omega⟩,⟨r0,g8,e3⟩,s,by dsimp only;rw[aal];exact hn,λ v hv=> ?_⟩;rw[hm v hv];constructor
    ·rintro⟨i,I,r,N,h3⟩;obtain⟨a,b⟩:=(c2 r).2 ⟨i,I,N⟩;exact⟨r,a,b,h3⟩
    ·rintro⟨r,a,b,h3⟩;obtain⟨i,I,N⟩:=(c2 r).1 ⟨a,b⟩;exact⟨i,I,r,N,h3⟩
  have f1: ∀s∈sets++z,∀v:Int,0<=v->FB s v=true->v<S:=by
   intro x hx v hv hs;rcases aap.1 hx with h|h
   ·exact a4.2.2.2.2.2 x h v hv hs
   ·rw[g1 x h]at hs;obtain⟨i,_,r,⟨j,_,O⟩,e⟩:=(hm v hv).1 hs;rw[←e];exact(hr r (aaj O)).1.2
  have d3: ∀fl:Bool,(fl=false->(sets++z).length<=300/\G.length+1<=20000)->(fl=true->300<(sets++z).length\/20000<G.length+1)->QO al rs k rank f g false S fin A old done sets G (S,fin,rs,A,sets++z,m',List.append G [(k,f,(n:Int))],old,done,fl,f):=by
   intro fl a9 g9;refine⟨z,m',[(k,f,(n:Int))],fl,rfl,⟨g2,e9,by rw[aaq];omega,by rw[aaq];simp;omega,⟨λ h=>⟨(a9 h).1,by rw[aaq];exact(a9 h).2⟩,λ h=>by rw[aaq (as:=G)];exact g9 h⟩,f1⟩,λ _=>rfl,by rw[e8 rfl,show rank-f.length=0 by omega];simp,λ _ l2 I _ _ _=> ?_⟩;have:l2= []:=aax (by omega);rw[this,aaM];exact⟨(n:Int),aa6 _ (by simp)⟩
  have d4:(List.append G [(k,f,(n:Int))]).length=G.length+1:=by
   show(G++_).length=_;rw[aaq];rfl
  refine aX2 (λ I=>aY8 (aZ0 (d3 true (λ h=>by cases h) λ _=> ?_))) (λ I=>aY8 (aZ0 (d3 _ (λ h=> ?_) λ h=> ?_)))
  ·have I:=of_decide_eq_true I;rw[d4]at I;omega
  ·have I:=of_decide_eq_false I;have h:=of_decide_eq_false h;rw[d4]at I;omega
  ·have h:=of_decide_eq_true h;omega
 |succ d ih=>
  intro f idx g u sets m G hd e8 Q d9 a4 g0 M;refine aZ7 hF ?_;show Tt (λ n=>bW.P (W n) (F n) (T n) (C n) n (S,fin,rs,A,sets,m,G,old,done,u,k,(rank:Int),f,idx,g)) _;unfold bW.P;dsimp only;have e0:=a4.2.2.1
  have stop:(u=true\/idx= [])->QO al rs k rank f g u S fin A old done sets G (S,fin,rs,A,sets,m,G,old,done,u,f):=by
   intro h;refine⟨[],m,[],u,by rw[aaM,aaM],by rw[aaM,aaM];exact a4,id,?_,λ hf l2 I N h3 ⟨r,h4,h5⟩=> ?_⟩
   ·have:=ab1 (show old.toNat<=done.toNat by omega) (rank-f.length);split<;>simp<;>omega
   rw[aaM]at h5;rcases h with h|h
   ·rw[h]at hf;cases hf
   ·obtain⟨j,O,rfl⟩:=aaz h4;have:=(M (j:Int)).2 ⟨_,⟨j,rfl,aac O⟩,Et h5.2⟩;rw[h]at this;cases this
  refine aX2 (λ hc=>aY8 (aX6 rfl (aZ0 (stop (.inl hc))))) (λ hc=>aY8 (aY4 (λ hi=>aZ0 (stop (.inr ?_))) (λ hi=> ?_)))
  ·have hi:=of_decide_eq_true hi;exact aax (by omega)
  subst hc;dsimp only;refine aW6 (by omega) ?_
  have main: ∀first:Nat,(first:Int)<=done->(d=0->g=false->old<=(first:Int))->(∀x:Int,0<=x->x<(first:Int)->g=false/\d=0/\x<old)->
   Tt (λ n=>(bK (bW.L2 (W n) n (F n)) n (S,fin,rs,A,sets,m,G,old,done,false,k,(rank:Int),f,idx,g,(first:Int))).bind λ Y=>some (Y.1,Y.2.1,Y.2.2.1,Y.2.2.2.1,Y.2.2.2.2.1,Y.2.2.2.2.2.1,Y.2.2.2.2.2.2.1,Y.2.2.2.2.2.2.2.1,Y.2.2.2.2.2.2.2.2.1,Y.2.2.2.2.2.2.2.2.2.1,Y.2.2.2.2.2.2.2.2.2.2))
    (QO al rs k rank f g false S fin A old done sets G):=by
   intro first h9 e3 d0
   refine aZ1 (R:=QO al rs k rank f g false S fin A old done sets G) (aZ8 (L:=λ n=>bW.L2 (W n) n (F n)) (aX1 (λ t=> ∃(x:Nat) (z:LL) (m':KM) (y:LR) (B:Bool),t=(S,fin,rs,A,sets++z,m',G++y,old,done,B,k,(rank:Int),f,idx,g,(x:Int))/\(x:Int)<=done/\
    SOk S al rs (sets++z) m' (G++y) B/\(first<=x/\y.length+(if g=true then 0 else min x old.toNat*old.toNat^d)<=x*done.toNat^d)/\(B=false-> ∀(x':Int) (l2:LI),(first:Int)<=x'->x'<(x:Int)->f.length+1+l2.length=rank->(∀x∈l2,bC done x)->(g=true\/old<=x'\/ ∃x∈l2,old<=x)->Cov rs (sets++z) (G++y) k (f++x'::l2)))
    (λ t=>(done-t.2.2.2.2.2.2.2.2.2.2.2.2.2.2.2).toNat) ?_ ?_)) λ r hr=>aZ0 hr
   ·rintro _ ⟨x,z,m',y,B,rfl,k9,b3,⟨l0,b4⟩,d5⟩;unfold bW.L2;dsimp only;have i1:=b3.2.2.1;have i2:sets.length<=(sets++z).length:=by rw[aaq];omega
    by_cases hx:(x:Int)<done
    ·have c4:x<(sets++z).length:=by omega
     have i3:zu (sets++z)[x]:=b3.1.1 _ (aaf c4);have U: ∀x∈f,bC (sets.length:Int) x:=λ x hx=>⟨(Q x hx).1,by have:=(Q x hx).2;omega⟩
     have hq: ∀v∈idx,∃r q,At rs v r/\XU (sets++z) k f r/\r.2.1[f.length]? =some q/\bC S q:=by
      intro v hv;obtain⟨r,I,N⟩:=(M v).1 hv;have hl:=b9 v r I N.1;have b7:f.length<r.2.1.length:=by omega
      refine⟨r,r.2.1[f.length],I,(KH U).2 N,aac b7,?_⟩;obtain⟨j,_,O⟩:=I;exact(hr r (aaj O)).2 _ (aaf b7)
     refine aX7 (fE hx) ?_
     refine aZ5 (R:=λ t=> ∃left:LI,t=(S,fin,rs,A,sets++z,m',G++y,old,done,B,k,(rank:Int),f,idx,g,(x:Int),left)/\left.length<=idx.length/\ ∀v,v∈left ↔ ∃r,At rs v r/\XU (sets++z) k (f++[(x:Int)]) r)
      (aZ8 (L:=λ n=>bW.L1 (W n)) (aZ6 idx.length (λ p t=> ∃left:LI,t=(S,fin,rs,A,sets++z,m',G++y,old,done,B,k,(rank:Int),f,idx,g,(x:Int),left,idx,(idx.length:Int),(p:Int))/\left.length<=p/\
       ∀v,v∈left ↔ v∈idx.take p/\ ∃r,At rs v r/\XU (sets++z) k (f++[(x:Int)]) r) ?_ ?_ ⟨[],rfl,by simp,by simp⟩)) ?_
     ·rintro p t hp ⟨left,rfl,e4,b0⟩;unfold bW.L1;dsimp only;obtain⟨r,q,⟨j,ej,O⟩,N,h3,h4⟩:=hq idx[p] (aaf hp);have i6:j<rs.length:=(aad.1 O).1;have i7:rs[j]=r:=(aad.1 O).2;have b7:f.length<r.2.1.length:=(aad.1 h3).1;have i8:r.2.1[f.length]=q:=(aad.1 h3).2;refine aY1 (by omega) (aY hp (aZ9 (rng (by omega) (by omega)) ?_));rw[aal];refine aY6 c4 λ l1 _ d6=> ?_;rw[aac c4]at d6;cases d6;rw[ej,gQ i6,i7];refine aZ3 ?_;rw[gQ b7,i8]
      have f3: ∀v,v∈idx.take (p+1) ↔ v∈idx.take p\/v=(j:Int):=λ v=>by
       rw[aau,aac hp,aap,ej];simp
      have c5:(∃r,At rs (j:Int) r/\XU (sets++z) k (f++[(x:Int)]) r) ↔ FB (sets++z)[x] q=true:=by
       constructor
       ·rintro⟨r',⟨j',e',c3⟩,hf⟩;have:j'=j:=by omega
        subst this;rw[O]at c3;cases c3;obtain⟨s,hs,hm⟩:=((Rk h3).1 hf).2;rw[aal,aac c4]at hs;cases hs;exact hm
       ·intro hm;exact⟨r,⟨j,rfl,O⟩,(Rk h3).2 ⟨N,_,by rw[aal];exact aac c4,hm⟩⟩
      refine aZ3 (aZ5 (hW _ q i3 h4.1 (by have:=h4.2;omega)) ?_);rintro _ rfl;refine aY2 (λ hc=> ?_) (λ hc=> ?_)
      ·refine aY0 (jS (by simp;omega)) (aZ3 (aZ2 ⟨_,by rw[ak (by omega)],by simp;omega,λ v=> ?_⟩));simp only[abC,aap,aah,b0,f3];constructor
       ·rintro(⟨a,b⟩|rfl)
        ·exact⟨.inl a,b⟩
        ·exact⟨.inr rfl,c5.2 hc⟩
       ·rintro⟨a|a,b⟩
        ·exact .inl ⟨a,b⟩
        ·exact .inr a
      ·refine aZ3 (aZ2 ⟨left,by rw[ak (by omega)],by omega,λ v=> ?_⟩);rw[b0,f3];constructor
       ·rintro⟨a,b⟩;exact⟨.inl a,b⟩
       ·rintro⟨a|a,b⟩
        ·exact⟨a,b⟩
        ·rw[a,c5,hc]at b;cases b
     ·rintro t ⟨left,rfl,e4,b0⟩;unfold bW.L1;dsimp only;rw[aat]at b0;refine aY3 (by omega) (aZ4 ⟨left,rfl,e4,λ v=>(b0 v).trans ⟨λ h=>h.2,λ h=>⟨?_,h⟩⟩⟩);obtain⟨r,I,N⟩:=h;exact(M v).2 ⟨r,I,(KH U).1 (Et N)⟩
     rintro _ ⟨left,rfl,e4,b0⟩;dsimp only;refine aY0 (jS (by simp;omega)) ?_
     have call:=λ(D:Bool) (b1:D=true ↔ (g=true\/old<=(x:Int)))=>ih (f++[(x:Int)]) left D B (sets++z) m' (G++y) (by rw[aaq];simp;omega) (λ h0=>b1.2 (by
      cases g with
      |true=>exact .inl rfl
      |false=>have:=e3 h0 rfl;exact .inr (by omega))) (λ w hw=>by
      rcases aap.1 hw with h|h
      ·exact Q w h
      ·rw[aah.1 h];exact⟨by omega,hx⟩) (by omega) b3 (by omega) b0
     have d7:pre f (f++[(x:Int)])=true:=by
      unfold pre;rw[abL];exact fE rfl
     have next: ∀D:Bool,((D=true ↔ (g=true\/old<=(x:Int))))-> ∀r,QO al rs k rank (f++[(x:Int)]) D B S fin A old done (sets++z) (G++y) r->
      ∃(z2:LL) (m2:KM) (y2:LR) (E:Bool),r=(S,fin,rs,A,sets++z2,m2,G++y2,old,done,E,f++[(x:Int)])/\SOk S al rs (sets++z2) m2 (G++y2) E/\(first<=x+1/\y2.length+(if g=true then 0 else min (x+1) old.toNat*old.toNat^d)<=(x+1)*done.toNat^d)/\
       (E=false-> ∀(x':Int) (l2:LI),(first:Int)<=x'->x'<((x+1:Nat):Int)->f.length+1+l2.length=rank->(∀x∈l2,bC done x)->(g=true\/old<=x'\/ ∃x∈l2,old<=x)->Cov rs (sets++z2) (G++y2) k (f++x'::l2)):=by
      rintro D b1 r ⟨z2,m2,y2,E,rfl,a8,e5,K,Z⟩;rw[show rank-(f++[(x:Int)]).length=d by rw[aaq];simp;omega]at K;refine⟨z++z2,m2,y++y2,E,by rw[aaD,aaD],by rw[←aaD,←aaD];exact a8,⟨by omega,?_⟩,λ a9 x' l2 I N h3 h4 h5=> ?_⟩
      ·rw[aaq,abx]
       cases g with
       |true=>
        have:D=true:=b1.2 (.inl rfl);rw[if_pos rfl]at b4 ⊢;rw[if_pos this]at K;omega
       |false=>
        rw[if_neg acK]at b4 ⊢;by_cases f5:old<=(x:Int)
        ·rw[if_pos (b1.2 (.inr f5))]at K;rw[show min (x+1) old.toNat=min x old.toNat by omega];omega
        ·rw[if_neg λ h=>(b1.1 h).elim acK f5]at K;rw[show min (x+1) old.toNat=min x old.toNat+1 by omega,abx];omega
      rw[←aaD,←aaD];by_cases i9:x'=(x:Int)
      ·subst i9
       have:=Z a9 l2 (by rw[aaq];simp;omega) h4 (by
        rcases h5 with h|h|h
        ·exact .inl (b1.2 (.inl h))
        ·exact .inl (b1.2 (.inr h))
        ·exact .inr h)
       have e:f++[(x:Int)]++l2=f++(x:Int)::l2:=by simp
       rw[e]at this;exact this
      ·have f6:=e5 a9;intro⟨r,h6,h7⟩;have j0:x'<(x:Int):=by omega
       have h8: ∀w∈f++x'::l2,bC ((sets++z).length:Int) w:=by
        intro w hw
        have:bC done w:=by
         rcases aap.1 hw with h|h
         ·exact Q w h
         ·rcases aaQ.1 h with rfl|h
          ·exact⟨by omega,by omega⟩
          ·exact h4 w h
        exact⟨this.1,by have:=this.2;omega⟩
       obtain⟨q,hq⟩:=d5 f6 x' l2 I j0 h3 h4 h5 ⟨r,h6,(xg h8).1 h7⟩;exact⟨q,aaG _ hq⟩
     refine aY2 (λ hf=> ?_) (λ hf=> ?_)
     ·refine aY5 (aZ5 (call true (by simp[hf])) ?_);intro r hr;obtain⟨z2,m2,y2,E,rfl,a8,K,Z⟩:=next true (by simp[hf]) r hr
      dsimp only;exact aY0 d7 (aZ3 (aZ2 ⟨⟨x+1,z2,m2,y2,E,by rw[ak (by omega)],by omega,a8,K,Z⟩,by dsimp only;rw[ak (by omega)];omega⟩))
     ·refine aY5 (aZ5 (call (decide (old<=(x:Int))) (by simp[hf])) ?_);intro r hr;obtain⟨z2,m2,y2,E,rfl,a8,K,Z⟩:=next _ (by simp[hf]) r hr
      dsimp only;exact aY0 d7 (aZ3 (aZ2 ⟨⟨x+1,z2,m2,y2,E,by rw[ak (by omega)],by omega,a8,K,Z⟩,by dsimp only;rw[ak (by omega)];omega⟩))
    ·refine aX9 (decide_eq_false hx) (aZ4 ⟨z,m',y,B,rfl,b3,λ _=>rfl,?_,λ a9 l2 I N h3=> ?_⟩)
     ·rw[show rank-f.length=d+1 by omega,acY,acY,abW (old.toNat^d),abW (done.toNat^d)];have e1:x=done.toNat:=by omega
      have e2:min x old.toNat=old.toNat:=by omega
      rw[e2,e1]at b4;exact b4
     cases l2 with
     |nil=>rw[aci]at I;omega
     |cons x' l3=>
      rw[abl]at I;have f7:=N x' (by simp);by_cases b7:x'<(first:Int)
      ·obtain⟨a1,a2,a3⟩:=d0 x' f7.1 b7;have:l3= []:=aax (by omega);subst this;rcases h3 with h|⟨w,h,hw⟩
       ·rw[a1]at h;cases h
       ·rw[aah.1 h]at hw;omega
      ·exact d5 a9 x' l3 (by omega) (by have:=f7.2;omega) (by omega) (λ w hw=>N w (by simp[hw])) (by
        rcases h3 with h|⟨w,h,hw⟩
        ·exact .inl h
        ·rcases aaQ.1 h with rfl|h
         ·exact .inr (.inl hw)
         ·exact .inr (.inr ⟨w,h,hw⟩))
   ·refine⟨first,[],m,[],false,by rw[aaM,aaM],h9,by rw[aaM,aaM];exact a4,⟨aav _,?_⟩,λ _ x' l2 I N=>absurd I (by omega)⟩
    cases g with
    |true=>simp
    |false=>
     rw[if_neg acK,aci,aa0];exact Nat.mul_le_mul (Nat.min_le_left _ _) (ab1 (by omega) d)
  have m0:=λ h=>main 0 (by omega) h λ x h0 I=>absurd h0 (by omega);refine aX2 (λ hf=> ?_) (λ hf=> ?_)
  ·refine aY8 (aX2 (λ hg=> ?_) (λ hg=> ?_))
   ·refine aY8 ?_;have e:(old.toNat:Int)=old:=by omega
    have hg:=of_decide_eq_true hg;rw[kS _ (by omega) (by omega)]at hg;have:=main old.toNat (by omega) (λ _ _=>by omega) λ x h0 I=>⟨by simpa using hf,by omega,by omega⟩;rw[e]at this;exact this
   ·refine aY8 (m0 λ h0 _=> ?_);have hg:=of_decide_eq_false hg;rw[kS _ (by omega) (by omega)]at hg;omega
  ·exact aY8 (aX2 (λ hg=>by cases hg) (λ hg=>aY8 (m0 λ _ h=>by rw[h]at hf;cases hf)))
abbrev adp (Fi:Nat->Int×LI×LR->Option (List Bool)):Prop:= ∀(S:Int) (fin:LI) (rs:LR),0<=S->S<=300->fin.length<=1000000->(∀q∈fin,bC S q)->
 Sp Fi (S,fin,rs) (λ r=>r.length=S.toNat/\ ∀q:Int,bC S q->(bat r q=true ↔ q∈fin))
theorem ahB {Fi:Nat->Ab->Option (List Bool)} (h: ∀n x,Fi (n+1) x=oq.P n x):adp Fi:=λ S fin rs e f k g=>
 aZ7 h ((aeB S fin rs e f (by rw[xw];omega) g).mono λ r d=>⟨d.1,λ q i=>by
  have:=(d.2 q i).2;unfold at? at this;rw[Dp,this];simp⟩)
def Sy (rs:LR):Prop:= ∀r∈rs,I64 r.1
def XZ (al fin:LI) (rs:LR) (D:Aut):Prop:=Wf D.1 D.2.1 D.2.2/\D.1<=300/\Det D.2.2/\(∀t,Acc D.2.2 D.2.1 t ↔ Acc rs fin t)/\Sy D.2.2/\D.2.2.length<=20000/\Ar al D.2.2
theorem Vp {al:LI} {S:Int} {fin fin':LI} {rs C:LR} {sets:LL} {m:KM} {y:Bool} (hw:Wf S fin rs) (c9:Ar al rs) (d0:SOk S al rs sets m C y)
 (Z: ∀(a0:Nat) (k:Nat),al[a0]? =some (k:Int)-> ∀l:LI,l.length=k->(∀x∈l,bC (sets.length:Int) x)->Cov rs sets C (a0:Int) l)
 (D: ∀n:Int,n∈fin' ↔ ∃s,0<=n/\sets[n.toNat]? =some s/\ ∃v:Int,0<=v/\FB s v=true/\v∈fin):Det C/\ ∀t,Acc C fin' t ↔ Acc rs fin t:=by
 obtain⟨B,K,_,_,_,e7⟩:=d0;have E: ∀r∈rs,∀q∈r.2.1,0<=q:=λ r hr q A=>((hw.2.2.2.2.2 r hr).2.1 q A).1
 have d: ∀t q,Reach C t q->bC (sets.length:Int) q/\ ∃s,sets[q.toNat]? =some s/\ ∀v:Int,0<=v->(FB s v=true ↔ Reach rs t v):=by
  intro t
  induction t using y8 with
  |h a p ih=>
   intro q A;obtain⟨r',L,G,h2,h3,h4⟩:=bY.1 A;obtain⟨b1,b2,b3,b4,b5,s,b6,b7⟩:=K r' L;rw[←h2];refine⟨b4,s,b6,λ v hv=> ?_⟩;rw[b7 v hv];constructor
   ·rintro⟨r,z,⟨c2,Q,c4⟩,R⟩;refine bY.2 ⟨r,z,Q.trans G,R,by omega,λ i k f B u=> ?_⟩;have a5:i<r'.2.1.length:=by have:=(aad.1 u).1;omega
    obtain⟨s',M,N⟩:=c4 i _ f (aac a5) u;obtain⟨_,s2,U,e4⟩:=ih k (aaj B) _ (h4 i k _ B (aac a5));rw[M]at U;cases U;exact(e4 f (E r z f (aaj u))).1 N
   ·intro h;obtain⟨r,z,c2,Q,c4,R⟩:=bY.1 h;refine⟨r,z,⟨by omega,c2.trans G.symm,λ j x f I u=> ?_⟩,Q⟩;have a7:j<p.length:=by have:=(aad.1 I).1;omega
    have a8:=aac a7;obtain⟨_,s2,U,e4⟩:=ih _ (aaf a7) x (h4 j _ x a8 I);exact⟨s2,U,(e4 f (E r z f (aaj u))).2 (R j _ f a8 u)⟩
 have y: ∀t v,Reach rs t v-> ∃q,Reach C t q:=by
  intro t
  induction t using y8 with
  |h a p ih=>
   intro v hv;obtain⟨r,z,c2,Q,c4,R⟩:=bY.1 hv
   have a9: ∀i:Nat,∃q:Int,∀h:i<p.length,Reach C p[i] q:=by
    intro i;by_cases h:i<p.length
    ·have d6:i<r.2.1.length:=by omega
     obtain⟨q,A⟩:=ih _ (aaf h) _ (R i _ _ (aac h) (aac d6));exact⟨q,λ _=>A⟩
    ·exact⟨0,λ h'=>absurd h' h⟩
   obtain⟨g,hg⟩: ∃g:Nat->Int,∀i,∀h:i<p.length,Reach C p[i] (g i):=⟨λ i=>(a9 i).choose,λ i=>(a9 i).choose_spec⟩
   let l:LI:=(List.range p.length).map g
   have d8:l.length=p.length:=by simp[l]
   have b0: ∀i,i<p.length->l[i]? =some (g i):=λ i W=>by
    simp only[l,aas,ach W,aaL]
   obtain⟨d1,d2⟩:=c9 r z;have b8:(r.1.toNat:Int)=r.1:=by omega
   have b9:=Z r.1.toNat r.2.1.length d2 l (by omega) λ x I=>by
    obtain⟨i,W,rfl⟩:=aaB.1 I;exact(d _ _ (hg i (ab2.1 W))).1
   rw[b8]at b9
   obtain⟨q,A⟩:=b9 ⟨r,z,by omega,rfl,λ j x f I u=>by
    have hj:j<p.length:=by have:=(aad.1 I).1;omega
    rw[b0 j hj]at I;cases I;obtain⟨_,s,M,N⟩:=d _ _ (hg j hj);exact⟨s,M,(N f (E r z f (aaj u))).2 (R j _ f (aac hj) u)⟩⟩
   refine⟨q,bY.2 ⟨_,A,c2,rfl,d8,λ i k f B u=> ?_⟩⟩;have W:=(aad.1 B).1;rw[b0 i W]at u;cases u;have:=hg i W
   rwa [(aad.1 B).2]at this
 have e0: ∀t v,Reach rs t v->0<=v:=λ t v h=>by
  cases t with
  |mk a p=>
   obtain⟨r,z,_,Q,_⟩:=bY.1 h;rw[←Q];exact(hw.2.2.2.2.2 r z).1.1
 refine⟨λ r hr r' L M N=> ?_,λ t=>⟨?_,?_⟩⟩
 ·obtain⟨_,_,_,a1,_,s,O,Y⟩:=K r hr;obtain⟨_,_,_,b1,_,s',b2,b3⟩:=K r' L;rw[←M,←N]at b3
  have:s=s':=agw (B.1 _ (aaj O)) (B.1 _ (aaj b2)) λ v E _=>by
   cases e:FB s v<;>cases e':FB s' v<;>first|rfl|skip
   ·have:=(Y v E).2 ((b3 v E).1 e');rw[e]at this;cases this
   ·have:=(b3 v E).2 ((Y v E).1 e);rw[e']at this;cases this
  subst this;have:=B.inj O b2;have:=a1.1;have:=b1.1;omega
 ·rintro⟨q,G,h2⟩;obtain⟨s,_,M,v,N,U,e4⟩:=(D q).1 h2;obtain⟨_,s',O,Y⟩:=d t q G;rw[M]at O;cases O;exact⟨v,(Y v N).1 U,e4⟩
 ·rintro⟨v,G,h2⟩;obtain⟨q,A⟩:=y t v G;obtain⟨a1,s,O,Y⟩:=d t q A;have hv:=e0 t v G;exact⟨q,A,(D q).2 ⟨s,a1.1,O,v,hv,(Y v hv).2 G,h2⟩⟩
theorem Cov.more {rs:LR} {sets z:LL} {e y:LR} {d:Int} {l:LI} (h:Cov rs sets e d l) (f: ∀x∈l,bC (sets.length:Int) x):Cov rs (sets++z) (e++y) d l:=λ⟨r,g,i⟩=>by
 obtain⟨q,k⟩:=h ⟨r,g,(xg f).1 i⟩;exact⟨q,aaG _ k⟩
abbrev ajs (al:LI) (S:Int) (fin:LI) (rs:LR) (Ls:Nat->LsT->Option Sb):Prop:=
 ∀(g:LL) (e:Int) (rank:Nat),0<=e->al[e.toNat]? =some (rank:Int)-> ∀(old done:Int),0<=old->old<=done-> ∀(idx:LI) (d f:Bool) (sets:LL) (m:KM) (i:LR),(rank=0->d=true)->done<=(sets.length:Int)->SOk S al rs sets m i f->idx.length<=rs.length->
  (∀v,v∈idx ↔ ∃r,At rs v r/\r.1=e)->Sp Ls (S,fin,rs,g,sets,m,i,old,done,f,e,(rank:Int),[],idx,d) (QO al rs e rank [] d f S fin g old done sets i)
theorem aez {sets:LL} {m:KM} {S:Int} (A:S<=8) (h:KOk sets m) (hs: ∀s∈sets,∀v:Int,0<=v->FB s v=true->v<S):sets.length<=2^S.toNat:=by
 have p: ∀s∈sets,bC ((2^S.toNat:Nat):Int) (s[0]?.getD 0):=λ s d=>by
  obtain⟨w,B,rfl⟩:=h.1 s d
  have:w<2^S.toNat:=Nat.lt_pow_two_of_testBit w λ i g=>by
   apply aaP;intro f;have f:w.testBit i=true:=by simpa using f
   have:=hs _ d (i:Int) (by omega) (by rw[EI,aal];exact f);omega
  show bC _ (w:Int);exact⟨by omega,by omega⟩
 have f:(sets.map λ s=>s[0]?.getD 0).Nodup:=by
  refine aaR.2 λ i j g k t e=> ?_;simp only[aaH]at g k;simp only[List.getElem_map]at e;obtain⟨w,_,u⟩:=h.1 _ (aaf g);obtain⟨w',_,l⟩:=h.1 _ (aaf k)
  have y:sets[i]=sets[j]:=by
   rw[u,l]at e ⊢;have e:(w:Int)=(w':Int):=e;rw[e]
  have:=h.inj (aac g) (by rw[y];exact aac k);omega
 have:=LD f λ q z=>by
  obtain⟨s,hs,rfl⟩:=aaB.1 z;exact p s hs
 rw[aaH,aal]at this;exact this
def X0 (al:LI) (S:Int):Prop:= ∀k:Nat,S<=(k:Int)->2^k<=300->lZ al (2^k)<=20000->False
theorem ZX {B:Nat->Aa->Option (LL)} {Fi:Nat->Ab->Option (List Bool)} {So:Nat->LR->Option (LR)} {V:Nat->Aa->Option Bool} {Li:Nat->LI->Option LI}
 {Ls:Nat->LsT->Option Sb} {C:Nat->LI×List Bool->Option Bool} (f7:adp Fi) (f8:aeR So) (f9: ∀s,zu s->Sp Li s (λ r=>r.length<=64/\ ∀v,v∈r ↔ 0<=v/\v<8/\FB s v=true)) (hC:XT C id)
 (al:LI) (S:Int) (fin:LI) (rs:LR) (hS:S<=8) (hV:Sp V (al,S,fin,rs) (λ r=>r=true ↔ cu al (S,fin,rs)))
 (hB:cu al (S,fin,rs)->Sp B (al,S,fin,rs) (aio al rs)) (c1:cu al (S,fin,rs)->ajs al S fin rs Ls):
 Sp (λ n=>eF.P (B n) (Fi n) (So n) (V n) (Li n) (Ls n) (C n) n) (al,S,fin,rs) (λ r=>(r.2.2.2.2=0->XZ al fin rs (r.1,r.2.1,r.2.2.1))/\(cu al (S,fin,rs)->r.2.2.2.2=0\/r.2.2.2.2=3/\X0 al S)):=by
 show Tt (λ n=>eF.P (B n) (Fi n) (So n) (V n) (Li n) (Ls n) (C n) n (al,S,fin,rs)) _;unfold eF.P;dsimp only;refine aZ1 hV λ b hb=>aY4 (λ hc=>aZ0 ⟨λ h=>(by cases h),λ h=>by rw[hb.2 h]at hc;cases hc⟩) (λ hc=> ?_);have hv:cu al (S,fin,rs):=hb.1 (by simpa using hc);have hw:=hv.wf;have d5:=hv.ar;dsimp only at hw d5;have hB:=hB hv;have c1:=c1 hv;have c2:=hv.1;have i2:=c2.1;refine aZ1 hB λ I g5=> ?_;obtain⟨i3,d6⟩:=g5
 refine aZ1 (R:=λ t=>t=Sum.inr ((0:Int),([]:LI),([]:LR),([]:LL),(3:Int))/\X0 al S\/ ∃(sets:LL) (m:KM) (A:LR) (old done:Int),t=Sum.inl (S,fin,rs,(0:Int),([]:LI),([]:LR),S,fin,rs,I,sets,m,A,old,done,false)/\SOk S al rs sets m A false/\
  ∀(d:Nat) (k:Nat),al[d]? =some (k:Int)-> ∀l:LI,l.length=k->(∀x∈l,bC (sets.length:Int) x)->Cov rs sets A (d:Int) l)
  (aZ8 (L:=λ n=>eF.L2 (Ls n) n) (aX1 (λ t=> ∃(rd:Int) (sets:LL) (m:KM) (A:LR) (old done:Int),t=(al,S,fin,rs,(0:Int),([]:LI),([]:LR),rd,S,fin,rs,I,sets,m,A,old,done,false)/\SOk S al rs sets m A false/\
   (0<=rd/\A.length<=if rd=0 then 0 else lZ al old.toNat)/\rd<=old+1/\0<=old/\old<=done/\done<=(sets.length:Int)/\((rd≠0->done=(sets.length:Int))/\(rd=0->done=0))/\(rd≠0-> ∀d:Nat,al[d]? =some 0->Cov rs sets A (d:Int) [])/\
   ∀(d:Nat) (k:Nat),al[d]? =some ((k+1:Nat):Int)-> ∀l:LI,l.length=k+1->(∀x∈l,bC old x)->Cov rs sets A (d:Int) l)
   (λ t=>(302-t.2.2.2.2.2.2.2.2.2.2.2.2.2.2.2.1).toNat*2+if t.2.2.2.2.2.2.2.1=0 then 1 else 0) ?_ ?_)) ?_
 ·rintro _ ⟨rd,sets,m,A,old,done,rfl,K,⟨h0,d7⟩,j5,ho,g6,j7,d8,hz,hp⟩;unfold eF.L2;dsimp only;have i6:=K.2.2.1
  have b8:(rd=0\/old<done)->Bd (λ n k=>(bK (eF.L1 (Ls n)) n (al,S,fin,rs,(0:Int),([]:LI),([]:LR),rd,S,fin,rs,I,sets,m,A,old,done,false,al,(al.length:Int),(0:Int))).bind λ p=>
   bif p.2.2.2.2.2.2.2.2.2.2.2.2.2.2.2.2.2 then((some ((0:Int),([]:LI),([]:LR),([]:LL),(3:Int))).bind λ r=>some (Sum.inr r))
   else k (p.1,p.2.1,p.2.2.1,p.2.2.2.1,p.2.2.2.2.1,p.2.2.2.2.2.1,p.2.2.2.2.2.2.1,IntKind.wrap .i64 (p.2.2.2.2.2.2.2.1+(1:Int)),p.2.2.2.2.2.2.2.2.1,p.2.2.2.2.2.2.2.2.2.1,p.2.2.2.2.2.2.2.2.2.2.1,p.2.2.2.2.2.2.2.2.2.2.2.1,p.2.2.2.2.2.2.2.2.2.2.2.2.1,p.2.2.2.2.2.2.2.2.2.2.2.2.2.1,p.2.2.2.2.2.2.2.2.2.2.2.2.2.2.1,p.2.2.2.2.2.2.2.2.2.2.2.2.2.2.2.2.1,(List.length p.2.2.2.2.2.2.2.2.2.2.2.2.1:Int),p.2.2.2.2.2.2.2.2.2.2.2.2.2.2.2.2.2))
   (λ s'=>(∃(Y:Int) (sets:LL) (m:KM) (A:LR) (M done:Int),s'=(al,S,fin,rs,(0:Int),([]:LI),([]:LR),Y,S,fin,rs,I,sets,m,A,M,done,false)/\SOk S al rs sets m A false/\
    (0<=Y/\A.length<=if Y=0 then 0 else lZ al M.toNat)/\Y<=M+1/\0<=M/\M<=done/\done<=(sets.length:Int)/\((Y≠0->done=(sets.length:Int))/\(Y=0->done=0))/\(Y≠0-> ∀d:Nat,al[d]? =some 0->Cov rs sets A (d:Int) [])/\
    ∀(d:Nat) (k:Nat),al[d]? =some ((k+1:Nat):Int)-> ∀l:LI,l.length=k+1->(∀x∈l,bC M x)->Cov rs sets A (d:Int) l)/\s'.2.2.2.2.2.2.2.1=rd+1/\s'.2.2.2.2.2.2.2.2.2.2.2.2.2.2.2.1=done)
   (λ t=>t=Sum.inr ((0:Int),([]:LI),([]:LR),([]:LL),(3:Int))/\X0 al S\/ ∃(sets:LL) (m:KM) (A:LR) (old done:Int),t=Sum.inl (S,fin,rs,(0:Int),([]:LI),([]:LR),S,fin,rs,I,sets,m,A,old,done,false)/\SOk S al rs sets m A false/\
    ∀(d:Nat) (k:Nat),al[d]? =some (k:Int)-> ∀l:LI,l.length=k->(∀x∈l,bC (sets.length:Int) x)->Cov rs sets A (d:Int) l):=by
   intro hg
   refine aZ5 (R:=λ t=> ∃(z:LL) (m':KM) (y:LR) (f:Bool),t=(al,S,fin,rs,(0:Int),([]:LI),([]:LR),rd,S,fin,rs,I,sets++z,m',A++y,old,done,f)/\SOk S al rs (sets++z) m' (A++y) f/\y.length+(if rd=0 then 0 else lZ al old.toNat)<=lZ al done.toNat/\
    (f=false-> ∀(d k:Nat),al[d]? =some (k:Int)->(k=0 ↔ rd=0)-> ∀l:LI,l.length=k->(∀x∈l,bC done x)->(k=0\/ ∃x∈l,old<=x)->Cov rs (sets++z) (A++y) (d:Int) l))
    (aZ8 (L:=λ n=>eF.L1 (Ls n)) (aZ6 al.length (λ i t=> ∃(z:LL) (m':KM) (y:LR) (f:Bool),t=(al,S,fin,rs,(0:Int),([]:LI),([]:LR),rd,S,fin,rs,I,sets++z,m',A++y,old,done,f,al,(al.length:Int),(i:Int))/\SOk S al rs (sets++z) m' (A++y) f/\y.length+(if rd=0 then 0 else lZ (al.take i) old.toNat)<=lZ (al.take i) done.toNat/\
     (f=false-> ∀(d k:Nat),d<i->al[d]? =some (k:Int)->(k=0 ↔ rd=0)-> ∀l:LI,l.length=k->(∀x∈l,bC done x)->(k=0\/ ∃x∈l,old<=x)->Cov rs (sets++z) (A++y) (d:Int) l)) ?_ ?_
     ⟨[],m,[],false,by rw[aaM,aaM];rfl,by rw[aaM,aaM];exact K,by simp[lZ],λ _ d k h=>absurd h (by omega)⟩)) ?_
   ·rintro i t hi ⟨z,m',y,f,rfl,g,D,Z⟩;unfold eF.L1;dsimp only;have c4:done<=((sets++z).length:Int):=by rw[aaq];omega
    obtain⟨k0,d9⟩: ∃k:Nat,al[i]=(k:Int):=⟨al[i].toNat,by have:=(c2.2 i hi).1;omega⟩;have c5:al[i]? =some (k0:Int):=by rw[aac hi,d9]
    have fo:=Eu (m:=old.toNat) hi;have fd:=Eu (m:=done.toNat) hi;rw[show al[i].toNat=k0 by omega]at fo fd;refine aY1 (by omega) (aY hi ?_);rw[d9];refine aY2 (λ he=> ?_) (λ he=> ?_)
    ·have a9:k0=0 ↔ rd=0:=by
      have:decide ((k0:Int)=0)=decide (rd=0):=by simpa using he
      have:=decide_eq_decide.1 this;omega
     refine aY5 ?_;have e0:i<I.length:=by omega
     rw[gQ e0];have b9:=d6 i I[i] (aac e0);refine aZ3 (aY5 (aZ5 (c1 I (i:Int) k0 (by omega) (by rw[aal];exact c5) old done ho g6 I[i] (decide ((k0:Int)=0)) f (sets++z) m' (A++y) (λ h=>fE (by omega)) c4 g b9.1 λ v=>(b9.2 v).trans ⟨?_,?_⟩) ?_))
     ·rintro⟨j,r,e,E,G⟩;exact⟨r,⟨j,e,E⟩,G⟩
     ·rintro⟨r,⟨j,e,E⟩,G⟩;exact⟨j,r,e,E,G⟩
     rintro _ ⟨z2,m2,y2,c6,rfl,e3,c7,O,c8⟩;refine aZ3 (aZ2 ⟨z++z2,m2,y++y2,c6,?_,by rw[←aaD,←aaD];exact e3,?_,λ hf d k b0 N b4 l Q u b5=> ?_⟩)
     ·dsimp only;rw[ak (by omega),aaD,aaD]
     ·rw[fo,fd,aaq];rw[aci,Nat.sub_zero]at O;by_cases h0:rd=0
      ·rw[if_pos h0]at D ⊢;rw[a9.2 h0]at O ⊢;rw[if_pos (fE (by omega))]at O;omega
      ·rw[if_neg h0]at D ⊢;rw[if_neg (by rw[decide_eq_true_eq];omega)]at O;omega
     ·rw[←aaD,←aaD];rcases aa1 (abf b0)with h|rfl
      ·exact(Z (c7 hf) d k h N b4 l Q u b5).more λ x U=>⟨(u x U).1,by have:=(u x U).2;omega⟩
      ·rw[c5]at N;have N:k0=k:=by have:=aak N;omega
       subst N;refine c8 hf l (by simpa using Q) u ?_;rcases b5 with h|h
       ·exact .inl (fE (by omega))
       ·exact .inr h
    ·have a9: ¬(k0=0 ↔ rd=0):=by
      intro h
      have:(decide ((k0:Int)=0)==decide (rd=0))=true:=by
       rw[beq_iff_eq];exact decide_eq_decide.2 (by omega)
      rw[this]at he;cases he
     refine aZ3 (aZ2 ⟨z,m',y,f,by dsimp only;rw[ak (by omega)],g,?_,λ hf d k b0 N b4 l Q u b5=> ?_⟩)
     ·rw[fo,fd];by_cases h0:rd=0
      ·rw[if_pos h0]at D ⊢;omega
      ·rw[if_neg h0]at D ⊢;have:k0=0:=by omega
       rw[this,Nat.pow_zero,Nat.pow_zero];omega
     rcases aa1 (abf b0)with h|rfl
     ·exact Z hf d k h N b4 l Q u b5
     ·rw[c5]at N;have N:k0=k:=by have:=aak N;omega
      subst N;exact absurd b4 a9
   ·rintro t ⟨z,m',y,f,rfl,g,D,Z⟩;unfold eF.L1;dsimp only;rw[aat]at D;exact aY3 (by omega) (aZ4 ⟨z,m',y,f,rfl,g,D,λ hf d k N=>Z hf d k (aad.1 N).1 N⟩)
   ·rintro _ ⟨z,m',y,f,rfl,g,D,Z⟩
    have e4:(A++y).length<=lZ al done.toNat:=by
     rw[aaq];split at d7
     ·rename_i h0;rw[if_pos h0]at D;omega
     ·rename_i h0;rw[if_neg h0]at D;omega
    refine aY9 (λ hf=>aZ3 (aZ4 (.inl ⟨rfl,λ k k2 E G=> ?_⟩))) (λ hf=> ?_)
    ·have hf:f=true:=hf;have g1:=aez hS g.1 g.2.2.2.2.2;have g2:2^S.toNat<=2^k:=abN (by omega) (by omega);have g3:done.toNat<=2^k:=by rw[aaq]at g1;omega
     have g4:=Xc (al:=al) g3;rcases g.2.2.2.2.1.2 hf with h|h
     ·omega
     ·omega
    have hf:f=false:=hf;subst hf;have c4:done<=((sets++z).length:Int):=by rw[aaq];omega
    have i7:rd<=302:=by omega
    have e5:IntKind.wrap .i64 (rd+1)=rd+1:=kS _ (by omega) (by omega);have g8: ∀x,bC done x->bC (sets.length:Int) x:=λ x h=>⟨h.1,by have:=h.2;omega⟩;refine aZ2 ⟨⟨rd+1,sets++z,m',A++y,done,((sets++z).length:Int),by dsimp only;rw[e5],g,⟨by omega,by rw[if_neg (by omega)];exact e4⟩,?_,by omega,c4,acW _,⟨λ _=>rfl,λ h=>by omega⟩,λ _ d hs=> ?_,λ d k hs l Q u=> ?_⟩,by dsimp only;rw[e5],rfl⟩
    ·omega
    ·by_cases a4:rd=0
     ·exact Z rfl d 0 hs (by omega) [] rfl (by simp) (.inl rfl)
     ·exact(hz a4 d hs).more (by simp)
    ·by_cases a4:rd=0
     ·have h0:=d8.2 a4;have U:=u l[0] (aaf (by omega));exact absurd U.1 (by have:=U.2;omega)
     ·by_cases e6: ∃x∈l,old<=x
      ·exact Z rfl d (k+1) hs (by omega) l Q u (.inr e6)
      ·refine(hp d k hs l Q λ x U=>⟨(u x U).1,?_⟩).more λ x U=>g8 x (u x U);rcases acs x old with h|h
       ·exact h
       ·exact absurd ⟨x,U,h⟩ e6
  have c0: ∀s':LI×Int×LI×LR×Int×LI×LR×Int×Int×LI×LR×LL×LL×KM×LR×Int×Int×Bool,(rd=0\/old<done)->s'.2.2.2.2.2.2.2.1=rd+1->s'.2.2.2.2.2.2.2.2.2.2.2.2.2.2.2.1=done->
   (302-s'.2.2.2.2.2.2.2.2.2.2.2.2.2.2.2.1).toNat*2+(if s'.2.2.2.2.2.2.2.1=0 then 1 else 0)<(302-old).toNat*2+if rd=0 then 1 else 0:=by
   intro s' hg e1 e2;rw[e1,e2,if_neg (by omega)];split<;>omega
  refine aY2 (λ h=> ?_) (λ h=> ?_)
  ·have hg:rd=0\/old<done:= .inl (iy h);exact aZ3 (aX7 rfl ((b8 hg).mono (λ s' hs=>⟨hs.1,c0 s' hg hs.2.1 hs.2.2⟩) λ t ht=>ht))
  ·have a4:rd≠0:=dec_not h;refine aZ3 (aY9 (λ G=> ?_) (λ G=> ?_))
   ·have hg:rd=0\/old<done:= .inr (iy G);exact(b8 hg).mono (λ s' hs=>⟨hs.1,c0 s' hg hs.2.1 hs.2.2⟩) λ t ht=>ht
   ·have G: ¬old<done:=dec_not G;have e1:=d8.1 a4;refine aZ4 (.inr ⟨sets,m,A,old,done,rfl,K,λ d k N l Q u=> ?_⟩)
    cases k with
    |zero=>
     have:l= []:=aax Q;rw[this];exact hz a4 d N
    |succ k=>exact hp d k N l Q λ x U=>⟨(u x U).1,by have:=(u x U).2;omega⟩
 ·refine⟨0,[],some [],[],0,0,rfl,⟨⟨by simp,[],rfl,λ n s h=>by simp at h,λ s v h G=>by simp[oU]at G⟩,λ r h=>by simp at h,by simp,by simp,⟨λ _=>⟨by simp,by simp⟩,λ h=>by cases h⟩,by simp⟩,⟨by omega,by simp⟩,by omega,by omega,by omega,by simp,⟨λ h=>absurd rfl h,λ _=>rfl⟩,λ h=>absurd rfl h,λ d k N l Q u=> ?_⟩;have U:=u l[0] (aaf (by omega));exact absurd U.1 (by have:=U.2;omega)
 rintro _ (⟨rfl,h5⟩|⟨sets,m,A,old,done,rfl,K,e7⟩)
 ·exact aZ0 ⟨λ h=>(by cases h),λ _=> .inr ⟨rfl,h5⟩⟩
 dsimp only;have c9:=(K.2.2.2.2.1.1 rfl)
 have e8: ∀r∈A,r.2.1.length<=3:=λ r hr=>by
  obtain⟨a1,a2,_⟩:=K.2.1 r hr;obtain⟨h7,e⟩:=aad.1 a2;have:=(c2.2 _ h7).2;omega
 refine aZ1 (f8 A (by omega) e8) λ d0 f0=> ?_;obtain⟨k5,d1⟩:=f0;have g:SOk S al rs sets m d0 false:=⟨K.1,λ r hr=>K.2.1 r ((d1 r).1 hr),K.2.2.1,by omega,⟨λ _=>⟨c9.1,by omega⟩,λ h=>by cases h⟩,K.2.2.2.2.2⟩;refine aZ1 (f7 S fin rs hw.1 (by omega) (by have:=hw.2.2.1;omega) hw.2.2.2.2.1) λ R hR=> ?_;obtain⟨h8,f1⟩:=hR
 refine aZ1 (R:=λ t=> ∃(fin':LI) (sl:LL),t=((0:Int),([]:LI),([]:LR),(sets.length:Int),fin',d0,sl)/\fin'.length<=sets.length/\ ∀n:Int,n∈fin' ↔ ∃s,0<=n/\sets[n.toNat]? =some s/\ ∃v:Int,0<=v/\FB s v=true/\v∈fin)
  (aZ8 (L:=λ n=>eF.L3 (Li n) (C n)) (aZ6 sets.length (λ i t=> ∃(fin':LI) (sl:LL),t=((0:Int),([]:LI),([]:LR),(sets.length:Int),fin',d0,R,sl,S,fin,rs,I,sets,m,A,old,done,false,(sets.length:Int),(i:Int))/\fin'.length<=i/\sl.length<=i/\
   ∀n:Int,n∈fin' ↔ ∃s,0<=n/\n<(i:Int)/\sets[n.toNat]? =some s/\ ∃v:Int,0<=v/\FB s v=true/\v∈fin) ?_ ?_ ⟨[],[],rfl,by simp,by simp,λ n=>⟨λ h=>by simp at h,λ⟨s,E,G,_⟩=>absurd E (by omega)⟩⟩)) ?_
 ·rintro i t hi ⟨fin',sl,rfl,d2,b6,b7⟩;unfold eF.L3;dsimp only;have f2:=K.1.1 _ (aaf hi);refine aY1 (by omega) (aZ9 (rng (by omega) (by omega)) ?_);rw[aal];refine aY6 hi λ s _ hs=> ?_;rw[aac hi]at hs;cases hs;refine aZ5 (f9 _ f2) λ l Q=> ?_;obtain⟨i9,Q⟩:=Q
  have d3: ∀v∈l,bC S v:=λ v hv=>by
   obtain⟨a1,a2,a3⟩:=(Q v).1 hv;exact⟨a1,K.2.2.2.2.2 _ (aaf hi) v a1 a3⟩
  have i0:l.length<=1000000:=by omega
  refine aZ9 (jS (by simp;omega)) (aZ5 (hC S l R h8 d3 i0) λ b hb=> ?_)
  have b2:b=true ↔ ∃v:Int,0<=v/\FB sets[i] v=true/\v∈fin:=by
   rw[hb,ab8];constructor
   ·rintro⟨v,E,G⟩;obtain⟨a1,a2,a3⟩:=(Q v).1 E;exact⟨v,a1,a3,(f1 v (d3 v E)).1 G⟩
   ·rintro⟨v,E,G,W⟩;have hm:v∈l:=(Q v).2 ⟨E,ZL f2 G E,G⟩;exact⟨v,hm,(f1 v (d3 v hm)).2 W⟩
  refine aY2 (λ hc=> ?_) (λ hc=> ?_)
  ·refine aY0 (jS (by simp;omega)) (aZ3 (aZ2 ⟨_,_,by rw[ak (by omega)],by simp;omega,by simp;omega,λ n=> ?_⟩));simp only[abC,aap,aah,b7];constructor
   ·rintro(⟨s,E,G,W⟩|rfl)
    ·exact⟨s,E,by omega,W⟩
    ·exact⟨sets[i],by omega,by omega,by rw[aal];exact aac hi,b2.1 hc⟩
   ·rintro⟨s,E,G,W⟩;by_cases e:n=(i:Int)
    ·exact .inr e
    ·exact .inl ⟨s,E,by omega,W⟩
  ·refine aZ3 (aZ2 ⟨fin',_,by rw[ak (by omega)],by omega,by simp;omega,λ n=> ?_⟩);rw[b7];constructor
   ·rintro⟨s,E,G,W⟩;exact⟨s,E,by omega,W⟩
   ·rintro⟨s,E,G,W,h4⟩
    have:n≠(i:Int):=by
     rintro rfl;rw[aal,aac hi]at W;cases W;rw[b2.2 h4]at hc;cases hc
    exact⟨s,E,by omega,W,h4⟩
 ·rintro t ⟨fin',sl,rfl,d2,b6,b7⟩;unfold eF.L3;dsimp only;refine aY3 (by omega) (aZ4 ⟨fin',sl,rfl,d2,λ n=>(b7 n).trans ⟨λ⟨s,E,G,W⟩=>⟨s,E,W⟩,λ⟨s,E,W⟩=>⟨s,E,?_,W⟩⟩⟩);have:=(aad.1 W.1).1;omega
 ·rintro _ ⟨fin',sl,rfl,d2,b6⟩;dsimp only
  obtain⟨hu,f3⟩:=Vp (fin':=fin') hw d5 g (λ d k N l Q u ⟨r,E,G⟩=>by
   obtain⟨q,hq⟩:=e7 d k N l Q u ⟨r,E,G⟩;exact⟨q,(d1 _).2 hq⟩) b6
  refine aZ0 ⟨λ _=>⟨⟨by dsimp only;omega,by dsimp only;omega,by dsimp only;omega,by dsimp only;omega,λ q hq=> ?_,λ r hr=> ?_⟩,by dsimp only;omega,hu,f3,λ r hr=> ?_,by dsimp only;omega,λ r hr=>⟨(g.2.1 r hr).1,(g.2.1 r hr).2.1⟩⟩,λ _=> .inl rfl⟩
  ·obtain⟨s,E,G,_⟩:=(b6 q).1 hq;have:=(aad.1 G).1;exact⟨E,by dsimp only;omega⟩
  ·have h:=g.2.1 r hr;exact⟨h.2.2.2.1,h.2.2.1,e8 r ((d1 r).1 hr)⟩
  ·have h:=g.2.1 r hr;have:=(aad.1 h.2.1).1;exact⟨by have:=h.1;omega,by have:=h.1;omega⟩
theorem aii {p:Nat->Ab->Option Ab} {q:Nat->Aa->Option Bh} {Tr:Nat->Aa->Option Aq}
 {u:Nat->Aa->Option AA} (al:LI) (S:Int) (fin:LI) (rs:LR) (I:cu al (S,fin,rs)->S<=8\/Ia rs)
 (v:cu al (S,fin,rs)->Sp p (S,fin,rs) (λ r=>r=(S,fin,rs))) (y:Sp q (al,S,fin,rs) (λ r=>(cu al (S,fin,rs)/\r.2=0/\(r.1=true->Det rs)/\(Ia rs->r.1=true))\/(¬cu al (S,fin,rs)/\r.2=1)))
 (z:cu al (S,fin,rs)->Sp Tr (al,S,fin,rs) (λ r=>r.2.2.2=0/\Wf r.1 r.2.1 r.2.2.1/\(r.1<=S/\cu al (r.1,r.2.1,r.2.2.1)/\ ∀k:Nat,UpB rs fin k->r.1<=(k:Int))/\ ∀t,Acc r.2.2.1 r.2.1 t ↔ Acc rs fin t))
 (A: ∀(f:Int) (fin':LI) (d:LR),f<=8->Wf f fin' d->Sp u (al,f,fin',d) (λ r=>(r.2.2.2.2=0->XZ al fin' d (r.1,r.2.1,r.2.2.1))/\(cu al (f,fin',d)->r.2.2.2.2=0\/r.2.2.2.2=3/\X0 al f))):
 Sp (λ n=>Du.P (p n) (q n) (Tr n) (u n) n) (al,S,fin,rs) (λ r=>(r.2.2.2=0->cu al (S,fin,rs)/\XZ al fin rs (r.1,r.2.1,r.2.2.1))/\(cu al (S,fin,rs)->r.2.2.2=0\/r.2.2.2=3/\ ¬Ia rs/\ ¬QM al fin rs)/\(¬cu al (S,fin,rs)->r.2.2.2=1)):=by
 show Tt (λ n=>Du.P (p n) (q n) (Tr n) (u n) n (al,S,fin,rs)) _;unfold Du.P;dsimp only;refine aZ1 y λ r B=> ?_;rcases B with⟨hv,L,M,C⟩|⟨h,e⟩
 ·refine aW (by rw[L];rfl) (aY4 (λ m=> ?_) (λ m=> ?_))
  ·refine aZ1 (v hv) ?_;rintro _ rfl;refine aZ0 ⟨λ _=>⟨hv,hv.wf,by have:=hv.2.2.1;dsimp only at this ⊢;omega,M m,λ t=>acd,λ r B=> ?_,by have:=hv.2.2.2.1;dsimp only at this ⊢;omega,hv.ar⟩,λ _=> .inl rfl,λ h=>absurd hv h⟩;have e:=hv.rule B;have K:=hv.1.1;exact⟨by have:=e.1;omega,by have:=e.2.1;omega⟩
  ·have g: ¬Ia rs:=λ h=>by rw[C h]at m;cases m
   have I:S<=8:=(I hv).resolve_right g;refine aZ1 (z hv) λ r2 D=> ?_;obtain⟨N,O,⟨Q,E,G⟩,R⟩:=D;refine aW (by rw[N];rfl) (aZ1 (A _ _ _ (by omega) O) λ r3 i=>aZ0 ⟨λ h=> ?_,λ _=>(i.2 E).imp id λ⟨e,K⟩=>⟨e,g,λ⟨k,U,W,Y⟩=>K k (G k Y) U W⟩,λ h=>absurd hv h⟩);obtain⟨Z,d2,d3,d4,d5,d6,d7⟩:=i.1 h;exact⟨hv,Z,d2,d3,λ t=>(d4 t).trans (R t),d5,d6,d7⟩
 ·refine aX6 (by rw[e];rfl) (aZ0 ⟨λ l=> ?_,λ l=>absurd l h,λ _=>e⟩);dsimp only at l;rw[e]at l;cases l
end Go.Bk
end
