import Derived.Test.YtdchbjmbgecejaaGreatDoorMj
set_option linter.unusedVariables false
noncomputable section
namespace Go.Bk
open Go Go.AM
def iat (l:LI) (s:Int):Int:=l[s.toNat]?.getD 0
theorem l7 {l:LI} {s:Int} {v:Int} (h:l[s.toNat]? =some v):iat l s=v:=by unfold iat;rw[h];rfl
theorem tJ {l:LI} {s:Int} (h:s.toNat<l.length):l[s.toNat]=iat l s:=by unfold iat;rw[aac h];rfl
def Ren (e:Int->Prop) (ν:Int->Int) (rs d:LR):Prop:=
 ∀f,f∈d ↔ ∃r∈rs,e r.2.2/\(∀s∈r.2.1,e s)/\f=(r.1,r.2.1.map ν,ν r.2.2)
def ahS (d:Int->Prop) (ν:Int->Int) (fin fin':LI):Prop:= ∀q,q∈fin' ↔ ∃s∈fin,d s/\q=ν s
abbrev afv (F:Nat->LR->Option (LR)):Prop:= ∀x:LR,x.length<=100000->(∀r∈x,r.2.1.length<=3)->Sp F x (λ r=>r.length<=x.length/\ ∀y,y∈r ↔ y∈x)
abbrev af7 (F:Nat->LR->Option (LR)):Prop:= ∀x:LR,x.length<=100000->(∀r∈x,r.2.1.length<=3)->Sp F x (λ r=>r.length<=x.length/\(∀y,y∈r ↔ y∈x)/\r.Pairwise λ a b=>vI a b<=0)
abbrev ad7 (F:Nat->LR->Option (LR)):Prop:= ∀x:LR,x.length<=100000->(∀r∈x,r.2.1.length<=3)->Sp F x (λ r=>r.length<=x.length/\(∀y,y∈r ↔ y∈x)/\r.Pairwise λ a b=>vI a b<0)
theorem aji {l z:LI} (h:z.length=l.length):List.append (List.append (List.take 0 z) (List.take (Nat.min l.length (z.length-0)) l)) (List.drop (0+Nat.min l.length (z.length-0)) z)=l:=by
 have d:Nat.min l.length (z.length-0)=l.length:=by rw[h,Nat.sub_zero];exact Nat.min_self _
 rw[d,aa2,←h,acV,h,aar];simp
theorem aeP {l:LI} {f:Int->Int} {i:Nat} (h:i<l.length):List.set ((l.take i).map f++l.drop i) i (f l[i])=(l.take (i+1)).map f++l.drop (i+1):=by
 have d:((l.take i).map f).length=i:=by simp;omega
 rw[List.set_append_right _ _ Ω,d,acy,aaI h,List.set_cons_zero,aat,aac h,abt,aaD];rfl
theorem aiH {l:LI} {f:Int->Int} {i:Nat} (h:i<l.length):((l.take i).map f++l.drop i)[i]? =some l[i]:=by
 have d:((l.take i).map f).length=i:=by simp;omega
 rw[aaB Ω,d,acy,aaI h];rfl
def sH (S:Int) (fin:LI) (rs:LR) (keep:List Bool) (a:Aut):Prop:=
 (Wf a.1 a.2.1 a.2.2/\a.1<=S/\((fin.Pairwise λ a b=>a<b)->a.2.1.Pairwise λ a b=>a<b))/\ ∃ν:Int->Int,(∀s s',bg S s->bg S s'->bat keep s=true->bat keep s'=true->ν s=ν s'->s=s')/\ahS (λ s=>bat keep s=true) ν fin a.2.1/\Ren (λ s=>bat keep s=true) ν rs a.2.2/\
  (∀s,bg S s->bat keep s=true->bg a.1 (ν s))/\(∀q,bg a.1 q-> ∃s,bg S s/\bat keep s=true/\ν s=q)/\a.2.2.length<=rs.length/\a.2.2.Pairwise λ a b=>vI a b<0
theorem ahm {F:Nat->LR->Option (LR)} {C:Nat->LI×List Bool->Option Bool} (hF:ad7 F) (hC:Yp C (!·)) (S:Int) (fin:LI) (rs:LR) (keep:List Bool) (h:Wf S fin rs) (hk:keep.length=S.toNat):
 Sp (λ n=>iJ.P (F n) (C n) n) (S,fin,rs,keep) (sH S fin rs keep):=by
 obtain⟨h0,hS,d0,d1,I,hr⟩:=h;show Tt (λ n=>iJ.P (F n) (C n) n (S,fin,rs,keep)) _;unfold iJ.P;dsimp only;refine aX (tV h0 Ω) ?_
 refine aZ1 (R:=λ t=> ∃(num:LI) (c:Int),num.length=S.toNat/\0<=c/\c<=S/\(∀s,bg S s->bat keep s=true->bg c (iat num s))/\(∀s s',bg S s->bg S s'->bat keep s=true->bat keep s'=true->s<s'->iat num s<iat num s')/\(∀q,bg c q-> ∃s,bg S s/\bat keep s=true/\iat num s=q)/\
  t=(S,fin,rs,keep,(0:Int),([]:LI),([]:LR),c,([]:LI),([]:LR),num))
  (aZ8 (aZ6 keep.length (λ i t=> ∃(num:LI) (c:Int),num.length=S.toNat/\0<=c/\c<=(i:Int)/\(∀s,bg (i:Int) s->bat keep s=true->bg c (iat num s))/\(∀s s',bg (i:Int) s->bg (i:Int) s'->bat keep s=true->bat keep s'=true->s<s'->iat num s<iat num s')/\(∀q,bg c q-> ∃s,bg (i:Int) s/\bat keep s=true/\iat num s=q)/\
   t=(S,fin,rs,keep,(0:Int),([]:LI),([]:LR),c,([]:LI),([]:LR),num,keep,(keep.length:Int),(i:Int))) ?_ ?_ ?_)) ?_
 ·rintro i t A ⟨num,c,Q,B,b7,K,U,Z,rfl⟩;unfold iJ.L1;dsimp only;have a7:bat keep (i:Int)=keep[i]:=by unfold bat;rw[aam,aac A];rfl
  refine aY1 Ω (aY A (aY2 (λ a0=> ?_) (λ a0=> ?_)))
  ·refine aY0 (rng Ω Ω) (aY5 ?_);rw[aam];refine aY6 Ω λ e _ _=>aZ3 (aZ2 ?_)
   have u: ∀s:Int,bg ((i+1:Nat):Int) s->iat (num.set i c) s=if s=(i:Int)then c else iat num s:=by
    intro s hs;unfold iat;rw[aaR];by_cases e:s=(i:Int)
    ·subst e;rw[if_pos rfl,aam,if_pos rfl,if_pos Ω];rfl
    ·rw[if_neg e,if_neg (by have:=hs.1;omega)]
   have D: ∀s:Int,bg ((i+1:Nat):Int) s->s≠(i:Int)->bg (i:Int) s:=λ s hs e=>⟨hs.1,by have:=hs.2;omega⟩;refine⟨num.set i c,c+1,by simpa using Q,Ω,Ω,λ s hs k=> ?_,λ s s' hs p k z e=> ?_,λ q M=> ?_,by rw[ak Ω,jX _ Ω Ω]⟩
   ·rw[u s hs];split
    ·exact⟨B,Ω⟩
    ·rename_i e;obtain⟨a1,a2⟩:=K s (D s hs e) k;exact⟨a1,Ω⟩
   ·rw[u s hs,u s' p,if_neg (show s≠(i:Int) by have:=p.2;omega)];split
    ·rename_i e2;exact(K s ⟨hs.1,Ω⟩ k).2
    ·rename_i e2;exact U s s' ⟨hs.1,by have:=p.2;omega⟩ (D s' p e2) k z e
   ·rcases abS (Int.lt_add_one_iff.1 M.2)with h|rfl
    ·obtain⟨s,d,l,m⟩:=Z q ⟨M.1,h⟩;have N:bg ((i+1:Nat):Int) s:=⟨d.1,by have:=d.2;omega⟩;exact⟨s,N,l,by rw[u s N,if_neg (by have:=d.2;omega)];exact m⟩
    ·have N:bg ((i+1:Nat):Int) (i:Int):=⟨Ω,Ω⟩;exact⟨i,N,a7.trans a0,by rw[u _ N,if_pos rfl]⟩
  ·have D: ∀s:Int,bg ((i+1:Nat):Int) s->bat keep s=true->bg (i:Int) s:=λ s hs k=>⟨hs.1,by
    have:=hs.2;have:s≠(i:Int):=by rintro rfl;rw[a7,a0]at k;cases k
    omega⟩
   exact aZ3 (aZ2 ⟨num,c,Q,B,Ω,λ s hs k=>K s (D s hs k) k,λ s s' hs p k z e=>U s s' (D s hs k) (D s' p z) k z e,λ q M=>by obtain⟨s,d,l,m⟩:=Z q M;exact⟨s,⟨d.1,by have:=d.2;omega⟩,l,m⟩,by rw[ak Ω]⟩)
 ·rintro t ⟨num,c,Q,B,b7,K,U,Z,rfl⟩;unfold iJ.L1;dsimp only;have e:(keep.length:Int)=S:=by omega
  rw[e]at K U Z;exact aY3 Ω (aZ4 ⟨num,c,Q,B,Ω,K,U,Z,rfl⟩)
 ·exact⟨_,0,Θ,Ω,Ω,λ s hs=>absurd hs.1 (by have:=hs.2;omega),λ s s' hs=>absurd hs.1 (by have:=hs.2;omega),λ q M=>absurd M.1 (by have:=M.2;omega),rfl⟩
 rintro _ ⟨num,c,Q,B,b9,K,U,Z,rfl⟩;dsimp only;have a3: ∀s,bg S s->s.toNat<num.length:=λ s hs=>by have:=hs.1;have:=hs.2;omega
 refine aZ1 (R:=λ t=> ∃fin':LI,(fin'.length<=fin.length/\((fin.Pairwise λ a b=>a<b)->fin'.Pairwise λ a b=>a<b))/\ahS (λ s=>bat keep s=true) (iat num) fin fin'/\t=(S,fin,rs,keep,(0:Int),([]:LI),([]:LR),c,fin',([]:LR),num))
  (aZ8 (aZ6 fin.length (λ i t=> ∃fin':LI,(fin'.length<=i/\((fin.Pairwise λ a b=>a<b)->fin'.Pairwise λ a b=>a<b))/\ahS (λ s=>bat keep s=true) (iat num) (fin.take i) fin'/\t=(S,fin,rs,keep,(0:Int),([]:LI),([]:LR),c,fin',([]:LR),num,fin,(fin.length:Int),(i:Int))) ?_ ?_ ⟨[],⟨Θ,λ _=> .nil⟩,λ q=>Θ,rfl⟩)) ?_
 ·rintro i t A ⟨fin',⟨E,G⟩,g,rfl⟩;unfold iJ.L2;dsimp only;have hs:=I fin[i] (aaf A);refine aY1 Ω (aY A ?_);rw[IW hk hs];refine aZ3 (aY2 (λ k=> ?_) (λ k=> ?_))
  ·refine aY0 (rng hs.1 (by have:=hs.1;have:=hs.2;omega)) (aY5 (aY6 (a3 _ hs) λ v _ hv=>aY0 (jK Δ) (aZ3 (aZ2 ⟨fin'++[v],⟨Δ,λ hp=>abY.2 ⟨G hp,abR ..,λ x hx y hy=> ?_⟩⟩,λ q=> ?_,by rw[ak Ω];rfl⟩))))
   ·obtain⟨s,d,l,rfl⟩:=(g x).1 hx;rw[aah.1 hy,←l7 hv];obtain⟨j,hj,rfl⟩:=aay d;rw[aaE]at hj;rw[abV]at l ⊢;exact U _ _ (I _ (aaf Ω)) hs l k (aaN.1 hp j i Ω A Ω)
   rw[aap,g,aat,aac A,aah,←l7 hv];constructor
   ·rintro(⟨s,d,l,m⟩|h)
    ·exact⟨s,aaF _ d,l,m⟩
    ·exact⟨fin[i],aa4 _ Θ,k,h⟩
   ·rintro⟨s,d,l,m⟩;rcases aap.1 d with d|d
    ·exact .inl ⟨s,d,l,m⟩
    ·simp only[aaQ,aah]at d;rw[d]at m;exact .inr m
  ·refine aZ3 (aZ2 ⟨fin',⟨Ω,G⟩,λ q=> ?_,by rw[ak Ω]⟩);rw[g,aat,aac A];constructor
   ·rintro⟨s,d,l,m⟩;exact⟨s,aaF _ d,l,m⟩
   ·rintro⟨s,d,l,m⟩;rcases aap.1 d with d|d
    ·exact⟨s,d,l,m⟩
    ·simp only[aaQ,aah]at d;rw[d,k]at l;cases l
 ·rintro t ⟨fin',⟨E,G⟩,g,rfl⟩;unfold iJ.L2;dsimp only;rw[aar]at g;exact aY3 Ω (aZ4 ⟨fin',⟨E,G⟩,g,rfl⟩)
 rintro _ ⟨fin',⟨E,G⟩,g,rfl⟩;dsimp only
 refine aZ1 (R:=λ t=> ∃f:LR,f.length<=rs.length/\Ren (λ s=>bat keep s=true) (iat num) rs f/\t=((0:Int),([]:LI),([]:LR),c,fin',f))
  (aZ8 (aZ6 rs.length (λ i t=> ∃f:LR,f.length<=i/\Ren (λ s=>bat keep s=true) (iat num) (rs.take i) f/\t=(keep,(0:Int),([]:LI),([]:LR),c,fin',f,num,rs,(rs.length:Int),(i:Int))) ?_ ?_ ⟨[],Θ,λ q=>Θ,rfl⟩)) ?_
 ·rintro i t A ⟨f,E,g,rfl⟩;unfold iJ.L4;dsimp only;obtain⟨O,a9,c6⟩:=hr rs[i] (aaf A)
  have skip: ¬(bat keep rs[i].2.2=true/\ ∀s∈rs[i].2.1,bat keep s=true)->Ren (λ s=>bat keep s=true) (iat num) (rs.take (i+1)) f:=by
   intro Q q;rw[g,aat,aac A];constructor
   ·rintro⟨s,d,l⟩;exact⟨s,aaF _ d,l⟩
   ·rintro⟨s,d,l,m,N⟩;rcases aap.1 d with d|d
    ·exact⟨s,d,l,m,N⟩
    ·simp only[aaQ,aah]at d;subst d;exact absurd ⟨l,m⟩ Q
  have main:bat keep rs[i].2.2=true->(∀s∈rs[i].2.1,bat keep s=true)->Ren (λ s=>bat keep s=true) (iat num) (rs.take (i+1)) (f++[(rs[i].1,rs[i].2.1.map (iat num),iat num rs[i].2.2)]):=by
   intro c0 c1 q;rw[aap,g,aat,aac A,aah];constructor
   ·rintro(⟨s,d,l⟩|h)
    ·exact⟨s,aaF _ d,l⟩
    ·exact⟨rs[i],aa4 _ Θ,c0,c1,h⟩
   ·rintro⟨s,d,l,m,N⟩;rcases aap.1 d with d|d
    ·exact .inl ⟨s,d,l,m,N⟩
    ·simp only[aaQ,aah]at d;rw[d]at N;exact .inr N
  refine aY1 Ω (aY A (aY5 ?_));rw[IW hk O];refine aZ3 (aY2 (λ k=> ?_) (λ k=> ?_))
  ·have k:bat keep rs[i].2.2=false:=by simpa using k
   exact aZ3 (aX6 rfl (aZ2 ⟨f,Ω,skip (λ h=>by rw[k]at h;cases h.1),by dsimp only;rw[ak Ω]⟩))
  ·have k:bat keep rs[i].2.2=true:=by simpa using k
   refine aY5 (aZ7 (hC S rs[i].2.1 keep hk a9 Ω) ?_);intro b W;refine aZ3 (aY9 (λ hc=> ?_) (λ hc=> ?_))
   ·have hc:b=true:=hc;refine aZ2 ⟨f,Ω,skip λ h=> ?_,by dsimp only;rw[ak Ω]⟩;rw[hc]at W;obtain⟨s,hs,Q⟩:=ab8.1 W.symm;rw[h.2 s hs]at Q;cases Q
   ·have hc:b=false:=hc;rw[hc]at W;have b0:=Yp.all W.symm;dsimp only;refine aZ9 (tV Ω Ω) (aZ9 (rng O.1 (by have:=O.1;have:=O.2;omega)) (aY6 (a3 _ O) λ v _ hv=> ?_));rw[aji (by rw[abC,aam])]
    refine aZ7 (R:=λ t=>t=(keep,(0:Int),([]:LI),([]:LR),c,fin',f,num,rs[i].1,rs[i].2.1.map (iat num),v,rs,(rs.length:Int),(i:Int)))
     (aZ8 (L:=λ n=>iJ.L3) (aZ6 rs[i].2.1.length (λ j t=>t=(keep,(0:Int),([]:LI),([]:LR),c,fin',f,num,rs[i].1,(rs[i].2.1.take j).map (iat num)++rs[i].2.1.drop j,v,rs,(rs.length:Int),(i:Int),((rs[i].2.1.length:Nat):Int),(j:Int))) ?_ ?_ rfl)) ?_
    ·rintro j t hj rfl;unfold iJ.L3;dsimp only;have hl:((rs[i].2.1.take j).map (iat num)++rs[i].2.1.drop j).length=rs[i].2.1.length:=by simp;omega
     have hs:=a9 _ (aaf hj);refine aY1 Ω (aZ9 (rng Ω Ω) ?_);rw[aam];refine aY6 Ω λ e _ he=> ?_;rw[aiH hj]at he;cases he;refine aZ9 (rng hs.1 (by have:=hs.1;have:=hs.2;omega)) (aY6 (a3 _ hs) λ v2 _ c2=> ?_);refine aZ9 (rng Ω Ω) (aY6 Ω λ e2 _ _=>aZ2 ?_);rw[ak Ω,←l7 c2,aeP hj]
    ·rintro t rfl;unfold iJ.L3;dsimp only;rw[aar,acV,aaM];exact aY3 Ω (aZ4 rfl)
    ·rintro _ rfl;dsimp only;refine aZ9 (jK Δ) (aZ2 ⟨_,?_,main k b0,by rw[ak Ω,l7 hv];rfl⟩);simp;omega
 ·rintro t ⟨f,E,g,rfl⟩;unfold iJ.L4;dsimp only;rw[aar]at g;exact aY3 Ω (aZ4 ⟨f,E,g,rfl⟩)
 rintro _ ⟨f,d5,b4,rfl⟩;dsimp only;refine aZ1 (hF f Ω λ r' a5=> ?_) ?_
 ·obtain⟨r,d,_,_,e⟩:=(b4 r').1 a5;rw[e];simpa using(hr r d).2.2
 ·rintro out ⟨d6,c3,c4⟩;have Y:Ren (λ s=>bat keep s=true) (iat num) rs out:=λ r'=>(c3 r').trans (b4 r');refine aZ0 ⟨⟨⟨B,by dsimp only;omega,by dsimp only;omega,by dsimp only;omega,λ q M=> ?_,λ r' a5=> ?_⟩,b9,G⟩,iat num,λ s s' hs p k z e=> ?_,g,Y,K,Z,by dsimp only;omega,c4⟩
  ·obtain⟨s,d,l,e⟩:=(g q).1 M;rw[e];exact K s (I s d) l
  ·obtain⟨r,d,l,m,e⟩:=(Y r').1 a5;obtain⟨b1,b2,b3⟩:=hr r d;rw[e];refine⟨K _ b1 l,λ q M=> ?_,by simpa using b3⟩;obtain⟨s,hs,e⟩:=aaC.1 M;rw[←e];exact K s (b2 s hs) (m s hs)
  ·rcases Int.lt_trichotomy s s' with h|h|h
   ·have:=U s s' hs p k z h;omega
   ·exact h
   ·have:=U s' s p hs z k h;omega
def Uni (rs:LR):Prop:= ∀t q d,Reach rs t q->Reach rs t d->q=d
theorem Closed.reach {rs:LR} {R:List Bool} (h:Closed rs R) (t:RT Int): ∀q,Reach rs t q->bat R q=true:=by
 induction t using uz with
 |h a ks f=>
  intro q g;obtain⟨r,k,u,l,v,m⟩:=bV.1 g;rw[←l];refine h r k λ s hs=> ?_;obtain⟨i,p,e⟩:=aay hs;have d:i<ks.length:=by omega
  exact f ks[i] (aaf d) s (m i ks[i] s (aac d) (by rw[aac p,e]))
theorem XH {S:Int} {fin:LI} {rs d:LR} {keep:List Bool} {ν:Int->Int} (u: ∀r∈rs,bg S r.2.2/\ ∀q∈r.2.1,bg S q)
 (l: ∀s s',bg S s->bg S s'->bat keep s=true->bat keep s'=true->ν s=ν s'->s=s') (A:Ren (λ s=>bat keep s=true) ν rs d) (t:RT Int):
 ∀q,Reach d t q-> ∃s,bg S s/\bat keep s=true/\q=ν s/\Reach rs t s:=by
 induction t using uz with
 |h a ks B=>
  intro q C;obtain⟨D,m,E,G,v,I⟩:=bV.1 C;obtain⟨r,p,K,L,e⟩:=(A D).1 m;subst e;simp only[aaH]at v;refine⟨r.2.2,(u r p).1,K,G.symm,bV.2 ⟨r,p,E,rfl,v,λ i k f y z=> ?_⟩⟩;have g:f∈r.2.1:=aai z;obtain⟨s,M,N,O,Q⟩:=B k (aai y) (ν f) (I i k (ν f) y (by rw[aau,z];rfl))
  rwa [l f s ((u r p).2 f g) M (L f g) N O]
theorem SA {fin:LI} {rs l:LR} {R keep:List Bool} {ν:Int->Int} (m:Closed rs R) (A:Useful fin rs R keep) (B:Ren (λ s=>bat keep s=true) ν rs l) (t:RT Int):
 ∀s,Reach rs t s->bat keep s=true->Reach l t (ν s):=by
 induction t using uz with
 |h a ks C=>
  intro s hs u;obtain⟨r,v,D,E,G,y⟩:=bV.1 hs;subst E
  have p: ∀f∈r.2.1,∃(i:Nat) (k:RT Int),ks[i]? =some k/\r.2.1[i]? =some f:=λ f g=>by
   obtain⟨i,I,e⟩:=aay g;exact⟨i,ks[i],aac Ω,by rw[aac I,e]⟩
  have d:=A.2 r v u λ f g=>by
   obtain⟨i,k,K,L⟩:=p f g;exact m.reach k f (y i k f K L)
  refine bV.2 ⟨_,(B _).2 ⟨r,v,u,d,rfl⟩,D,rfl,by simpa using G,λ i k f z g=> ?_⟩;simp only[aau,aaK]at g;obtain⟨q,e,rfl⟩:=g;exact C k (aai z) q (y i k q z e) (d q (aai e))
theorem aeE {S:Int} {fin:LI} {rs:LR} {keep R:List Bool} {a:Aut} (i:Wf S fin rs) (d:Closed rs R) (k:Useful fin rs R keep) (h:sH S fin rs keep a) (t:RT Int):Acc a.2.2 a.2.1 t ↔ Acc rs fin t:=by
 obtain⟨_,ν,e,l,m,_⟩:=h;have v: ∀r∈rs,bg S r.2.2/\ ∀q∈r.2.1,bg S q:=λ r h=>⟨(i.2.2.2.2.2 r h).1,(i.2.2.2.2.2 r h).2.1⟩;constructor
 ·rintro⟨q,f,g⟩;obtain⟨s,y,z,A,B⟩:=XH (fin:=fin) v e m t q f;obtain⟨s',p,C,D⟩:=(l q).1 g;have:s=s':=e s s' y (i.2.2.2.2.1 s' p) z C (A.symm.trans D);exact⟨s,B,this▸p⟩
 ·rintro⟨s,f,g⟩;have u:=k.1 s g (d.reach t s f);exact⟨ν s,SA d k m t s f u,(l _).2 ⟨s,g,u,rfl⟩⟩
theorem aeF {S:Int} {fin:LI} {rs:LR} {keep:List Bool} {a:Aut} (g:Wf S fin rs) (h:sH S fin rs keep a) (z: ∀r∈rs,∀d∈rs,r.1=d.1->r.2.1=d.2.1->r.2.2=d.2.2):
 ∀r∈a.2.2,∀d∈a.2.2,r.1=d.1->r.2.1=d.2.1->r.2.2=d.2.2:=by
 obtain⟨_,ν,f,K,k,_⟩:=h;intro x A y B C m;obtain⟨r,p,L,D,rfl⟩:=(k x).1 A;obtain⟨d,q,M,E,rfl⟩:=(k y).1 B;have G:r.2.1.length=d.2.1.length:=by have:=congrArg List.length m;simpa using this
 have I:r.2.1=d.2.1:=acK G λ i t e=>by
  have:=congrArg (λ l=>l[i]?) m;simp only[aau,aac t,aac e,aaL,aag]at this;have u:=aaf t;have v:=aaf e;exact f _ _ ((g.2.2.2.2.2 r p).2.1 _ u) ((g.2.2.2.2.2 d q).2.1 _ v) (D _ u) (E _ v) this
 show ν r.2.2=ν d.2.2;rw[z r p d q C I]
def dval (l:LI):Nat:=l.foldl (λ a d=>10*a+(d.toNat-48)) 0
theorem GR: ∀(f u:Nat),u<10^(f+1)->dval (EJ f u)=u
 |0,u,h=>by simp[EJ,dval];omega
 |f+1,u,h=>by
  unfold EJ
  cases e:Nat.blt u 10 with
  |true=>rw[cond_true];simp[dval];omega
  |false=>
   rw[cond_false];have d:u/10<10^(f+1):=by rw[acZ]at h;omega
   have:=GR f (u/10) d;unfold dval at this ⊢;rw[List.foldl_append,this];simp;omega
theorem DL: ∀(f u:Nat),∀c∈EJ f u,(48:Int)<=c/\c<=57
 |0,u,c,h=>by simp only[EJ,aah]at h;omega
 |f+1,u,c,h=>by
  unfold EJ at h
  cases d:Nat.blt u 10 with
  |true=>
   rw[d,cond_true,aah]at h;have:u<10:=abl d;omega
  |false=>
   rw[d,cond_false,aap,aah]at h;rcases h with h|h
   ·exact DL f _ c h
   ·omega
theorem KY: ∀(f u:Nat),(EJ f u).length<=f+1
 |0,u=>by simp[EJ]
 |f+1,u=>by
  unfold EJ
  cases d:Nat.blt u 10 with
  |true=>rw[cond_true];simp
  |false=>rw[cond_false];have:=KY f (u/10);simp;omega
def ahV (c:Int):Prop:=c=45\/(48<=c/\c<=57)
theorem DR (v:Int): ∀c∈dig v,ahV c:=by
 intro c h;unfold dig at h;cases hv:decide (v<0)with
 |true=>
  rw[hv,cond_true,aaU]at h;rcases h with h|h
  ·exact .inl h
  ·exact .inr (DL _ _ c h)
 |false=>rw[hv,cond_false]at h;exact .inr (DL _ _ c h)
theorem P9 (v:Int):(dig v).length<=22:=by
 unfold dig;cases hv:decide (v<0)with
 |true=>rw[cond_true];have:=KY 20 v.natAbs;simp;omega
 |false=>rw[cond_false];have:=KY 20 v.toNat;omega
def I64 (v:Int):Prop:= -9223372036854775808<=v/\v<9223372036854775808
theorem Y1 {v w:Int} (hv:I64 v) (f:I64 w) (h:dig v=dig w):v=w:=by
 have g:(10:Nat)^(20+1)=1000000000000000000000:=by decide
 obtain⟨i,k⟩:=hv;obtain⟨w0,l⟩:=f;unfold dig at h;cases d:decide (v<0)<;>cases e:decide (w<0)<;>rw[d,e]at h<;>simp only[cond_true,cond_false]at h
 ·have a:=congrArg dval h;rw[GR 20 _ Ω,GR 20 _ Ω]at a;have:=of_decide_eq_false d;have:=of_decide_eq_false e;omega
 ·have:=DL 20 v.toNat 45 (by rw[h];simp);omega
 ·have:=DL 20 w.toNat 45 (by rw[←h];simp);omega
 ·have a:=congrArg dval (abJ h).2;rw[GR 20 _ Ω,GR 20 _ Ω]at a;have:=of_decide_eq_true d;have:=of_decide_eq_true e;omega
def enc (l:List Ac):LI:=l.flatMap λ p=>p.1::dig p.2
theorem run_eq {P:Int->Prop}: ∀(A B X Y:LI),(∀c∈A,P c)->(∀c∈B,P c)->(∀c,X.head? =some c-> ¬P c)->(∀c,Y.head? =some c-> ¬P c)->A++X=B++Y->A=B/\X=Y
 | [],[],X,Y,_,_,_,_,h=>⟨rfl,h⟩
 | [],b::B,X,Y,_,d,f,_,h=>by
   have h:X=b::(B++Y):=h;exact absurd (d b Θ) (f b (by rw[h];rfl))
 |a::A,[],X,Y,g,_,_,i,h=>by
  have h:a::(A++X)=Y:=h;exact absurd (g a Θ) (i a (by rw[←h];rfl))
 |a::A,b::B,X,Y,g,d,f,i,h=>by
  have h:a::(A++X)=b::(B++Y):=h;obtain⟨e,h⟩:=abJ h;obtain⟨l,m⟩:=run_eq A B X Y (λ c k=>g c (by simp[k])) (λ c k=>d c (by simp[k])) f i h;exact⟨by rw[e,l],m⟩
def ad6 (l:List Ac):Prop:= ∀p∈l,¬ahV p.1/\I64 p.2
theorem Ko {l:List Ac} (h:ad6 l): ∀c,(enc l).head? =some c-> ¬ahV c:=by
 cases l with
 |nil=>intro c d;simp[enc]at d
 |cons p l=>intro c d;simp[enc]at d;rw[←d];exact(h p Θ).1
theorem Y5: ∀(l d:List Ac),ad6 l->ad6 d->enc l=enc d->l=d
 | [],[],_,_,_=>rfl
 | [],p::d,_,_,h=>by simp[enc]at h
 |p::l,[],_,_,h=>by simp[enc]at h
 |p::l,f::d,i,k,h=>by
  have h:p.1::(dig p.2++enc l)=f.1::(dig f.2++enc d):=by simpa [enc]using h
  obtain⟨e,h⟩:=abJ h;have m:ad6 l:=λ q g=>i q (by simp[g]);have t:ad6 d:=λ q g=>k q (by simp[g]);obtain⟨u,v⟩:=run_eq (P:=ahV) _ _ _ _ (DR _) (DR _) (Ko m) (Ko t) h;have:=Y1 (i p Θ).2 (k f Θ).2 u;rw[Y5 l d m t v,ab9 e this]
theorem Wn {v e:Int} {l d:List Ac} (hv:I64 v) (f:I64 e) (g:ad6 l) (i:ad6 d) (h:dig v++enc l=dig e++enc d):v=e/\l=d:=by
 obtain⟨k,m⟩:=run_eq (P:=ahV) _ _ _ _ (DR _) (DR _) (Ko g) (Ko i) h;exact⟨Y1 hv f k,Y5 l d g i m⟩
theorem bytes_inj {l f:LI} (g: ∀c∈l,0<=c/\c<256) (i: ∀c∈f,0<=c/\c<256) (h:yg l=yg f):l=f:=by
 have h:(l.map λ n=>UInt8.ofNat n.toNat)=f.map λ n=>UInt8.ofNat n.toNat:=by
  have:=congrArg (λ b=>b.data.toList) h;simpa [yg]using this
 have inj: ∀c d:Int,0<=c/\c<256->0<=d/\d<256->UInt8.ofNat c.toNat=UInt8.ofNat d.toNat->c=d:=by
  intro c d k t e;have:=congrArg UInt8.toNat e;simp only[UInt8.toNat_ofNat']at this;omega
 have key: ∀l f:LI,(∀c∈l,0<=c/\c<256)->(∀c∈f,0<=c/\c<256)->(l.map λ n=>UInt8.ofNat n.toNat)=(f.map λ n=>UInt8.ofNat n.toNat)->l=f:=by
  intro l
  induction l with
  |nil=>intro f _ _ h;cases f with
   |nil=>rfl
   |cons b f=>cases h
  |cons a l m=>intro f g i h;cases f with
   |nil=>cases h
   |cons b f=>
    obtain⟨p,q⟩:=abJ h;rw[inj a b (g a Θ) (i b Θ) p,m f (λ c k=>g c (aaS _ k)) (λ c k=>i c (aaS _ k)) q]
 exact key l f g i h
theorem GX {v:Int} {l:List Ac} (h: ∀p∈l,0<=p.1/\p.1<256): ∀c∈dig v++enc l,0<=c/\c<256:=by
 have e: ∀v,∀c∈dig v,0<=c/\c<256:=λ v c d=>by rcases DR v c d with h|h<;>omega
 intro c d;rcases aap.1 d with d|d
 ·exact e v c d
 ·obtain⟨p,f,d⟩:=acp.1 d;rcases aaU.1 d with rfl|d
  ·exact h p f
  ·exact e _ c d
theorem Y6 (l:List Ac):(enc l).length<=23*l.length:=by
 induction l with
 |nil=>simp[enc]
 |cons p l d=>
  have e:enc (p::l)=(p.1::dig p.2)++enc l:=rfl;have:=P9 p.2;rw[e,aaq,aaX,aaX];omega
abbrev ajb (A:Nat->LI×Int×Int->Option LI):Prop:= ∀b v,b.length<=1000000000->I64 v->Sp A (b,v,(10:Int)) (λ r=>r=b++dig v)
def Og (s:Int) (l:LI):ByteArray:=yg (dig s++enc (l.map λ q=>((44:Int),q)))
theorem Qa (l:List Ac) (c v:Int):enc (l++[(c,v)])=(enc l++[c])++dig v:=by
 unfold enc;rw[List.flatMap_append,aaD];simp
theorem aiZ {A:Nat->An->Option LI} (e:ajb A) (s:Int) (l:LI) (hs:I64 s) (g: ∀q∈l,I64 q) (k:l.length<=1000000):Sp (λ n=>uX.P (A n) n) (s,l) (λ r=>r=Og s l):=by
 show Tt (λ n=>uX.P (A n) n (s,l)) _;unfold uX.P;dsimp only;refine aZ1 (e [] s Θ hs) ?_;rintro _ rfl
 refine aZ1 (R:=λ b=>b=dig s++enc (l.map λ q=>((44:Int),q)))
  (aZ8 (L:=λ n=>uX.L1 (A n)) (aZ6 l.length (λ i t=>t=(dig s++enc ((l.take i).map λ q=>((44:Int),q)),l,(l.length:Int),(i:Int))) ?_ ?_ (by simp[enc]))) λ b f=>aZ0 (by rw[f];rfl)
 ·rintro i t d rfl;unfold uX.L1;dsimp only
  have f:(dig s++enc ((l.take i).map λ q=>((44:Int),q))).length<=22+23*i:=by
   have:=P9 s;have:=Y6 ((l.take i).map λ q=>((44:Int),q));rw[aaH,aaE]at this;rw[aaq];omega
  refine aY1 Ω (aY d (aZ9 (jK (by rw[aaY];omega)) (aZ7 (e _ l[i] (by show List.length (_++_)<=_;rw[aaq,aaY];omega) (g _ (aaf d))) ?_)));rintro _ rfl;refine aZ2 ?_;rw[ak Ω,aat,aac d,abt];show(_++_++_,_)=(_++enc (_++[((44:Int),l[i])]),_);rw[Qa];simp
 ·rintro t rfl;unfold uX.L1;dsimp only;rw[aar];exact aY3 Ω (aZ4 rfl)
theorem key_inj {s s':Int} {l d:LI} (hs:I64 s) (f:I64 s') (m: ∀q∈l,I64 q) (g: ∀q∈d,I64 q) (h:Og s l=Og s' d):s=s'/\l=d:=by
 have b: ∀l:LI,∀p∈l.map (λ q=>((44:Int),q)),0<=p.1/\p.1<256:=λ l p i=>by obtain⟨q,_,rfl⟩:=aaC.1 i;exact⟨show(0:Int)<=44 by decide,show(44:Int)<256 by decide⟩
 have k: ∀l:LI,(∀q∈l,I64 q)->ad6 (l.map (λ q=>((44:Int),q))):=λ l h p i=>by
  obtain⟨q,t,rfl⟩:=aaC.1 i;exact⟨λ h=>by rcases h with h|h<;>omega,h q t⟩
 obtain⟨u,v⟩:=Wn hs f (k l m) (k d g) (bytes_inj (GX (b l)) (GX (b d)) h);refine⟨u,?_⟩;have:=congrArg (List.map Prod.snd) v;rw[abM,abM]at this;have e:(Prod.snd∘λ q:Int=>((44:Int),q))=id:=rfl
 rwa [e,List.map_id,List.map_id]at this
def Det (rs:LR):Prop:= ∀r∈rs,∀d∈rs,r.1=d.1->r.2.1=d.2.1->r.2.2=d.2.2
theorem Det.uni {rs:LR} (h:Det rs):Uni rs:=by
 intro t
 induction t using uz with
 |h a ks k=>
  intro q D l d;obtain⟨r,m,p,u,v,y⟩:=bV.1 l;obtain⟨z,e,A,g2,g3,B⟩:=bV.1 d;rw[←u,←g2];refine h r m z e (p.trans A.symm) (acK (v.trans g3.symm) λ i C f=> ?_);have g:i<ks.length:=by omega
  exact k _ (aaf g) _ _ (y i _ _ (aac g) (aac C)) (B i _ _ (aac g) (aac f))
def Iy (rs:LR):Prop:= ∀(j k:Nat) (r d:Rule),j<k->rs[j]? =some r->rs[k]? =some d-> ¬(r.1=d.1/\r.2.1=d.2.1)
theorem JZ {V:Nat->Aa->Option Bool} {K:Nat->BS->Option ByteArray} (hK: ∀s l,I64 s->(∀q∈l,I64 q)->l.length<=1000000->Sp K (s,l) (λ r=>r=Og s l))
 (al:LI) (S:Int) (fin:LI) (rs:LR) (hV:Sp V (al,S,fin,rs) (λ r=>r=true ↔ bW al (S,fin,rs))):
 Sp (λ n=>fU.P (V n) (K n) n) (al,S,fin,rs) (λ r=>(bW al (S,fin,rs)/\r.2=0/\(r.1=true->Det rs)/\(Iy rs->r.1=true))\/(¬bW al (S,fin,rs)/\r.2=1)):=by
 show Tt (λ n=>fU.P (V n) (K n) n (al,S,fin,rs)) _;unfold fU.P;dsimp only;refine aZ1 hV λ b z=> ?_;by_cases hv:bW al (S,fin,rs)
 ·have z:b=true:=z.2 hv;subst z;refine aW rfl ?_;have N:=hv.wf
  have C: ∀r∈rs,I64 r.1/\ ∀q∈r.2.1,I64 q:=λ r d=>by
   have D:=hv.rule d;have E:=hv.1.1;have h3:=N.2.2.2.2.2 r d;have Q:=N.2.1;refine⟨⟨by have:=D.1;omega,by have:=D.2.1;omega⟩,λ q hq=> ?_⟩;have U:=h3.2.1 q hq;dsimp only at Q U;exact⟨by have:=U.1;omega,by have:=U.2;omega⟩
  refine aZ1 (R:=λ t=>(t= .inl ()/\Det rs)\/(t= .inr (false,(0:Int))/\ ¬Iy rs))
   (aZ8 (L:=λ n=>fU.L1 (K n)) (aZ6 rs.length (λ i t=> ∃m:List (ByteArray×Bool),t=(some m,rs,(rs.length:Int),(i:Int))/\(∀(j:Nat) (r:Rule),j<i->rs[j]? =some r->oV seq (Og r.1 r.2.1) m=some true)/\(∀(k:ByteArray) (v:Bool),oV seq k m=some v-> ∃(j:Nat) (r:Rule),j<i/\rs[j]? =some r/\k=Og r.1 r.2.1)/\
    ∀(j k:Nat) (r p:Rule),j<k->k<i->rs[j]? =some r->rs[k]? =some p-> ¬(r.1=p.1/\r.2.1=p.2.1)) ?_ ?_ ⟨[],rfl,λ j r h=>absurd h Ω,λ k v h=>(by cases h),λ j k r p h h'=>absurd h' Ω⟩)) ?_
  ·rintro i t u ⟨m,rfl,W,G,O⟩;unfold fU.L1;dsimp only;obtain⟨D,E⟩:=C rs[i] (aaf u);have h3:=(N.2.2.2.2.2 rs[i] (aaf u)).2.2;have Q:=N.2.2.2.1;dsimp only at Q;refine aY1 Ω (aY u (aZ7 (hK _ _ D E Ω) ?_));rintro _ rfl;refine aY9 (λ I=>aZ4 (.inr ⟨rfl,λ hn=> ?_⟩)) (λ I=> ?_)
   ·have Y: ∃v,oV seq (Og rs[i].1 rs[i].2.1) m=some v:=by
     cases e:oV seq (Og rs[i].1 rs[i].2.1) m with
     |some v=>exact⟨v,rfl⟩
     |none=>rw[show mX (some m)=m from rfl,e]at I;cases I
    obtain⟨v,Z⟩:=Y;obtain⟨j,r,y,d,e⟩:=G _ v Z;obtain⟨g1,g2⟩:=C r (aai d);obtain⟨A,B⟩:=key_inj D g1 E g2 e;exact hn j i r rs[i] y d (aac u) ⟨A.symm,B.symm⟩
   refine aZ2 ⟨_,by rw[ak Ω],λ j r y d=> ?_,λ k v g=> ?_,λ j k r p M g d f=> ?_⟩
   ·rw[tN Et];split
    ·rfl
    ·rename_i a0;rcases aa1 (aa9 y)with h|rfl
     ·exact W j r h d
     ·rw[aac u]at d;cases d;exact absurd rfl a0
   ·rw[tN Et]at g;split at g
    ·rename_i e;exact⟨i,rs[i],Ω,aac u,e⟩
    ·obtain⟨j,r,a,b,c⟩:=G k v g;exact⟨j,r,Ω,b,c⟩
   ·rcases aa1 (aa9 g)with h|rfl
    ·exact O j k r p M h d f
    ·rintro⟨A,B⟩;rw[aac u]at f;cases f;have:=W j r M d;rw[A,B]at this;rw[show mX (some m)=m from rfl,this]at I;cases I
  ·rintro t ⟨m,rfl,W,_,O⟩;unfold fU.L1;dsimp only;refine aY3 Ω (aZ4 (.inl ⟨rfl,λ r d p f A B=> ?_⟩));obtain⟨j,y,rfl⟩:=aay d;obtain⟨k,g,rfl⟩:=aay f;rcases acg j k with h|rfl|h
   ·exact absurd ⟨A,B⟩ (O j k _ _ h g (aac y) (aac g))
   ·rfl
   ·exact absurd ⟨A.symm,B.symm⟩ (O k j _ _ h y (aac g) (aac y))
  ·rintro _ (⟨rfl,h⟩|⟨rfl,h⟩)
   ·exact aZ0 (.inl ⟨hv,rfl,λ _=>h,λ _=>rfl⟩)
   ·exact aZ0 (.inl ⟨hv,rfl,λ h=>(by cases h),λ E=>absurd E h⟩)
 ·have z:b=false:=by cases b with|false=>rfl|true=>exact absurd (z.1 rfl) hv
  subst z;exact aX7 rfl (aZ0 (.inr ⟨hv,rfl⟩))
theorem wrap_u64 {n:Nat} (h:n<18446744073709551616):IntKind.wrap .u64 (n:Int)=(n:Int):=by
 simp only[IntKind.wrap,IntKind.signed,IntKind.bits,Bool.false_and,abf,if_false];omega
theorem wrap_u8 {n:Nat} (h:n<256):IntKind.wrap .u8 (n:Int)=(n:Int):=by
 simp only[IntKind.wrap,IntKind.signed,IntKind.bits,Bool.false_and,abf,if_false];omega
theorem Hq {n:Nat} (h:n<18446744073709551616):(BitVec.ofInt (IntKind.bits .u64) (n:Int)).toNat=n:=by
 show(BitVec.ofInt 64 (n:Int)).toNat=n;rw[BitVec.toNat_ofInt];omega
theorem YJ {x:Nat} (h:x<256):Go.bits .and .u64 (x:Int) 1=((x % 2:Nat):Int):=by
 have e:(BitVec.ofInt (IntKind.bits .u64) (x:Int) &&& BitVec.ofInt (IntKind.bits .u64) 1).toNat=x % 2:=by
  rw[BitVec.toNat_and,Hq Ω];have:=Hq (n:=1) Ω;rw[show((1:Nat):Int)=1 from rfl]at this;rw[this,Nat.and_one_is_mod]
 show IntKind.wrap .u64 ((BitVec.ofInt (IntKind.bits .u64) (x:Int) &&& BitVec.ofInt (IntKind.bits .u64) 1).toNat:Int)=_;rw[e,wrap_u64 Ω]
theorem agf {a b:Nat} (d:a<256) (f:b<256):Go.bits .or .u64 (a:Int) (b:Int)=((a ||| b:Nat):Int):=by
 have e:(BitVec.ofInt (IntKind.bits .u64) (a:Int) ||| BitVec.ofInt (IntKind.bits .u64) (b:Int)).toNat=a ||| b:=by
  rw[BitVec.toNat_or,Hq Ω,Hq Ω]
 show IntKind.wrap .u64 ((BitVec.ofInt (IntKind.bits .u64) (a:Int) ||| BitVec.ofInt (IntKind.bits .u64) (b:Int)).toNat:Int)=_;have:a ||| b<2^8:=Nat.or_lt_two_pow d f;rw[e,wrap_u64 Ω]
def zL (s:LI):Prop:= ∃w:Nat,w<256/\s= [(w:Int)]
def FY (s:LI) (v:Int):Bool:=(s[0]?.getD 0).toNat.testBit v.toNat
theorem EY (w:Nat) (v:Int):FY [(w:Int)] v=w.testBit v.toNat:=rfl
theorem ahf {s s':LI} (h:zL s) (d:zL s') (e: ∀v:Int,0<=v->v<8->FY s v=FY s' v):s=s':=by
 obtain⟨w,g,rfl⟩:=h;obtain⟨w',f,rfl⟩:=d
 have:w=w':=Nat.eq_of_testBit_eq λ i=>by
  rcases aaG i 8 with h|h
  ·exact e (i:Int) Ω Ω
  ·have k:256<=2^i:=abN (n:=2) Ω (show 8<=i from h);rw[Nat.testBit_lt_two_pow Ω,Nat.testBit_lt_two_pow Ω]
 rw[this]
theorem adi {s:LI} (h:zL s) {v:Int} (hv:FY s v=true) (d:0<=v):v<8:=by
 obtain⟨w,e,rfl⟩:=h;rcases acs v 8 with h|h
 ·exact h
 ·rw[EY,Nat.testBit_lt_two_pow]at hv
  ·cases hv
  ·have f:256<=2^v.toNat:=abN (n:=2) Ω (show 8<=v.toNat by omega);omega
theorem ajk {v:Int} (d:0<=v) (e:v<8):IntKind.wrap .i64 (Int.tdiv v 64)=0:=by
 rw[aco d,Int.ediv_eq_zero_of_lt d Ω];rfl
theorem ajy {v:Int} (d:0<=v) (e:v<8):Int.tmod v 64=v:=by
 rw[Int.tmod_eq_emod_of_nonneg d,Int.emod_eq_of_lt d Ω]
theorem adS (n w v:Nat) (e:w<256) (hv:v<64):oD.P n ([(w:Int)],(v:Int))=some (FY [(w:Int)] (v:Int)):=by
 unfold oD.P;dsimp only
 have d:IntKind.wrap .i64 (Int.tdiv (v:Int) 64)=0:=by
  rw[aco Ω,Int.ediv_eq_zero_of_lt Ω Ω];rfl
 have m:Int.tmod (v:Int) 64=(v:Int):=by rw[Int.tmod_eq_emod_of_nonneg Ω,Int.emod_eq_of_lt Ω Ω]
 rw[d,m];have f:nth? [(w:Int)] 0=some (w:Int):=rfl;have g:(w:Int)/2^Int.toNat (v:Int)=((w/2^v:Nat):Int):=by rw[aam];push_cast;rfl
 have i:w/2^v<256:=Nat.lt_of_le_of_lt (Nat.div_le_self ..) e;rw[f,aaj,g,YJ i,dY (show(0:Int)<=(v:Int) by omega),dY (show(v:Int)<=((IntKind.bits .u64:Nat):Int) by show(v:Int)<=((64:Nat):Int);omega),EY,aam,Nat.testBit_eq_decide_div_mod_eq];rw[show(!decide ((64:Int)=0))=true from rfl];simp only[Bool.and_self,cond_true];congr 1;by_cases h:w/2^v % 2=1
 ·rw[h];rfl
 ·rw[decide_eq_false Ω,decide_eq_false h]
theorem ahA (s:LI) (v:Int) (hs:zL s) (e:0<=v) (f:v<8):Sp oD.P (s,v) (λ r=>r=FY s v):=by
 obtain⟨w,d,rfl⟩:=hs;obtain⟨k,rfl⟩: ∃k:Nat,v=(k:Int):=⟨v.toNat,Ω⟩;exact⟨_,rfl,.all λ n=>adS n w k d Ω⟩
def keyS (s:LI):ByteArray:=yg ((List.range 8).map λ i=>IntKind.wrap .u8 ((s[0]?.getD 0)/2^(8*i)))
theorem Yd (s:LI) (hs:zL s):Sp gY.P s (λ r=>r=keyS s):=by
 obtain⟨w,f,rfl⟩:=hs;show Tt (λ n=>gY.P n [(w:Int)]) _;unfold gY.P;refine aX (show(decide ((0:Int)<=0)&&decide ((0:Int)<=IntKind.wrap .i64 ((8:Int)*(1:Int)))&&decide (IntKind.wrap .i64 ((8:Int)*(1:Int))<=(ay:Int)))=true by decide) ?_
 refine aZ1 (R:=λ b=>b=(List.range 8).map λ i=>IntKind.wrap .u8 ((w:Int)/2^(8*i)))
  (aZ8 (aZ6 1 (λ i t=>t=((List.range (8*i)).map (λ i=>IntKind.wrap .u8 ((w:Int)/2^(8*i))),[(w:Int)],(1:Int),(i:Int))) ?_ ?_ Θ)) λ b d=>aZ0 (by rw[d];rfl)
 ·rintro i t g rfl;obtain rfl:i=0:=by omega
  unfold gY.L2;dsimp only;refine aX6 (show decide ((0:Int)<1)=true by decide) ?_;rw[show nth? [(w:Int)] ((0:Nat):Int)=some (w:Int)from rfl]
  refine aZ3 (aZ7 (R:=λ t=>t=((List.range 8).map (λ i=>IntKind.wrap .u8 ((w:Int)/2^(8*i))),[(w:Int)],(1:Int),((0:Nat):Int)))
   (aZ8 (L:=λ n=>gY.L1) (aZ6 8 (λ j t=>t=((List.range j).map (λ i=>IntKind.wrap .u8 ((w:Int)/2^(8*i))),(w:Int),[(w:Int)],(1:Int),((0:Nat):Int),(j:Int))) ?_ ?_ rfl)) ?_)
  ·rintro j t k rfl;unfold gY.L1;dsimp only;have e:IntKind.wrap .i64 ((8:Int)*(j:Int))=((8*j:Nat):Int):=by rw[jX _ Ω Ω];omega
   rw[e]
   refine aY1 Ω (aZ9 (by
    rw[dY (show(0:Int)<=((8*j:Nat):Int) by omega),dY (show((8*j:Nat):Int)<=((IntKind.bits .u64:Nat):Int) by show((8*j:Nat):Int)<=((64:Nat):Int);omega)];rfl) (aZ9 (jK Δ) (aZ2 ?_)))
   rw[ak Ω,aam,List.range_succ,abt];rfl
  ·rintro t rfl;unfold gY.L1;dsimp only;exact aX9 (show decide ((8:Int)<8)=false by decide) (aZ4 rfl)
  ·rintro _ rfl;dsimp only;exact aZ2 (by rw[ak Ω])
 ·rintro t rfl;unfold gY.L2;dsimp only;exact aX9 (show decide ((1:Int)<1)=false by decide) (aZ4 rfl)
theorem aeI {s s':LI} (h:zL s) (m:zL s') (e:keyS s=keyS s'):s=s':=by
 obtain⟨w,d,rfl⟩:=h;obtain⟨w',f,rfl⟩:=m
 have b: ∀w:Nat,∀c∈(List.range 8).map λ i=>IntKind.wrap .u8 ((([(w:Int)]:LI)[0]?.getD 0)/2^(8*i)),0<=c/\c<256:=by
  intro w c p;obtain⟨i,_,rfl⟩:=aaC.1 p;simp only[IntKind.wrap,IntKind.signed,IntKind.bits,Bool.false_and,abf,if_false];omega
 have:=bytes_inj (b w) (b w') e;have g:=congrArg (λ l=>l[0]?) this
 have k: ∀w:Nat,w<256->((List.range 8).map λ i=>IntKind.wrap .u8 ((([(w:Int)]:LI)[0]?.getD 0)/2^(8*i)))[0]? =some (w:Int):=by
  intro w d;show some (IntKind.wrap .u8 ((w:Int)/2^(8*0)))=_;rw[Nat.mul_zero,Int.pow_zero,Int.ediv_one,wrap_u8 d]
 rw[k w d,k w' f]at g;rw[aak g]
theorem ahw {W:Nat->Af->Option Bool} (y: ∀n x,W (n+1) x=oD.P n x) (s:LI) (hs:zL s):
 Sp (λ n=>jA.P (W n) n) s (λ r=>r.length<=64/\ ∀v,v∈r ↔ 0<=v/\v<8/\FY s v=true):=by
 have g:s.length=1:=by obtain⟨w,_,rfl⟩:=hs;rfl
 have k: ∀v:Nat,v<64->Sp W (s,(v:Int)) (λ r=>r=FY s (v:Int)):=by
  intro v hv;obtain⟨w,z,rfl⟩:=hs;exact aZ5 y ⟨_,rfl,.all λ n=>adS n w v z hv⟩
 show Tt (λ n=>jA.P (W n) n s) _;unfold jA.P;rw[g]
 refine aZ1 (R:=λ r:LI=>r.length<=64/\ ∀v,v∈r ↔ 0<=v/\v<64/\FY s v=true)
  (aZ8 (L:=λ n=>jA.L1 (W n)) (aZ6 64 (λ i t=> ∃out:LI,t=(s,out,(64:Int),(i:Int))/\out.length<=i/\ ∀v,v∈out ↔ 0<=v/\v<(i:Int)/\FY s v=true) ?_ ?_ ⟨[],rfl,Θ,λ v=>⟨λ h=>by simp at h,λ h=>absurd h.1 (by have:=h.2.1;omega)⟩⟩)) λ r q=>aZ0 ⟨q.1,λ v=> ?_⟩
 ·rintro i t A ⟨out,rfl,u,m⟩;unfold jA.L1;dsimp only;refine aY1 Ω (aZ7 (k i A) ?_);rintro _ rfl;refine aY2 (λ p=> ?_) (λ p=> ?_)
  ·refine aY0 (jK Δ) (aZ3 (aZ2 ⟨_,by rw[ak Ω],Δ,λ v=> ?_⟩));simp only[abA,aap,aah,m];constructor
   ·rintro(⟨f,l,d⟩|rfl)
    ·exact⟨f,Ω,d⟩
    ·exact⟨Ω,Ω,p⟩
   ·rintro⟨f,l,d⟩;by_cases e:v=(i:Int)
    ·exact .inr e
    ·exact .inl ⟨f,Ω,d⟩
  ·refine aZ3 (aZ2 ⟨out,by rw[ak Ω],Ω,λ v=> ?_⟩);rw[m];constructor
   ·rintro⟨f,l,d⟩;exact⟨f,Ω,d⟩
   ·rintro⟨f,l,d⟩;have:v≠(i:Int):=by rintro rfl;rw[p]at d;cases d
    exact⟨f,Ω,d⟩
 ·rintro t ⟨out,rfl,u,m⟩;unfold jA.L1;dsimp only;exact aX9 (show decide ((64:Int)<64)=false by decide) (aZ4 ⟨u,m⟩)
 ·rw[q.2];exact⟨λ⟨f,l,d⟩=>⟨f,adi hs d f,d⟩,λ⟨f,l,d⟩=>⟨f,Ω,d⟩⟩
def lY (al:LI) (m:Nat):Nat:=(al.map λ a=>m^a.toNat).sum
theorem EM {al:LI} {m i:Nat} (d:i<al.length):lY (al.take (i+1)) m=lY (al.take i) m+m^al[i].toNat:=by
 unfold lY;rw[aat,aac d,abt,List.sum_append];simp
theorem Wu {al:LI} {m i:Nat}:lY (al.take i) m<=lY al m:=by
 have h:=abb i al
 have:lY al m=lY (al.take i) m+lY (al.drop i) m:=by
  unfold lY;rw[←List.sum_append,←abt,h]
 omega
theorem XD {al:LI} {m k:Nat} (h:m<=k):lY al m<=lY al k:=by
 unfold lY
 induction al with
 |nil=>simp
 |cons a l d=>
  simp only[abo,List.sum_cons];have:=abZ h a.toNat;omega
def UpB (rs:LR) (fin:LI) (k:Nat):Prop:= ∀l:LI,l.Nodup->(∀s∈l,0<=s/\Up rs fin s)->l.length<=k
def UG (al fin:LI) (rs:LR):Prop:= ∃k:Nat,2^k<=300/\lY al (2^k)<=20000/\UpB rs fin k
abbrev KM:=Option (List (ByteArray×Int))
def KOk (sets:LL) (m:KM):Prop:=
 (∀s∈sets,zL s)/\ ∃d,m=some d/\(∀(n:Nat) (s:LI),sets[n]? =some s->oV seq (keyS s) d=some (n:Int))/\ ∀(s:LI) (v:Int),zL s->oV seq (keyS s) d=some v-> ∃n:Nat,v=(n:Int)/\sets[n]? =some s
theorem KOk.inj {sets:LL} {m:KM} (h:KOk sets m) {n d:Nat} {s:LI} (f:sets[n]? =some s) (g:sets[d]? =some s):n=d:=by
 obtain⟨_,i,_,e,_⟩:=h;have:=aak ((e n s f).symm.trans (e d s g));omega
def At (rs:LR) (v:Int) (r:Rule):Prop:= ∃j:Nat,v=(j:Int)/\rs[j]? =some r
theorem ajR {K:Nat->LI->Option ByteArray} (hK: ∀s,zL s->Sp K s (λ r=>r=keyS s)) (S:Int) (fin:LI) (rs:LR) (g sets:LL) (m:KM) (N:LR) (old done:Int) (d:Bool) (idx:LI)
 (hS:S<=8) (y: ∀i∈idx,∃r,At rs i r/\bg S r.2.2) (O:idx≠[]) (hk:KOk sets m) (b2:sets.length<=1000) (b3:idx.length<=1000000):
 Sp (λ n=>iQ.P (K n) n) (S,fin,rs,g,sets,m,N,old,done,d,idx) (λ r=> ∃(n:Nat) (z:LL) (m':KM) (s:LI),r=((n:Int),S,fin,rs,g,sets++z,m',N,old,done,d)/\z.length<=1/\(∀x∈z,x=s)/\KOk (sets++z) m'/\(sets++z)[n]? =some s/\
  ∀v:Int,0<=v->(FY s v=true ↔ ∃i∈idx,∃r,At rs i r/\r.2.2=v)):=by
 have b4:1<=S:=by
  obtain⟨i,hi⟩:=List.exists_mem_of_ne_nil idx O;obtain⟨r,_,h⟩:=y i hi;have:=h.1;have:=h.2;omega
 show Tt (λ n=>iQ.P (K n) n (S,fin,rs,g,sets,m,N,old,done,d,idx)) _;unfold iQ.P;dsimp only;have b6:idx.length≠0:=λ e=>O (aav e);refine aW6 Ω (aX rfl ?_)
 have U:IntKind.wrap .i64 (Int.tdiv (IntKind.wrap .i64 (S+63)) 64)=1:=by
  have Z:IntKind.wrap .i64 (S+63)=S+63:=jX _ Ω Ω;have:(S+63)/64=1:=by omega
  rw[Z,aco Ω,this];rfl
 rw[U];refine aX Ξ ?_
 refine aZ1 (R:=λ t=> ∃s,t=(S,fin,rs,g,sets,m,N,old,done,d,s)/\zL s/\ ∀v:Int,0<=v->(FY s v=true ↔ ∃i∈idx,∃r,At rs i r/\r.2.2=v))
  (aZ8 (L:=λ n=>iQ.L1) (aZ6 idx.length (λ p t=> ∃s,t=(S,fin,rs,g,sets,m,N,old,done,d,s,idx,(idx.length:Int),(p:Int))/\zL s/\ ∀v:Int,0<=v->(FY s v=true ↔ ∃i∈idx.take p,∃r,At rs i r/\r.2.2=v)) ?_ ?_ ?_)) ?_
 ·rintro p t hp ⟨s,rfl,⟨w,U,rfl⟩,C⟩;unfold iQ.L1;dsimp only;obtain⟨r,⟨j,hj,u⟩,Q⟩:=y idx[p] (aaf hp);have a2:j<rs.length:=(aad.1 u).1;have a3:rs[j]=r:=(aad.1 u).2;refine aY1 Ω (aY hp ?_);rw[hj,fE a2,a3];have W:=Q.1;have h8:r.2.2<8:=by have:=Q.2;omega
  obtain⟨k,f⟩: ∃k:Nat,r.2.2=(k:Int):=⟨r.2.2.toNat,Ω⟩;refine aZ3 (aZ9 rfl ?_);rw[ajk W h8,ajy W h8];have a4:2^k<2^8:=Nat.pow_lt_pow_right Ω Ω
  refine aZ9 rfl (aY6 (by show 0<1;omega) λ e5 _ D=>aZ9 rfl (aZ9 (by
   rw[f,dY (show(0:Int)<=(k:Int) by omega),dY (show(k:Int)<=((IntKind.bits .u64:Nat):Int) by show(k:Int)<=((64:Nat):Int);omega)];rfl) (aZ9 rfl (aY6 (by show 0<1;omega) λ e6 _ _=>aZ2 ?_))))
  have D:e5=(w:Int):=(aak D).symm;subst D
  have Z:IntKind.wrap .u64 ((1:Int)*2^Int.toNat r.2.2)=((2^k:Nat):Int):=by
   rw[f,aam,Int.one_mul,show((2:Int)^k)=((2^k:Nat):Int) by push_cast;rfl,wrap_u64 Ω]
  rw[Z,agf U Ω];refine⟨[((w ||| 2^k:Nat):Int)],by rw[ak Ω];rfl,⟨_,Nat.or_lt_two_pow (n:=8) U a4,rfl⟩,λ v hv=> ?_⟩;rw[EY,Nat.testBit_or,abT,Nat.testBit_two_pow,←EY,C v hv,aat,aac hp];constructor
  ·rintro(⟨i,A,h2⟩|h)
   ·exact⟨i,aaF _ A,h2⟩
   ·have:=of_decide_eq_true h;exact⟨idx[p],aa4 _ Θ,r,⟨j,hj,u⟩,Ω⟩
  ·rintro⟨i,A,r',⟨j',e,E⟩,h2⟩;rcases aap.1 A with A|A
   ·exact .inl ⟨i,A,r',⟨j',e,E⟩,h2⟩
   ·simp only[aaQ,aah]at A;have:j'=j:=by rw[A,hj]at e;omega
    subst this;rw[u]at E;cases E;exact .inr (dY Ω)
 ·rintro t ⟨s,rfl,hs,C⟩;unfold iQ.L1;dsimp only;rw[aar]at C;exact aY3 Ω (aZ4 ⟨s,rfl,hs,C⟩)
 ·refine⟨[((0:Nat):Int)],rfl,⟨0,Ω,rfl⟩,λ v _=> ?_⟩;rw[EY];simp
 rintro _ ⟨s,rfl,hs,C⟩;dsimp only;refine aZ1 (hK s hs) ?_;rintro _ rfl;obtain⟨B,M,rfl,G,f⟩:=hk;refine aX2 (λ hc=> ?_) (λ hc=> ?_)
 ·refine aW4 (aY7 (aW3 (jK Δ) (aY7 (aZ0 ⟨sets.length,[s],_,s,rfl,Θ,Θ,⟨λ x Y=> ?_,_,rfl,λ n x q=> ?_,λ x v Y hv=> ?_⟩,Θ,C⟩))))
  ·rcases aap.1 Y with h|h
   ·exact B x h
   ·rw[aah.1 h];exact hs
  ·have l:oV seq (keyS s) M=none:=by simpa [mX]using hc
   rw[tN Et];rcases aaG n sets.length with h|h
   ·rw[aax h]at q;rw[if_neg]
    ·exact G n x q
    ·intro e;rw[←e,G n x q]at l;cases l
   ·rw[aaB h]at q
    have W:n-sets.length=0:=by
     rcases ab5 (n-sets.length)with h|h
     ·exact h
     ·rw[aal Δ]at q;cases q
    rw[W]at q;have q:s=x:=by simpa using q
    rw[if_pos (by rw[q])];congr 1;omega
  ·rw[tN Et]at hv;split at hv
   ·rename_i e;have:=aeI Y hs e;subst this;refine⟨sets.length,(aak hv).symm,Θ⟩
   ·obtain⟨n,e,h⟩:=f x v Y hv;exact⟨n,e,by rw[aax (aad.1 h).1];exact h⟩
 ·have I:(oV seq (keyS s) M).isSome=true:=by simpa [mX]using hc
  obtain⟨v,hv⟩:=acF.1 I;obtain⟨n,e,h⟩:=f s v hs hv;refine aY7 (aZ0 ⟨n,[],some M,s,?_,Θ,Θ,by rw[aaM];exact⟨B,M,rfl,G,f⟩,by rw[aaM];exact h,C⟩);rw[aaM,show mX (some M)=M from rfl,hv,e];rfl
def Yq (sets:LL) (f:Int) (l:LI) (r:Rule):Prop:=r.1=f/\ ∀(j:Nat) (x q:Int),l[j]? =some x->r.2.1[j]? =some q-> ∃s,sets[x.toNat]? =some s/\FY s q=true
def Fits (sets:LL) (f:Int) (l:LI) (r:Rule):Prop:=r.2.1.length=l.length/\Yq sets f l r
theorem Lj {sets z:LL} {f:Int} {l:LI} {r:Rule} (h: ∀x∈l,bg (sets.length:Int) x):Yq (sets++z) f l r ↔ Yq sets f l r:=by
 have e: ∀x∈l,(sets++z)[x.toNat]? =sets[x.toNat]? :=λ x d=>aax (by have:=(h x d).1;have:=(h x d).2;omega);constructor
 ·rintro⟨g,i⟩;exact⟨g,λ j x q d k=>by rw[←e x (aai d)];exact i j x q d k⟩
 ·rintro⟨g,i⟩;exact⟨g,λ j x q d k=>by rw[e x (aai d)];exact i j x q d k⟩
theorem xI {sets z:LL} {f:Int} {l:LI} {r:Rule} (h: ∀x∈l,bg (sets.length:Int) x):Fits (sets++z) f l r ↔ Fits sets f l r:=and_congr ab7 (Lj h)
theorem EL {sets:LL} {f:Int} {l e:LI} {r:Rule} (h:Yq sets f (l++e) r):Yq sets f l r:=
 ⟨h.1,λ j x q d g=>h.2 j x q (by rw[aax (aad.1 d).1];exact d) g⟩
theorem RU {sets:LL} {f:Int} {l:LI} {x:Int} {r:Rule} {q:Int} (g:r.2.1[l.length]? =some q):Yq sets f (l++[x]) r ↔ Yq sets f l r/\ ∃s,sets[x.toNat]? =some s/\FY s q=true:=by
 constructor
 ·intro h;exact⟨EL h,h.2 l.length x q Θ g⟩
 ·rintro⟨i,k⟩;refine⟨i.1,λ j y m e d=> ?_⟩;rcases aaG j l.length with h|h
  ·rw[aax h]at e;exact i.2 j y m e d
  ·have p:j=l.length:=by
    have:=(aad.1 e).1;simp at this;omega
   subst p;have e:y=x:=by simpa using e.symm
   rw[g]at d;cases d;rw[e];exact k
def ah0 (al:LI) (rs:LR) (sets:LL) (e:LR):Prop:=
 ∀d∈e,0<=d.1/\al[d.1.toNat]? =some (d.2.1.length:Int)/\(∀x∈d.2.1,bg (sets.length:Int) x)/\bg (sets.length:Int) d.2.2/\(∃r∈rs,Fits sets d.1 d.2.1 r)/\
  ∃s,sets[d.2.2.toNat]? =some s/\ ∀v:Int,0<=v->(FY s v=true ↔ ∃r∈rs,Fits sets d.1 d.2.1 r/\r.2.2=v)
theorem ah0.more {al:LI} {rs:LR} {sets z:LL} {g:LR} (h:ah0 al rs sets g):ah0 al rs (sets++z) g:=by
 intro k f;obtain⟨l,m,d,p,⟨r,q,t⟩,s,i,u⟩:=h k f;have le: ∀x,bg (sets.length:Int) x->bg ((sets++z).length:Int) x:=λ x e=>⟨e.1,by have:=e.2;rw[aaq];omega⟩;refine⟨l,m,λ x e=>le x (d x e),le _ p,⟨r,q,(xI d).2 t⟩,s,by rw[aax (aad.1 i).1];exact i,λ v hv=> ?_⟩;rw[u v hv];exact⟨λ⟨r,a,b,c⟩=>⟨r,a,(xI d).2 b,c⟩,λ⟨r,a,b,c⟩=>⟨r,a,(xI d).1 b,c⟩⟩
abbrev Sb:=Int×LI×LR×LL×LL×KM×LR×Int×Int×Bool×LI
def Cov (rs:LR) (sets:LL) (e:LR) (d:Int) (l:LI):Prop:=(∃r∈rs,Fits sets d l r)-> ∃q,(d,l,q)∈e
def SOk (S:Int) (al:LI) (rs:LR) (sets:LL) (m:KM) (e:LR) (d:Bool):Prop:=
 KOk sets m/\ah0 al rs sets e/\sets.length<=301/\e.length<=20001/\((d=false->sets.length<=300/\e.length<=20000)/\(d=true->300<sets.length\/20000<e.length))/\ ∀s∈sets,∀v:Int,0<=v->FY s v=true->v<S
def Rk (al:LI) (rs:LR) (k:Int) (rank:Nat) (e:LI) (f g:Bool) (S:Int) (fin:LI) (l:LL) (old done:Int) (sets:LL) (m:LR) (r:Sb):Prop:=
 ∃(z:LL) (p:KM) (y:LR) (d:Bool),r=(S,fin,rs,l,sets++z,p,m++y,old,done,d,e)/\SOk S al rs (sets++z) p (m++y) d/\(d=false->g=false)/\y.length+(if f=true then 0 else old.toNat^(rank-e.length))<=done.toNat^(rank-e.length)/\
  (d=false-> ∀i,e.length+i.length=rank->(∀x∈i,bg done x)->(f=true\/ ∃x∈i,old<=x)->Cov rs (sets++z) (m++y) k (e++i))
abbrev LsT:=Int×LI×LR×LL×LL×KM×LR×Int×Int×Bool×Int×Int×LI×LI×Bool
theorem afh {W:Nat->Af->Option Bool} {T:Nat->Sb->Option (Int×Int×LI×LR×LL×LL×KM×LR×Int×Int×Bool)} {C:Nat->LI->Option Au} {F:Nat->LsT->Option Sb}
 (hF: ∀n x,F (n+1) x=bU.P (W n) (F n) (T n) (C n) n x) (hW: ∀s v,zL s->0<=v->v<8->Sp W (s,v) (λ r=>r=FY s v)) (hC: ∀l:LI,l.length<=1000000->Sp C l (λ r=>r=(l,l)))
 (al:LI) (S:Int) (fin:LI) (rs:LR) (A:LL) (hS:S<=8) (k0:rs.length<=100000) (hr: ∀r∈rs,bg S r.2.2/\(∀q∈r.2.1,bg S q)) (f9:Ar al rs)
 (hT: ∀(sets:LL) (m:KM) (G:LR) (old done:Int) (u:Bool) (idx:LI),(∀i∈idx,∃r,At rs i r/\bg S r.2.2)->idx≠[]->KOk sets m->sets.length<=1000->idx.length<=1000000->
  Sp T (S,fin,rs,A,sets,m,G,old,done,u,idx) (λ r=> ∃(n:Nat) (z:LL) (m':KM) (s:LI),r=((n:Int),S,fin,rs,A,sets++z,m',G,old,done,u)/\z.length<=1/\(∀x∈z,x=s)/\KOk (sets++z) m'/\(sets++z)[n]? =some s/\
   ∀v:Int,0<=v->(FY s v=true ↔ ∃i∈idx,∃r,At rs i r/\r.2.2=v)))
 (k:Int) (rank:Nat) (e7:0<=k) (b8:al[k.toNat]? =some (rank:Int)) (k2:rank<=3) (old done:Int) (ho:0<=old) (k3:old<=done):
 ∀(d:Nat) (f idx:LI) (g u:Bool) (sets:LL) (m:KM) (G:LR),f.length+d=rank->(d=0->g=true)->(∀x∈f,bg done x)->done<=(sets.length:Int)->SOk S al rs sets m G u->idx.length<=rs.length->
  (∀v,v∈idx ↔ ∃r,At rs v r/\Yq sets k f r)->
  Sp F (S,fin,rs,A,sets,m,G,old,done,u,k,(rank:Int),f,idx,g) (Rk al rs k rank f g u S fin A old done sets G):=by
 have b9: ∀(v:Int) (r:Rule),At rs v r->r.1=k->r.2.1.length=rank:=λ v r ⟨j,_,O⟩ e=>by
  have:=(f9 r (aai O)).2;rw[e,b8]at this;have:=aak this;omega
 intro d
 induction d with
 |zero=>
  intro f idx g u sets m G hd e8 Q d9 a4 g0 M;refine aZ5 hF ?_;show Tt (λ n=>bU.P (W n) (F n) (T n) (C n) n (S,fin,rs,A,sets,m,G,old,done,u,k,(rank:Int),f,idx,g)) _;unfold bU.P;dsimp only;have e0:=a4.2.2.1
  have stop:(u=true\/idx= [])->Rk al rs k rank f g u S fin A old done sets G (S,fin,rs,A,sets,m,G,old,done,u,f):=by
   intro h;refine⟨[],m,[],u,by rw[aaM,aaM],by rw[aaM,aaM];exact a4,id,?_,λ hf l2 I N h3 ⟨r,h4,h5⟩=> ?_⟩
   ·have:=abZ (show old.toNat<=done.toNat by omega) (rank-f.length);split<;>simp<;>omega
   rw[aaM]at h5;rcases h with h|h
   ·rw[h]at hf;cases hf
   ·obtain⟨j,O,rfl⟩:=aay h4;have:=(M (j:Int)).2 ⟨_,⟨j,rfl,aac O⟩,EL h5.2⟩;rw[h]at this;cases this
  refine aX2 (λ hc=>aY7 (aX7 rfl (aZ0 (stop (.inl hc))))) (λ hc=>aY7 (aY4 (λ hi=>aZ0 (stop (.inr ?_))) (λ hi=> ?_)))
  ·have hi:=of_decide_eq_true hi;exact aav Ω
  subst hc;have hi:=of_decide_eq_false hi;dsimp only;refine aX7 (dY Ω) (aZ1 (hC f Ω) ?_);rintro _ rfl;refine aZ1 (hT sets m G old done false idx (λ i h=> ?_) (λ h=>hi (by rw[h];rfl)) a4.1 Ω Ω) ?_
  ·obtain⟨r,I,N⟩:=(M i).1 h;obtain⟨j,e,O⟩:=I;exact⟨r,⟨j,e,O⟩,(hr r (aai O)).1⟩
  rintro _ ⟨n,z,m',s,rfl,hz,g1,g2,hn,hm⟩;dsimp only;have g3:=a4.2.2.2.2.1.1 rfl;refine aX (jK Δ) ?_;have k5:n<(sets++z).length:=(aad.1 hn).1;have U: ∀x∈f,bg (sets.length:Int) x:=λ x hx=>⟨(Q x hx).1,by have:=(Q x hx).2;omega⟩
  have c2: ∀r,(r∈rs/\Fits (sets++z) k f r) ↔ ∃i∈idx,At rs i r:=by
   intro r;constructor
   ·rintro⟨I,N⟩;obtain⟨j,O,rfl⟩:=aay I;have ha:At rs (j:Int) rs[j]:=⟨j,rfl,aac O⟩;exact⟨(j:Int),(M _).2 ⟨_,ha,((xI U).1 N).2⟩,ha⟩
   ·rintro⟨i,I,N⟩;obtain⟨r',h3,h4⟩:=(M i).1 I
    have:r'=r:=by
     obtain⟨j,e,O⟩:=N;obtain⟨j',e',c3⟩:=h3;have:j=j':=by omega
     subst this;rw[O]at c3;exact(aak c3).symm
    subst this;have hl:=b9 i _ N h4.1;obtain⟨j,e,O⟩:=N;exact⟨aai O,(xI U).2 ⟨Ω,h4⟩⟩
  have e9:ah0 al rs (sets++z) (G++[(k,f,(n:Int))]):=by
   intro r' g5;rcases aap.1 g5 with h|h
   ·exact a4.2.1.more r' h
   ·rw[aah.1 h];obtain⟨i0,f0⟩:=List.exists_mem_of_ne_nil idx (λ h=>hi (by rw[h];rfl));obtain⟨r0,g7,_⟩:=(M i0).1 f0;obtain⟨g8,e3⟩:=(c2 r0).2 ⟨i0,f0,g7⟩;refine⟨e7,by rw[b8];dsimp only;congr 2;omega,λ x hx=>⟨(U x hx).1,by have:=(U x hx).2;rw[aaq];omega⟩,⟨by dsimp only;omega,by dsimp only;omega⟩,⟨r0,g8,e3⟩,s,by dsimp only;rw[aam];exact hn,λ v hv=> ?_⟩;rw[hm v hv];constructor
    ·rintro⟨i,I,r,N,h3⟩;obtain⟨a,b⟩:=(c2 r).2 ⟨i,I,N⟩;exact⟨r,a,b,h3⟩
    ·rintro⟨r,a,b,h3⟩;obtain⟨i,I,N⟩:=(c2 r).1 ⟨a,b⟩;exact⟨i,I,r,N,h3⟩
  have f1: ∀s∈sets++z,∀v:Int,0<=v->FY s v=true->v<S:=by
   intro x hx v hv hs;rcases aap.1 hx with h|h
   ·exact a4.2.2.2.2.2 x h v hv hs
   ·rw[g1 x h]at hs;obtain⟨i,_,r,⟨j,_,O⟩,e⟩:=(hm v hv).1 hs;rw[←e];exact(hr r (aai O)).1.2
  have d3: ∀fl:Bool,(fl=false->(sets++z).length<=300/\G.length+1<=20000)->(fl=true->300<(sets++z).length\/20000<G.length+1)->Rk al rs k rank f g false S fin A old done sets G (S,fin,rs,A,sets++z,m',List.append G [(k,f,(n:Int))],old,done,fl,f):=by
   intro fl a9 g9;refine⟨z,m',[(k,f,(n:Int))],fl,rfl,⟨g2,e9,by rw[aaq];omega,by rw[aaq];simp;omega,⟨λ h=>⟨(a9 h).1,by rw[aaq];exact(a9 h).2⟩,λ h=>by rw[aaq (as:=G)];exact g9 h⟩,f1⟩,λ _=>rfl,by rw[e8 rfl,show rank-f.length=0 by omega];simp,λ _ l2 I _ _ _=> ?_⟩;have:l2= []:=aav Ω;rw[this,aaM];exact⟨(n:Int),aa4 _ Θ⟩
  have d4:(List.append G [(k,f,(n:Int))]).length=G.length+1:=by
   show(G++_).length=_;rw[aaq];rfl
  refine aX2 (λ I=>aY7 (aZ0 (d3 true (λ h=>by cases h) λ _=> ?_))) (λ I=>aY7 (aZ0 (d3 _ (λ h=> ?_) λ h=> ?_)))
  ·have I:=of_decide_eq_true I;rw[d4]at I;omega
  ·have I:=of_decide_eq_false I;have h:=of_decide_eq_false h;rw[d4]at I;omega
  ·have h:=of_decide_eq_true h;omega
 |succ d ih=>
  intro f idx g u sets m G hd e8 Q d9 a4 g0 M;refine aZ5 hF ?_;show Tt (λ n=>bU.P (W n) (F n) (T n) (C n) n (S,fin,rs,A,sets,m,G,old,done,u,k,(rank:Int),f,idx,g)) _;unfold bU.P;dsimp only;have e0:=a4.2.2.1
  have stop:(u=true\/idx= [])->Rk al rs k rank f g u S fin A old done sets G (S,fin,rs,A,sets,m,G,old,done,u,f):=by
   intro h;refine⟨[],m,[],u,by rw[aaM,aaM],by rw[aaM,aaM];exact a4,id,?_,λ hf l2 I N h3 ⟨r,h4,h5⟩=> ?_⟩
   ·have:=abZ (show old.toNat<=done.toNat by omega) (rank-f.length);split<;>simp<;>omega
   rw[aaM]at h5;rcases h with h|h
   ·rw[h]at hf;cases hf
   ·obtain⟨j,O,rfl⟩:=aay h4;have:=(M (j:Int)).2 ⟨_,⟨j,rfl,aac O⟩,EL h5.2⟩;rw[h]at this;cases this
  refine aX2 (λ hc=>aY7 (aX7 rfl (aZ0 (stop (.inl hc))))) (λ hc=>aY7 (aY4 (λ hi=>aZ0 (stop (.inr ?_))) (λ hi=> ?_)))
  ·have hi:=of_decide_eq_true hi;exact aav Ω
  subst hc;dsimp only;refine aW6 Ω ?_
  have main: ∀first:Nat,(first:Int)<=done->(d=0->g=false->old<=(first:Int))->(∀x:Int,0<=x->x<(first:Int)->g=false/\d=0/\x<old)->
   Tt (λ n=>(bH (bU.L2 (W n) n (F n)) n (S,fin,rs,A,sets,m,G,old,done,false,k,(rank:Int),f,idx,g,(first:Int))).bind λ Y=>some (Y.1,Y.2.1,Y.2.2.1,Y.2.2.2.1,Y.2.2.2.2.1,Y.2.2.2.2.2.1,Y.2.2.2.2.2.2.1,Y.2.2.2.2.2.2.2.1,Y.2.2.2.2.2.2.2.2.1,Y.2.2.2.2.2.2.2.2.2.1,Y.2.2.2.2.2.2.2.2.2.2))
    (Rk al rs k rank f g false S fin A old done sets G):=by
   intro first h9 e3 d0
   refine aZ1 (R:=Rk al rs k rank f g false S fin A old done sets G) (aZ8 (L:=λ n=>bU.L2 (W n) n (F n)) (aX1 (λ t=> ∃(x:Nat) (z:LL) (m':KM) (y:LR) (B:Bool),t=(S,fin,rs,A,sets++z,m',G++y,old,done,B,k,(rank:Int),f,idx,g,(x:Int))/\(x:Int)<=done/\
    SOk S al rs (sets++z) m' (G++y) B/\(first<=x/\y.length+(if g=true then 0 else min x old.toNat*old.toNat^d)<=x*done.toNat^d)/\(B=false-> ∀(x':Int) (l2:LI),(first:Int)<=x'->x'<(x:Int)->f.length+1+l2.length=rank->(∀x∈l2,bg done x)->(g=true\/old<=x'\/ ∃x∈l2,old<=x)->Cov rs (sets++z) (G++y) k (f++x'::l2)))
    (λ t=>(done-t.2.2.2.2.2.2.2.2.2.2.2.2.2.2.2).toNat) ?_ ?_)) λ r hr=>aZ0 hr
   ·rintro _ ⟨x,z,m',y,B,rfl,k9,b3,⟨l0,b4⟩,d5⟩;unfold bU.L2;dsimp only;have i1:=b3.2.2.1;have i2:sets.length<=(sets++z).length:=by rw[aaq];omega
    by_cases hx:(x:Int)<done
    ·have c4:x<(sets++z).length:=by omega
     have i3:zL (sets++z)[x]:=b3.1.1 _ (aaf c4);have U: ∀x∈f,bg (sets.length:Int) x:=λ x hx=>⟨(Q x hx).1,by have:=(Q x hx).2;omega⟩
     have hq: ∀v∈idx,∃r q,At rs v r/\Yq (sets++z) k f r/\r.2.1[f.length]? =some q/\bg S q:=by
      intro v hv;obtain⟨r,I,N⟩:=(M v).1 hv;have hl:=b9 v r I N.1;have b7:f.length<r.2.1.length:=by omega
      refine⟨r,r.2.1[f.length],I,(Lj U).2 N,aac b7,?_⟩;obtain⟨j,_,O⟩:=I;exact(hr r (aai O)).2 _ (aaf b7)
     refine aX6 (dY hx) ?_
     refine aZ7 (R:=λ t=> ∃left:LI,t=(S,fin,rs,A,sets++z,m',G++y,old,done,B,k,(rank:Int),f,idx,g,(x:Int),left)/\left.length<=idx.length/\ ∀v,v∈left ↔ ∃r,At rs v r/\Yq (sets++z) k (f++[(x:Int)]) r)
      (aZ8 (L:=λ n=>bU.L1 (W n)) (aZ6 idx.length (λ p t=> ∃left:LI,t=(S,fin,rs,A,sets++z,m',G++y,old,done,B,k,(rank:Int),f,idx,g,(x:Int),left,idx,(idx.length:Int),(p:Int))/\left.length<=p/\
       ∀v,v∈left ↔ v∈idx.take p/\ ∃r,At rs v r/\Yq (sets++z) k (f++[(x:Int)]) r) ?_ ?_ ⟨[],rfl,Θ,Θ⟩)) ?_
     ·rintro p t hp ⟨left,rfl,e4,b0⟩;unfold bU.L1;dsimp only;obtain⟨r,q,⟨j,ej,O⟩,N,h3,h4⟩:=hq idx[p] (aaf hp);have i6:j<rs.length:=(aad.1 O).1;have i7:rs[j]=r:=(aad.1 O).2;have b7:f.length<r.2.1.length:=(aad.1 h3).1;have i8:r.2.1[f.length]=q:=(aad.1 h3).2;refine aY1 Ω (aY hp (aZ9 (rng Ω Ω) ?_));rw[aam];refine aY6 c4 λ l1 _ d6=> ?_;rw[aac c4]at d6;cases d6;rw[ej,fE i6,i7];refine aZ3 ?_;rw[fE b7,i8]
      have f3: ∀v,v∈idx.take (p+1) ↔ v∈idx.take p\/v=(j:Int):=λ v=>by
       rw[aat,aac hp,aap,ej];simp
      have c5:(∃r,At rs (j:Int) r/\Yq (sets++z) k (f++[(x:Int)]) r) ↔ FY (sets++z)[x] q=true:=by
       constructor
       ·rintro⟨r',⟨j',e',c3⟩,hf⟩;have:j'=j:=by omega
        subst this;rw[O]at c3;cases c3;obtain⟨s,hs,hm⟩:=((RU h3).1 hf).2;rw[aam,aac c4]at hs;cases hs;exact hm
       ·intro hm;exact⟨r,⟨j,rfl,O⟩,(RU h3).2 ⟨N,_,by rw[aam];exact aac c4,hm⟩⟩
      refine aZ3 (aZ7 (hW _ q i3 h4.1 (by have:=h4.2;omega)) ?_);rintro _ rfl;refine aY2 (λ hc=> ?_) (λ hc=> ?_)
      ·refine aY0 (jK Δ) (aZ3 (aZ2 ⟨_,by rw[ak Ω],Δ,λ v=> ?_⟩));simp only[abA,aap,aah,b0,f3];constructor
       ·rintro(⟨a,b⟩|rfl)
        ·exact⟨.inl a,b⟩
        ·exact⟨.inr rfl,c5.2 hc⟩
       ·rintro⟨a|a,b⟩
        ·exact .inl ⟨a,b⟩
        ·exact .inr a
      ·refine aZ3 (aZ2 ⟨left,by rw[ak Ω],Ω,λ v=> ?_⟩);rw[b0,f3];constructor
       ·rintro⟨a,b⟩;exact⟨.inl a,b⟩
       ·rintro⟨a|a,b⟩
        ·exact⟨a,b⟩
        ·rw[a,c5,hc]at b;cases b
     ·rintro t ⟨left,rfl,e4,b0⟩;unfold bU.L1;dsimp only;rw[aar]at b0;refine aY3 Ω (aZ4 ⟨left,rfl,e4,λ v=>(b0 v).trans ⟨λ h=>h.2,λ h=>⟨?_,h⟩⟩⟩);obtain⟨r,I,N⟩:=h;exact(M v).2 ⟨r,I,(Lj U).1 (EL N)⟩
     rintro _ ⟨left,rfl,e4,b0⟩;dsimp only;refine aY0 (jK Δ) ?_
     have call:=λ(D:Bool) (b1:D=true ↔ (g=true\/old<=(x:Int)))=>ih (f++[(x:Int)]) left D B (sets++z) m' (G++y) (by rw[aaq];simp;omega) (λ h0=>b1.2 (by
      cases g with
      |true=>exact .inl rfl
      |false=>have:=e3 h0 rfl;exact .inr Ω)) (λ w hw=>by
      rcases aap.1 hw with h|h
      ·exact Q w h
      ·rw[aah.1 h];exact⟨Ω,hx⟩) Ω b3 Ω b0
     have d7:pre f (f++[(x:Int)])=true:=by
      unfold pre;rw[abL];exact dY rfl
     have next: ∀D:Bool,((D=true ↔ (g=true\/old<=(x:Int))))-> ∀r,Rk al rs k rank (f++[(x:Int)]) D B S fin A old done (sets++z) (G++y) r->
      ∃(z2:LL) (m2:KM) (y2:LR) (E:Bool),r=(S,fin,rs,A,sets++z2,m2,G++y2,old,done,E,f++[(x:Int)])/\SOk S al rs (sets++z2) m2 (G++y2) E/\(first<=x+1/\y2.length+(if g=true then 0 else min (x+1) old.toNat*old.toNat^d)<=(x+1)*done.toNat^d)/\
       (E=false-> ∀(x':Int) (l2:LI),(first:Int)<=x'->x'<((x+1:Nat):Int)->f.length+1+l2.length=rank->(∀x∈l2,bg done x)->(g=true\/old<=x'\/ ∃x∈l2,old<=x)->Cov rs (sets++z2) (G++y2) k (f++x'::l2)):=by
      rintro D b1 r ⟨z2,m2,y2,E,rfl,a8,e5,K,Z⟩;rw[show rank-(f++[(x:Int)]).length=d by rw[aaq];simp;omega]at K;refine⟨z++z2,m2,y++y2,E,by rw[aaD,aaD],by rw[←aaD,←aaD];exact a8,⟨Ω,?_⟩,λ a9 x' l2 I N h3 h4 h5=> ?_⟩
      ·rw[aaq,abx]
       cases g with
       |true=>
        have:D=true:=b1.2 (.inl rfl);rw[if_pos rfl]at b4 ⊢;rw[if_pos this]at K;omega
       |false=>
        rw[if_neg Bool.false_ne_true]at b4 ⊢;by_cases f5:old<=(x:Int)
        ·rw[if_pos (b1.2 (.inr f5))]at K;rw[show min (x+1) old.toNat=min x old.toNat by omega];omega
        ·rw[if_neg λ h=>(b1.1 h).elim Bool.false_ne_true f5]at K;rw[show min (x+1) old.toNat=min x old.toNat+1 by omega,abx];omega
      rw[←aaD,←aaD];by_cases i9:x'=(x:Int)
      ·subst i9
       have:=Z a9 l2 (by rw[aaq];simp;omega) h4 (by
        rcases h5 with h|h|h
        ·exact .inl (b1.2 (.inl h))
        ·exact .inl (b1.2 (.inr h))
        ·exact .inr h)
       have e:f++[(x:Int)]++l2=f++(x:Int)::l2:=by simp
       rw[e]at this;exact this
      ·have f6:=e5 a9;intro⟨r,h6,h7⟩;have j0:x'<(x:Int):=by omega
       have h8: ∀w∈f++x'::l2,bg ((sets++z).length:Int) w:=by
        intro w hw
        have:bg done w:=by
         rcases aap.1 hw with h|h
         ·exact Q w h
         ·rcases aaU.1 h with rfl|h
          ·exact⟨Ω,Ω⟩
          ·exact h4 w h
        exact⟨this.1,by have:=this.2;omega⟩
       obtain⟨q,hq⟩:=d5 f6 x' l2 I j0 h3 h4 h5 ⟨r,h6,(xI h8).1 h7⟩;exact⟨q,aaF _ hq⟩
     refine aY2 (λ hf=> ?_) (λ hf=> ?_)
     ·refine aY5 (aZ7 (call true (by simp[hf])) ?_);intro r hr;obtain⟨z2,m2,y2,E,rfl,a8,K,Z⟩:=next true (by simp[hf]) r hr
      dsimp only;exact aY0 d7 (aZ3 (aZ2 ⟨⟨x+1,z2,m2,y2,E,by rw[ak Ω],Ω,a8,K,Z⟩,by dsimp only;rw[ak Ω];omega⟩))
     ·refine aY5 (aZ7 (call (decide (old<=(x:Int))) (by simp[hf])) ?_);intro r hr;obtain⟨z2,m2,y2,E,rfl,a8,K,Z⟩:=next _ (by simp[hf]) r hr
      dsimp only;exact aY0 d7 (aZ3 (aZ2 ⟨⟨x+1,z2,m2,y2,E,by rw[ak Ω],Ω,a8,K,Z⟩,by dsimp only;rw[ak Ω];omega⟩))
    ·refine aX9 (decide_eq_false hx) (aZ4 ⟨z,m',y,B,rfl,b3,λ _=>rfl,?_,λ a9 l2 I N h3=> ?_⟩)
     ·rw[show rank-f.length=d+1 by omega,acZ,acZ,abW (old.toNat^d),abW (done.toNat^d)];have e1:x=done.toNat:=by omega
      have e2:min x old.toNat=old.toNat:=by omega
      rw[e2,e1]at b4;exact b4
     cases l2 with
     |nil=>rw[aci]at I;omega
     |cons x' l3=>
      rw[aaX]at I;have f7:=N x' Θ;by_cases b7:x'<(first:Int)
      ·obtain⟨a1,a2,a3⟩:=d0 x' f7.1 b7;have:l3= []:=aav Ω;subst this;rcases h3 with h|⟨w,h,hw⟩
       ·rw[a1]at h;cases h
       ·rw[aah.1 h]at hw;omega
      ·exact d5 a9 x' l3 Ω (by have:=f7.2;omega) Ω (λ w hw=>N w (by simp[hw])) (by
        rcases h3 with h|⟨w,h,hw⟩
        ·exact .inl h
        ·rcases aaU.1 h with rfl|h
         ·exact .inr (.inl hw)
         ·exact .inr (.inr ⟨w,h,hw⟩))
   ·refine⟨first,[],m,[],false,by rw[aaM,aaM],h9,by rw[aaM,aaM];exact a4,⟨aaw _,?_⟩,λ _ x' l2 I N=>absurd I Ω⟩
    cases g with
    |true=>simp
    |false=>
     rw[if_neg Bool.false_ne_true,aci,aa2];exact Nat.mul_le_mul (Nat.min_le_left _ _) (abZ Ω d)
  have m0:=λ h=>main 0 Ω h λ x h0 I=>absurd h0 Ω;refine aX2 (λ hf=> ?_) (λ hf=> ?_)
  ·refine aY7 (aX2 (λ hg=> ?_) (λ hg=> ?_))
   ·refine aY7 ?_;have e:(old.toNat:Int)=old:=by omega
    have hg:=of_decide_eq_true hg;rw[jX _ Ω Ω]at hg;have:=main old.toNat Ω (λ _ _=>Ω) λ x h0 I=>⟨by simpa using hf,Ω,Ω⟩;rw[e]at this;exact this
   ·refine aY7 (m0 λ h0 _=> ?_);have hg:=of_decide_eq_false hg;rw[jX _ Ω Ω]at hg;omega
  ·exact aY7 (aX2 (λ hg=>by cases hg) (λ hg=>aY7 (m0 λ _ h=>by rw[h]at hf;cases hf)))
abbrev ad1 (Fi:Nat->Int×LI×LR->Option (List Bool)):Prop:= ∀(S:Int) (fin:LI) (rs:LR),0<=S->S<=300->fin.length<=1000000->(∀q∈fin,bg S q)->
 Sp Fi (S,fin,rs) (λ r=>r.length=S.toNat/\ ∀q:Int,bg S q->(bat r q=true ↔ q∈fin))
theorem aif {Fi:Nat->Ab->Option (List Bool)} (h: ∀n x,Fi (n+1) x=oz.P n x):ad1 Fi:=λ S fin rs e f k g=>
 aZ5 h ((afe S fin rs e f (by rw[Ci];omega) g).mono λ r d=>⟨d.1,λ q i=>by
  have:=(d.2 q i).2;unfold at? at this;rw[DJ,this];simp⟩)
def Sy (rs:LR):Prop:= ∀r∈rs,I64 r.1
def Yv (al fin:LI) (rs:LR) (D:Aut):Prop:=Wf D.1 D.2.1 D.2.2/\D.1<=300/\Det D.2.2/\(∀t,Acc D.2.2 D.2.1 t ↔ Acc rs fin t)/\Sy D.2.2/\D.2.2.length<=20000/\Ar al D.2.2
theorem VR {al:LI} {S:Int} {fin fin':LI} {rs B:LR} {sets:LL} {m:KM} {u:Bool} (hw:Wf S fin rs) (c8:Ar al rs) (c9:SOk S al rs sets m B u)
 (Y: ∀(Z:Nat) (k:Nat),al[Z]? =some (k:Int)-> ∀l:LI,l.length=k->(∀x∈l,bg (sets.length:Int) x)->Cov rs sets B (Z:Int) l)
 (C: ∀n:Int,n∈fin' ↔ ∃s,0<=n/\sets[n.toNat]? =some s/\ ∃v:Int,0<=v/\FY s v=true/\v∈fin):Det B/\ ∀t,Acc B fin' t ↔ Acc rs fin t:=by
 obtain⟨A,I,_,_,_,e6⟩:=c9;have D: ∀r∈rs,∀q∈r.2.1,0<=q:=λ r hr q z=>((hw.2.2.2.2.2 r hr).2.1 q z).1
 have d: ∀t q,Reach B t q->bg (sets.length:Int) q/\ ∃s,sets[q.toNat]? =some s/\ ∀v:Int,0<=v->(FY s v=true ↔ Reach rs t v):=by
  intro t
  induction t using uz with
  |h a ks ih=>
   intro q z;obtain⟨r',K,E,h2,h3,h4⟩:=bV.1 z;obtain⟨b1,b2,b3,b4,b5,s,b6,b7⟩:=I r' K;rw[←h2];refine⟨b4,s,b6,λ v hv=> ?_⟩;rw[b7 v hv];constructor
   ·rintro⟨r,y,⟨c2,O,c4⟩,Q⟩;refine bV.2 ⟨r,y,O.trans E,Q,Ω,λ i k f A p=> ?_⟩;have a4:i<r'.2.1.length:=by have:=(aad.1 p).1;omega
    obtain⟨s',L,M⟩:=c4 i _ f (aac a4) p;obtain⟨_,s2,R,e4⟩:=ih k (aai A) _ (h4 i k _ A (aac a4));rw[L]at R;cases R;exact(e4 f (D r y f (aai p))).1 M
   ·intro h;obtain⟨r,y,c2,O,c4,Q⟩:=bV.1 h;refine⟨r,y,⟨Ω,c2.trans E.symm,λ j x f G p=> ?_⟩,O⟩;have a6:j<ks.length:=by have:=(aad.1 G).1;omega
    have a7:=aac a6;obtain⟨_,s2,R,e4⟩:=ih _ (aaf a6) x (h4 j _ x a7 G);exact⟨s2,R,(e4 f (D r y f (aai p))).2 (Q j _ f a7 p)⟩
 have u: ∀t v,Reach rs t v-> ∃q,Reach B t q:=by
  intro t
  induction t using uz with
  |h a ks ih=>
   intro v hv;obtain⟨r,y,c2,O,c4,Q⟩:=bV.1 hv
   have a8: ∀i:Nat,∃q:Int,∀h:i<ks.length,Reach B ks[i] q:=by
    intro i;by_cases h:i<ks.length
    ·have d5:i<r.2.1.length:=by omega
     obtain⟨q,z⟩:=ih _ (aaf h) _ (Q i _ _ (aac h) (aac d5));exact⟨q,λ _=>z⟩
    ·exact⟨0,λ h'=>absurd h' h⟩
   obtain⟨g,hg⟩: ∃g:Nat->Int,∀i,∀h:i<ks.length,Reach B ks[i] (g i):=⟨λ i=>(a8 i).choose,λ i=>(a8 i).choose_spec⟩
   let l:LI:=(List.range ks.length).map g
   have d7:l.length=ks.length:=by simp[l]
   have a9: ∀i,i<ks.length->l[i]? =some (g i):=λ i U=>by
    simp only[l,aau,ach U,aaL]
   obtain⟨d1,d2⟩:=c8 r y;have b0:(r.1.toNat:Int)=r.1:=by omega
   have b8:=Y r.1.toNat r.2.1.length d2 l Ω λ x G=>by
    obtain⟨i,U,rfl⟩:=aaC.1 G;exact(d _ _ (hg i (ab1.1 U))).1
   rw[b0]at b8
   obtain⟨q,z⟩:=b8 ⟨r,y,Ω,rfl,λ j x f G p=>by
    have hj:j<ks.length:=by have:=(aad.1 G).1;omega
    rw[a9 j hj]at G;cases G;obtain⟨_,s,L,M⟩:=d _ _ (hg j hj);exact⟨s,L,(M f (D r y f (aai p))).2 (Q j _ f (aac hj) p)⟩⟩
   refine⟨q,bV.2 ⟨_,z,c2,rfl,d7,λ i k f A p=> ?_⟩⟩;have U:=(aad.1 A).1;rw[a9 i U]at p;cases p;have:=hg i U
   rwa [(aad.1 A).2]at this
 have d9: ∀t v,Reach rs t v->0<=v:=λ t v h=>by
  cases t with
  |mk a ks=>
   obtain⟨r,y,_,O,_⟩:=bV.1 h;rw[←O];exact(hw.2.2.2.2.2 r y).1.1
 refine⟨λ r hr r' K L M=> ?_,λ t=>⟨?_,?_⟩⟩
 ·obtain⟨_,_,_,a1,_,s,N,W⟩:=I r hr;obtain⟨_,_,_,b1,_,s',b2,b3⟩:=I r' K;rw[←L,←M]at b3
  have:s=s':=ahf (A.1 _ (aai N)) (A.1 _ (aai b2)) λ v D _=>by
   cases e:FY s v<;>cases e':FY s' v<;>first|rfl|skip
   ·have:=(W v D).2 ((b3 v D).1 e');rw[e]at this;cases this
   ·have:=(b3 v D).2 ((W v D).1 e);rw[e']at this;cases this
  subst this;have:=A.inj N b2;have:=a1.1;have:=b1.1;omega
 ·rintro⟨q,E,h2⟩;obtain⟨s,_,L,v,M,R,e4⟩:=(C q).1 h2;obtain⟨_,s',N,W⟩:=d t q E;rw[L]at N;cases N;exact⟨v,(W v M).1 R,e4⟩
 ·rintro⟨v,E,h2⟩;obtain⟨q,z⟩:=u t v E;obtain⟨a1,s,N,W⟩:=d t q z;have hv:=d9 t v E;exact⟨q,z,(C q).2 ⟨s,a1.1,N,v,hv,(W v hv).2 E,h2⟩⟩
theorem Cov.more {rs:LR} {sets z:LL} {e y:LR} {d:Int} {l:LI} (h:Cov rs sets e d l) (f: ∀x∈l,bg (sets.length:Int) x):Cov rs (sets++z) (e++y) d l:=λ⟨r,g,i⟩=>by
 obtain⟨q,k⟩:=h ⟨r,g,(xI f).1 i⟩;exact⟨q,aaF _ k⟩
abbrev akl (al:LI) (S:Int) (fin:LI) (rs:LR) (Ls:Nat->LsT->Option Sb):Prop:=
 ∀(g:LL) (e:Int) (rank:Nat),0<=e->al[e.toNat]? =some (rank:Int)-> ∀(old done:Int),0<=old->old<=done-> ∀(idx:LI) (d f:Bool) (sets:LL) (m:KM) (i:LR),(rank=0->d=true)->done<=(sets.length:Int)->SOk S al rs sets m i f->idx.length<=rs.length->
  (∀v,v∈idx ↔ ∃r,At rs v r/\r.1=e)->Sp Ls (S,fin,rs,g,sets,m,i,old,done,f,e,(rank:Int),[],idx,d) (Rk al rs e rank [] d f S fin g old done sets i)
theorem afd {sets:LL} {m:KM} {S:Int} (A:S<=8) (h:KOk sets m) (hs: ∀s∈sets,∀v:Int,0<=v->FY s v=true->v<S):sets.length<=2^S.toNat:=by
 have p: ∀s∈sets,bg ((2^S.toNat:Nat):Int) (s[0]?.getD 0):=λ s d=>by
  obtain⟨w,B,rfl⟩:=h.1 s d
  have:w<2^S.toNat:=Nat.lt_pow_two_of_testBit w λ i g=>by
   apply aaT;intro f;have f:w.testBit i=true:=by simpa using f
   have:=hs _ d (i:Int) Ω (by rw[EY,aam];exact f);omega
  show bg _ (w:Int);exact⟨Ω,Ω⟩
 have f:(sets.map λ s=>s[0]?.getD 0).Nodup:=by
  refine aaN.2 λ i j g k t e=> ?_;simp only[aaH]at g k;simp only[List.getElem_map]at e;obtain⟨w,_,u⟩:=h.1 _ (aaf g);obtain⟨w',_,l⟩:=h.1 _ (aaf k)
  have y:sets[i]=sets[j]:=by
   rw[u,l]at e ⊢;have e:(w:Int)=(w':Int):=e;rw[e]
  have:=h.inj (aac g) (by rw[y];exact aac k);omega
 have:=MG f λ q z=>by
  obtain⟨s,hs,rfl⟩:=aaC.1 z;exact p s hs
 rw[aaH,aam]at this;exact this
def Yx (al:LI) (S:Int):Prop:= ∀k:Nat,S<=(k:Int)->2^k<=300->lY al (2^k)<=20000->False
theorem adw {B:Nat->Aa->Option (LL)} {Fi:Nat->Ab->Option (List Bool)} {So:Nat->LR->Option (LR)} {V:Nat->Aa->Option Bool} {Li:Nat->LI->Option LI}
 {Ls:Nat->LsT->Option Sb} {C:Nat->LI×List Bool->Option Bool} (f7:ad1 Fi) (f8:afv So) (f9: ∀s,zL s->Sp Li s (λ r=>r.length<=64/\ ∀v,v∈r ↔ 0<=v/\v<8/\FY s v=true)) (hC:Yp C id)
 (al:LI) (S:Int) (fin:LI) (rs:LR) (hS:S<=8) (hV:Sp V (al,S,fin,rs) (λ r=>r=true ↔ bW al (S,fin,rs)))
 (hB:bW al (S,fin,rs)->Sp B (al,S,fin,rs) (afZ al rs)) (c1:bW al (S,fin,rs)->akl al S fin rs Ls):
 Sp (λ n=>eF.P (B n) (Fi n) (So n) (V n) (Li n) (Ls n) (C n) n) (al,S,fin,rs) (λ r=>(r.2.2.2.2=0->Yv al fin rs (r.1,r.2.1,r.2.2.1))/\(bW al (S,fin,rs)->r.2.2.2.2=0\/r.2.2.2.2=3/\Yx al S)):=by
 show Tt (λ n=>eF.P (B n) (Fi n) (So n) (V n) (Li n) (Ls n) (C n) n (al,S,fin,rs)) _;unfold eF.P;dsimp only;refine aZ1 hV λ b hb=>aY4 (λ hc=>aZ0 ⟨λ h=>(by cases h),λ h=>by rw[hb.2 h]at hc;cases hc⟩) (λ hc=> ?_);have hv:bW al (S,fin,rs):=hb.1 (by simpa using hc);have hw:=hv.wf;have d5:=hv.ar;dsimp only at hw d5;have hB:=hB hv;have c1:=c1 hv;have c2:=hv.1;have i3:=c2.1;refine aZ1 hB λ I g5=> ?_;obtain⟨i4,d6⟩:=g5
 refine aZ1 (R:=λ t=>t=Sum.inr ((0:Int),([]:LI),([]:LR),([]:LL),(3:Int))/\Yx al S\/ ∃(sets:LL) (m:KM) (A:LR) (old done:Int),t=Sum.inl (S,fin,rs,(0:Int),([]:LI),([]:LR),S,fin,rs,I,sets,m,A,old,done,false)/\SOk S al rs sets m A false/\
  ∀(d:Nat) (k:Nat),al[d]? =some (k:Int)-> ∀l:LI,l.length=k->(∀x∈l,bg (sets.length:Int) x)->Cov rs sets A (d:Int) l)
  (aZ8 (L:=λ n=>eF.L2 (Ls n) n) (aX1 (λ t=> ∃(rd:Int) (sets:LL) (m:KM) (A:LR) (old done:Int),t=(al,S,fin,rs,(0:Int),([]:LI),([]:LR),rd,S,fin,rs,I,sets,m,A,old,done,false)/\SOk S al rs sets m A false/\
   (0<=rd/\A.length<=if rd=0 then 0 else lY al old.toNat)/\rd<=old+1/\0<=old/\old<=done/\done<=(sets.length:Int)/\((rd≠0->done=(sets.length:Int))/\(rd=0->done=0))/\(rd≠0-> ∀d:Nat,al[d]? =some 0->Cov rs sets A (d:Int) [])/\
   ∀(d:Nat) (k:Nat),al[d]? =some ((k+1:Nat):Int)-> ∀l:LI,l.length=k+1->(∀x∈l,bg old x)->Cov rs sets A (d:Int) l)
   (λ t=>(302-t.2.2.2.2.2.2.2.2.2.2.2.2.2.2.2.1).toNat*2+if t.2.2.2.2.2.2.2.1=0 then 1 else 0) ?_ ?_)) ?_
 ·rintro _ ⟨rd,sets,m,A,old,done,rfl,K,⟨h0,d7⟩,j6,ho,g7,j8,d8,hz,hp⟩;unfold eF.L2;dsimp only;have i7:=K.2.2.1
  have b8:(rd=0\/old<done)->Bd (λ n k=>(bH (eF.L1 (Ls n)) n (al,S,fin,rs,(0:Int),([]:LI),([]:LR),rd,S,fin,rs,I,sets,m,A,old,done,false,al,(al.length:Int),(0:Int))).bind λ p=>
   bif p.2.2.2.2.2.2.2.2.2.2.2.2.2.2.2.2.2 then((some ((0:Int),([]:LI),([]:LR),([]:LL),(3:Int))).bind λ r=>some (Sum.inr r))
   else k (p.1,p.2.1,p.2.2.1,p.2.2.2.1,p.2.2.2.2.1,p.2.2.2.2.2.1,p.2.2.2.2.2.2.1,IntKind.wrap .i64 (p.2.2.2.2.2.2.2.1+(1:Int)),p.2.2.2.2.2.2.2.2.1,p.2.2.2.2.2.2.2.2.2.1,p.2.2.2.2.2.2.2.2.2.2.1,p.2.2.2.2.2.2.2.2.2.2.2.1,p.2.2.2.2.2.2.2.2.2.2.2.2.1,p.2.2.2.2.2.2.2.2.2.2.2.2.2.1,p.2.2.2.2.2.2.2.2.2.2.2.2.2.2.1,p.2.2.2.2.2.2.2.2.2.2.2.2.2.2.2.2.1,(List.length p.2.2.2.2.2.2.2.2.2.2.2.2.1:Int),p.2.2.2.2.2.2.2.2.2.2.2.2.2.2.2.2.2))
   (λ s'=>(∃(Y:Int) (sets:LL) (m:KM) (A:LR) (M done:Int),s'=(al,S,fin,rs,(0:Int),([]:LI),([]:LR),Y,S,fin,rs,I,sets,m,A,M,done,false)/\SOk S al rs sets m A false/\
    (0<=Y/\A.length<=if Y=0 then 0 else lY al M.toNat)/\Y<=M+1/\0<=M/\M<=done/\done<=(sets.length:Int)/\((Y≠0->done=(sets.length:Int))/\(Y=0->done=0))/\(Y≠0-> ∀d:Nat,al[d]? =some 0->Cov rs sets A (d:Int) [])/\
    ∀(d:Nat) (k:Nat),al[d]? =some ((k+1:Nat):Int)-> ∀l:LI,l.length=k+1->(∀x∈l,bg M x)->Cov rs sets A (d:Int) l)/\s'.2.2.2.2.2.2.2.1=rd+1/\s'.2.2.2.2.2.2.2.2.2.2.2.2.2.2.2.1=done)
   (λ t=>t=Sum.inr ((0:Int),([]:LI),([]:LR),([]:LL),(3:Int))/\Yx al S\/ ∃(sets:LL) (m:KM) (A:LR) (old done:Int),t=Sum.inl (S,fin,rs,(0:Int),([]:LI),([]:LR),S,fin,rs,I,sets,m,A,old,done,false)/\SOk S al rs sets m A false/\
    ∀(d:Nat) (k:Nat),al[d]? =some (k:Int)-> ∀l:LI,l.length=k->(∀x∈l,bg (sets.length:Int) x)->Cov rs sets A (d:Int) l):=by
   intro hg
   refine aZ7 (R:=λ t=> ∃(z:LL) (m':KM) (y:LR) (f:Bool),t=(al,S,fin,rs,(0:Int),([]:LI),([]:LR),rd,S,fin,rs,I,sets++z,m',A++y,old,done,f)/\SOk S al rs (sets++z) m' (A++y) f/\y.length+(if rd=0 then 0 else lY al old.toNat)<=lY al done.toNat/\
    (f=false-> ∀(d k:Nat),al[d]? =some (k:Int)->(k=0 ↔ rd=0)-> ∀l:LI,l.length=k->(∀x∈l,bg done x)->(k=0\/ ∃x∈l,old<=x)->Cov rs (sets++z) (A++y) (d:Int) l))
    (aZ8 (L:=λ n=>eF.L1 (Ls n)) (aZ6 al.length (λ i t=> ∃(z:LL) (m':KM) (y:LR) (f:Bool),t=(al,S,fin,rs,(0:Int),([]:LI),([]:LR),rd,S,fin,rs,I,sets++z,m',A++y,old,done,f,al,(al.length:Int),(i:Int))/\SOk S al rs (sets++z) m' (A++y) f/\y.length+(if rd=0 then 0 else lY (al.take i) old.toNat)<=lY (al.take i) done.toNat/\
     (f=false-> ∀(d k:Nat),d<i->al[d]? =some (k:Int)->(k=0 ↔ rd=0)-> ∀l:LI,l.length=k->(∀x∈l,bg done x)->(k=0\/ ∃x∈l,old<=x)->Cov rs (sets++z) (A++y) (d:Int) l)) ?_ ?_
     ⟨[],m,[],false,by rw[aaM,aaM];rfl,by rw[aaM,aaM];exact K,by simp[lY],λ _ d k h=>absurd h Ω⟩)) ?_
   ·rintro i t hi ⟨z,m',y,f,rfl,g,D,Z⟩;unfold eF.L1;dsimp only;have c4:done<=((sets++z).length:Int):=by rw[aaq];omega
    obtain⟨k0,d9⟩: ∃k:Nat,al[i]=(k:Int):=⟨al[i].toNat,by have:=(c2.2 i hi).1;omega⟩;have c5:al[i]? =some (k0:Int):=by rw[aac hi,d9]
    have fo:=EM (m:=old.toNat) hi;have fd:=EM (m:=done.toNat) hi;rw[show al[i].toNat=k0 by omega]at fo fd;refine aY1 Ω (aY hi ?_);rw[d9];refine aY2 (λ he=> ?_) (λ he=> ?_)
    ·have a9:k0=0 ↔ rd=0:=by
      have:decide ((k0:Int)=0)=decide (rd=0):=by simpa using he
      have:=decide_eq_decide.1 this;omega
     refine aY5 ?_;have e0:i<I.length:=by omega
     rw[fE e0];have b9:=d6 i I[i] (aac e0);refine aZ3 (aY5 (aZ7 (c1 I (i:Int) k0 Ω (by rw[aam];exact c5) old done ho g7 I[i] (decide ((k0:Int)=0)) f (sets++z) m' (A++y) (λ h=>dY Ω) c4 g b9.1 λ v=>(b9.2 v).trans ⟨?_,?_⟩) ?_))
     ·rintro⟨j,r,e,E,G⟩;exact⟨r,⟨j,e,E⟩,G⟩
     ·rintro⟨r,⟨j,e,E⟩,G⟩;exact⟨j,r,e,E,G⟩
     rintro _ ⟨z2,m2,y2,c6,rfl,e3,c7,O,c8⟩;refine aZ3 (aZ2 ⟨z++z2,m2,y++y2,c6,?_,by rw[←aaD,←aaD];exact e3,?_,λ hf d k b0 N b4 l Q u b5=> ?_⟩)
     ·dsimp only;rw[ak Ω,aaD,aaD]
     ·rw[fo,fd,aaq];rw[aci,Nat.sub_zero]at O;by_cases h0:rd=0
      ·rw[if_pos h0]at D ⊢;rw[a9.2 h0]at O ⊢;rw[if_pos (dY Ω)]at O;omega
      ·rw[if_neg h0]at D ⊢;rw[if_neg (by rw[decide_eq_true_eq];omega)]at O;omega
     ·rw[←aaD,←aaD];rcases aa1 (aa9 b0)with h|rfl
      ·exact(Z (c7 hf) d k h N b4 l Q u b5).more λ x U=>⟨(u x U).1,by have:=(u x U).2;omega⟩
      ·rw[c5]at N;have N:k0=k:=by have:=aak N;omega
       subst N;refine c8 hf l (by simpa using Q) u ?_;rcases b5 with h|h
       ·exact .inl (dY Ω)
       ·exact .inr h
    ·have a9: ¬(k0=0 ↔ rd=0):=by
      intro h
      have:(decide ((k0:Int)=0)==decide (rd=0))=true:=by
       rw[beq_iff_eq];exact decide_eq_decide.2 Ω
      rw[this]at he;cases he
     refine aZ3 (aZ2 ⟨z,m',y,f,by dsimp only;rw[ak Ω],g,?_,λ hf d k b0 N b4 l Q u b5=> ?_⟩)
     ·rw[fo,fd];by_cases h0:rd=0
      ·rw[if_pos h0]at D ⊢;omega
      ·rw[if_neg h0]at D ⊢;have:k0=0:=by omega
       rw[this,Nat.pow_zero,Nat.pow_zero];omega
     rcases aa1 (aa9 b0)with h|rfl
     ·exact Z hf d k h N b4 l Q u b5
     ·rw[c5]at N;have N:k0=k:=by have:=aak N;omega
      subst N;exact absurd b4 a9
   ·rintro t ⟨z,m',y,f,rfl,g,D,Z⟩;unfold eF.L1;dsimp only;rw[aar]at D;exact aY3 Ω (aZ4 ⟨z,m',y,f,rfl,g,D,λ hf d k N=>Z hf d k (aad.1 N).1 N⟩)
   ·rintro _ ⟨z,m',y,f,rfl,g,D,Z⟩
    have e4:(A++y).length<=lY al done.toNat:=by
     rw[aaq];split at d7
     ·rename_i h0;rw[if_pos h0]at D;omega
     ·rename_i h0;rw[if_neg h0]at D;omega
    refine aY9 (λ hf=>aZ3 (aZ4 (.inl ⟨rfl,λ k k3 E G=> ?_⟩))) (λ hf=> ?_)
    ·have hf:f=true:=hf;have g1:=afd hS g.1 g.2.2.2.2.2;have g2:2^S.toNat<=2^k:=abN Ω Ω;have g3:done.toNat<=2^k:=by rw[aaq]at g1;omega
     have g4:=XD (al:=al) g3;rcases g.2.2.2.2.1.2 hf with h|h
     ·omega
     ·omega
    have hf:f=false:=hf;subst hf;have c4:done<=((sets++z).length:Int):=by rw[aaq];omega
    have i8:rd<=302:=by omega
    have e5:IntKind.wrap .i64 (rd+1)=rd+1:=jX _ Ω Ω;have g9: ∀x,bg done x->bg (sets.length:Int) x:=λ x h=>⟨h.1,by have:=h.2;omega⟩;refine aZ2 ⟨⟨rd+1,sets++z,m',A++y,done,((sets++z).length:Int),by dsimp only;rw[e5],g,⟨Ω,by rw[if_neg Ω];exact e4⟩,?_,Ω,c4,acY _,⟨λ _=>rfl,λ h=>Ω⟩,λ _ d hs=> ?_,λ d k hs l Q u=> ?_⟩,by dsimp only;rw[e5],rfl⟩
    ·omega
    ·by_cases a4:rd=0
     ·exact Z rfl d 0 hs Ω [] rfl Θ (.inl rfl)
     ·exact(hz a4 d hs).more Θ
    ·by_cases a4:rd=0
     ·have h0:=d8.2 a4;have U:=u l[0] (aaf Ω);exact absurd U.1 (by have:=U.2;omega)
     ·by_cases e6: ∃x∈l,old<=x
      ·exact Z rfl d (k+1) hs Ω l Q u (.inr e6)
      ·refine(hp d k hs l Q λ x U=>⟨(u x U).1,?_⟩).more λ x U=>g9 x (u x U);rcases acs x old with h|h
       ·exact h
       ·exact absurd ⟨x,U,h⟩ e6
  have c0: ∀s':LI×Int×LI×LR×Int×LI×LR×Int×Int×LI×LR×LL×LL×KM×LR×Int×Int×Bool,(rd=0\/old<done)->s'.2.2.2.2.2.2.2.1=rd+1->s'.2.2.2.2.2.2.2.2.2.2.2.2.2.2.2.1=done->
   (302-s'.2.2.2.2.2.2.2.2.2.2.2.2.2.2.2.1).toNat*2+(if s'.2.2.2.2.2.2.2.1=0 then 1 else 0)<(302-old).toNat*2+if rd=0 then 1 else 0:=by
   intro s' hg e1 e2;rw[e1,e2,if_neg Ω];split<;>omega
  refine aY2 (λ h=> ?_) (λ h=> ?_)
  ·have hg:rd=0\/old<done:= .inl (fZ h);exact aZ3 (aX6 rfl ((b8 hg).mono (λ s' hs=>⟨hs.1,c0 s' hg hs.2.1 hs.2.2⟩) λ t ht=>ht))
  ·have a4:rd≠0:=dec_not h;refine aZ3 (aY9 (λ G=> ?_) (λ G=> ?_))
   ·have hg:rd=0\/old<done:= .inr (fZ G);exact(b8 hg).mono (λ s' hs=>⟨hs.1,c0 s' hg hs.2.1 hs.2.2⟩) λ t ht=>ht
   ·have G: ¬old<done:=dec_not G;have e1:=d8.1 a4;refine aZ4 (.inr ⟨sets,m,A,old,done,rfl,K,λ d k N l Q u=> ?_⟩)
    cases k with
    |zero=>
     have:l= []:=aav Q;rw[this];exact hz a4 d N
    |succ k=>exact hp d k N l Q λ x U=>⟨(u x U).1,by have:=(u x U).2;omega⟩
 ·refine⟨0,[],some [],[],0,0,rfl,⟨⟨Θ,[],rfl,λ n s h=>by simp at h,λ s v h G=>by simp[oV]at G⟩,λ r h=>by simp at h,Θ,Θ,⟨λ _=>⟨Θ,Θ⟩,λ h=>by cases h⟩,Θ⟩,⟨Ω,Θ⟩,Ω,Ω,Ω,Θ,⟨λ h=>absurd rfl h,λ _=>rfl⟩,λ h=>absurd rfl h,λ d k N l Q u=> ?_⟩;have U:=u l[0] (aaf Ω);exact absurd U.1 (by have:=U.2;omega)
 rintro _ (⟨rfl,h6⟩|⟨sets,m,A,old,done,rfl,K,e7⟩)
 ·exact aZ0 ⟨λ h=>(by cases h),λ _=> .inr ⟨rfl,h6⟩⟩
 dsimp only;have c9:=(K.2.2.2.2.1.1 rfl)
 have e8: ∀r∈A,r.2.1.length<=3:=λ r hr=>by
  obtain⟨a1,a2,_⟩:=K.2.1 r hr;obtain⟨h8,e⟩:=aad.1 a2;have:=(c2.2 _ h8).2;omega
 refine aZ1 (f8 A Ω e8) λ d0 f0=> ?_;obtain⟨k6,d1⟩:=f0;have g:SOk S al rs sets m d0 false:=⟨K.1,λ r hr=>K.2.1 r ((d1 r).1 hr),K.2.2.1,Ω,⟨λ _=>⟨c9.1,Ω⟩,λ h=>by cases h⟩,K.2.2.2.2.2⟩;refine aZ1 (f7 S fin rs hw.1 Ω (by have:=hw.2.2.1;omega) hw.2.2.2.2.1) λ R hR=> ?_;obtain⟨h9,f1⟩:=hR
 refine aZ1 (R:=λ t=> ∃(fin':LI) (sl:LL),t=((0:Int),([]:LI),([]:LR),(sets.length:Int),fin',d0,sl)/\fin'.length<=sets.length/\ ∀n:Int,n∈fin' ↔ ∃s,0<=n/\sets[n.toNat]? =some s/\ ∃v:Int,0<=v/\FY s v=true/\v∈fin)
  (aZ8 (L:=λ n=>eF.L3 (Li n) (C n)) (aZ6 sets.length (λ i t=> ∃(fin':LI) (sl:LL),t=((0:Int),([]:LI),([]:LR),(sets.length:Int),fin',d0,R,sl,S,fin,rs,I,sets,m,A,old,done,false,(sets.length:Int),(i:Int))/\fin'.length<=i/\sl.length<=i/\
   ∀n:Int,n∈fin' ↔ ∃s,0<=n/\n<(i:Int)/\sets[n.toNat]? =some s/\ ∃v:Int,0<=v/\FY s v=true/\v∈fin) ?_ ?_ ⟨[],[],rfl,Θ,Θ,λ n=>⟨λ h=>by simp at h,λ⟨s,E,G,_⟩=>absurd E Ω⟩⟩)) ?_
 ·rintro i t hi ⟨fin',sl,rfl,d2,b6,b7⟩;unfold eF.L3;dsimp only;have f2:=K.1.1 _ (aaf hi);refine aY1 Ω (aZ9 (rng Ω Ω) ?_);rw[aam];refine aY6 hi λ s _ hs=> ?_;rw[aac hi]at hs;cases hs;refine aZ7 (f9 _ f2) λ l Q=> ?_;obtain⟨j0,Q⟩:=Q
  have d3: ∀v∈l,bg S v:=λ v hv=>by
   obtain⟨a1,a2,a3⟩:=(Q v).1 hv;exact⟨a1,K.2.2.2.2.2 _ (aaf hi) v a1 a3⟩
  have i1:l.length<=1000000:=by omega
  refine aZ9 (jK Δ) (aZ7 (hC S l R h9 d3 i1) λ b hb=> ?_)
  have b2:b=true ↔ ∃v:Int,0<=v/\FY sets[i] v=true/\v∈fin:=by
   rw[hb,ab8];constructor
   ·rintro⟨v,E,G⟩;obtain⟨a1,a2,a3⟩:=(Q v).1 E;exact⟨v,a1,a3,(f1 v (d3 v E)).1 G⟩
   ·rintro⟨v,E,G,W⟩;have hm:v∈l:=(Q v).2 ⟨E,adi f2 G E,G⟩;exact⟨v,hm,(f1 v (d3 v hm)).2 W⟩
  refine aY2 (λ hc=> ?_) (λ hc=> ?_)
  ·refine aY0 (jK Δ) (aZ3 (aZ2 ⟨_,_,by rw[ak Ω],Δ,Δ,λ n=> ?_⟩));simp only[abA,aap,aah,b7];constructor
   ·rintro(⟨s,E,G,W⟩|rfl)
    ·exact⟨s,E,Ω,W⟩
    ·exact⟨sets[i],Ω,Ω,by rw[aam];exact aac hi,b2.1 hc⟩
   ·rintro⟨s,E,G,W⟩;by_cases e:n=(i:Int)
    ·exact .inr e
    ·exact .inl ⟨s,E,Ω,W⟩
  ·refine aZ3 (aZ2 ⟨fin',_,by rw[ak Ω],Ω,Δ,λ n=> ?_⟩);rw[b7];constructor
   ·rintro⟨s,E,G,W⟩;exact⟨s,E,Ω,W⟩
   ·rintro⟨s,E,G,W,h4⟩
    have:n≠(i:Int):=by
     rintro rfl;rw[aam,aac hi]at W;cases W;rw[b2.2 h4]at hc;cases hc
    exact⟨s,E,Ω,W,h4⟩
 ·rintro t ⟨fin',sl,rfl,d2,b6,b7⟩;unfold eF.L3;dsimp only;refine aY3 Ω (aZ4 ⟨fin',sl,rfl,d2,λ n=>(b7 n).trans ⟨λ⟨s,E,G,W⟩=>⟨s,E,W⟩,λ⟨s,E,W⟩=>⟨s,E,?_,W⟩⟩⟩);have:=(aad.1 W.1).1;omega
 ·rintro _ ⟨fin',sl,rfl,d2,b6⟩;dsimp only
  obtain⟨hu,f3⟩:=VR (fin':=fin') hw d5 g (λ d k N l Q u ⟨r,E,G⟩=>by
   obtain⟨q,hq⟩:=e7 d k N l Q u ⟨r,E,G⟩;exact⟨q,(d1 _).2 hq⟩) b6
  refine aZ0 ⟨λ _=>⟨⟨by dsimp only;omega,by dsimp only;omega,by dsimp only;omega,by dsimp only;omega,λ q hq=> ?_,λ r hr=> ?_⟩,by dsimp only;omega,hu,f3,λ r hr=> ?_,by dsimp only;omega,λ r hr=>⟨(g.2.1 r hr).1,(g.2.1 r hr).2.1⟩⟩,λ _=> .inl rfl⟩
  ·obtain⟨s,E,G,_⟩:=(b6 q).1 hq;have:=(aad.1 G).1;exact⟨E,by dsimp only;omega⟩
  ·have h:=g.2.1 r hr;exact⟨h.2.2.2.1,h.2.2.1,e8 r ((d1 r).1 hr)⟩
  ·have h:=g.2.1 r hr;have:=(aad.1 h.2.1).1;exact⟨by have:=h.1;omega,by have:=h.1;omega⟩
theorem aiW {p:Nat->Ab->Option Ab} {q:Nat->Aa->Option AW} {Tr:Nat->Aa->Option Aq}
 {u:Nat->Aa->Option AE} (al:LI) (S:Int) (fin:LI) (rs:LR) (I:bW al (S,fin,rs)->S<=8\/Iy rs)
 (v:bW al (S,fin,rs)->Sp p (S,fin,rs) (λ r=>r=(S,fin,rs))) (y:Sp q (al,S,fin,rs) (λ r=>(bW al (S,fin,rs)/\r.2=0/\(r.1=true->Det rs)/\(Iy rs->r.1=true))\/(¬bW al (S,fin,rs)/\r.2=1)))
 (z:bW al (S,fin,rs)->Sp Tr (al,S,fin,rs) (λ r=>r.2.2.2=0/\Wf r.1 r.2.1 r.2.2.1/\(r.1<=S/\bW al (r.1,r.2.1,r.2.2.1)/\ ∀k:Nat,UpB rs fin k->r.1<=(k:Int))/\ ∀t,Acc r.2.2.1 r.2.1 t ↔ Acc rs fin t))
 (A: ∀(f:Int) (fin':LI) (d:LR),f<=8->Wf f fin' d->Sp u (al,f,fin',d) (λ r=>(r.2.2.2.2=0->Yv al fin' d (r.1,r.2.1,r.2.2.1))/\(bW al (f,fin',d)->r.2.2.2.2=0\/r.2.2.2.2=3/\Yx al f))):
 Sp (λ n=>DN.P (p n) (q n) (Tr n) (u n) n) (al,S,fin,rs) (λ r=>(r.2.2.2=0->bW al (S,fin,rs)/\Yv al fin rs (r.1,r.2.1,r.2.2.1))/\(bW al (S,fin,rs)->r.2.2.2=0\/r.2.2.2=3/\ ¬Iy rs/\ ¬UG al fin rs)/\(¬bW al (S,fin,rs)->r.2.2.2=1)):=by
 show Tt (λ n=>DN.P (p n) (q n) (Tr n) (u n) n (al,S,fin,rs)) _;unfold DN.P;dsimp only;refine aZ1 y λ r B=> ?_;rcases B with⟨hv,L,M,C⟩|⟨h,e⟩
 ·refine aW (by rw[L];rfl) (aY4 (λ m=> ?_) (λ m=> ?_))
  ·refine aZ1 (v hv) ?_;rintro _ rfl;refine aZ0 ⟨λ _=>⟨hv,hv.wf,by have:=hv.2.2.1;dsimp only at this ⊢;omega,M m,λ t=>ab7,λ r B=> ?_,by have:=hv.2.2.2.1;dsimp only at this ⊢;omega,hv.ar⟩,λ _=> .inl rfl,λ h=>absurd hv h⟩;have e:=hv.rule B;have K:=hv.1.1;exact⟨by have:=e.1;omega,by have:=e.2.1;omega⟩
  ·have g: ¬Iy rs:=λ h=>by rw[C h]at m;cases m
   have I:S<=8:=(I hv).resolve_right g;refine aZ1 (z hv) λ r2 D=> ?_;obtain⟨N,O,⟨Q,E,G⟩,R⟩:=D;refine aW (by rw[N];rfl) (aZ1 (A _ _ _ Ω O) λ r3 i=>aZ0 ⟨λ h=> ?_,λ _=>(i.2 E).imp id λ⟨e,K⟩=>⟨e,g,λ⟨k,U,W,Y⟩=>K k (G k Y) U W⟩,λ h=>absurd hv h⟩);obtain⟨Z,d2,d3,d4,d5,d6,d7⟩:=i.1 h;exact⟨hv,Z,d2,d3,λ t=>(d4 t).trans (R t),d5,d6,d7⟩
 ·refine aX7 (by rw[e];rfl) (aZ0 ⟨λ l=> ?_,λ l=>absurd l h,λ _=>e⟩);dsimp only at l;rw[e]at l;cases l
end Go.Bk
end
