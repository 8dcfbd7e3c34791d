import Derived.Test.YtdchbjmbgecejaaGreatDoorMv
set_option linter.unusedVariables false
noncomputable section
namespace Go.Bk
open Go Go.AM
def wP (r:Rule):LI:=r.1::(r.2.1++[r.2.2])
theorem ahv (r:Rule) (h:r.2.1.length<=1000):Sp H6.P r (λ k=>k=wP r):=by
 obtain⟨s,l,q⟩:=r;show Tt (λ n=>H6.P n (s,l,q)) _;unfold H6.P;dsimp only at h ⊢;refine aX (jK Δ) (aX (jK ?_) (aZ0 rfl));show List.length ([s]++l)+_<=_;simp;omega
theorem YV {a b:LI} {i:Nat} (d:i<a.length) (e:i<b.length):cmpL (a.drop i) (b.drop i)=bif decide (a[i]=b[i])then cmpL (a.drop (i+1)) (b.drop (i+1))else GK a[i] b[i]:=by
 rw[aaI d,aaI e,vH]
theorem aho (a b:LI) (m:a.length<=1002):Sp rW.P (a,b) (λ v=>v=cmpL a b):=by
 show Tt (λ n=>rW.P n (a,b)) _;unfold rW.P;dsimp only;have e:min (a.length:Int) (b.length:Int)=((min a.length b.length:Nat):Int):=by omega
 rw[e];refine aZ1 (R:=λ q=>q=Sum.inr (cmpL a b)\/q=Sum.inl (a,b)/\cmpL a b=cmpL (a.drop (min a.length b.length)) (b.drop (min a.length b.length))) (aZ8 (aZ6 (min a.length b.length) (λ i s=>s=(a,b,((min a.length b.length:Nat):Int),(i:Int))/\cmpL a b=cmpL (a.drop i) (b.drop i)) ?_ ?_ ⟨rfl,rfl⟩)) ?_
 ·rintro i s p ⟨rfl,f⟩;unfold rW.L1;dsimp only;have g:i<a.length:=by omega
  have k:i<b.length:=by omega
  rw[YV g k]at f;refine aY1 Ω (aY g (aY k (aY9 (λ h=>aZ4 (.inl ?_)) (λ h=>aY g (aY k (aY9 (λ d=>aZ4 (.inl ?_)) (λ d=>aZ2 ⟨by rw[ak Ω],?_⟩)))))))
  ·have h:=fZ h;rw[f,decide_eq_false Ω,cond_false];unfold GK;rw[dY h];rfl
  ·have h:=dec_not h;have d:=fZ d;rw[f,decide_eq_false Ω,cond_false];unfold GK;rw[decide_eq_false h,dY d];rfl
  ·have h:=dec_not h;have d:=dec_not d;rw[f,dY Ω];rfl
 ·rintro s ⟨rfl,f⟩;unfold rW.L1;dsimp only;exact aY3 Ω (aZ4 (.inr ⟨rfl,f⟩))
 ·rintro q (rfl|⟨rfl,f⟩)
  ·exact aZ0 rfl
  ·rw[f];refine aY4 (λ h=>aZ0 ?_) (λ h=>aY4 (λ d=>aZ0 ?_) (λ d=>aZ0 ?_))
   ·have h:=fZ h;rw[aa3 Ω,aaI Ω];rfl
   ·have d:=fZ d;rw[aa3 (l:=b) Ω,aaI Ω];rfl
   ·have h:=dec_not h;have d:=dec_not d;rw[aa3 Ω,aa3 Ω];rfl
theorem aeH {r d:Rule} (h:wP r=wP d):r=d:=by
 unfold wP at h;obtain⟨e,f⟩:=abJ h;obtain⟨g,i⟩:=List.append_inj' f rfl;exact ab9 e (ab9 g (by simpa using i))
theorem Wj: ∀{l m:LI} (a b:Int),l.length=m.length->cmpL (l++[a]) (m++[b])=bif decide (cmpL l m=0)then GK a b else cmpL l m
 | [],[],a,b,_=>by
   show cmpL [a] [b]=GK a b;rw[vH];by_cases e:a=b
   ·rw[dY e,e,sQ.refl];rfl
   ·rw[decide_eq_false e];rfl
 |x::l,y::m,a,b,h=>by
  rw[acJ,acJ,vH,vH,Wj a b (by simpa using h)];by_cases e:x=y
  ·simp[e]
  ·have:GK x y≠0:=λ h=>e (sQ.eq _ _ h);simp[e,this]
theorem aeJ {r d:Rule} (h:r.1=d.1->r.2.1.length=d.2.1.length):cmpL (wP r) (wP d)=vI r d:=by
 unfold wP vI;rw[vH];by_cases e:r.1=d.1
 ·rw[dY e,cond_true,cond_true,Wj _ _ (h e)]
 ·rw[decide_eq_false e];rfl
section
variable {K:Nat->Rule->Option LI} {L:Nat->Au->Option Int}
theorem aht (hK: ∀r:Rule,r.2.1.length<=1000->Sp K r (λ k=>k=wP r)) (hL: ∀a b:LI,a.length<=1002->Sp L (a,b) (λ v=>v=cmpL a b)) (x:LR) (hx:x.length<=1000000000) (U: ∀r∈x,r.2.1.length<=1000):
 Sp (λ n=>mQ.P (L n) (K n) n) x (λ r:LR=>r.length<=x.length/\(∀y,y∈r ↔ y∈x)/\r.Pairwise λ a b=>cmpL (wP a) (wP b)<0):=by
 show Tt (λ n=>mQ.P (L n) (K n) n x) _;unfold mQ.P;refine aZ1 (R:=λ r:LR=>r.length<=x.length/\(∀y,y∈r ↔ y∈x)/\r.Pairwise λ a b=>cmpL (wP a) (wP b)<0) (aZ8 (aZ6 x.length (λ i s=> ∃out:LR,out.length<=i/\((∀y,y∈out ↔ y∈x.take i)/\out.Pairwise λ a b=>cmpL (wP a) (wP b)<0)/\s=(out,x,(x.length:Int),(i:Int))) ?_ ?_ ⟨[],Θ,⟨Θ,.nil⟩,rfl⟩)) λ r U=>aZ0 U
 ·rintro i s E ⟨out,ho,⟨p,d⟩,rfl⟩;have W:x[i]∈x:=aaf E;have B: ∀y∈out,y.2.1.length<=1000:=λ y g=>U y (abr ((p y).1 g));unfold mQ.L2;dsimp only;refine aY1 Ω (aY E ?_);refine aZ7 (R:=λ t=> ∃lo:Nat,(lo<=out.length/\(∀j y,j<lo->out[j]? =some y->cmpL (wP y) (wP x[i])<0)/\(∀j y,lo<=j->out[j]? =some y->0<=cmpL (wP y) (wP x[i])))/\t=(out,x[i].1,x[i].2.1,x[i].2.2,(lo:Int),x,(x.length:Int),(i:Int))) (aZ8 (aX1 (λ s=> ∃lo E:Nat,lo<=E/\(E<=out.length/\(∀j y,j<lo->out[j]? =some y->cmpL (wP y) (wP x[i])<0)/\(∀j y,E<=j->out[j]? =some y->0<=cmpL (wP y) (wP x[i])))/\s=(out,x[i].1,x[i].2.1,x[i].2.2,(lo:Int),(E:Int),x,(x.length:Int),(i:Int))) (λ s=>(s.2.2.2.2.2.1-s.2.2.2.2.1).toNat) ?_ ⟨0,out.length,Ω,⟨Ω,λ j y h=>absurd h Ω,λ j y h h'=>absurd (aad.1 h').1 Ω⟩,rfl⟩)) ?_
  ·rintro s ⟨lo,f,h1,⟨h2,C,q⟩,rfl⟩;unfold mQ.L1;dsimp only;refine aY9 (λ Y=> ?_) (λ a9=>aZ4 ⟨lo,⟨Ω,C,λ j y h=>q j y (by have:=dec_not a9;omega)⟩,rfl⟩);have Y:=fZ Y;have hm:(lo+f)/2<f:=by omega
   have c6:lo<=(lo+f)/2:=by omega
   rw[agL Ω h1];refine aZ9 Ξ (aZ9 (rng Ω Ω) ?_);rw[aam];refine aY6 Ω λ e Q l=> ?_;have b0:(wP e).length<=1002:=by have:=B e Q;simp[wP];omega
   refine aZ7 (hK e (B e Q)) λ r7 S=>aZ7 (hK (x[i].1,x[i].2.1,x[i].2.2) (U _ W)) λ r8 h8=>aZ7 (hL r7 r8 (by rw[S];exact b0)) λ Z m=> ?_;rw[S,h8]at m;have m:Z=cmpL (wP e) (wP x[i]):=m;refine aY2 (λ hc=> ?_) (λ hc=> ?_)
   ·have hc:=fZ hc;refine aZ3 (aZ2 ⟨⟨(lo+f)/2+1,f,Ω,⟨h2,λ j y hj g=> ?_,q⟩,?_⟩,?_⟩)
    ·by_cases N:j=(lo+f)/2
     ·rw[N,l]at g;cases g;omega
     ·have u:=aaN.1 d j ((lo+f)/2) (aad.1 g).1 Ω Ω;rw[(aad.1 g).2,(aad.1 l).2]at u;exact IB.lt u Ω
    ·rw[ak Ω]
    ·dsimp only;rw[ak Ω];omega
   ·have hc:=dec_not hc;refine aZ3 (aZ2 ⟨⟨lo,(lo+f)/2,Ω,⟨Ω,C,λ j y hj g=> ?_⟩,rfl⟩,?_⟩)
    ·by_cases N:j=(lo+f)/2
     ·rw[N,l]at g;cases g;omega
     ·have u:=aaN.1 d ((lo+f)/2) j Ω (aad.1 g).1 Ω;rw[(aad.1 g).2,(aad.1 l).2]at u;apply aaT;intro c3;have:=IB.lt u (show cmpL (wP y) (wP x[i])<=0 by omega);omega
    dsimp only;omega
  ·rintro t ⟨lo,⟨b3,C,q⟩,rfl⟩;dsimp only;refine aZ7 (R:=λ t=> ∃b:Bool,(b=false->x[i]∈out)/\(b=true-> ∀y,out[lo]? =some y->cmpL (wP y) (wP x[i])≠0)/\t=(out,x[i].1,x[i].2.1,x[i].2.2,(lo:Int),x,(x.length:Int),(i:Int),b)) ?_ ?_
   ·refine aY4 (λ h=>aZ0 ⟨_,λ h=>(by cases h),λ _ y g=>absurd (aad.1 g).1 (by have:=fZ h;omega),rfl⟩) (λ h=>aX (rng Ω (by have:=dec_not h;omega)) ?_);have:=dec_not h;rw[aam];refine aX8 Ω λ e Q l=>aZ1 (hK e (B e Q)) λ r7 S=>aZ1 (hK (x[i].1,x[i].2.1,x[i].2.2) (U _ W)) λ r8 h8=>aZ1 (hL r7 r8 (by rw[S];have:=B e Q;simp[wP];omega)) λ Z m=>aZ0 ⟨_,λ O=> ?_,λ O y g=> ?_,rfl⟩
    ·rw[S,h8]at m;have m:Z=cmpL (wP e) (wP x[i]):=m;have:Z=0:=by simpa using O
     rw[←aeH (IB.eq _ _ (m.symm.trans this))];exact Q
    ·rw[S,h8]at m;have m:Z=cmpL (wP e) (wP x[i]):=m;rw[l]at g;cases g;rw[←m];simpa using O
   ·rintro _ ⟨b,b4,b5,rfl⟩;dsimp only;have a2: ∀y,y∈x.take (i+1) ↔ y∈x.take i\/y=x[i]:=λ y=>by rw[aat,aac E,aap,aaQ,aah]
    refine aY2 (λ b6=> ?_) (λ b7=> ?_)
    ·have a3:(List.append out [((0:Int),([]:LI),(0:Int))]).length=out.length+1:=by
      show(out++_).length=_;simp
     have a4:IntKind.wrap .i64 ((lo:Int)+1)=((lo+1:Nat):Int):=ak Ω;rw[a4];refine aY0 (jK Δ) (aY0 (by rw[a3];simp;omega) (aY0 (by rw[a3];simp;omega) ?_));simp only[aam];have G:=Zj out ((0:Int),([]:LI),(0:Int)) (x[i].1,x[i].2.1,x[i].2.2) lo b3;have z:=congrArg List.length G;rw[aa7]at z;have A:(out.take lo++(x[i].1,x[i].2.1,x[i].2.2)::out.drop lo).length=out.length+1:=by simp;omega
     refine aY0 (rng Ω (by rw[z,A];omega)) (aY5 (aY6 (by rw[z,A];omega) λ e _ _=>aZ3 ?_));refine aZ2 ⟨out.take lo++(x[i].1,x[i].2.1,x[i].2.2)::out.drop lo,Ω,⟨λ y=> ?_,?_⟩,?_⟩
     ·rw[a2,←p y,aap,aaU];constructor
      ·rintro(h|rfl|h)
       ·exact .inl (abr h)
       ·exact .inr rfl
       ·exact .inl (abD h)
      ·rintro(h|rfl)
       ·rw[←abb lo out,aap]at h;exact h.elim .inl λ h=> .inr (.inr h)
       ·exact .inr (.inl rfl)
     ·have D:=d;rw[←abb lo out,abY]at D;refine abY.2 ⟨D.1,ab4.2 ⟨λ y g=> ?_,D.2.1⟩,λ a ha b O=> ?_⟩
      ·obtain⟨j,hj,rfl⟩:=aay g;have a5:lo+j<out.length:=by simp at hj;omega
       have I:out[lo+j]? =some (out.drop lo)[j]:=by rw[aac a5,List.getElem_drop]
       have h0:=q (lo+j) _ Ω I
       have c7:cmpL (wP (out.drop lo)[j]) (wP x[i])≠0:=by
        by_cases j0:j=0
        ·subst j0;exact b5 b6 _ I
        ·intro b8;have M:lo<out.length:=by omega
         have h1:=aaN.1 d lo (lo+j) M a5 Ω;have h2:=q lo _ (aaw _) (aac M);rw[List.getElem_drop]at b8;have:=IB.lt h1 (show cmpL (wP out[lo+j]) (wP x[i])<=0 by omega);omega
       have h4:=IB.anti (wP (out.drop lo)[j]) (wP x[i]);show cmpL (wP x[i]) (wP (out.drop lo)[j])<0;omega
      ·have b9:cmpL (wP a) (wP x[i])<0:=by
        obtain⟨j,hj,rfl⟩:=aay ha;rw[abV];simp at hj;exact C j _ Ω (aac Ω)
       rcases aaU.1 O with rfl|O
       ·exact b9
       ·exact D.2.2 a ha b O
     ·dsimp only;rw[G,ak Ω]
    ·refine aZ3 (aZ2 ⟨out,Ω,⟨λ y=> ?_,d⟩,?_⟩)
     ·rw[a2,←p y];exact⟨.inl,λ h=>h.elim id λ e=>by rw[e];exact b4 b7⟩
     rw[ak Ω]
 ·rintro s ⟨out,ho,⟨p,d⟩,rfl⟩;unfold mQ.L2;dsimp only;exact aY3 Ω (aZ4 ⟨ho,λ y=>by rw[p y,aar],d⟩)
abbrev ArC (x:LR):Prop:= ∀r∈x,∀d∈x,r.1=d.1->r.2.1.length=d.2.1.length
theorem NH {x r:LR} (e:ArC x) (d: ∀y,y∈r ↔ y∈x) (f:r.Pairwise λ a b=>cmpL (wP a) (wP b)<0):r.Pairwise λ a b=>vI a b<0:=
 f.imp_of_mem λ{a b} g i h=>by rw[←aeJ (e a ((d a).1 g) b ((d b).1 i))];exact h
end
def Snd (S:Int) (W:Int->Prop) (R:List Bool):Prop:= ∀s,bg S s->bat R s=true->W s
theorem adk {S:Int} {W:Int->Prop} {n:Nat}:Snd S W (List.replicate n false):=λ s _ h=>by
 unfold bat at h;rw[abn]at h;split at h<;>cases h
theorem Snd.set {S s:Int} {W:Int->Prop} {R:List Bool} (h:Snd S W R) (hs:bg S s) (g:W s):Snd S W (R.set s.toNat true):=λ t d f=>by
 by_cases e:t=s
 ·rw[e];exact g
 ·refine h t d ?_;unfold bat at f ⊢
  rwa [aa5 (by have:=d.1;have:=hs.1;omega)]at f
theorem Snd.clear {S:Int} {i:Nat} {W:Int->Prop} {R:List Bool} (h:Snd S W R):Snd S W (R.set i false):=λ t e d=>by
 refine h t e ?_;unfold bat at d ⊢;rw[aaR]at d;split at d
 ·split at d<;>cases d
 ·exact d
theorem Ul (S:Int) (fin:LI) (rs:LR) (h:Wf S fin rs):Sp gI.P (S,fin,rs) (λ r=>r.length=S.toNat/\Closed rs r/\Snd S (Rch rs) r):=by
 obtain⟨U,Z,_,W,_,E⟩:=h;show Tt (λ n=>gI.P n (S,fin,rs)) _;unfold gI.P;dsimp only;refine aX (tV U Ω) (aZ1 (R:=λ r:List Bool=>r.length=S.toNat/\Closed rs r/\Snd S (Rch rs) r) (aZ8 (aX1 (λ s=> ∃(out:List Bool) (more:Bool),out.length=S.toNat/\((more=false->Closed rs out)/\Snd S (Rch rs) out)/\s=(S,fin,rs,out,more)) (λ s=>if s.2.2.2.2 then nf s.2.2.2.1+1 else 0) ?_ ⟨_,true,Θ,⟨λ h=>(by cases h),adk⟩,rfl⟩)) λ r E=>aZ0 E);rintro s ⟨out,more,O,⟨G,B⟩,rfl⟩;unfold gI.L3;dsimp only;refine aY9 (λ I=> ?_) (λ I=>aZ4 ⟨O,G I,B⟩);subst I;refine aZ7 (R:=λ t=> ∃(d:List Bool) (f:Bool),(d.length=S.toNat/\Snd S (Rch rs) d)/\nf d<=nf out/\(f=true->nf d<nf out)/\(f=false->d=out/\ ∀r∈rs,(∀s∈r.2.1,bat out s=true)->bat out r.2.2=true)/\t=(S,fin,rs,d,f)) (aZ8 (aZ6 rs.length (λ i s=> ∃(d:List Bool) (f:Bool),(d.length=S.toNat/\Snd S (Rch rs) d)/\nf d<=nf out/\(f=true->nf d<nf out)/\(f=false->d=out/\ ∀r∈rs.take i,(∀s∈r.2.1,bat out s=true)->bat out r.2.2=true)/\s=(S,fin,rs,d,f,rs,(rs.length:Int),(i:Int))) ?_ ?_ ⟨out,false,⟨O,B⟩,aaw _,λ h=>(by cases h),λ _=>⟨rfl,Θ⟩,rfl⟩)) ?_
 ·rintro i s D ⟨d,f,⟨p,g⟩,A,q,k,rfl⟩;unfold gI.L2;dsimp only;obtain⟨l,u,Y⟩:=E rs[i] (aaf D);refine aY1 Ω (aY D ?_);refine aZ7 (R:=λ t=> ∃b:Bool,b=rs[i].2.1.all (bat d)/\t=(S,fin,rs,d,f,rs[i].1,rs[i].2.1,rs[i].2.2,b,rs,(rs.length:Int),(i:Int))) (aZ8 (aZ6 rs[i].2.1.length (λ j s=> ∃b:Bool,b=(rs[i].2.1.take j).all (bat d)/\s=(S,fin,rs,d,f,rs[i].1,rs[i].2.1,rs[i].2.2,b,rs,(rs.length:Int),(i:Int),rs[i].2.1,((rs[i].2.1.length:Nat):Int),(j:Int))) ?_ ?_ ⟨true,rfl,rfl⟩)) ?_
  ·rintro j s K ⟨b,z,rfl⟩;unfold gI.L1;dsimp only;obtain⟨q0,q1⟩:=u rs[i].2.1[j] (aaf K);refine aY1 Ω (aY K (aY2 (λ v=> ?_) (λ v=> ?_)))
   ·exact aY0 (rng q0 Ω) (aY5 (aY6 Ω λ e _ C=>aZ3 (aZ2 ⟨e,PY K (z.symm.trans v) (YH C),by rw[ak Ω]⟩)))
   ·exact aZ3 (aZ2 ⟨false,YC (z.symm.trans v),by rw[ak Ω]⟩)
  ·rintro s ⟨b,z,rfl⟩;unfold gI.L1;dsimp only;rw[aar]at z;exact aY3 Ω (aZ4 ⟨b,z,rfl⟩)
  ·rintro _ ⟨b,z,rfl⟩;dsimp only;refine aZ7 (R:=λ t=> ∃c:Bool,(c=true->d[rs[i].2.2.toNat]? =some false/\b=true)/\(c=false->b=true->bat d rs[i].2.2=true)/\t=(S,fin,rs,d,f,rs[i].1,rs[i].2.1,rs[i].2.2,rs,(rs.length:Int),(i:Int),c)) ?_ ?_
   ·refine aY4 (λ v=>aX (rng l.1 (by have:=l.2;omega)) (aX8 (by have:=l.2;have:=l.1;omega) λ e _ C=>aZ0 ⟨!e,λ h=> ?_,λ h _=> ?_,rfl⟩)) (λ L=>aZ0 ⟨false,λ h=>(by cases h),λ _ h=>(by rw[L]at h;cases h),rfl⟩)
    ·cases e with
     |true=>cases h
     |false=>exact⟨C,v⟩
    ·cases e with
     |true=>exact YH C
     |false=>cases h
   ·rintro _ ⟨c,Q,M,rfl⟩;dsimp only;refine aY2 (λ y=> ?_) (λ y=> ?_)
    ·refine aY0 (rng l.1 (by have:=l.2;omega)) (aY5 (aY6 (by have:=l.2;have:=l.1;omega) λ e _ C=>aZ3 (aZ2 ⟨d.set rs[i].2.2.toNat true,true,⟨by simpa using p,g.set l (Ky (aaf D) λ s hs=>g s (u s hs) (aaV.1 (z.symm.trans (Q y).2) s hs))⟩,?_,λ _=> ?_,λ h=>(by cases h),by rw[ak Ω]⟩)))
     ·exact aaP (SQ _ _) A
     ·exact abp (Hg (Q y).1) A
    ·refine aZ3 (aZ2 ⟨_,f,⟨p,g⟩,A,q,λ h=>⟨(k h).1,λ r m N=> ?_⟩,by rw[ak Ω]⟩);rw[aat,aac D,aap]at m;rcases m with m|m
     ·exact(k h).2 r m N
     ·simp only[aaQ,aah]at m;subst m;rw[←(k h).1]at N ⊢;exact M y (by rw[z,aaV];exact N)
 ·rintro s ⟨d,f,⟨p,g⟩,A,q,k,rfl⟩;unfold gI.L2;dsimp only;rw[aar]at k;exact aY3 Ω (aZ4 ⟨d,f,⟨p,g⟩,A,q,k,rfl⟩)
 ·rintro _ ⟨d,f,⟨p,g⟩,A,q,k,rfl⟩;dsimp only;refine aZ2 ⟨⟨d,f,p,⟨λ h=>by rw[(k h).1];exact(k h).2,g⟩,rfl⟩,?_⟩;dsimp only
  cases f with
  |true=>have:=q rfl;simp;omega
  |false=>simp
theorem adx {F:Nat->Ab->Option (List Bool)} (S:Int) (fin:LI) (rs:LR) (h:Wf S fin rs) (hF:Sp F (S,fin,rs) (λ r=>r.length=S.toNat/\Closed rs r/\Snd S (Rch rs) r)):Sp (λ n=>fP.P (F n) n) (S,fin,rs) (λ r=>r.length=S.toNat/\(∀s,bg S s->bat r s=true->Up rs fin s)/\ ∃R,Closed rs R/\Useful fin rs R r):=by
 obtain⟨h0,h1,b9,c6,a1,hr⟩:=h;show Tt (λ n=>fP.P (F n) n (S,fin,rs)) _;unfold fP.P;dsimp only;refine aZ1 hF λ rch Y=>aX (tV h0 Ω) ?_;obtain⟨c0,a3,a4⟩:=Y;refine aZ1 (R:=λ t=> ∃out:List Bool,(out.length=S.toNat/\Snd S (Up rs fin) out)/\(∀s∈fin,bat rch s=true->bat out s=true)/\t=(S,fin,rs,rch,out)) (aZ8 (aZ6 fin.length (λ i s=> ∃out:List Bool,(out.length=S.toNat/\Snd S (Up rs fin) out)/\(∀s∈fin.take i,bat rch s=true->bat out s=true)/\s=(S,fin,rs,rch,out,fin,(fin.length:Int),(i:Int))) ?_ ?_ ⟨_,⟨Θ,adk⟩,Θ,rfl⟩)) ?_
 ·rintro i s O ⟨out,⟨ho,C⟩,hf,rfl⟩;unfold fP.L1;dsimp only;obtain⟨q0,q1⟩:=a1 fin[i] (aaf O);refine aY1 Ω (aY O (aZ9 (rng q0 Ω) (aY6 Ω λ e _ U=>aZ9 (rng q0 Ω) (aY6 Ω λ e' _ _=>aZ2 ⟨out.set fin[i].toNat e,⟨by simpa using ho,?_⟩,λ s hs B=> ?_,by rw[ak Ω]⟩))))
  ·cases e with
   |true=>exact C.set ⟨q0,q1⟩ (.fin (aaf O) (a4 _ ⟨q0,q1⟩ (DI U)))
   |false=>exact C.clear
  unfold bat;rw[aaR];split
  ·rename_i Z;rw[if_pos Ω];have:=DI U;unfold bat at B this;rw[Z,B]at this;exact this.symm
  ·rename_i Z;refine hf s ?_ B;rw[aat,aac O,aap]at hs;rcases hs with hs|hs
   ·exact hs
   ·simp only[aaQ,aah]at hs;rw[hs]at Z;exact absurd rfl Z
 ·rintro s ⟨out,⟨ho,C⟩,hf,rfl⟩;unfold fP.L1;dsimp only;rw[aar]at hf;exact aY3 Ω (aZ4 ⟨out,⟨ho,C⟩,hf,rfl⟩)
 rintro _ ⟨c1,⟨b1,a5⟩,b2,rfl⟩;dsimp only;refine aZ1 (R:=λ r:List Bool=>(r.length=S.toNat/\Snd S (Up rs fin) r)/\Useful fin rs rch r) (aZ8 (aX1 (λ s=> ∃(out:List Bool) (more:Bool),(out.length=S.toNat/\Snd S (Up rs fin) out)/\(∀s∈fin,bat rch s=true->bat out s=true)/\(more=false-> ∀r∈rs,bat out r.2.2=true->(∀s∈r.2.1,bat rch s=true)-> ∀s∈r.2.1,bat out s=true)/\s=(S,fin,rs,rch,out,more)) (λ s=>if s.2.2.2.2.2 then nf s.2.2.2.2.1+1 else 0) ?_ ⟨_,true,⟨b1,a5⟩,b2,λ h=>(by cases h),rfl⟩)) λ r hr=>aZ0 ⟨hr.1.1,hr.1.2,rch,a3,hr.2⟩;rintro s ⟨out,more,⟨ho,C⟩,a6,b3,rfl⟩;unfold fP.L5;dsimp only;refine aY9 (λ hm=> ?_) (λ hm=>aZ4 ⟨⟨ho,C⟩,a6,b3 hm⟩);subst hm;refine aZ7 (R:=λ t=> ∃(f:List Bool) (k:Bool),(f.length=S.toNat/\Snd S (Up rs fin) f)/\nf f<=nf out/\(k=true->nf f<nf out)/\(∀s,bat out s=true->bat f s=true)/\(k=false->f=out/\ ∀r∈rs,bat out r.2.2=true->(∀s∈r.2.1,bat rch s=true)-> ∀s∈r.2.1,bat out s=true)/\t=(S,fin,rs,rch,f,k)) (aZ8 (aZ6 rs.length (λ i s=> ∃(f:List Bool) (k:Bool),(f.length=S.toNat/\Snd S (Up rs fin) f)/\nf f<=nf out/\(k=true->nf f<nf out)/\(∀s,bat out s=true->bat f s=true)/\(k=false->f=out/\ ∀r∈rs.take i,bat out r.2.2=true->(∀s∈r.2.1,bat rch s=true)-> ∀s∈r.2.1,bat out s=true)/\s=(S,fin,rs,rch,f,k,rs,(rs.length:Int),(i:Int))) ?_ ?_ ⟨out,false,⟨ho,C⟩,aaw _,λ h=>(by cases h),λ _ h=>h,λ _=>⟨rfl,Θ⟩,rfl⟩)) ?_
 ·rintro i s O ⟨f,k,⟨K,q⟩,hn,L,M,z,rfl⟩;unfold fP.L4;dsimp only;obtain⟨N,D,c7⟩:=hr rs[i] (aaf O);refine aY1 Ω (aY O (aZ9 (rng N.1 (by have:=N.2;omega)) (aY6 (by have:=N.2;have:=N.1;omega) λ c8 _ a7=> ?_)));refine aZ7 (R:=λ t=> ∃b:Bool,b=(bat f rs[i].2.2&&rs[i].2.1.all (bat rch))/\t=(S,fin,rs,rch,f,k,rs[i].1,rs[i].2.1,rs[i].2.2,b,rs,(rs.length:Int),(i:Int))) (aZ8 (aZ6 rs[i].2.1.length (λ j s=> ∃b:Bool,b=(bat f rs[i].2.2&&(rs[i].2.1.take j).all (bat rch))/\s=(S,fin,rs,rch,f,k,rs[i].1,rs[i].2.1,rs[i].2.2,b,rs,(rs.length:Int),(i:Int),rs[i].2.1,((rs[i].2.1.length:Nat):Int),(j:Int))) ?_ ?_ ⟨_,by rw[DI a7];simp,rfl⟩)) ?_
  ·rintro j s W ⟨b,B,rfl⟩;unfold fP.L2;dsimp only;obtain⟨q0,q1⟩:=D rs[i].2.1[j] (aaf W);refine aY1 Ω (aY W (aY2 (λ p=> ?_) (λ p=> ?_)))
   ·refine aY0 (rng q0 Ω) (aY5 (aY6 Ω λ e _ U=>aZ3 (aZ2 ⟨e,?_,by rw[ak Ω]⟩)));rw[p]at B;obtain⟨g1,g2⟩:=(aae _ _).mp B.symm;rw[g1,acR];exact PY W g2 (DI U)
   ·refine aZ3 (aZ2 ⟨false,?_,by rw[ak Ω]⟩);rw[p]at B;rcases(Bool.and_eq_false_iff).mp B.symm with g|g
    ·rw[g,Bool.false_and]
    ·rw[←YC (j:=j) g,Bool.and_false]
  ·rintro s ⟨b,B,rfl⟩;unfold fP.L2;dsimp only;rw[aar]at B;exact aY3 Ω (aZ4 ⟨b,B,rfl⟩)
  ·rintro _ ⟨b,B,rfl⟩;dsimp only
   have b6:b=true-> ∀s∈rs[i].2.1,Up rs fin s:=λ p s hs=>by
    obtain⟨g1,g2⟩:=(aae _ _).mp (B.symm.trans p);exact .rule (aaf O) (q _ N g1) (λ y hy=>a4 y (D y hy) (aaV.1 g2 y hy)) hs
   refine aZ7 (R:=λ t=> ∃(d:List Bool) (l:Bool),(d.length=S.toNat/\Snd S (Up rs fin) d)/\nf d<=nf out/\(l=true->nf d<nf out)/\(∀s,bat out s=true->bat d s=true)/\(l=false->d=out/\k=false/\(b=true-> ∀s∈rs[i].2.1,bat d s=true))/\t=(S,fin,rs,rch,d,l,rs,(rs.length:Int),(i:Int))) (aZ8 (aZ6 rs[i].2.1.length (λ j s=> ∃(d:List Bool) (l:Bool),(d.length=S.toNat/\Snd S (Up rs fin) d)/\nf d<=nf out/\(l=true->nf d<nf out)/\(∀s,bat out s=true->bat d s=true)/\(l=false->d=out/\k=false/\(b=true-> ∀s∈rs[i].2.1.take j,bat d s=true))/\s=(S,fin,rs,rch,d,l,b,rs,(rs.length:Int),(i:Int),rs[i].2.1,((rs[i].2.1.length:Nat):Int),(j:Int))) ?_ ?_ ⟨f,k,⟨K,q⟩,hn,L,M,λ h=>⟨(z h).1,h,Θ⟩,rfl⟩)) ?_
   ·rintro j s W ⟨d,l,⟨I,u⟩,E,A,v,m,rfl⟩;unfold fP.L3;dsimp only;obtain⟨q0,q1⟩:=D rs[i].2.1[j] (aaf W);refine aY1 Ω (aY W ?_);refine aZ7 (R:=λ t=> ∃c:Bool,(c=true->d[rs[i].2.1[j].toNat]? =some false/\b=true)/\(c=false->b=true->bat d rs[i].2.1[j]=true)/\t=(S,fin,rs,rch,d,l,b,rs[i].2.1[j],rs,(rs.length:Int),(i:Int),rs[i].2.1,((rs[i].2.1.length:Nat):Int),(j:Int),c)) ?_ ?_
    ·refine aY4 (λ p=>aX (rng q0 Ω) (aX8 Ω λ e _ U=>aZ0 ⟨!e,λ h=> ?_,λ h _=> ?_,rfl⟩)) (λ b7=>aZ0 ⟨false,λ h=>(by cases h),λ _ h=>(by rw[b7]at h;cases h),rfl⟩)
     ·cases e with
      |true=>cases h
      |false=>exact⟨U,p⟩
     ·cases e with
      |true=>exact YH U
      |false=>cases h
    ·rintro _ ⟨c,hc,b8,rfl⟩;dsimp only;refine aY2 (λ Q=> ?_) (λ Q=> ?_)
     ·refine aY0 (rng q0 Ω) (aY5 (aY6 Ω λ e _ U=>aZ3 (aZ2 ⟨d.set rs[i].2.1[j].toNat true,true,⟨by simpa using I,u.set ⟨q0,q1⟩ (b6 (hc Q).2 _ (aaf W))⟩,?_,λ _=> ?_,λ s h=>agd (v s h),λ h=>(by cases h),by rw[ak Ω]⟩)))
      ·exact aaP (SQ _ _) E
      ·exact abp (Hg (hc Q).1) E
     ·refine aZ3 (aZ2 ⟨_,l,⟨I,u⟩,E,A,v,λ h=>⟨(m h).1,(m h).2.1,λ p s hs=> ?_⟩,by rw[ak Ω]⟩);rw[aat,aac W,aap]at hs;rcases hs with hs|hs
      ·exact(m h).2.2 p s hs
      ·simp only[aaQ,aah]at hs;rw[hs];exact b8 Q p
   ·rintro s ⟨d,l,⟨I,u⟩,E,A,v,m,rfl⟩;unfold fP.L3;dsimp only;rw[aar]at m;exact aY3 Ω (aZ4 ⟨d,l,⟨I,u⟩,E,A,v,m,rfl⟩)
   ·rintro _ ⟨d,l,⟨I,u⟩,E,A,v,m,rfl⟩;dsimp only;refine aZ2 ⟨d,l,⟨I,u⟩,E,A,v,λ h=>⟨(m h).1,λ r G h1 h2=> ?_⟩,by rw[ak Ω]⟩;obtain⟨e2,Z,e3⟩:=m h;rw[aat,aac O,aap]at G;rcases G with G|G
    ·exact(z Z).2 r G h1 h2
    ·simp only[aaQ,aah]at G;subst G;intro s hs;rw[←e2];refine e3 ?_ s hs;rw[B,(z Z).1,h1,acR,aaV];exact h2
 ·rintro s ⟨f,k,⟨K,q⟩,hn,L,M,z,rfl⟩;unfold fP.L4;dsimp only;rw[aar]at z;exact aY3 Ω (aZ4 ⟨f,k,⟨K,q⟩,hn,L,M,z,rfl⟩)
 ·rintro _ ⟨f,k,⟨K,q⟩,hn,L,M,z,rfl⟩;dsimp only;refine aZ2 ⟨⟨f,k,⟨K,q⟩,λ s hs B=>M s (a6 s hs B),λ h=>by rw[(z h).1];exact(z h).2,rfl⟩,?_⟩;dsimp only
  cases k with
  |true=>have:=L rfl;simp;omega
  |false=>simp
abbrev ah2 (F:Nat->LR->Option (LR)):Prop:= ∀x:LR,x.length<=1000000000->(∀r∈x,r.2.1.length<=1000)->Sp F x (λ r:LR=>r.length<=x.length/\(∀y,y∈r ↔ y∈x)/\r.Pairwise λ a b=>cmpL (wP a) (wP b)<0)
theorem adq {F:Nat->LR->Option (LR)} (hF:ah2 F) (S:Int) (fin:LI) (rs:LR) (keep:List Bool) (h:Wf S fin rs) (hk:keep.length=S.toNat) (hA:ArC rs):
 Sp (λ n=>iC.P (F n) n) (S,fin,rs,keep) (λ a=>sH S fin rs keep a/\a.1=(keep.count true:Int)):=by
 obtain⟨h0,hS,d2,d3,K,hr⟩:=h;show Tt (λ n=>iC.P (F n) n (S,fin,rs,keep)) _;unfold iC.P;dsimp only;refine aX (tV h0 Ω) ?_
 refine aZ1 (R:=λ t=> ∃(num:LI) (c:Int),num.length=S.toNat/\0<=c/\(c<=S/\c=(keep.count true:Int))/\(∀s,bg S s->bat keep s=true->bg c (iat num s))/\(∀s s',bg S s->bg S s'->bat keep s=true->bat keep s'=true->s<s'->iat num s<iat num s')/\(∀q,bg c q-> ∃s,bg S s/\bat keep s=true/\iat num s=q)/\
  t=(keep,S,fin,rs,(0:Int),([]:LI),([]:LR),num,c,([]:LI),([]:LR)))
  (aZ8 (aZ6 keep.length (λ i t=> ∃(num:LI) (c:Int),num.length=S.toNat/\0<=c/\(c<=(i:Int)/\c=(((keep.take i).count true:Nat):Int))/\(∀s,bg (i:Int) s->bat keep s=true->bg c (iat num s))/\(∀s s',bg (i:Int) s->bg (i:Int) s'->bat keep s=true->bat keep s'=true->s<s'->iat num s<iat num s')/\(∀q,bg c q-> ∃s,bg (i:Int) s/\bat keep s=true/\iat num s=q)/\
   t=(keep,S,fin,rs,(0:Int),([]:LI),([]:LR),num,c,([]:LI),([]:LR),keep,(keep.length:Int),(i:Int))) ?_ ?_ ?_)) ?_
 ·rintro i t C ⟨num,c,hn,D,⟨c1,L⟩,M,U,hK,rfl⟩
  have b6:(keep.take (i+1)).count true=(keep.take i).count true+if keep[i]then 1 else 0:=by
   rw[aat,aac C,List.count_append];cases keep[i]<;>rfl
  unfold iC.L1;dsimp only;have b7:bat keep (i:Int)=keep[i]:=by unfold bat;rw[aam,aac C];rfl
  refine aY1 Ω (aY C (aY2 (λ N=> ?_) (λ N=> ?_)))
  ·refine aY0 (rng Ω Ω) (aY5 ?_);rw[aam];refine aY6 Ω λ e _ _=>aZ3 (aZ2 ?_)
   have A: ∀s:Int,bg ((i+1:Nat):Int) s->iat (num.set i c) s=if s=(i:Int)then c else iat num s:=by
    intro s hs;unfold iat;rw[aaR];by_cases e:s=(i:Int)
    ·subst e;rw[if_pos rfl,aam,if_pos rfl,if_pos Ω];rfl
    ·rw[if_neg e,if_neg (by have:=hs.1;omega)]
   have E: ∀s:Int,bg ((i+1:Nat):Int) s->s≠(i:Int)->bg (i:Int) s:=λ s hs e=>⟨hs.1,by have:=hs.2;omega⟩;refine⟨num.set i c,c+1,by simpa using hn,Ω,⟨Ω,by rw[b6,N,if_pos rfl];omega⟩,λ s hs m=> ?_,λ s s' hs u m B e=> ?_,λ q O=> ?_,by rw[ak Ω,jX _ Ω Ω]⟩
   ·rw[A s hs];split
    ·exact⟨D,Ω⟩
    ·rename_i e;obtain⟨a1,a2⟩:=M s (E s hs e) m;exact⟨a1,Ω⟩
   ·rw[A s hs,A s' u,if_neg (show s≠(i:Int) by have:=u.2;omega)];split
    ·rename_i e2;exact(M s ⟨hs.1,Ω⟩ m).2
    ·rename_i e2;exact U s s' ⟨hs.1,by have:=u.2;omega⟩ (E s' u e2) m B e
   ·rcases abS (Int.lt_add_one_iff.1 O.2)with h|rfl
    ·obtain⟨s,d,k,p⟩:=hK q ⟨O.1,h⟩;have Q:bg ((i+1:Nat):Int) s:=⟨d.1,by have:=d.2;omega⟩;exact⟨s,Q,k,by rw[A s Q,if_neg (by have:=d.2;omega)];exact p⟩
    ·have Q:bg ((i+1:Nat):Int) (i:Int):=⟨Ω,Ω⟩;exact⟨i,Q,b7.trans N,by rw[A _ Q,if_pos rfl]⟩
  ·have E: ∀s:Int,bg ((i+1:Nat):Int) s->bat keep s=true->bg (i:Int) s:=λ s hs m=>⟨hs.1,by
    have:=hs.2;have:s≠(i:Int):=by rintro rfl;rw[b7,N]at m;cases m
    omega⟩
   exact aZ3 (aZ2 ⟨num,c,hn,D,⟨Ω,by rw[b6,N];simpa using L⟩,λ s hs m=>M s (E s hs m) m,λ s s' hs u m B e=>U s s' (E s hs m) (E s' u B) m B e,λ q O=>by obtain⟨s,d,k,p⟩:=hK q O;exact⟨s,⟨d.1,by have:=d.2;omega⟩,k,p⟩,by rw[ak Ω]⟩)
 ·rintro t ⟨num,c,hn,D,⟨c1,L⟩,M,U,hK,rfl⟩;rw[aar]at L;unfold iC.L1;dsimp only;have e:(keep.length:Int)=S:=by omega
  rw[e]at M U hK;exact aY3 Ω (aZ4 ⟨num,c,hn,D,⟨Ω,L⟩,M,U,hK,rfl⟩)
 ·exact⟨_,0,Θ,Ω,⟨Ω,Θ⟩,λ s hs=>absurd hs.1 (by have:=hs.2;omega),λ s s' hs=>absurd hs.1 (by have:=hs.2;omega),λ q O=>absurd O.1 (by have:=O.2;omega),rfl⟩
 rintro _ ⟨num,c,hn,D,⟨c2,L⟩,M,U,hK,rfl⟩;dsimp only;have c3: ∀s,bg S s->s.toNat<num.length:=λ s hs=>by have:=hs.1;have:=hs.2;omega
 refine aZ1 (R:=λ t=> ∃fin':LI,(fin'.length<=fin.length/\((fin.Pairwise λ a b=>a<b)->fin'.Pairwise λ a b=>a<b))/\ahS (λ s=>bat keep s=true) (iat num) fin fin'/\t=(keep,S,fin,rs,(0:Int),([]:LI),([]:LR),num,c,fin',([]:LR)))
  (aZ8 (aZ6 fin.length (λ i t=> ∃fin':LI,(fin'.length<=i/\((fin.Pairwise λ a b=>a<b)->fin'.Pairwise λ a b=>a<b))/\ahS (λ s=>bat keep s=true) (iat num) (fin.take i) fin'/\t=(keep,S,fin,rs,(0:Int),([]:LI),([]:LR),num,c,fin',([]:LR),fin,(fin.length:Int),(i:Int))) ?_ ?_ ⟨[],⟨Θ,λ _=> .nil⟩,λ q=>Θ,rfl⟩)) ?_
 ·rintro i t C ⟨fin',⟨a4,G⟩,l,rfl⟩;unfold iC.L2;dsimp only;have hs:=K fin[i] (aaf C);refine aY1 Ω (aY C ?_);refine aW0 hs.1 (by have:=hs.1;have:=hs.2;omega) λ b0 _ z=> ?_;have z:=DI z;refine aY2 (λ m=> ?_) (λ m=> ?_)
  ·refine aY0 (rng hs.1 (by have:=hs.1;have:=hs.2;omega)) (aY5 (aY6 (c3 _ hs) λ v _ hv=>aY0 (jK Δ) (aZ3 (aZ2 ⟨fin'++[v],⟨Δ,λ hp=>abY.2 ⟨G hp,abR ..,λ x hx y hy=> ?_⟩⟩,λ q=> ?_,by rw[ak Ω];rfl⟩))))
   ·obtain⟨s,d,k,rfl⟩:=(l x).1 hx;rw[aah.1 hy,←l7 hv];obtain⟨j,hj,rfl⟩:=aay d;rw[aaE]at hj;rw[abV]at k ⊢;exact U _ _ (K _ (aaf Ω)) hs k (z.trans m) (aaN.1 hp j i Ω C Ω)
   rw[aap,l,aat,aac C,aah,←l7 hv];constructor
   ·rintro(⟨s,d,k,p⟩|h)
    ·exact⟨s,aaF _ d,k,p⟩
    ·exact⟨fin[i],aa4 _ Θ,z.trans m,h⟩
   ·rintro⟨s,d,k,p⟩;rcases aap.1 d with d|d
    ·exact .inl ⟨s,d,k,p⟩
    ·simp only[aaQ,aah]at d;rw[d]at p;exact .inr p
  ·refine aZ3 (aZ2 ⟨fin',⟨Ω,G⟩,λ q=> ?_,by rw[ak Ω]⟩);rw[l,aat,aac C];constructor
   ·rintro⟨s,d,k,p⟩;exact⟨s,aaF _ d,k,p⟩
   ·rintro⟨s,d,k,p⟩;rcases aap.1 d with d|d
    ·exact⟨s,d,k,p⟩
    ·simp only[aaQ,aah]at d;rw[d,z,m]at k;cases k
 ·rintro t ⟨fin',⟨a4,G⟩,l,rfl⟩;unfold iC.L2;dsimp only;rw[aar]at l;exact aY3 Ω (aZ4 ⟨fin',⟨a4,G⟩,l,rfl⟩)
 rintro _ ⟨fin',⟨a4,G⟩,l,rfl⟩;dsimp only
 refine aZ1 (R:=λ t=> ∃f:LR,f.length<=rs.length/\Ren (λ s=>bat keep s=true) (iat num) rs f/\t=((0:Int),([]:LI),([]:LR),c,fin',f))
  (aZ8 (aZ6 rs.length (λ i t=> ∃f:LR,f.length<=i/\Ren (λ s=>bat keep s=true) (iat num) (rs.take i) f/\t=(keep,(0:Int),([]:LI),([]:LR),num,c,fin',f,rs,(rs.length:Int),(i:Int))) ?_ ?_ ⟨[],Θ,λ q=>Θ,rfl⟩)) ?_
 ·rintro i t C ⟨f,a5,l,rfl⟩;unfold iC.L4;dsimp only;obtain⟨I,a6,c9⟩:=hr rs[i] (aaf C)
  have skip: ¬(bat keep rs[i].2.2=true/\ ∀s∈rs[i].2.1,bat keep s=true)->Ren (λ s=>bat keep s=true) (iat num) (rs.take (i+1)) f:=by
   intro hn q;rw[l,aat,aac C];constructor
   ·rintro⟨s,d,k⟩;exact⟨s,aaF _ d,k⟩
   ·rintro⟨s,d,k,p,Q⟩;rcases aap.1 d with d|d
    ·exact⟨s,d,k,p,Q⟩
    ·simp only[aaQ,aah]at d;subst d;exact absurd ⟨k,p⟩ hn
  have main:bat keep rs[i].2.2=true->(∀s∈rs[i].2.1,bat keep s=true)->Ren (λ s=>bat keep s=true) (iat num) (rs.take (i+1)) (f++[(rs[i].1,rs[i].2.1.map (iat num),iat num rs[i].2.2)]):=by
   intro c4 c5 q;rw[aap,l,aat,aac C,aah];constructor
   ·rintro(⟨s,d,k⟩|h)
    ·exact⟨s,aaF _ d,k⟩
    ·exact⟨rs[i],aa4 _ Θ,c4,c5,h⟩
   ·rintro⟨s,d,k,p,Q⟩;rcases aap.1 d with d|d
    ·exact .inl ⟨s,d,k,p,Q⟩
    ·simp only[aaQ,aah]at d;rw[d]at Q;exact .inr Q
  refine aY1 Ω (aY C (aW0 I.1 (by have:=I.2;omega) λ b0 _ z=> ?_));have z:=DI z
  refine aZ7 (R:=λ t=>t=(keep,(0:Int),([]:LI),([]:LR),num,c,fin',f,rs[i].1,rs[i].2.1,rs[i].2.2,(bat keep rs[i].2.2&&rs[i].2.1.all (bat keep)),rs[i].2.1.map (iat num),rs,(rs.length:Int),(i:Int)))
   (aZ8 (aZ6 rs[i].2.1.length (λ j s=>s=(keep,(0:Int),([]:LI),([]:LR),num,c,fin',f,rs[i].1,rs[i].2.1,rs[i].2.2,(bat keep rs[i].2.2&&(rs[i].2.1.take j).all (bat keep)),(rs[i].2.1.take j).map (iat num),rs,(rs.length:Int),(i:Int),rs[i].2.1,((rs[i].2.1.length:Nat):Int),(j:Int))) ?_ ?_ (by rw[z];simp))) ?_
  ·rintro j s hj rfl;unfold iC.L3;dsimp only;obtain⟨q0,q1⟩:=a6 rs[i].2.1[j] (aaf hj);refine aY1 Ω (aY hj ?_);refine aZ7 (R:=λ t=>t=(keep,(0:Int),([]:LI),([]:LR),num,c,fin',f,rs[i].1,rs[i].2.1,rs[i].2.2,(bat keep rs[i].2.2&&(rs[i].2.1.take (j+1)).all (bat keep)),(rs[i].2.1.take j).map (iat num),rs[i].2.1[j],rs,(rs.length:Int),(i:Int),rs[i].2.1,((rs[i].2.1.length:Nat):Int),(j:Int))) ?_ ?_
   ·refine aY4 (λ a7=>aW1 q0 Ω λ e _ he=>aZ0 ?_) (λ W=>aZ0 ?_)
    ·obtain⟨g1,g2⟩:=(aae _ _).mp a7;rw[g1,acR,←PY hj g2 (DI he)]
    ·rcases(Bool.and_eq_false_iff).mp W with g|g
     ·rw[g,Bool.false_and]
     ·rw[←YC (j:=j) g,Bool.and_false]
   ·rintro _ rfl;dsimp only;exact aZ9 (rng q0 Ω) (aY6 Ω λ v _ hv=>aZ9 (jK Δ) (aZ2 (by rw[ak Ω,←l7 hv,←Ce hj];rfl)))
  ·rintro s rfl;unfold iC.L3;dsimp only;rw[aar];exact aY3 Ω (aZ4 rfl)
  ·rintro _ rfl;dsimp only;refine aY2 (λ a7=> ?_) (λ W=> ?_)
   ·obtain⟨g1,g2⟩:=(aae _ _).mp a7;refine aY0 (rng I.1 (by have:=I.2;omega)) (aY5 (aY6 (by have:=I.2;have:=I.1;omega) λ v _ hv=>aY0 (jK Δ) (aZ3 (aZ2 ⟨_,?_,main g1 (aaV.1 g2),by rw[ak Ω,l7 hv];rfl⟩))));simp;omega
   ·refine aZ3 (aZ2 ⟨f,Ω,skip λ⟨g1,g2⟩=> ?_,by rw[ak Ω]⟩);rw[g1,aaV.2 g2]at W;cases W
 ·rintro s ⟨f,a5,l,rfl⟩;unfold iC.L4;dsimp only;rw[aar]at l;exact aY3 Ω (aZ4 ⟨f,a5,l,rfl⟩)
 rintro _ ⟨f,d9,Y,rfl⟩;dsimp only;refine aZ1 (hF f Ω λ r' a8=> ?_) ?_
 ·obtain⟨r,d,_,_,e⟩:=(Y r').1 a8;rw[e];have:=(hr r d).2.2;simpa using by omega
 ·rintro out ⟨a5,b9,a9⟩;have Z:Ren (λ s=>bat keep s=true) (iat num) rs out:=λ r'=>(b9 r').trans (Y r')
  have c6:ArC f:=λ r1 d r2 k e=>by
   obtain⟨x,x1,_,_,rfl⟩:=(Y r1).1 d;obtain⟨y,y1,_,_,rfl⟩:=(Y r2).1 k;simpa using hA x x1 y y1 e
  have a9:=NH c6 b9 a9;refine aZ0 ⟨⟨⟨⟨D,by dsimp only;omega,by dsimp only;omega,by dsimp only;omega,λ q O=> ?_,λ r' a8=> ?_⟩,c2,G⟩,iat num,λ s s' hs u m B e=> ?_,l,Z,M,hK,by dsimp only;omega,a9⟩,by dsimp only;omega⟩
  ·obtain⟨s,d,k,e⟩:=(l q).1 O;rw[e];exact M s (K s d) k
  ·obtain⟨r,d,k,p,e⟩:=(Z r').1 a8;obtain⟨b1,b2,b3⟩:=hr r d;rw[e];refine⟨M _ b1 k,λ q O=> ?_,by simpa using b3⟩;obtain⟨s,hs,e⟩:=aaC.1 O;rw[←e];exact M s (b2 s hs) (p s hs)
  ·rcases Int.lt_trichotomy s s' with h|h|h
   ·have:=U s s' hs u m B h;omega
   ·exact h
   ·have:=U s' s u hs B m h;omega
def yx (S:Int) (fin:LI) (rs:LR) (a:Aut):Prop:= ∃keep R:List Bool,keep.length=S.toNat/\(∀s,bg S s->bat keep s=true->Up rs fin s)/\Closed rs R/\Useful fin rs R keep/\sH S fin rs keep a/\a.1=(keep.count true:Int)
theorem Um {U:Nat->Ab->Option (List Bool)} {K:Nat->Int×LI×LR×List Bool->Option Aut} {S:Int} {fin:LI} {rs:LR} (e:Sp U (S,fin,rs) (λ r=>r.length=S.toNat/\(∀s,bg S s->bat r s=true->Up rs fin s)/\ ∃R,Closed rs R/\Useful fin rs R r))
 (f: ∀keep:List Bool,keep.length=S.toNat->Sp K (S,fin,rs,keep) (λ a=>sH S fin rs keep a/\a.1=(keep.count true:Int))):Sp (λ n=>wW.P (K n) (U n) n) (S,fin,rs) (yx S fin rs):=by
 show Tt (λ n=>wW.P (K n) (U n) n (S,fin,rs)) _;unfold wW.P;dsimp only
 exact aZ1 e λ keep d=>aZ1 (f keep d.1) λ r g=>by
  obtain⟨i,k,R,l,m⟩:=d;exact aZ0 ⟨keep,R,i,k,l,m,g⟩
theorem Xf (m r:Nat) (f:r<=1000) (h: ∀i,i<=r->m^i<=1099511627776) (g:m<=1000):Sp lZ.P ((m:Int),(r:Int)) (λ p=>p=((m^r:Nat):Int)):=by
 show Tt (λ n=>lZ.P n ((m:Int),(r:Int))) _;unfold lZ.P;dsimp only;refine aZ1 (R:=λ p=>p=((m^r:Nat):Int)) (aZ8 (aZ6 r (λ i s=>s=((m:Int),((m^i:Nat):Int),(r:Int),(i:Int))) ?_ ?_ ?_)) λ p d=>aZ0 d
 ·rintro i s k rfl;unfold lZ.L1;dsimp only;refine aY1 Ω (aZ2 ?_);have l:=h (i+1) Ω;have e:((m^i:Nat):Int)*(m:Int)=((m^(i+1):Nat):Int):=by rw[acZ,Int.natCast_mul]
  rw[e,jX _ Ω Ω,ak Ω];congr 2;omega
 ·rintro s rfl;unfold lZ.L1;dsimp only;exact aY3 Ω (aZ4 rfl)
 ·simp
theorem Uk (m r:Nat) (d:m<=1000) (e:r<=3):Sp lZ.P ((m:Int),(r:Int)) (λ p=>p=((m^r:Nat):Int)):=Xf m r Ω (λ i f=>by
 have g:m^i<=1000^i:=abZ d _;have k:1000^i<=1000^3:=abN Ω Ω;omega) d
theorem ahs (r:Nat) (d:r<=8):Sp lZ.P ((2:Int),(r:Int)) (λ p=>p=((2^r:Nat):Int)):=Xf 2 r Ω (λ i e=>by
 have f:2^i<=2^8:=abN Ω Ω;omega) Ω
theorem ahl {F:Nat->Ac->Option Int} (hF: ∀m r:Nat,m<=1000->r<=3->Sp F ((m:Int),(r:Int)) (λ p=>p=((m^r:Nat):Int))) (al:LI) (m:Nat) (q:m<=1000) (e:ED al):Sp (λ n=>rV.P (F n) n) (al,(m:Int)) (λ v=>v=(lY al m:Int)):=by
 have A:=e.1;show Tt (λ n=>rV.P (F n) n (al,(m:Int))) _;unfold rV.P;dsimp only;refine aZ1 (R:=λ v=>v=(lY al m:Int)) (aZ8 (aZ6 al.length (λ i s=>s=((m:Int),(lY (al.take i) m:Int),al,(al.length:Int),(i:Int))/\lY (al.take i) m<=i*1000000000) ?_ ?_ ⟨rfl,by simp[lY]⟩)) λ p u=>aZ0 u
 ·rintro i s f ⟨rfl,B⟩;unfold rV.L1;dsimp only;refine aY1 Ω (aY f ?_);obtain⟨k,g,y⟩:=e.rank f;have d:=EM (m:=m) f;rw[y];have C:m^k<=1000^k:=abZ q _;have D:1000^k<=1000^3:=abN Ω Ω;have l:al[i].toNat=k:=by omega
  rw[l]at d;refine aZ7 (hF m k q g) λ r z=>aZ2 ⟨?_,by rw[d,abx];omega⟩;rw[z,ak Ω,d];have t:i*1000000000<=12*1000000000:=aaA _ Ω;rw[jX _ Ω Ω];rfl
 ·rintro s ⟨rfl,_⟩;unfold rV.L1;dsimp only;rw[aar];exact aY3 Ω (aZ4 rfl)
theorem ahr {d:Nat->Af->Option Int} (al:LI) (m:Nat) (g:m<=1000) (e:Sp d (al,(m:Int)) (λ v=>v=(lY al m:Int))):Sp (λ n=>EX.P (d n) n) (al,(m:Int)) (λ b=>b=true ↔ 300<m\/20000<lY al m):=by
 show Tt (λ n=>EX.P (d n) n (al,(m:Int))) _;unfold EX.P;dsimp only;refine aZ1 (R:=λ b=>b=true ↔ 300<m\/20000<lY al m) (aY4 (λ h=>aZ0 ?_) (λ h=>aZ1 e λ v hv=>aZ0 ?_)) λ r f=>aZ0 f
 ·have:=fZ h;exact⟨λ _=> .inl Ω,λ _=>rfl⟩
 ·have:=dec_not h;rw[hv,decide_eq_true_eq];exact⟨λ h=> .inr Ω,λ h=>Ω⟩
theorem ahj {P:Nat->Ac->Option Int} {T:Nat->Ab->Option Aut} {S:Int} {fin:LI} {rs:LR} (k:S<=8) (g:Sp T (S,fin,rs) (yx S fin rs)) (i: ∀r:Nat,r<=8->Sp P ((2:Int),(r:Int)) (λ p=>p=((2^r:Nat):Int))):
 Sp (λ n=>EW.P (P n) (T n) n) (S,fin,rs) (λ v=> ∃a,yx S fin rs a/\v=((2^a.1.toNat:Nat):Int)/\a.1<=8):=by
 show Tt (λ n=>EW.P (P n) (T n) n (S,fin,rs)) _;unfold EW.P;dsimp only;refine aZ1 g λ a e=> ?_;obtain⟨keep,R,l,m,q,t,u,f⟩:=id e;have y:keep.count true<=keep.length:=List.count_le_length;have d:keep.count true<=8:=by omega
 rw[f];refine aZ1 (i _ d) λ v hv=>aZ0 ⟨a,e,?_,Ω⟩;rw[hv,f,aam]
theorem X7 {O:Nat->Ab->Option Bool} {B:Nat->Ab->Option Int} {Ov:Nat->Af->Option Bool} {al:LI} {S:Int} {fin:LI} {rs:LR} (g:Sp O (S,fin,rs) (λ r=>r=true->Iy rs))
 (i:Sp B (S,fin,rs) (λ v=> ∃a,yx S fin rs a/\v=((2^a.1.toNat:Nat):Int)/\a.1<=8)) (d: ∀m:Nat,m<=1000->Sp Ov (al,(m:Int)) (λ b=>b=true ↔ 300<m\/20000<lY al m)):
 Sp (λ n=>wX.P (O n) (B n) (Ov n) n) (al,S,fin,rs) (λ b=>b=true->Iy rs\/ ∃a,yx S fin rs a/\2^a.1.toNat<=300/\lY al (2^a.1.toNat)<=20000):=by
 show Tt (λ n=>wX.P (O n) (B n) (Ov n) n (al,S,fin,rs)) _;unfold wX.P;dsimp only;refine aZ1 (R:=λ b=>b=true->Iy rs\/ ∃a,yx S fin rs a/\2^a.1.toNat<=300/\lY al (2^a.1.toNat)<=20000) ?_ λ r e=>aZ0 e;refine aZ1 g λ r e=>aY4 (λ h=>aZ0 λ _=> .inl (e h)) (λ _=>aZ1 i λ v hv=> ?_);obtain⟨a,k,rfl,l⟩:=hv;have p:2^a.1.toNat<=2^8:=abN Ω Ω;refine aZ1 (d _ Ω) λ b f=>aZ0 λ h=> .inr ⟨a,k,?_⟩;have:b=false:=by simpa using h
 rw[this]at f;have q: ¬(300<2^a.1.toNat\/20000<lY al (2^a.1.toNat)):=λ h=>Bool.false_ne_true (f.2 h);exact⟨Ω,Ω⟩
theorem aff {e:Nat->Af->Option Int} {f:Nat->Ab->Option Bool} {T:Nat->Ab->Option Aut} {g:Nat->Ab->Option Int}
 (al:LI) (d:List Aut) (G:d.length<=1000) (k: ∀m:Nat,m<=1000->Sp e (al,(m:Int)) (λ _=>True)) (l: ∀a∈d,Sp f a (λ _=>True)) (z: ∀a∈d,Sp T a (λ a=>0<=a.1/\a.1<=8)) (p: ∀a∈d,Sp g a (λ v=>0<=v/\v<=256)):
 Sp (λ n=>qh.P (e n) (f n) (T n) (g n) n) (al,d) (λ _=>True):=by
 show Tt (λ n=>qh.P (e n) (f n) (T n) (g n) n (al,d)) _;unfold qh.P;dsimp only;refine aZ1 (R:=λ q=>q=Sum.inl ()\/ ∃b,q=Sum.inr b) (aZ8 (aZ6 d.length (λ i s=>s=(al,d,(d.length:Int),(i:Int))) ?_ ?_ rfl)) ?_
 ·rintro i s y rfl;have u:d[i]∈d:=aaf y;unfold qh.L1;dsimp only;refine aY1 Ω (aY y ?_);refine aZ7 (R:=λ t=> ∃b:Bool,t=(al,d[i].1,d[i].2.1,d[i].2.2,d,(d.length:Int),(i:Int),b)) ?_ ?_
  ·exact aY4 (λ _=>aZ0 ⟨true,rfl⟩) (λ h=>aZ0 ⟨_,rfl⟩)
  ·rintro _ ⟨b,rfl⟩;dsimp only;refine aY9 (λ _=>aZ4 (.inr ⟨_,rfl⟩)) (λ A=> ?_);refine aZ7 (p _ u) λ B C=>aZ7 (l _ u) λ I _=> ?_;refine aZ7 (R:=λ t=> ∃v:Nat,v<=256/\t=(al,(v:Int),d,(d.length:Int),(i:Int))) ?_ ?_
   ·exact aY4 (λ _=>aZ1 (z _ u) λ D E=>aZ0 ⟨D.1.toNat,Ω,by rw[abI E.1]⟩) (λ _=>aZ0 ⟨B.toNat,Ω,by rw[abI C.1]⟩)
   ·rintro _ ⟨v,hv,rfl⟩;dsimp only;rw[ak Ω];exact aZ7 (k (v+1) Ω) λ K _=>aY9 (λ _=>aZ4 (.inr ⟨_,rfl⟩)) (λ _=>aZ2 (by rw[ak Ω]))
 ·rintro s rfl;unfold qh.L1;dsimp only;exact aY3 Ω (aZ4 (.inl rfl))
 ·rintro q (rfl|⟨b,rfl⟩)
  ·exact aZ0 trivial
  ·exact aZ0 trivial
theorem MB {R:RT Int->Int->Prop}: ∀ks:List (RT Int),(∀k∈ks,∃p,R k p)-> ∃l:LI,l.length=ks.length/\ ∀(i:Nat) (k:RT Int) (p:Int),ks[i]? =some k->l[i]? =some p->R k p
 | [],_=>⟨[],rfl,λ i k p h=>by simp at h⟩
 |k::ks,h=>by
  obtain⟨p,f⟩:=h k (abG ..);obtain⟨l,g,m⟩:=MB ks λ k q=>h k (aaS _ q);refine⟨p::l,by simp[g],λ i t u d e=> ?_⟩
  cases i with
  |zero=>
   simp only[aaO,aag]at d e;rw[←d,←e];exact f
  |succ i=>exact m i t u (by simpa using d) (by simpa using e)
section
variable {St:Nat->Ag->Option LI} {al:LI} {S:Int} {fin:LI} {rs:LR} {sets:LL}
theorem Xh (d:OG St al S fin rs) (hs: ∀s∈sets,s.length<=1000000) {f a:Nat} {l:LI} (i:al[f]? =some (a:Int)) (k:l∈kV sets.length a):
 ∃to,Val (λ n=>St n (S,fin,rs,(f:Int),tZ sets l)) to/\ ∀q,q∈to ↔ ∃r∈rs,Fit (f:Int) (tZ sets l) r/\r.2.2=q:=by
 obtain⟨e,m⟩:=aad.1 i;have g:=(dN.1 k).1;obtain⟨to,p,t⟩:=(d f e (tZ sets l) (by simp[tZ,m,g]) (MQ hs l));exact⟨to,t,p.2⟩
theorem ae0 {l:LI} {j i:Nat} {x:LI} (d:l[j]? =some (i:Int)) (e:sets[i]? =some x):(tZ sets l)[j]? =some x:=by
 unfold tZ;rw[aau,d,aaL,abg,aam,e];rfl
def akn (St:Nat->Ag->Option LI) (al:LI) (S:Int) (fin:LI) (rs:LR) (sets:LL) (D:Aut):Prop:=
 sets.length<=300/\D.1=(sets.length:Int)/\D.2.1.length<=300/\ahX fin sets D.2.1/\D.2.2.length<=20000/\(∀r,r∈D.2.2 ↔ af0 St al S fin rs sets r)/\UH St al S fin rs sets/\ ∀f,Dy St al S fin rs sets f
theorem adF (W:Ar al rs) (B:OG St al S fin rs) {D:Aut} (h:akn St al S fin rs sets D) (t:RT Int):
 (∀p,Reach D.2.2 t p-> ∃(i:Nat) (x:LI),p=(i:Int)/\sets[i]? =some x/\ ∀q,q∈x ↔ Reach rs t q)/\ ∀q,Reach rs t q-> ∃p,Reach D.2.2 t p:=by
 obtain⟨_,_,_,hF,_,hR,hI,hC⟩:=h
 induction t using uz with
 |h a ks Y=>
  have fit: ∀(l:LI),l.length=ks.length->(∀(j:Nat) (k:RT Int) (p:Int),ks[j]? =some k->l[j]? =some p->Reach D.2.2 k p)-> ∀r:Rule,r.2.1.length=ks.length->r.1=a->(Fit a (tZ sets l) r ↔ ∀(i:Nat) (k:RT Int) (f:Int),ks[i]? =some k->r.2.1[i]? =some f->Reach rs k f):=by
   intro l hl L r m Z
   have at_: ∀(j:Nat) (k:RT Int),ks[j]? =some k-> ∃x,(tZ sets l)[j]? =some x/\ ∀q,q∈x ↔ Reach rs k q:=λ j k C=>by
    have E:j<l.length:=by have:=(aad.1 C).1;omega
    obtain⟨i,x,g,u,e3⟩:=(Y k (aai C)).1 _ (L j k _ C (aac E));exact⟨x,ae0 (by rw[aac E,g]) u,e3⟩
   constructor
   ·rintro⟨_,_,y⟩ i k f a2 M;obtain⟨x,g,u⟩:=at_ i k a2;exact(u f).1 (y i x f g M)
   ·intro y;refine⟨Z,by simp[tZ];omega,λ i x f hx M=> ?_⟩;have z:i<ks.length:=by have:=(aad.1 M).1;omega
    obtain⟨x',g,u⟩:=at_ i _ (aac z);rw[hx]at g;cases g;exact(u f).2 (y i _ f (aac z) M)
  constructor
  ·intro p hp;obtain⟨r',a5,h1,h2,y,h4⟩:=bV.1 hp;obtain⟨f,a',i,g1,g2,g3,g4,x,x0,g5,g6⟩:=(hR r').1 a5;refine⟨i,x,by rw[←h2,g4],g5,λ q=> ?_⟩;obtain⟨to,N,O⟩:=Xh B hI.1 g1 g3;have:=Val.uniq g6 N;subst this;rw[O q];have Q:(f:Int)=a:=by rw[←g2,h1]
   rw[Q];constructor
   ·rintro⟨r,A,d,G⟩;have m:r.2.1.length=ks.length:=by have:=d.2.1;simp[tZ]at this;omega
    exact bV.2 ⟨r,A,d.1,G,m,(fit r'.2.1 y h4 r m d.1).1 d⟩
   ·intro hq;obtain⟨r,A,d,G,r4,U⟩:=bV.1 hq;exact⟨r,A,(fit r'.2.1 y h4 r r4 d).2 U,G⟩
  ·intro q hq;obtain⟨r,A,d,G,r4,U⟩:=bV.1 hq
   obtain⟨l,l1,l2⟩:=MB (R:=λ k p=>Reach D.2.2 k p) ks λ k L=>by
    obtain⟨i,z,rfl⟩:=aay L;exact(Y _ L).2 _ (U i _ r.2.1[i] (aac z) (aac Ω))
   obtain⟨a0,a1⟩:=W r A
   have v:l∈kV sets.length r.2.1.length:=dN.2 ⟨Ω,λ p hp=>by
    obtain⟨j,C,rfl⟩:=aay hp;have I:j<ks.length:=by omega
    obtain⟨i,x,g,u,_⟩:=(Y _ (aaf I)).1 _ (l2 j _ _ (aac I) (aac C));have:=(aad.1 u).1;rw[g];exact⟨Ω,Ω⟩⟩
   obtain⟨to,N,O⟩:=Xh B hI.1 a1 v;have Q:(r.1.toNat:Int)=a:=by rw[←d];omega
   rw[Q]at O;have b0:q∈to:=(O q).2 ⟨r,A,(fit l l1 l2 r r4 d).2 U,G⟩;have K:to≠[]:=List.ne_nil_of_mem b0;obtain⟨b1,he⟩:=aad.1 a1;obtain⟨i,z,e⟩:=aay (hC r.1.toNat b1 _ he l v to N K);refine⟨(i:Int),bV.2 ⟨(a,l,(i:Int)),(hR _).2 ⟨r.1.toNat,r.2.1.length,i,a1,Q.symm,v,rfl,to,K,by rw[aac z,e],N⟩,rfl,rfl,l1,l2⟩⟩
def DOk (al fin:LI) (rs:LR) (m:Nat) (D:Aut):Prop:=
 m<=300/\D.1=(m:Int)/\D.2.1.length<=300/\D.2.2.length<=20000/\Det D.2.2/\(∀r∈D.2.2,F6 al m r)/\(∀q∈D.2.1,bg (m:Int) q)/\(∀q,bg (m:Int) q->Rch D.2.2 q)/\ ∀t,Acc D.2.2 D.2.1 t ↔ Acc rs fin t
theorem adE (A:Ar al rs) (B:OG St al S fin rs) {D:Aut} (h:akn St al S fin rs sets D):DOk al fin rs sets.length D:=by
 have d:=λ t=>adF A B h t;obtain⟨Y,Z,h3,hF,h5,u,N,hC⟩:=h;refine⟨Y,Z,h3,h5,λ r C r' E G m=> ?_,λ r C=> ?_,λ q e=> ?_,λ q e=> ?_,λ t=> ?_⟩
 ·obtain⟨f,a,i,v,g2,g3,I,x,K,z,g6⟩:=(u r).1 C;obtain⟨f',a',O,k1,k2,k3,k4,x',a6,k5,Q⟩:=(u r').1 E;have:f'=f:=by omega
  subst this;rw[←m]at Q;have:=Val.uniq g6 Q;subst this;rw[I,k4];exact congrArg Nat.cast ((List.getElem?_inj (aad.1 z).1 N.2.1).1 (z.trans k5.symm))
 ·obtain⟨f,a,i,v,g2,g3,I,x,K,z,g6⟩:=(u r).1 C;have:=(aad.1 z).1;exact⟨f,a,v,g2,g3,by rw[I];exact⟨Ω,Ω⟩⟩
 ·obtain⟨i,x,rfl,g,_⟩:=(hF q).1 e;have:=(aad.1 g).1;exact⟨Ω,Ω⟩
 ·have: ∀i:Nat,i<sets.length->Rch D.2.2 (i:Int):=by
   intro i
   induction i using Nat.strongRecOn with
   |ind i ih=>
    intro R;obtain⟨K,f,l,v,g2,g3⟩:=N.2.2 i _ (aac R);refine Ky (r:=((f:Int),l,(i:Int))) ((u _).2 ⟨f,l.length,i,v,rfl,dN.2 ⟨rfl,λ q e=>⟨(g2 q e).1,by have:=(g2 q e).2;omega⟩⟩,rfl,_,K,aac R,g3⟩) λ s hs=> ?_;obtain⟨k,L,rfl⟩:=NR (g2 s hs);exact ih k L Ω
  obtain⟨k,L,rfl⟩:=NR e;exact this k L
 ·constructor
  ·rintro⟨p,p1,p2⟩;obtain⟨i,x,G,m,M⟩:=(d t).1 p p1;obtain⟨O,x',e4,U,y,y1,y2⟩:=(hF p).1 p2;have:O=i:=by omega
   subst this;rw[m]at U;cases U;exact⟨y,(M y).1 y1,y2⟩
  ·rintro⟨q,q1,q2⟩;obtain⟨p,W⟩:=(d t).2 q q1;obtain⟨i,x,G,m,M⟩:=(d t).1 p W;exact⟨p,W,(hF p).2 ⟨i,x,G,m,q,(M q).2 q1,q2⟩⟩
end
section
variable {al fin:LI} {rs:LR} {m:Nat} {D F:Aut}
def FOk (al fin:LI) (rs:LR) (m:Nat) (F:Aut):Prop:=(∃δ,Yu al (m+1) F.2.2 δ)/\F.1=((m+1:Nat):Int)/\(∀q∈F.2.1,bg (m:Int) q)/\(∀q,bg (m:Int) q->Rch F.2.2 q)/\(∀r∈F.2.2,(m:Int)∈r.2.1->r.2.2=(m:Int))/\ ∀t,Acc F.2.2 F.2.1 t ↔ Acc rs fin t
theorem agu (h:DOk al fin rs m D) (R:F.1=((m+1:Nat):Int)) (O:F.2.1=D.2.1) (z: ∀r,r∈F.2.2 ↔ r∈D.2.2\/aft al m D.2.2 r):FOk al fin rs m F:=by
 classical
 obtain⟨_,d2,_,_,dd,A,Q,g,S⟩:=h
 have sub: ∀t q,Reach D.2.2 t q->Reach F.2.2 t q:=by
  intro t
  induction t using uz with
  |h a ks E=>
   intro q p;obtain⟨r,G,I,B,K,L⟩:=bV.1 p;exact bV.2 ⟨r,(z r).2 (.inl G),I,B,K,λ i k f u v=>E k (aai u) f (L i k f u v)⟩
 have M: ∀t q,Reach F.2.2 t q->q≠(m:Int)->Reach D.2.2 t q:=by
  intro t
  induction t using uz with
  |h a ks E=>
   intro q p N;obtain⟨r,G,I,B,K,L⟩:=bV.1 p;rcases(z r).1 G with d|d
   ·refine bV.2 ⟨r,d,I,B,K,λ i k f u v=>E k (aai u) f (L i k f u v) ?_⟩;have:=((A r d).st.2 f (aai v)).2;omega
   ·exact absurd (B.symm.trans d.1) N
 refine⟨⟨λ f l=>if h: ∃r∈D.2.2,r.1=f/\r.2.1=l then h.choose.2.2 else(m:Int),λ f a l v hl=> ?_,λ r=> ?_⟩,R,by rw[O];exact Q,λ q p=> ?_,λ r d U=> ?_,λ t=> ?_⟩
 ·dsimp only;split
  ·rename_i h;have:=(A _ h.choose_spec.1).st.1;exact⟨this.1,by have:=this.2;omega⟩
  ·exact⟨Ω,Ω⟩
 ·dsimp only;rw[z r];constructor
  ·rintro(d|d)
   ·obtain⟨f,a,y,g2,g3,C⟩:=A r d;have e: ∃x∈D.2.2,x.1=(f:Int)/\x.2.1=r.2.1:=⟨r,d,g2,rfl⟩;refine⟨f,a,y,g2,ZN g3,?_⟩;rw[dif_pos e];exact dd r d _ e.choose_spec.1 (g2.trans e.choose_spec.2.1.symm) e.choose_spec.2.2.symm
   ·obtain⟨W,⟨f,a,y,g2,g3⟩,Y⟩:=d;refine⟨f,a,y,g2,g3,?_⟩;rw[dif_neg λ⟨x,Z,x2,x3⟩=>Y x Z ⟨x2.trans g2.symm,x3⟩,W]
  ·rintro⟨f,a,y,g2,g3,C⟩;split at C
   ·rename_i e;have:r=e.choose:=ab9 (g2.trans e.choose_spec.2.1.symm) (ab9 e.choose_spec.2.2.symm C);rw[this];exact .inl e.choose_spec.1
   ·rename_i e;exact .inr ⟨C,⟨f,a,y,g2,g3⟩,λ x hx ⟨e1,e2⟩=>e ⟨x,hx,e1.trans g2,e2⟩⟩
 ·obtain⟨t,ht⟩:=g q p;exact⟨t,sub t q ht⟩
 ·rcases(z r).1 d with d|d
  ·have:=((A r d).st.2 _ U).2;omega
  ·exact d.1
 ·rw[←S t,O];constructor
  ·rintro⟨q,q1,q2⟩;exact⟨q,M t q q1 (by have:=(Q q q2).2;omega),q2⟩
  ·rintro⟨q,q1,q2⟩;exact⟨q,sub t q q1,q2⟩
end
def Sz (M:Aut):Prop:=M.2.1.length<=1000/\M.2.2.length<=100000/\ ∀r∈M.2.2,r.2.1.length<=3
def Yw (fin:LI) (rs:LR) (M:Aut):Prop:=Can M/\Num M/\(M.2.1.Pairwise λ a b=>a<b)/\(M.2.2.Pairwise λ a b=>vI a b<0)/\(∀t,Acc M.2.2 M.2.1 t ↔ Acc rs fin t)/\0<=M.1/\Sz M
theorem V6.toR {al fin:LI} {rs:LR} {M:Aut} (h:V6 al fin rs M):Yw fin rs M:=⟨h.1,h.2.1,h.2.2.1,h.2.2.2.1,h.2.2.2.2.1,h.2.2.2.2.2.1.1,by have w:=h.2.2.2.2.2.2.2.2;exact⟨w.2.2.1,w.2.2.2.1,λ r d=>(w.2.2.2.2.2 r d).2.2⟩⟩
theorem Yw.eq {fin fin':LI} {rs e:LR} {M f:Aut} (h:Yw fin rs M) (d:Yw fin' e f):(∀t,Acc rs fin t ↔ Acc e fin' t) ↔ M=f:=by
 constructor
 ·intro hs;obtain⟨g,i,k⟩:=afB h.1 d.1 (λ t=>(h.2.2.2.2.1 t).trans ((hs t).trans (d.2.2.2.2.1 t).symm)) h.2.1 d.2.1 h.2.2.2.2.2.1 d.2.2.2.2.2.1;exact ab9 g (ab9 (xu (λ a b l m=>Ω) h.2.2.1 d.2.2.1 k) (xu Gv.asym h.2.2.2.1 d.2.2.2.1 i))
 ·rintro rfl t;exact(h.2.2.2.2.1 t).symm.trans (d.2.2.2.2.1 t)
section
variable {al fin:LI} {rs:LR} {m:Nat} {F Q T M:Aut} {num:LI}
theorem U0 {S:Int} {fin:LI} {rs d:LR} {ν:Int->Int} (m:Wf S fin rs) (v:Det rs) (f:Gy S fin rs ν) (p:Img ν rs d):Det d:=by
 intro x g y i q k;obtain⟨r,z,rfl⟩:=(p x).1 g;obtain⟨e,t,rfl⟩:=(p y).1 i;dsimp only at q k ⊢;have A:e.2.1.length=r.2.1.length:=by have:=congrArg List.length k;simpa using this.symm
 obtain⟨B,C,D,u,E⟩:=f.list m z (l:=e.2.1) A (m.2.2.2.2.2 e t).2.1 (λ j x y g i=>by
  have:=congrArg (λ l:LI=>l[j]?) k;simp only[aau,g,i,aaL,aag]at this;exact this.symm) _ (aaw _)
 rw[aar,aa3 Ω,aaM]at u;rw[←E,v B C e t (D.trans q) u]
theorem Yu.det {δ:Int->LI->Int} (h:Yu al m rs δ):Det rs:=λ r e g d q i=>by
 obtain⟨f,a,t,g2,g3,k⟩:=(h.2 r).1 e;obtain⟨l,a',u,v,y,p⟩:=(h.2 g).1 d;rw[k,p,i,show(f:Int)=(l:Int) by omega]
theorem map_inj {l k:LI} {ν:Int->Int} {P:Int->Prop} (m: ∀s t,P s->P t->ν s=ν t->s=t) (p: ∀x∈l,P x) (q: ∀x∈k,P x) (e:l.map ν=k.map ν):l=k:=by
 have d:l.length=k.length:=by have:=congrArg List.length e;simpa using this
 refine acK d λ i f g=>m _ _ (p _ (aaf f)) (q _ (aaf g)) ?_;have:=congrArg (λ l:LI=>l[i]?) e;simpa [aau,aac f,aac g]using this
theorem ae4 (hF:FOk al fin rs m F) (B:Wf F.1 F.2.1 F.2.2) (E:UD (m+1) F.2.1 F.2.2 num) (K:Wf Q.1 Q.2.1 Q.2.2) (L:Img (iat num) F.2.2 Q.2.2) (M:ad2 (iat num) F.2.1 Q.2.1) (hT:yx Q.1 Q.2.1 Q.2.2 T):
 ∀h:Int->Int,Gy T.1 T.2.1 T.2.2 h-> ∀s t,bg T.1 s->bg T.1 t->h s=h t->s=t:=by
 classical
 obtain⟨⟨δ,Z⟩,f1,f2,f3,f4,f5⟩:=hF;obtain⟨c1,c2,c3,c4⟩:=E;obtain⟨keep,R,k1,k2,k3,k4,⟨_,ν,n1,n2,n3,n4,n5,_⟩,_⟩:=hT;rw[f1]at B;have d6:Det Q.2.2:=U0 B Z.det c3 L;have p:=ET B c3 L;have rch: ∀s,Rch F.2.2 s->Rch Q.2.2 (iat num s):=λ s ⟨t,C⟩=>⟨t,(p t _).2 ⟨s,C,rfl⟩⟩;have b7: ∀c,Up Q.2.2 Q.2.1 c->bat keep c=true:=λ c E=>(adL (S:=Q.1) k3 k4 n2 n3 E).1
 have d7: ∀c,Up Q.2.2 Q.2.1 c->bg Q.1 c:=λ c E=>by
  obtain⟨t,C⟩:=E.rch;exact CQ K C
 have G:bg ((m+1:Nat):Int) (m:Int):=⟨Ω,Ω⟩;have a0: ∀s,bg ((m+1:Nat):Int) s->s≠(m:Int)->Rch F.2.2 s:=λ s hs i0=>f3 s ⟨hs.1,by have:=hs.2;omega⟩
 have b8: ∀c,Up Q.2.2 Q.2.1 c->c≠iat num (m:Int):=by
  intro c E
  induction E with
  | @fin s h N=>
    rintro e;obtain⟨x,U,x2⟩:=(M _).1 h;have:=(c3.1 x (m:Int) (by have:=f2 x U;exact⟨this.1,by have:=this.2;omega⟩) G (x2.symm.trans e)).1 U;have:=(f2 _ this).2;omega
  | @rule r s N h hk hs ih=>
    rintro e;obtain⟨r0,a1,rfl⟩:=(L r).1 N;obtain⟨i,hi,ei⟩:=aay hs;have a5:i<r0.2.1.length:=by simpa using hi
    obtain⟨z,b1,b2,b3,b4⟩:=c3.2 r0.2.1[i] (m:Int) ((B.2.2.2.2.2 r0 a1).2.1 _ (aaf a5)) G (by rw[←e,←ei];simp) r0 i ⟨a1,aac a5⟩;have hm:z.2.2=(m:Int):=f4 z b1 (by rw[b3];exact List.mem_iff_getElem.2 ⟨i,by simpa using a5,Θ⟩);exact ih (by rw[←hm];exact b4.symm)
 have dead: ∀r∈F.2.2,Up Q.2.2 Q.2.1 (iat num r.2.2)-> ∀s∈r.2.1,Up Q.2.2 Q.2.1 (iat num s):=by
  intro r N k s hs;have d9:(m:Int)∉r.2.1:=λ hm=>b8 _ k (by rw[f4 r N hm]);refine .rule ((L _).2 ⟨r,N,rfl⟩) k (λ y hy=> ?_) (aaC.2 ⟨s,hs,rfl⟩);obtain⟨x,O,rfl⟩:=aaC.1 hy;exact rch x (a0 x ((B.2.2.2.2.2 r N).2.1 x O) λ e=>d9 (e▸O))
 have I: ∀s∈F.2.1,Up Q.2.2 Q.2.1 (iat num s):=λ s hs=> .fin ((M _).2 ⟨s,hs,rfl⟩) (rch s (f3 s (f2 s hs)));intro h hh
 let g:Int->Int:=λ s=>if Up Q.2.2 Q.2.1 (iat num s)then 2*h (ν (iat num s))else 1
 have a6: ∀s t,g s=g t->Up Q.2.2 Q.2.1 (iat num s)->Up Q.2.2 Q.2.1 (iat num t)/\h (ν (iat num s))=h (ν (iat num t)):=λ s t e k=>by
  by_cases hv:Up Q.2.2 Q.2.1 (iat num t)
  ·simp only[g,if_pos k,if_pos hv]at e;exact⟨hv,Ω⟩
  ·simp only[g,if_pos k,if_neg hv]at e;omega
 have e5: ∀s t,(Up Q.2.2 Q.2.1 (iat num s)->Up Q.2.2 Q.2.1 (iat num t)/\h (ν (iat num s))=h (ν (iat num t)))->(Up Q.2.2 Q.2.1 (iat num t)->Up Q.2.2 Q.2.1 (iat num s))->g s=g t:=λ s t h1 h2=>by
  by_cases k:Up Q.2.2 Q.2.1 (iat num s)
  ·obtain⟨hv,e⟩:=h1 k;simp only[g,if_pos k,if_pos hv,e]
  ·simp only[g,if_neg k,if_neg λ hv=>k (h2 hv)]
 have l: ∀s,Up Q.2.2 Q.2.1 (iat num s)->bg Q.1 (iat num s)/\bat keep (iat num s)=true:=λ s k=>⟨d7 _ k,b7 _ k⟩
 have W: ∀s,bg ((m+1:Nat):Int) s->Up Q.2.2 Q.2.1 (iat num s)->(ν (iat num s)∈T.2.1 ↔ s∈F.2.1):=λ s hs k=>by
  obtain⟨u1,u2⟩:=l s k;rw[n2];constructor
  ·rintro⟨c,d1,d2,d3⟩;have e:=n1 _ _ u1 (K.2.2.2.2.1 c d1) u2 d2 d3;obtain⟨x,U,x2⟩:=(M _).1 d1;exact(c3.1 s x hs (by have:=f2 x U;exact⟨this.1,by have:=this.2;omega⟩) (e.trans x2)).2 U
  ·intro hf;exact⟨_,(M _).2 ⟨s,hf,rfl⟩,u2,rfl⟩
 have Y: ∀s t,bg ((m+1:Nat):Int) s->bg ((m+1:Nat):Int) t->g s=g t-> ∀r∈F.2.2,∀z∈F.2.2,∀i:Nat,r.2.1[i]? =some s->z.1=r.1->z.2.1=r.2.1.set i t->Up Q.2.2 Q.2.1 (iat num r.2.2)->Up Q.2.2 Q.2.1 (iat num z.2.2)/\h (ν (iat num r.2.2))=h (ν (iat num z.2.2)):=by
  intro s t hs C e r N z D i hi e1 e2 k;have A:=dead r N k;have a7:s∈r.2.1:=aai hi;obtain⟨v,ev⟩:=a6 s t e (A s a7)
  have a8: ∀x∈z.2.1,Up Q.2.2 Q.2.1 (iat num x):=λ x O=>by
   rw[e2]at O;rcases abv O with h|rfl
   ·exact A x h
   ·exact v
  have e6:(r.1,(r.2.1.map (iat num)).map ν,ν (iat num r.2.2))∈T.2.2:=(n3 _).2 ⟨_,(L _).2 ⟨r,N,rfl⟩,(l _ k).2,λ y hy=>by obtain⟨x,O,rfl⟩:=aaC.1 hy;exact(l x (A x O)).2,rfl⟩;obtain⟨r2,a1,a2,a3,a4⟩:=hh.2 (ν (iat num s)) (ν (iat num t)) (n4 _ (l s (A s a7)).1 (l s (A s a7)).2) (n4 _ (l t v).1 (l t v).2) ev _ i ⟨e6,by rw[aau,aau,hi];rfl⟩;obtain⟨rq,b1,b2,b3,rfl⟩:=(n3 r2).1 a1;obtain⟨r3,d1,rfl⟩:=(L rq).1 b1;dsimp only at a2 a3 a4 b2 b3
  have e3:r3.2.1.map (iat num)=z.2.1.map (iat num):=by
   refine map_inj (P:=λ c=>bg Q.1 c/\bat keep c=true) (λ s t hs C e=>n1 s t hs.1 C.1 hs.2 C.2 e) (λ c E=> ?_) (λ c E=> ?_) (ν:=ν) ?_
   ·exact⟨(K.2.2.2.2.2 _ b1).2.1 c E,b3 c E⟩
   ·obtain⟨x,O,rfl⟩:=aaC.1 E;exact l x (a8 x O)
   ·rw[a3,e2,List.map_set,List.map_set]
  have e4:iat num r3.2.2=iat num z.2.2:=d6 _ ((L _).2 ⟨r3,d1,rfl⟩) _ ((L _).2 ⟨z,D,rfl⟩) (a2.trans e1.symm) e3;rw[e4]at b2 a4;have e9:=(K.2.2.2.2.2 _ ((L _).2 ⟨z,D,rfl⟩)).1;exact⟨k2 _ e9 b2,a4.symm⟩
 have hg:Gy ((m+1:Nat):Int) F.2.1 F.2.2 g:=by
  refine⟨λ s t hs C e=> ?_,λ s t hs C e r i ho=> ?_⟩
  ·by_cases k:Up Q.2.2 Q.2.1 (iat num s)
   ·obtain⟨hv,ev⟩:=a6 s t e k;rw[←W s hs k,←W t C hv];exact hh.1 _ _ (n4 _ (l s k).1 (l s k).2) (n4 _ (l t hv).1 (l t hv).2) ev
   ·have hv: ¬Up Q.2.2 Q.2.1 (iat num t):=λ hv=>k (a6 t s e.symm hv).1;exact⟨λ h=>absurd (I s h) k,λ h=>absurd (I t h) hv⟩
  ·obtain⟨f,a,g1,g2,g3,g4⟩:=(Z.2 r).1 ho.1;obtain⟨hi,f0⟩:=aad.1 ho.2;have hl:r.2.1.set i t∈kV (m+1) a:=dN.2 ⟨by simpa using(dN.1 g3).1,λ q hq=>(abv hq).elim (λ h=>(dN.1 g3).2 q h) λ e=>e▸C⟩
   let z:Rule:=(r.1,r.2.1.set i t,δ (f:Int) (r.2.1.set i t))
   have D:z∈F.2.2:=(Z.2 _).2 ⟨f,a,g1,g2,hl,rfl⟩;refine⟨z,D,rfl,rfl,(e5 r.2.2 z.2.2 (Y s t hs C e r ho.1 z D i ho.2 rfl rfl) λ hv=> ?_).symm⟩;refine(Y t s C hs e.symm z D r ho.1 i (by show(r.2.1.set i t)[i]? =some t;rw[abe hi]) rfl ?_ hv).1;show r.2.1=(r.2.1.set i t).set i s;rw[List.set_set,←f0,List.set_getElem_self]
 intro s t hs C e;obtain⟨c,U,x2,rfl⟩:=n5 s hs;obtain⟨d,y1,y2,rfl⟩:=n5 t C;obtain⟨u,k⟩:=(k2 c U x2).rch;obtain⟨w,hw⟩:=(k2 d y1 y2).rch;obtain⟨s0,z1,rfl⟩:=(p u c).1 k;obtain⟨t0,z2,rfl⟩:=(p w d).1 hw;rw[c4 g hg s0 t0 (CQ B z1) (CQ B z2) (by simp only[g,if_pos (k2 _ U x2),if_pos (k2 _ y1 y2),e])]
theorem ag6 (hF:FOk al fin rs m F) (f:Wf F.1 F.2.1 F.2.2) (K:UD (m+1) F.2.1 F.2.2 num) (C:Wf Q.1 Q.2.1 Q.2.2) (L:Img (iat num) F.2.2 Q.2.2) (D:ad2 (iat num) F.2.1 Q.2.1) (hT:yx Q.1 Q.2.1 Q.2.2 T) {k:Nat} (hk:T.1=(k:Int)) (hM:ad5 k T.2.1 T.2.2 M):Yw fin rs M:=by
 have i:=ae4 hF f K C L D hT;obtain⟨⟨δ,N⟩,f1,f2,f3,f4,f5⟩:=hF;rw[f1]at f;have O:Det Q.2.2:=U0 f N.det K.2.2.1 L;obtain⟨keep,R,k1,k2,k3,k4,kO,_⟩:=hT;obtain⟨w,b6,wu,ws,wa,z,b9,a6,c0⟩:=Mc C k2 k3 k4 kO;obtain⟨ν,order,B,U,W,Y,d,Z,E,G⟩:=hM;have a0:=wu O;rw[hk]at i w z;have inj: ∀s t,bg (k:Int) s->bg (k:Int) t->0<=iat ν s->iat ν s=iat ν t->s=t:=λ s t hs A h0 e=>B.inj hs A h0 e;obtain⟨I,_⟩:=Nj w inj W d
 have g: ∀s,bg (k:Int) s->0<=iat ν s:=λ s hs=>by
  obtain⟨t,A⟩:=(z s hs).rch;exact I t s A
 have st: ∀s,bg (k:Int) s->bg M.1 (iat ν s):=λ s hs=>by rw[U];exact(B.lt hs (g s hs)).1
 have a1: ∀q,bg M.1 q-> ∃s,bg (k:Int) s/\iat ν s=q:=λ q hq=>by
  rw[U]at hq;exact⟨_,B.get hq⟩
 have p:Gy (k:Int) T.2.1 T.2.2 (iat ν):=Wi λ s t hs A e=>inj s t hs A (g s hs) e
 have u:ad2 (iat ν) T.2.1 M.2.1:=λ q=>by
  rw[Z q];constructor
  ·rintro⟨j,s,rfl,v,h2⟩;exact⟨s,h2,((B.2.1 j s).1 v).2.symm⟩
  ·rintro⟨s,v,rfl⟩;have hs:=w.2.2.2.2.1 s v;have:=g s hs;exact⟨(iat ν s).toNat,s,Ω,(B.2.1 _ s).2 ⟨hs,Ω⟩,v⟩
 obtain⟨y,_⟩:=UL (a:=((k:Int),T.2.1,T.2.2)) (M:=M) w a0 z p d u st a1 λ h hh s t hs A e=>by rw[i h hh s t hs A e]
 refine⟨y,ZW (q:=((k:Int),T.2.1,T.2.2)) w d g Y,E,G,λ t=>(Kw w p d u t).trans ((wa t).trans ((Kw f K.2.2.1 L D t).trans (f5 t))),by rw[U];omega,?_,?_,λ r hr=> ?_⟩
 ·have c4:=B.len;have:=MG (S:=M.1) (l:=M.2.1) (E.imp λ h=>Ω) y.fin;have:=w.2.1;omega
 ·have a3:M.2.2.Nodup:=G.imp λ{a b} h e=>by
   rw[e]at h;have:=oM.refl b;omega
  have:=EP (a:=M.2.2) (b:=T.2.2.map λ r=>(r.1,r.2.1.map (iat ν),iat ν r.2.2)) a3 λ r hr=>by
   obtain⟨r0,v,rfl⟩:=(d r).1 hr;exact aaC.2 ⟨r0,v,rfl⟩
  rw[aaH]at this;have:=w.2.2.2.1;omega
 ·obtain⟨r0,v,rfl⟩:=(d r).1 hr;simpa using(w.2.2.2.2.2 r0 v).2.2
end
theorem V8 {al:LI} {rs:LR} (h:Ar al rs):ArC rs:=λ r f g d e=>by
 have a:=(h r f).2;have b:=(h g d).2;rw[e,b]at a;have:=aak a;omega
theorem afa {al:LI} {k:Nat} {fin:LI} {rs:LR} (w:Wf (k:Int) fin rs) (h:Ar al rs) {r:Rule} (d:r∈rs):F6 al k r:=by
 obtain⟨i,e⟩:=h r d;obtain⟨f,g,_⟩:=w.2.2.2.2.2 r d;exact⟨r.1.toNat,r.2.1.length,e,Ω,dN.2 ⟨rfl,g⟩,f⟩
section
variable {In:Nat->Af->Option Bool} {Is:Nat->Af->Option LI} {Tr:Nat->Ab->Option Aut} {Fi:Nat->Aa->Option Aut} {Ov:Nat->Af->Option Bool}
 {Re:Nat->Aa->Option Aut} {Su:Nat->Aa->Option AE} {Cl:Nat->Aa->Option LI}
theorem J6 (al:LI) (S:Int) (fin:LI) (rs:LR) (hw:Wf S fin rs) (a5:Ar al rs)
 (a6: ∀S fin rs,Wf S fin rs->ArC rs->Sp Tr (S,fin,rs) (yx S fin rs)) (c8: ∀S fin rs,Wf S fin rs->Ar al rs->Sp Su (al,S,fin,rs) (λ t=>t.2.2.2.2=0->ED al/\ ∃m,DOk al fin rs m (t.1,t.2.1,t.2.2.1)))
 (c9:ED al-> ∀m:Nat,m<=1000->Sp Ov (al,(m:Int)) (λ b=>b=true ↔ 300<m\/20000<lY al m))
 (d0: ∀(m:Nat) fin rs,ED al->m<=300->fin.length<=300->rs.length<=20000->(∀r∈rs,r.2.1.length<=3)->lY al (m+1)<=20000->Sp Fi (al,(m:Int),fin,rs) (λ t=>t.1=((m+1:Nat):Int)/\t.2.1=fin/\t.2.2.length<=40000/\ ∀r,r∈t.2.2 ↔ r∈rs\/aft al m rs r))
 (d6: ∀(m:Nat) fin rs δ,ED al->m<=301->fin.length<=1000000000->(∀q∈fin,bg (m:Int) q)->rs.length<=1000000000->Yu al m rs δ->Sp Cl (al,(m:Int),fin,rs) (UD m fin rs))
 (d7: ∀(m:Nat) fin rs,ED al->m<=301->fin.length<=1000000000->rs.length<=1000000000->(∀r∈rs,F6 al m r)->Det rs->Sp Re (al,(m:Int),fin,rs) (ad5 m fin rs))
 (d8: ∀(l:LI) (v:Int),l.length<=1000000000->Sp In (l,v) (λ b=>b=true ↔ v∈l))
 (d9: ∀l v,l.length<=1000000000->Sp Is (l,v) (λ r=>(∀y,y∈r ↔ y=v\/y∈l)/\r.length<=l.length+1)):
 Sp (λ n=>dH.P (In n) (Is n) (Tr n) (Fi n) (Ov n) (Re n) (Su n) (Cl n) n) (al,S,fin,rs) (λ t=>t.2.2.2=true->Yw fin rs (t.1,t.2.1,t.2.2.1)):=by
 show Tt (λ n=>dH.P (In n) (Is n) (Tr n) (Fi n) (Ov n) (Re n) (Su n) (Cl n) n (al,S,fin,rs)) _;unfold dH.P;dsimp only;refine aZ1 (a6 S fin rs hw (V8 a5)) λ r1 e0=> ?_;obtain⟨e2,R0,k1,k2,k3,k4,k5,_⟩:=e0;obtain⟨w0,_,_,_,e3,_,a7,_,_⟩:=Mc hw k2 k3 k4 k5;refine aZ1 (c8 _ _ _ w0 (a7 al a5)) λ p a8=> ?_;refine aZ1 (R:=λ x=> ∃b:Bool,(b=false->p.2.2.2.2=0/\ ∀m:Nat,p.1=(m:Int)->m<=300->m+1<=300/\lY al (m+1)<=20000)/\x=(al,(0:Int),([]:LI),([]:LR),p.1,p.2.1,p.2.2.1,b)) ?_ ?_
 ·refine aY4 (λ _=>aZ0 ⟨true,λ h=>(by cases h),rfl⟩) (λ h=> ?_);have h0:p.2.2.2.2=0:=by simpa using h
  obtain⟨I,m,hD⟩:=a8 h0;have hm:=hD.1;have e1:p.1=(m:Int):=hD.2.1;rw[e1,ak Ω];refine aZ1 (c9 I (m+1) Ω) λ b hb=>aZ0 ⟨b,λ B=>⟨h0,λ m' e i9=> ?_⟩,rfl⟩;have:m'=m:=by omega
  subst this;have h4: ¬(300<m'+1\/20000<lY al (m'+1)):=λ h=>by rw[hb.2 h]at B;cases B
  exact⟨Ω,Ω⟩
 rintro _ ⟨b,hb,rfl⟩;dsimp only;refine aY4 (λ _=>aZ0 λ h=>(by cases h)) (λ B=> ?_);obtain⟨h0,D⟩:=hb B;obtain⟨I,m,hD⟩:=a8 h0;obtain⟨hm,e1,u,h4,h5,h6,K,_⟩:=id hD;dsimp only at e1 u h4 h5 h6 K;obtain⟨j6,D⟩:=D m e1 hm
 have z: ∀{m:Nat} {r:Rule},F6 al m r->r.2.1.length<=3:=λ E=>by
  obtain⟨f,a,A,_,u,_⟩:=E;obtain⟨K,h4⟩:=dN.1 u;obtain⟨hf,he⟩:=aad.1 A;obtain⟨a',j8,e'⟩:=I.rank hf;omega
 rw[e1];refine aZ1 (d0 m _ _ I hm u h4 (λ r E=>z (h6 r E)) D) λ d hd=> ?_;obtain⟨dS,dF,g⟩:=d;obtain⟨d1,d2,d3,d4⟩:=hd;dsimp only at d1 d2 d3 d4 ⊢;subst d1 d2;have b1:FOk al r1.2.1 r1.2.2 m (((m+1:Nat):Int),p.2.1,g):=agu hD rfl rfl d4;obtain⟨δ,L⟩:=b1.1;dsimp only at L
 have d5: ∀r∈g,F6 al (m+1) r:=λ r E=>by
  obtain⟨f,a,g1,g2,g3,g4⟩:=(L.2 r).1 E;exact⟨f,a,g1,g2,g3,by rw[g4];exact L.1 f a _ g1 g3⟩
 have G: ∀q∈p.2.1,bg ((m+1:Nat):Int) q:=λ q hq=>⟨(K q hq).1,by have:=(K q hq).2;omega⟩;have b2:Wf ((m+1:Nat):Int) p.2.1 g:=⟨Ω,Ω,Ω,Ω,G,λ r E=>⟨(d5 r E).st.1,(d5 r E).st.2,z (d5 r E)⟩⟩;refine aZ1 (d6 (m+1) _ _ δ I Ω Ω G Ω L) λ num O=> ?_;obtain⟨k8,b3,e6,k9⟩:=id O
 refine aZ1 (R:=λ x=> ∃C:Int,0<=C/\C<=((m+1:Nat):Int)/\(∀v∈num,v<C)/\x=(al,(0:Int),([]:LI),([]:LR),((m+1:Nat):Int),p.2.1,g,num,C,([]:LI),([]:LR)))
  (aZ8 (aZ6 num.length (λ i s=> ∃C:Int,0<=C/\C<=((m+1:Nat):Int)/\(∀v∈num.take i,v<C)/\s=(al,(0:Int),([]:LI),([]:LR),((m+1:Nat):Int),p.2.1,g,num,C,([]:LI),([]:LR),(num.length:Int),(i:Int))) ?_ ?_ ⟨0,Ω,Ω,Θ,rfl⟩)) ?_
 ·rintro i s U ⟨C,c0,c1,c2,rfl⟩;unfold dH.L1;dsimp only;refine aY1 Ω (aZ9 (rng Ω Ω) ?_);rw[aam];refine aY6 U λ e W he=> ?_;have hv:=b3 e W;have l0:=hv.1;have l1:=hv.2;rw[jX (e+1) Ω Ω];refine aZ2 ⟨max C (e+1),Ω,Ω,λ v hv=> ?_,by rw[ak Ω]⟩;rw[aat,he]at hv;rcases aap.1 hv with h|h
  ·have:=c2 v h;omega
  ·have:v=e:=by simpa using h
   omega
 ·rintro s ⟨C,c0,c1,c2,rfl⟩;unfold dH.L1;dsimp only;exact aY3 Ω (aZ4 ⟨C,c0,c1,λ v hv=>c2 v (by rw[aar];exact hv),rfl⟩)
 rintro _ ⟨C,c0,c1,c2,rfl⟩;dsimp only;have e8: ∀v∈num,bg C v:=λ v hv=>⟨(b3 v hv).1,c2 v hv⟩
 have N: ∀s,bg ((m+1:Nat):Int) s->bg C (iat num s):=λ s hs=>by
  have hl:s.toNat<num.length:=by have:=hs.1;have:=hs.2;omega
  exact e8 _ (by rw[←tJ hl];exact aaf hl)
 refine aZ1 (R:=λ x=> ∃fin':LI,fin'.length<=num.length/\ad2 (iat num) p.2.1 fin'/\x=(al,(0:Int),([]:LI),([]:LR),((m+1:Nat):Int),p.2.1,g,num,C,fin',([]:LR)))
  (aZ8 (aZ6 num.length (λ i s=> ∃fin':LI,fin'.length<=i/\(∀q,q∈fin' ↔ ∃s:Nat,s<i/\(s:Int)∈p.2.1/\q=iat num (s:Int))/\s=(al,(0:Int),([]:LI),([]:LR),((m+1:Nat):Int),p.2.1,g,num,C,fin',([]:LR),(num.length:Int),(i:Int))) ?_ ?_ ⟨[],Θ,λ q=>⟨λ h=>(by cases h),λ⟨s,h,_⟩=>absurd h Ω⟩,rfl⟩)) ?_
 ·rintro i s U ⟨fin',f1,Y,rfl⟩;unfold dH.L2;dsimp only;refine aY1 Ω (aZ9 (rng Ω Ω) ?_);rw[aam];refine aY6 U λ e W he=>aZ7 (d8 _ _ Ω) λ b hb=>aY2 (λ f0=> ?_) (λ B=> ?_)
  ·have b5:iat num (i:Int)=e:=l7 (by rw[aam];exact he);refine aY5 (aZ7 (d9 fin' e Ω) λ r E=>aZ3 (aZ2 ⟨r,by have:=E.2;omega,λ q=> ?_,by rw[ak Ω]⟩));rw[E.1 q,Y q];constructor
   ·rintro(rfl|⟨s,A,u⟩)
    ·exact⟨i,Ω,hb.1 f0,b5.symm⟩
    ·exact⟨s,Ω,u⟩
   ·rintro⟨s,A,u,K⟩;by_cases f3:s=i
    ·subst f3;exact .inl (K.trans b5)
    ·exact .inr ⟨s,Ω,u,K⟩
  ·refine aZ3 (aZ2 ⟨fin',Ω,λ q=> ?_,by rw[ak Ω]⟩);rw[Y q];refine⟨λ⟨s,A,u⟩=>⟨s,Ω,u⟩,λ⟨s,A,u,K⟩=>⟨s,?_,u,K⟩⟩;apply aaT;intro hk;have:s=i:=by omega
   subst this;rw[hb.2 u]at B;cases B
 ·rintro s ⟨fin',f1,Y,rfl⟩;unfold dH.L2;dsimp only;refine aY3 Ω (aZ4 ⟨fin',f1,λ q=> ?_,rfl⟩);rw[Y q];constructor
  ·rintro⟨s,_,u,K⟩;exact⟨_,u,K⟩
  ·rintro⟨s,A,rfl⟩;obtain⟨k,hk,rfl⟩:=NR (G s A);exact⟨k,Ω,A,rfl⟩
 rintro _ ⟨fin',f1,Y,rfl⟩;dsimp only
 refine aZ1 (R:=λ x=>x=(al,(0:Int),([]:LI),([]:LR),C,fin',g.map λ r=>(r.1,r.2.1.map (iat num),iat num r.2.2)))
  (aZ8 (aZ6 g.length (λ i s=>s=(al,(0:Int),([]:LI),([]:LR),((m+1:Nat):Int),p.2.1,g,num,C,fin',(g.take i).map (λ r=>(r.1,r.2.1.map (iat num),iat num r.2.2)),(g.length:Int),(i:Int))) ?_ ?_ Θ)) ?_
 ·rintro i s U rfl;unfold dH.L4;dsimp only;have b6:=d5 _ (aaf U);have l2:=z b6;obtain⟨⟨g7,g8⟩,g6⟩:=b6.st;refine aY1 Ω (aY U (aZ9 (rng g7 Ω) (aY6 Ω λ e W he=> ?_)))
  refine aZ7 (R:=λ x=>x=(al,(0:Int),([]:LI),([]:LR),((m+1:Nat):Int),p.2.1,g,num,C,fin',(g.take i).map (λ r=>(r.1,r.2.1.map (iat num),iat num r.2.2)),g[i].1,g[i].2.1.map (iat num),e,(g.length:Int),(i:Int)))
   (aZ8 (aZ6 g[i].2.1.length (λ j s=>s=(al,(0:Int),([]:LI),([]:LR),((m+1:Nat):Int),p.2.1,g,num,C,fin',(g.take i).map (λ r=>(r.1,r.2.1.map (iat num),iat num r.2.2)),g[i].1,(g[i].2.1.take j).map (iat num),e,(g.length:Int),(i:Int),g[i].2.1,((g[i].2.1.length:Nat):Int),(j:Int))) ?_ ?_ Θ)) ?_
  ·rintro j s hj rfl;unfold dH.L3;dsimp only;obtain⟨f5,l4⟩:=g6 _ (aaf hj);refine aY1 Ω (aY hj (aZ9 (rng f5 Ω) (aY6 Ω λ e' i3 f6=> ?_)));exact aZ9 (jK Δ) (aZ2 (by rw[ak Ω,←l7 f6,←Ce hj];rfl))
  ·rintro s rfl;unfold dH.L3;dsimp only;rw[aar];exact aY3 Ω (aZ4 rfl)
  ·rintro _ rfl;dsimp only;refine aZ9 (jK Δ) (aZ2 ?_);rw[ak Ω,aat,aac U,abt,←l7 he];rfl
 ·rintro s rfl;unfold dH.L4;dsimp only;rw[aar];exact aY3 Ω (aZ4 rfl)
 rintro _ rfl;dsimp only
 have hI:Img (iat num) g (g.map λ r=>(r.1,r.2.1.map (iat num),iat num r.2.2)):=λ r'=>by
  rw[aaC];exact⟨λ⟨r,A,u⟩=>⟨r,A,u.symm⟩,λ⟨r,A,u⟩=>⟨r,A,u.symm⟩⟩
 have Z:Wf C fin' (g.map λ r=>(r.1,r.2.1.map (iat num),iat num r.2.2)):=⟨c0,Ω,Ω,by simpa using by omega,λ q hq=>by
  obtain⟨s,A,rfl⟩:=(Y q).1 hq;exact N s (G s A),λ r' a0=>by
  obtain⟨r,A,rfl⟩:=(hI r').1 a0;have:=d5 r A;refine⟨N _ this.st.1,λ q hq=> ?_,by simpa using z this⟩;obtain⟨s,hs,rfl⟩:=aaC.1 hq;exact N s (this.st.2 s hs)⟩
 have b7:Ar al (g.map λ r=>(r.1,r.2.1.map (iat num),iat num r.2.2)):=λ r' a0=>by
  obtain⟨r,A,rfl⟩:=(hI r').1 a0;obtain⟨f,a,g1,g2,g3,_⟩:=d5 r A;dsimp only;rw[g2,aam,aaH,(dN.1 g3).1];exact⟨Ω,g1⟩
 refine aZ1 (a6 C fin' _ Z (V8 b7)) λ t ht=> ?_;obtain⟨keep,R,j1,j2,j3,j4,j5,_⟩:=id ht;obtain⟨w,m0,wu,_,_,_,f7,_,_⟩:=Mc Z j2 j3 j4 j5;obtain⟨k,hk⟩: ∃k:Nat,t.1=(k:Int):=⟨t.1.toNat,by have:=w.1;omega⟩;have f8:Det t.2.2:=wu (U0 b2 L.det e6 hI);have m2:=w.2.2;rw[hk]at w ⊢;refine aZ1 (d7 k t.2.1 t.2.2 I Ω Ω Ω (λ r E=>afa w (f7 al b7) E) f8) λ M hM=>aZ0 λ _=> ?_;have:=ag6 (Q:=(C,fin',g.map λ r=>(r.1,r.2.1.map (iat num),iat num r.2.2))) (M:=(M.1,M.2.1,M.2.2)) b1 b2 O Z hI Y ht hk hM;exact⟨this.1,this.2.1,this.2.2.1,this.2.2.2.1,λ t=>(this.2.2.2.2.1 t).trans (e3 t),this.2.2.2.2.2⟩
end
theorem J5 {G:Nat->LI->Option Bool} (al:LI) (hG:Sp G al (λ r=>r=true ↔ ED al)) (S:Int) (fin:LI) (rs:LR) (a5:fin.length<=1000000000) (a6:rs.length<=1000000000) (K: ∀r∈rs,r.2.1.length<=1000):
 Sp (λ n=>gJ.P (G n) n) (al,S,fin,rs) (λ r=>r=true ↔ bW al (S,fin,rs)):=by
 show Tt (λ n=>gJ.P (G n) n (al,S,fin,rs)) _;unfold gJ.P;dsimp only;refine aZ1 (R:=λ t=> ∃g:Bool,(g=false->ED al/\0<=S/\S<=300/\rs.length<=20000)/\(g=true-> ¬bW al (S,fin,rs))/\t=(al,S,fin,rs,g)) (aZ1 hG λ b d=> ?_) ?_
 ·refine aY4 (λ h=>aZ0 ⟨true,λ h=>(by cases h),λ _ hv=> ?_,rfl⟩) (λ h=>aY4 (λ f=>aZ0 ⟨true,λ h=>(by cases h),λ _ hv=> ?_,rfl⟩) (λ f=>aY4 (λ l=>aZ0 ⟨true,λ h=>(by cases h),λ _ hv=> ?_,rfl⟩) (λ l=>aZ0 ⟨_,λ v=> ?_,λ v hv=> ?_,rfl⟩)))
  ·rw[d.2 hv.1]at h;cases h
  ·have:=fZ f;have:=hv.2.1;dsimp only at this;omega
  ·have:=fZ l;have:=hv.2.2.1;dsimp only at this;omega
  ·have f:=dec_not f;have l:=dec_not l;have v:=of_decide_eq_false v;exact⟨d.1 (by simpa using h),Ω,Ω,Ω⟩
  ·have:=fZ v;have:=hv.2.2.2.1;dsimp only at this;omega
 rintro _ ⟨g,M,N,rfl⟩;dsimp only;refine aY4 (λ h=>aZ0 ⟨λ h=>(by cases h),λ hv=>absurd hv (N h)⟩) (λ h=> ?_);obtain⟨W,a2,a3,a4⟩:=M h;have b0:=W.1
 refine aZ1 (R:=λ t=>t=Sum.inl (al,S,fin,rs)/\(∀k,k<fin.length->UF S fin k)\/t=Sum.inr false/\ ¬bW al (S,fin,rs))
  (aZ8 (L:=λ _=>gJ.L1) (aZ6 fin.length (λ i t=>t=(al,S,fin,rs,fin,(fin.length:Int),(i:Int))/\ ∀k,k<i->UF S fin k) ?_ ?_ ⟨rfl,λ k h=>absurd h Ω⟩)) ?_
 ·rintro i t q ⟨rfl,y⟩;unfold gJ.L1;dsimp only;refine aY1 Ω (aY q (aZ7 (R:=λ t=> ∃b:Bool,(b=true ↔ ¬UF S fin i)/\t=(al,S,fin,rs,fin,(fin.length:Int),(i:Int),b)) ?_ ?_))
  ·refine aY4 (λ h=>aZ0 ⟨true,⟨λ _ u=> ?_,λ _=>rfl⟩,rfl⟩) (λ h=>aY4 (λ f=>aZ0 ⟨true,⟨λ _ u=> ?_,λ _=>rfl⟩,rfl⟩) (λ f=>aY4 (λ l=> ?_) (λ l=>aZ0 ⟨false,⟨λ h=>(by cases h),λ u=>absurd (λ b1=>⟨⟨?_,?_⟩,λ h0=> ?_⟩) u⟩,rfl⟩)))
   ·have:=fZ h;have:=(u q).1.1;omega
   ·have:=fZ f;have:=(u q).1.2;omega
   ·have h:=dec_not h;have f:=dec_not f;have l:=fZ l;rw[jX ((i:Int)-1) Ω Ω];refine aW1 Ω Ω λ e _ z=>aZ0 ⟨_,⟨λ d u=> ?_,λ u=> ?_⟩,rfl⟩
    ·have A:((i:Int)-1).toNat=i-1:=by omega
     rw[A,aac Ω]at z;cases z;have:=fZ d;have:=(u q).2 Ω;omega
    ·have A:((i:Int)-1).toNat=i-1:=by omega
     rw[A,aac Ω]at z;cases z;apply aaT;intro d;have d:=of_decide_eq_false (by simpa using d:decide (fin[i]<=fin[i-1])=false);exact u λ _=>⟨⟨Ω,Ω⟩,λ _=>Ω⟩
   ·have:=dec_not h;omega
   ·have:=dec_not f;omega
   ·have:=dec_not l;omega
  ·rintro _ ⟨b,d,rfl⟩;dsimp only;refine aY9 (λ h=>aZ4 (.inr ⟨rfl,λ hv=>d.1 h (hv.2.2.2.2.1 i q)⟩)) (λ h=>aZ2 ⟨by rw[ak Ω],λ k Y=> ?_⟩);by_cases e:k=i
   ·subst e;apply aaT;intro p;rw[d.2 p]at h;cases h
   ·exact y k Ω
 ·rintro t ⟨rfl,y⟩;unfold gJ.L1;dsimp only;exact aY3 Ω (aZ4 (.inl ⟨rfl,y⟩))
 rintro _ (⟨rfl,C⟩|⟨rfl,p⟩)
 rotate_left
 ·exact aZ0 ⟨λ h=>(by cases h),λ hv=>absurd hv p⟩
 dsimp only
 refine aZ1 (R:=λ t=>t=Sum.inl ()/\(∀k,k<rs.length->OE al S rs k)\/t=Sum.inr false/\ ¬bW al (S,fin,rs))
  (aZ8 (L:=λ n=>gJ.L3 n) (aZ6 rs.length (λ i t=>t=(al,S,fin,rs,rs,(rs.length:Int),(i:Int))/\ ∀k,k<i->OE al S rs k) ?_ ?_ ⟨rfl,λ k h=>absurd h Ω⟩)) ?_
 ·rintro i t q ⟨rfl,y⟩;unfold gJ.L3;dsimp only;have Z:=K _ (aaf q);refine aY1 Ω (aY q (aZ7 (R:=λ t=> ∃b:Bool,(b=true-> ¬Gz al S rs[i])/\(b=false->0<=rs[i].1/\rs[i].1<(al.length:Int)/\(∀h:rs[i].1.toNat<al.length,((rs[i].2.1.length:Nat):Int)=al[rs[i].1.toNat])/\bg S rs[i].2.2)/\t=(al,S,fin,rs,rs[i].1,rs[i].2.1,rs[i].2.2,rs,(rs.length:Int),(i:Int),b)) ?_ ?_))
  ·refine aY4 (λ h=>aZ0 ⟨true,λ _ m=> ?_,λ h=>(by cases h),rfl⟩) (λ h=>aY4 (λ f=>aZ0 ⟨true,λ _ m=> ?_,λ h=>(by cases h),rfl⟩) (λ f=> ?_))
   ·have:=fZ h;have:=m.1;omega
   ·have:=fZ f;have:=m.2.1;omega
   have h:=dec_not h;have f:=dec_not f;refine aW1 Ω Ω λ e _ z=> ?_;have D:rs[i].1.toNat<al.length:=by omega
   rw[aac D]at z;cases z;refine aY4 (λ l=>aZ0 ⟨true,λ _ m=> ?_,λ h=>(by cases h),rfl⟩) (λ l=>aY4 (λ v=>aZ0 ⟨true,λ _ m=> ?_,λ h=>(by cases h),rfl⟩) (λ v=>aZ0 ⟨_,λ d m=> ?_,λ d=>⟨Ω,Ω,λ _=> ?_,?_,?_⟩,rfl⟩))
   ·have:=m.2.2.1 D;rw[decide_eq_true this]at l;cases l
   ·have:=fZ v;have:=m.2.2.2.1.1;omega
   ·have:=fZ d;have:=m.2.2.2.1.2;omega
   ·simpa using l
   ·have:=dec_not v;omega
   ·have:=of_decide_eq_false d;omega
  ·rintro _ ⟨b,O,Q,rfl⟩;dsimp only;have E: ¬Gz al S rs[i]-> ¬bW al (S,fin,rs):=λ p hv=>p (hv.2.2.2.2.2 i q q);refine aY9 (λ h=>aZ4 (.inr ⟨rfl,E (O h)⟩)) (λ h=> ?_);obtain⟨c1,c2,c3,c4⟩:=Q h
   refine aZ7 (R:=λ t=>t=Sum.inl (al,S,fin,rs,rs,(rs.length:Int),(i:Int))/\(∀k,k<rs[i].2.1.length->OC S rs[i].2.1 k)\/t=Sum.inr (Sum.inr false)/\ ¬Gz al S rs[i])
    (aZ8 (L:=λ _=>gJ.L2) (aZ6 rs[i].2.1.length (λ j t=>t=(al,S,fin,rs,rs,(rs.length:Int),(i:Int),rs[i].2.1,((rs[i].2.1.length:Nat):Int),(j:Int))/\ ∀k,k<j->OC S rs[i].2.1 k) ?_ ?_ ⟨rfl,λ k h=>absurd h Ω⟩)) ?_
   ·rintro j t U ⟨rfl,I⟩;unfold gJ.L2;dsimp only;refine aY1 Ω (aY U (aZ7 (R:=λ t=> ∃b:Bool,(b=true ↔ ¬bg S rs[i].2.1[j])/\t=(al,S,fin,rs,rs,(rs.length:Int),(i:Int),rs[i].2.1,((rs[i].2.1.length:Nat):Int),(j:Int),b)) ?_ ?_))
    ·refine aY4 (λ h=>aZ0 ⟨true,⟨λ _ hs=> ?_,λ _=>rfl⟩,rfl⟩) (λ h=>aZ0 ⟨_,⟨λ d hs=> ?_,λ hs=> ?_⟩,rfl⟩)
     ·have:=fZ h;have:=hs.1;omega
     ·have:=fZ d;have:=hs.2;omega
     ·have:=dec_not h;apply aaT;intro d;have d:=of_decide_eq_false (by simpa using d:decide (S<=rs[i].2.1[j])=false);exact hs ⟨Ω,Ω⟩
    ·rintro _ ⟨b,d,rfl⟩;dsimp only;refine aY9 (λ h=>aZ4 (.inr ⟨rfl,λ m=>d.1 h (m.2.2.2.2 j U U)⟩)) (λ h=>aZ2 ⟨by rw[ak Ω],λ k Y B=> ?_⟩);by_cases e:k=j
     ·subst e;apply aaT;intro p;rw[d.2 p]at h;cases h
     ·exact I k Ω B
   ·rintro t ⟨rfl,I⟩;unfold gJ.L2;dsimp only;exact aY3 Ω (aZ4 (.inl ⟨rfl,I⟩))
   ·rintro _ (⟨rfl,I⟩|⟨rfl,p⟩)
    ·refine aZ2 ⟨by rw[ak Ω],λ k Y B=> ?_⟩;by_cases e:k=i
     ·subst e;exact⟨c1,c2,c3,c4,I⟩
     ·exact y k Ω B
    ·exact aZ4 (.inr ⟨rfl,E p⟩)
 ·rintro t ⟨rfl,y⟩;unfold gJ.L3;dsimp only;exact aY3 Ω (aZ4 (.inl ⟨rfl,y⟩))
 rintro _ (⟨rfl,m⟩|⟨rfl,p⟩)
 ·exact aZ0 ⟨λ _=>⟨W,a2,a3,a4,C,m⟩,λ _=>rfl⟩
 ·exact aZ0 ⟨λ h=>(by cases h),λ hv=>absurd hv p⟩
theorem yx.upB {S:Int} {fin:LI} {rs:LR} {a:Aut} (h:yx S fin rs a):UpB rs fin a.1.toNat:=λ l e d=>by
 obtain⟨keep,R,_,_,f,g,_,i⟩:=h;have:=aej (U:=keep) e λ s hs=>⟨(d s hs).1,ahO f g (d s hs).2⟩;omega
theorem YP {al:LI} {m:Nat} {rs:LR} {δ:Int->LI->Int} (hF:Yu al m rs δ) {f a:Nat} {l:LI} {v:Int} (d:al[f]? =some (a:Int)) (e:l∈kV m a) (h:Rq rs (f:Int) l v):v=δ (f:Int) l:=by
 rcases h with⟨_,h⟩|⟨r,i,q,k,p⟩
 ·exact absurd ⟨rfl,rfl⟩ (h ((f:Int),l,δ (f:Int) l) ((hF.2 _).2 ⟨f,a,d,rfl,e,rfl⟩))
 ·obtain⟨g,c,q1,q2,q3,q4⟩:=(hF.2 r).1 i;rw[←p,q4,k,show(g:Int)=(f:Int) by omega]
theorem Yu.ajB {al:LI} {m:Nat} {rs:LR} {δ:Int->LI->Int} (hF:Yu al m rs δ): ∀r∈rs,F6 al m r:=λ r e=>by
 obtain⟨f,a,d,g2,g3,g⟩:=(hF.2 r).1 e;exact⟨f,a,d,g2,g3,by rw[g];exact hF.1 f a _ d g3⟩
def Szb (M:Aut):Prop:=M.2.1.length<=1000/\M.2.2.length<=1000000/\ ∀r∈M.2.2,r.2.1.length<=1000
theorem V6.szb {al fin:LI} {rs:LR} {M:Aut} (h:V6 al fin rs M):Szb M:=by
 have w:=h.2.2.2.2.2.2.2.2;exact⟨w.2.2.1,by have:=w.2.2.2.1;omega,λ r d=>by have:=(w.2.2.2.2.2 r d).2.2;omega⟩
theorem Yw.szb {fin:LI} {rs:LR} {M:Aut} (h:Yw fin rs M):Szb M:=by
 have w:=h.2.2.2.2.2.2;exact⟨w.1,by have:=w.2.1;omega,λ r d=>by have:=w.2.2 r d;omega⟩
def aje (b:LI) (x:Aut) (v:Aq):Prop:=(v.2.2.2=0->bW b x/\V6 b x.2.1 x.2.2 (v.1,v.2.1,v.2.2.1))/\(bW b x->v.2.2.2=0\/v.2.2.2=3/\ ¬Iy x.2.2/\ ¬UG b x.2.1 x.2.2)/\(¬bW b x->v.2.2.2=1)
section
variable {Aw:Nat->Unit->Option Bool} {Fw Lg:Nat->LI×List Aut->Option Bool} {E S3:Nat->Ah->Option Bool} {Mi:Nat->Aa->Option Aq} {V3 Df:Nat->Aa->Option Bool}
theorem ajg (d:Sp Aw () (λ r=>r=true)):Tt (λ n=>(Aw n ()).bind λ r=>some r) (λ r=>r=true):=aZ1 d λ r e=>aZ0 e
theorem VY {G:Nat->Option Bool} (h:Tt G (λ r=>r=true)):Tt (λ n=>(G n).bind λ x=>some x) (λ r=>r=true):=aZ1 h λ r d=>aZ0 d
end
def qI (al:LI) (t:RT Int):Prop:=ED al/\nds t<=300/\Shp al t
theorem Qu: ∀l m:List (RT Int),yw (l++m)=yw l+yw m
 | [],m=>by simp[yw]
 |k::l,m=>by simp only[acJ,yw,Qu l m];omega
theorem SL {ks:List (RT Int)} {i:Nat} (d:i<ks.length):yw (ks.take (i+1))=yw (ks.take i)+nds ks[i]:=by
 rw[aat,aac d,Qu];simp[yw]
theorem SN (ks:List (RT Int)) (i:Nat):yw (ks.take i)<=yw ks:=by
 have h:=Qu (ks.take i) (ks.drop i);rw[abb]at h;omega
theorem Yc {F:Nat->Int×List (RT Int)×Int->Option Int} (hF: ∀n x,F (n+1) x=nP.P (F n) n x) (t:RT Int):
 nds t<=1000000000-> ∀m:Nat,m<=1000->Sp F (t.a,t.kids,(m:Int)) (λ r=>r=((min (nds t) (m+1):Nat):Int)):=by
 induction t using uz with
 |h a ks g=>
 intro p m q;have u:=IV (a:=a) (ks:=ks);refine aZ5 hF ?_;show Tt (λ n=>nP.P (F n) n (a,ks,(m:Int))) _;unfold nP.P;dsimp only;refine aZ1 (R:=λ r=>r=((min (nds (.mk a ks)) (m+1):Nat):Int)) (aZ8 (L:=λ n=>nP.L1 (F n)) (aZ6 ks.length (λ i s=>s=((m:Int),((min (yw (ks.take i)+1) (m+1):Nat):Int),ks,(ks.length:Int),(i:Int))) ?_ ?_ ?_)) λ r k=>aZ0 k
 ·rintro i s f rfl;unfold nP.L1;dsimp only;have d:=SL f;have v:=ZR ks[i];refine aY1 Ω (aY f (aZ7 (R:=λ x=>x=((m:Int),((min (yw (ks.take (i+1))+1) (m+1):Nat):Int),ks,(ks.length:Int),(i:Int))) (aY4 (λ h=> ?_) (λ h=>aZ0 ?_)) ?_))
  ·have h:=fZ h;have e:IntKind.wrap .i64 ((m:Int)-((min (yw (ks.take i)+1) (m+1):Nat):Int))=((m-(yw (ks.take i)+1):Nat):Int):=by rw[jX _ Ω Ω];omega
   rw[e];refine aZ1 (g _ (aaf f) (by have:=MI (a:=a) (aaf f);omega) _ Ω) λ y l=>aZ0 ?_;rw[l,jX _ Ω Ω,d];congr 2;omega
  ·have h:=dec_not h;rw[d];congr 2;omega
  ·rintro _ rfl;exact aZ2 (by rw[ak Ω])
 ·rintro s rfl;unfold nP.L1;dsimp only;rw[aar];exact aY3 Ω (aZ4 rfl)
 ·simp[yw]
theorem Oy {F:Nat->Int×List (RT Int)×Int->Option Int} {t:RT Int} {m:Nat} (h:Sp F (t.a,t.kids,(m:Int)) (λ r=>r=((min (nds t) (m+1):Nat):Int))):Sp (λ n=>HY.P (F n) n) (t.a,t.kids,(m:Int)) (λ b=>b=true ↔ nds t<=m):=by
 show Tt (λ n=>HY.P (F n) n (t.a,t.kids,(m:Int))) _;unfold HY.P;dsimp only;refine aZ1 h λ r d=>aZ0 ?_;rw[d,decide_eq_true_eq];omega
theorem J4 {F:Nat->Int×List (RT Int)×Int->Option Bool} {G:Nat->LI->Option Bool} {K:Nat->LI×Int×List (RT Int)->Option Bool} {al:LI} {t:RT Int}
 (l:Sp F (t.a,t.kids,(300:Int)) (λ b=>b=true ↔ nds t<=300)) (m:Sp G al (λ r=>r=true ↔ ED al)) (p:Sp K (al,t.a,t.kids) (λ r=>r=true ↔ Shp al t)):
 Sp (λ n=>CS.P (F n) (G n) (K n) n) (al,t.a,t.kids) (λ r=>r=true ↔ qI al t):=by
 show Tt (λ n=>CS.P (F n) (G n) (K n) n (al,t.a,t.kids)) _;unfold CS.P;dsimp only;refine aZ1 (R:=λ r=>r=true ↔ qI al t) (aZ1 m λ b k=>aY4 (λ g=>aZ1 l λ c e=>aY4 (λ i=>aZ1 p λ d f=>aZ0 ⟨λ h=>⟨k.1 g,e.1 i,f.1 h⟩,λ h=>f.2 h.2.2⟩) (λ i=>aZ0 ⟨λ h=>(by cases h),λ h=> ?_⟩)) (λ g=>aZ0 ⟨λ h=>(by cases h),λ h=> ?_⟩)) λ r q=>aZ0 q
 ·rw[e.2 h.2.1]at i;cases i
 ·rw[k.2 h.1]at g;cases g
theorem VQ {F:Nat->LI×Int×List (RT Int)×Int->Option AW} (hF: ∀n x,F (n+1) x=nT.P (F n) n x) (al:LI) (t:RT Int):
 nds t<=1000000000-> ∀left:Nat,left<=1000->Sp F (al,t.a,t.kids,(left:Int)) (λ r=>(r.1=true->nds t<=left/\Shp al t/\r.2=((left-nds t:Nat):Int))/\(r.1=false-> ¬(nds t<=left/\Shp al t))):=by
 induction t using uz with
 |h a ks K=>
  intro S left U;have M:nds (.mk a ks)=yw ks+1:=by simp only[nds]
  refine aZ5 hF ?_;show Tt (λ n=>nT.P (F n) n (al,a,ks,(left:Int))) _;unfold nT.P;dsimp only;rw[jX ((left:Int)-1) Ω Ω];have N:=IV (a:=a) (ks:=ks);refine aZ1 (R:=λ x=> ∃c:Bool,(c=true-> ¬(nds (.mk a ks)<=left/\Shp al (.mk a ks)))/\(c=false->1<=left/\0<=a/\al[a.toNat]? =some (ks.length:Int))/\x=((left:Int)-1,al,a,ks,c)) ?_ ?_
  ·refine aY4 (λ d=>aZ0 ⟨true,λ _ h=> ?_,λ h=>(by cases h),rfl⟩) (λ d=>aY4 (λ g=>aZ0 ⟨true,λ _ h=> ?_,λ h=>(by cases h),rfl⟩) (λ g=>aY4 (λ p=>aZ0 ⟨true,λ _ h=> ?_,λ h=>(by cases h),rfl⟩) (λ p=> ?_)))
   ·have:=fZ d;omega
   ·have:=fZ g;have:=h.2.nonneg;omega
   ·have:=fZ p;have:=(aad.1 h.2.ar).1;omega
   have d:=dec_not d;have g:=dec_not g;have p:=dec_not p;refine aW1 Ω Ω λ e _ E=>aZ0 ⟨_,λ v h=> ?_,λ v=>⟨Ω,Ω,?_⟩,rfl⟩
   ·have:=h.2.ar;rw[E]at this;have:=aak this;rw[decide_eq_true this.symm]at v;cases v
   ·rw[E];have:(ks.length:Int)=e:=by simpa using v
    rw[this]
  rintro _ ⟨c,z,A,rfl⟩;dsimp only;refine aY4 (λ d=>aZ0 ⟨λ h=>(by cases h),λ _=>z d⟩) (λ d=> ?_);obtain⟨O,B,C⟩:=A d
  refine aZ1 (R:=λ q:Sum Int AW=>(q= .inl ((left-nds (.mk a ks):Nat):Int)/\nds (.mk a ks)<=left/\Shp al (.mk a ks))\/ ∃l,q= .inr (false,l)/\ ¬(nds (.mk a ks)<=left/\Shp al (.mk a ks)))
   (aZ8 (L:=λ n=>nT.L1 (F n)) (aZ6 ks.length (λ i s=>s=(((left-1-yw (ks.take i):Nat):Int),al,ks,(ks.length:Int),(i:Int))/\yw (ks.take i)+1<=left/\ ∀k∈ks.take i,Shp al k) ?_ ?_ ⟨by simp[yw];omega,by simp[yw];omega,Θ⟩)) ?_
  ·rintro i s y ⟨rfl,u,f⟩;unfold nT.L1;dsimp only;have m:=aaf y;have D:=SL y;have Q:=SN ks (i+1);refine aY1 Ω (aY y (aZ7 (K _ m (by have:=MI (a:=a) m;omega) _ Ω) λ r G=>aY9 (λ d=>aZ3 (aZ4 (.inr ⟨r.2,rfl,λ h=> ?_⟩))) (λ d=> ?_)))
   ·exact G.2 (by simpa using d) ⟨Ω,h.2.kid _ m⟩
   ·obtain⟨W,g2,g3⟩:=G.1 (by simpa using d);refine aZ2 ⟨?_,Ω,λ k I=> ?_⟩
    ·rw[ak Ω,g3,D];congr 2;omega
    ·rw[aat,aac y]at I;rcases aap.1 I with h|h
     ·exact f k h
     ·have:k=ks[i]:=by simpa using h
      rw[this];exact g2
  ·rintro s ⟨rfl,u,f⟩;unfold nT.L1;dsimp only;rw[aar]at u f ⊢;refine aY3 Ω (aZ4 (.inl ⟨?_,Ω,.mk a ks B C f⟩));congr 2;omega
  ·rintro _ (⟨rfl,g,p⟩|⟨l,rfl,g⟩)
   ·exact aZ0 ⟨λ _=>⟨g,p,rfl⟩,λ h=>(by cases h)⟩
   ·exact aZ0 ⟨λ h=>(by cases h),λ _=>g⟩
theorem NM {f:Nat->LI->Option Bool} {F:Nat->LI×Int×List (RT Int)×Int->Option AW} {al:LI} {t:RT Int} (i:Sp f al (λ r=>r=true ↔ ED al))
 (hF:Sp F (al,t.a,t.kids,(300:Int)) (λ r=>(r.1=true->nds t<=300/\Shp al t/\r.2=((300-nds t:Nat):Int))/\(r.1=false-> ¬(nds t<=300/\Shp al t)))):
 Sp (λ n=>EZ.P (f n) (F n) n) (al,t.a,t.kids) (λ r=>r=true ↔ qI al t):=by
 show Tt (λ n=>EZ.P (f n) (F n) n (al,t.a,t.kids)) _;unfold EZ.P;dsimp only;refine aZ1 (R:=λ r=>r=true ↔ qI al t) (aZ1 i λ b g=>aY4 (λ d=>aZ1 hF λ r e=>aZ0 ⟨λ h=> ?_,λ h=> ?_⟩) (λ d=>aZ0 ⟨λ h=>(by cases h),λ h=> ?_⟩)) λ r e=>aZ0 e
 ·have:=e.1 h;exact⟨g.1 d,this.1,this.2.1⟩
 ·apply aaT;intro k;exact e.2 (by simpa using k) ⟨h.2.1,h.2.2⟩
 ·rw[g.2 h.1]at d;cases d
theorem Ya {V:Nat->Aa->Option Bool} {T:Nat->LI×Int×List (RT Int)->Option Bool} {al:LI} {S:Int} {fin:LI} {rs:LR} {t:RT Int} (i:Sp V (al,S,fin,rs) (λ r=>r=true ↔ bW al (S,fin,rs)))
 (k:Sp T (al,t.a,t.kids) (λ r=>r=true ↔ qI al t)):Sp (λ n=>EH.P (V n) (T n) n) (al,S,fin,rs,t.a,t.kids) (λ r=>r=0 ↔ bW al (S,fin,rs)/\qI al t):=by
 show Tt (λ n=>EH.P (V n) (T n) n (al,S,fin,rs,t.a,t.kids)) _;unfold EH.P;dsimp only;refine aZ1 (R:=λ g:Bool=>g=false ↔ bW al (S,fin,rs)/\qI al t) (aZ1 i λ b d=>aY4 (λ h=>aZ0 ⟨λ h=>(by cases h),λ hv=> ?_⟩) (λ h=>aZ1 k λ c e=>aZ0 ⟨λ l=>⟨d.1 (by simpa using h),e.1 (by simpa using l)⟩,λ hv=> ?_⟩)) λ g f=>aY4 (λ h=>aZ0 ⟨λ h=>(by cases h),λ hv=> ?_⟩) (λ h=>aZ0 ⟨λ _=>f.1 h,λ _=>rfl⟩)
 ·rw[d.2 hv.1]at h;cases h
 ·rw[e.2 hv.2];rfl
 ·rw[f.2 hv]at h;cases h
def ai4 (S:Int) (rs:LR) (t:RT Int) (row:List Bool):Prop:=row.length=S.toNat/\ ∀q,bg S q->(bat row q=true ↔ Reach rs t q)
theorem aeb {R:List Bool} {s q:Int} (h:s.toNat<R.length) (hs:0<=s) (d:0<=q):bat (R.set s.toNat true) q=(decide (q=s)||bat R q):=by
 unfold bat;rw[aaR];by_cases e:q=s
 ·subst e;rw[if_pos rfl,if_pos h];simp
 ·rw[if_neg Ω];simp[e]
theorem ahy {F:Nat->Int×LI×LR×LL×Int×List (RT Int)->Option (List (Option (List Bool)))} (hF: ∀n x,F (n+1) x=jg.P (F n) n x) (al:LI) (S:Int) (fin:LI) (rs:LR) (d:LL) (hw:Wf S fin rs) (c2:Ar al rs) (a8:afZ al rs d) (t:RT Int):
 Shp al t->nds t<=1000000000->Sp F (S,fin,rs,d,t.a,t.kids) (λ r=> ∃row rest,r=some row::rest/\ai4 S rs t row/\r.length<=nds t):=by
 have h0:=hw.1;have hS:=hw.2.1;have hr:=hw.2.2.2.2.2
 induction t using uz with
 |h a ks ih=>
  intro a2 hn;refine aZ5 hF ?_;show Tt (λ n=>jg.P (F n) n (S,fin,rs,d,a,ks)) _;unfold jg.P;dsimp only;refine aX (tV h0 Ω) ?_;have c4:nds (.mk a ks)=1+yw ks:=by simp[nds,acQ]
  refine aZ1 (R:=λ x=> ∃(rest:List (Option (List Bool))) (kids:List (List Bool)),x=(d,S,fin,rs,a,ks,some (List.replicate S.toNat false)::rest,kids)/\rest.length<=yw ks/\kids.length=ks.length/\ ∀(j:Nat) (row:List Bool) (k:RT Int),kids[j]? =some row->ks[j]? =some k->ai4 S rs k row)
   (aZ8 (L:=λ n=>jg.L1 (F n)) (aZ6 ks.length (λ i x=> ∃(rest:List (Option (List Bool))) (kids:List (List Bool)),x=(d,S,fin,rs,a,ks,some (List.replicate S.toNat false)::rest,kids,ks,(ks.length:Int),(i:Int))/\rest.length<=yw (ks.take i)/\kids.length=i/\
    ∀(j:Nat) (row:List Bool) (k:RT Int),kids[j]? =some row->ks[j]? =some k->ai4 S rs k row) ?_ ?_ ⟨[],[],rfl,Θ,rfl,Θ⟩)) ?_
  ·rintro i x Y ⟨rest,kids,rfl,z,O,hk⟩;unfold jg.L1;dsimp only;have a4:=aaf Y;have e9:=MI (a:=a) a4
   have c5:yw (ks.take (i+1))=yw (ks.take i)+nds ks[i]:=by
    have: ∀l:List (RT Int),∀x,yw (l++[x])=yw l+nds x:=by
     intro l x
     induction l with
     |nil=>simp[yw]
     |cons y l ih=>simp only[acJ,yw,ih];omega
    rw[aat,aac Y];exact this _ _
   have e6:yw (ks.take (i+1))<=yw ks:=by
    have: ∀(l:List (RT Int)) (m:Nat),yw (l.take m)<=yw l:=by
     intro l
     induction l with
     |nil=>intro m;simp
     |cons y l ih=>
      intro m
      cases m with
      |zero=>simp[yw]
      |succ m=>simp only[acI,yw];have:=ih m;omega
    exact this ks _
   have b0:=IV (a:=a) (ks:=ks);refine aY1 Ω (aY Y (aZ7 (ih _ a4 (a2.kid _ a4) Ω) ?_));rintro _ ⟨row,C,rfl,G,b1⟩;rw[aaX]at b1;refine aZ9 (rng Ω (by rw[aaX];omega)) ?_;have e0:rowAt? (some row::C) (Int.toNat 0)=some row:=rfl;rw[e0];refine aZ3 (aZ3 (aZ9 (jK Δ) (aZ9 (jK ?_) (aZ2 ⟨rest++none::C,kids++[row],by rw[ak Ω];rfl,?_,Δ,λ j A k g a5=> ?_⟩))))
   ·show List.length (some _::rest)+List.length (none::C)<=_;rw[aaX,aaX];omega
   ·rw[aaq,aaX,c5];omega
   ·rcases aaG j kids.length with h|h
    ·rw[aax h]at g;exact hk j A k g a5
    ·have U:=(aad.1 g).1;simp at U;have:j=i:=by omega
     subst this;rw[aaB Ω,O,acy]at g;rw[aac Y]at a5;have g:row=A:=by simpa using g
     cases a5;rw[←g];exact G
  ·rintro x ⟨rest,kids,rfl,z,O,hk⟩;unfold jg.L1;dsimp only;rw[aar]at z;exact aY3 Ω (aZ4 ⟨rest,kids,rfl,z,O,hk⟩)
  rintro _ ⟨rest,kids,rfl,z,O,hk⟩;dsimp only;have c7:=a2.nonneg;have b2:=a2.ar;have f0:=(aad.1 b2).1;have c8:a.toNat<d.length:=by have:=a8.1;omega
  have G:=a8.2 a.toNat d[a.toNat] (aac c8);rw[Cm c7 Ω];refine aY7 ?_;have b0:=IV (a:=a) (ks:=ks);have b1:=hw.2.2.2.1
  let Fit:Rule->Prop:=λ r=> ∀(j:Nat) (f:Int),r.2.1[j]? =some f-> ∃row,kids[j]? =some row/\bat row f=true
  have Z: ∀v∈d[a.toNat],∃(j:Nat) (r:Rule),v=(j:Int)/\rs[j]? =some r/\r.1=a/\r.2.1.length=ks.length:=by
   intro v hv;obtain⟨j,r,e1,e2,e3⟩:=(G.2 v).1 hv;have e3:r.1=a:=by omega
   have:=(c2 r (aai e2)).2;rw[e3,b2]at this;have:=aak this;exact⟨j,r,e1,e2,e3,Ω⟩
  refine aZ1 (R:=λ x=> ∃row,x=some row::rest/\row.length=S.toNat/\ ∀q,bg S q->(bat row q=true ↔ ∃v∈d[a.toNat],∃r,At rs v r/\Fit r/\r.2.2=q))
   (aZ8 (L:=λ n=>jg.L3 n) (aZ6 d[a.toNat].length (λ i x=> ∃row,x=(S,fin,rs,some row::rest,kids,d[a.toNat],((d[a.toNat].length:Nat):Int),(i:Int))/\row.length=S.toNat/\ ∀q,bg S q->(bat row q=true ↔ ∃v∈d[a.toNat].take i,∃r,At rs v r/\Fit r/\r.2.2=q)) ?_ ?_ ?_)) ?_
  ·rintro i x Y ⟨row,rfl,u,D⟩;unfold jg.L3;dsimp only;obtain⟨j,r,ej,g,f1,d0⟩:=Z _ (aaf Y);have d1:j<rs.length:=(aad.1 g).1;have d2:rs[j]=r:=(aad.1 g).2;obtain⟨K,d3,f2⟩:=hr r (aai g);have a6:d[a.toNat].length<=100000:=by omega
   have b5: ∀P:Int->Prop,(∃v∈d[a.toNat].take (i+1),P v) ↔ (∃v∈d[a.toNat].take i,P v)\/P (j:Int):=by
    intro P;rw[aat,aac Y,ej];constructor
    ·rintro⟨v,B,I⟩;rcases aap.1 B with h|h
     ·exact .inl ⟨v,h,I⟩
     ·simp only[aaQ,aah]at h;exact .inr (h▸I)
    ·rintro(⟨v,B,I⟩|h)
     ·exact⟨v,aaF _ B,I⟩
     ·exact⟨_,aa4 _ Θ,h⟩
   have a0: ∀q,(∃r',At rs (j:Int) r'/\Fit r'/\r'.2.2=q) ↔ Fit r/\r.2.2=q:=by
    intro q;constructor
    ·rintro⟨r',⟨j',e,B⟩,I,h3⟩;have:j'=j:=by omega
     subst this;rw[g]at B;cases B;exact⟨I,h3⟩
    ·rintro⟨B,I⟩;exact⟨r,⟨j,rfl,g⟩,B,I⟩
   refine aY1 Ω (aY Y ?_);rw[ej,fE d1,d2];refine aZ3 ?_
   refine Bd.label (s:=(S,fin,rs,some row::rest,kids,r.1,r.2.1,r.2.2,d[a.toNat],((d[a.toNat].length:Nat):Int),(i:Int),r.2.1,(r.2.1.length:Int),(0:Int)))
    (I0:=λ s'=>s'=(S,fin,rs,some row::rest,kids,d[a.toNat],((d[a.toNat].length:Nat):Int),IntKind.wrap .i64 ((i:Int)+1))/\ ¬Fit r) (Q:=λ v=>v=(S,fin,rs,some row::rest,kids,r.1,r.2.1,r.2.2,d[a.toNat],((d[a.toNat].length:Nat):Int),(i:Int))/\Fit r)
    (Lbl.count (L:=jg.L2) r.2.1.length (λ p x=>x=(S,fin,rs,some row::rest,kids,r.1,r.2.1,r.2.2,d[a.toNat],((d[a.toNat].length:Nat):Int),(i:Int),r.2.1,(r.2.1.length:Int),(p:Int))/\ ∀(j:Nat) (f:Int),j<p->r.2.1[j]? =some f-> ∃row,kids[j]? =some row/\bat row f=true) ?_ ?_ ⟨rfl,λ j f h=>absurd h Ω⟩) ?_ ?_ (λ _ _ _=>rfl)
   ·rintro p x hp ⟨rfl,M⟩;have W:p<kids.length:=by omega
    have d6:=hk p kids[p] ks[p] (aac W) (aac Ω);have d7:=d3 _ (aaf hp);have b7:(decide (0<=(p:Int))&&decide ((p:Int)<(kids.length:Int)))=true:=rng Ω Ω;have b8:at? kids (Int.toNat (p:Int))=some kids[p]:=by rw[aam];exact aac W
    have b9:=IW d6.1 d7;cases hb:bat kids[p] r.2.1[p]with
    |false=>
     refine .inr ⟨_,⟨rfl,λ E=> ?_⟩,λ k r'=> ?_⟩
     ·obtain⟨A,B,I⟩:=E p _ (aac hp);rw[aac W]at B;cases B;rw[hb]at I;cases I
     ·unfold jg.L2;dsimp only;rw[dY (show(p:Int)<(r.2.1.length:Int) by omega),cond_true,fE hp,aaj,b7,cond_true,b8,aaj,b9,aaj,hb,acd,cond_true]
    |true=>
     refine .inl ⟨_,⟨rfl,λ j f g E=> ?_⟩,λ k r'=> ?_⟩
     ·rcases aa1 (aa9 g)with h|rfl
      ·exact M j f h E
      ·rw[aac hp]at E;cases E;exact⟨_,aac W,hb⟩
     ·unfold jg.L2;dsimp only;rw[dY (show(p:Int)<(r.2.1.length:Int) by omega),cond_true,fE hp,aaj,b7,cond_true,b8,aaj,b9,aaj,hb,abm,cond_false,ak Ω]
   ·rintro x ⟨rfl,M⟩;refine⟨_,⟨rfl,λ j f E=>M j f (aad.1 E).1 E⟩,λ k r'=> ?_⟩;unfold jg.L2;dsimp only;rw[decide_eq_false Ω];rfl
   ·rintro _ ⟨rfl,N⟩;dsimp only;have U:r.2.2.toNat<row.length:=by have:=K.1;have:=K.2;omega
    have e0:rowAt? (some row::rest) (Int.toNat 0)=some row:=rfl;refine aZ9 (rng Ω (by rw[aaX];omega)) ?_;rw[e0];refine aZ3 (aZ3 (aZ9 (rng K.1 (by have:=K.1;omega)) (aZ3 (aY6 U λ _ _ _=>aZ2 ⟨row.set r.2.2.toNat true,by rw[ak Ω];rfl,by simpa using u,λ q hq=> ?_⟩))));rw[aeb U K.1 hq.1,abT,decide_eq_true_eq,b5,a0,D q hq];constructor
    ·rintro(h|h)
     ·exact .inr ⟨N,h.symm⟩
     ·exact .inl h
    ·rintro(h|⟨_,h⟩)
     ·exact .inr h
     ·exact .inl h.symm
   ·rintro s' ⟨rfl,d8⟩;refine⟨row,by rw[ak Ω],u,λ q hq=> ?_⟩;rw[b5,a0,D q hq];exact⟨.inl,λ h=>h.resolve_right λ h=>d8 h.1⟩
  ·rintro x ⟨row,rfl,u,D⟩;unfold jg.L3;dsimp only;rw[aar]at D;exact aY3 Ω (aZ4 ⟨row,rfl,u,D⟩)
  ·refine⟨List.replicate S.toNat false,rfl,Θ,λ q hq=> ?_⟩;unfold bat;rw[abn];split<;>simp
  ·rintro _ ⟨row,rfl,u,D⟩;refine aZ0 ⟨row,rest,rfl,⟨u,λ q hq=> ?_⟩,by rw[aaX,c4];omega⟩;rw[D q hq,bV];constructor
   ·rintro⟨v,hv,r,⟨j,ej,g⟩,N,d9⟩;obtain⟨j',r',e1,e2,e3,e4⟩:=Z v hv;have:j'=j:=by omega
    subst this;rw[g]at e2;cases e2;refine⟨r,aai g,e3,d9,e4,λ i k f e5 E=> ?_⟩;obtain⟨A,B,I⟩:=N i f E;exact((hk i A k B e5).2 f ((hr r (aai g)).2.1 f (aai E))).1 I
   ·rintro⟨r,B,I,h3,h4,h5⟩;obtain⟨j,g,rfl⟩:=aay B;refine⟨(j:Int),(G.2 _).2 ⟨j,_,rfl,aac g,Ω⟩,_,⟨j,rfl,aac g⟩,λ i f E=> ?_,h3⟩;have a6:i<ks.length:=by have:=(aad.1 E).1;omega
    refine⟨kids[i],aac Ω,?_⟩;exact((hk i _ ks[i] (aac Ω) (aac a6)).2 f ((hr _ B).2.1 f (aai E))).2 (h5 i _ f (aac a6) E)
theorem adu {B:Nat->Aa->Option (LL)} {y:Nat->LI×Int×LI×LR×Int×List (RT Int)->Option Int} {z:Nat->Int×LI×LR×LL×Int×List (RT Int)->Option (List (Option (List Bool)))}
 (al:LI) (S:Int) (fin:LI) (rs:LR) (t:RT Int) (A:Sp y (al,S,fin,rs,t.a,t.kids) (λ r=>r=0 ↔ bW al (S,fin,rs)/\qI al t)) (K:bW al (S,fin,rs)->Sp B (al,S,fin,rs) (afZ al rs))
 (C:bW al (S,fin,rs)->qI al t-> ∀d,afZ al rs d->Sp z (S,fin,rs,d,t.a,t.kids) (λ r=> ∃row rest,r=some row::rest/\ai4 S rs t row/\r.length<=nds t)):
 Sp (λ n=>ny.P (B n) (y n) (z n) n) (al,S,fin,rs,t.a,t.kids) (λ r=>bW al (S,fin,rs)->qI al t->r.2=0/\ ∀q,q∈r.1 ↔ Reach rs t q):=by
 show Tt (λ n=>ny.P (B n) (y n) (z n) n (al,S,fin,rs,t.a,t.kids)) _;unfold ny.P;dsimp only;refine aZ1 A λ e I=>aY4 (λ g=>aZ0 λ h M=> ?_) (λ g=> ?_)
 ·rw[dY (I.2 ⟨h,M⟩)]at g;cases g
 obtain⟨hv,D⟩:=I.1 (by simpa using g);have m:=hv.wf;dsimp only at m;refine aZ1 (K hv) λ d E=>aZ1 (C hv D d E) ?_;rintro _ ⟨row,rest,rfl,⟨N,p⟩,_⟩;refine aX (rng Ω (by rw[aaX];omega)) ?_;rw[show rowAt? (some row::rest) (Int.toNat 0)=some row from rfl];refine aY7 ?_;have Y:=m.2.1;have Z:=m.1
 refine aZ1 (R:=λ r:LI=> ∀q,q∈r ↔ bg S q/\bat row q=true)
  (aZ8 (L:=λ n=>ny.L1) (aZ6 row.length (λ i x=> ∃l:LI,x=(l,row,(row.length:Int),(i:Int))/\l.length<=i/\ ∀q,q∈l ↔ 0<=q/\q<(i:Int)/\bat row q=true) ?_ ?_ ⟨[],rfl,Θ,λ q=>⟨λ h=>by simp at h,λ h=>absurd h.1 (by have:=h.2.1;omega)⟩⟩)) λ r O=>aZ0 λ _ _=>⟨rfl,λ q=> ?_⟩
 ·rintro i x Q ⟨l,rfl,U,v⟩;unfold ny.L1;dsimp only;refine aY1 Ω (aZ9 (rng Ω Ω) ?_);rw[aam];refine aY6 Q λ b _ W=> ?_;have u:bat row (i:Int)=b:=by unfold bat;rw[aam,W];rfl
  refine aY2 (λ g=> ?_) (λ g=> ?_)
  ·refine aY0 (jK Δ) (aZ3 (aZ2 ⟨_,by rw[ak Ω],Δ,λ q=> ?_⟩));simp only[abA,aap,aah,v];constructor
   ·rintro(⟨k,G,f⟩|rfl)
    ·exact⟨k,Ω,f⟩
    ·exact⟨Ω,Ω,by rw[u];exact g⟩
   ·rintro⟨k,G,f⟩;by_cases e:q=(i:Int)
    ·exact .inr e
    ·exact .inl ⟨k,Ω,f⟩
  ·refine aZ3 (aZ2 ⟨l,by rw[ak Ω],Ω,λ q=> ?_⟩);rw[v];constructor
   ·rintro⟨k,G,f⟩;exact⟨k,Ω,f⟩
   ·rintro⟨k,G,f⟩;have:q≠(i:Int):=by rintro rfl;rw[u,g]at f;cases f
    exact⟨k,Ω,f⟩
 ·rintro x ⟨l,rfl,U,v⟩;unfold ny.L1;dsimp only;exact aY3 Ω (aZ4 λ q=>(v q).trans ⟨λ h=>⟨⟨h.1,by have:=h.2.1;omega⟩,h.2.2⟩,λ h=>⟨h.1.1,by have:=h.1.2;omega,h.2⟩⟩)
 ·rw[O];exact⟨λ h=>(p q h.1).1 h.2,λ h=>⟨CQ m h,(p q (CQ m h)).2 h⟩⟩
def zJ (M:Aut) (t:RT Int) (c:Int):Prop:=(0<=c/\ ∀q,Reach M.2.2 t q ↔ q=c)\/(c= -1/\ ∀q,¬Reach M.2.2 t q)
theorem Wh {M:Aut} {t:RT Int} (i:Uni M.2.2) (k: ∀q,Reach M.2.2 t q->0<=q) {l:LI} (g: ∀q,q∈l ↔ Reach M.2.2 t q):(l= []->zJ M t (-1))/\ ∀h:0<l.length,zJ M t l[0]:=
 ⟨λ h=> .inr ⟨rfl,λ q d=>by have:=(g q).2 d;rw[h]at this;cases this⟩,λ h=>by
  have f:=(g _).1 (aaf h);exact .inl ⟨k _ f,λ q=>⟨λ d=>i t _ _ d f,λ e=>e▸f⟩⟩⟩
theorem zJ.uniq {M:Aut} {t:RT Int} {c d:Int} (h:zJ M t c) (e:zJ M t d):c=d:=by
 rcases h with⟨_,h⟩|⟨rfl,h⟩<;>rcases e with⟨_,e⟩|⟨rfl,e⟩
 ·exact(e c).1 ((h c).2 rfl)
 ·exact absurd ((h c).2 rfl) (e c)
 ·exact absurd ((e d).2 rfl) (h d)
 ·rfl
def afs (b:LI) (x:Aut) (t:RT Int) (r:Ac):Prop:=(r.2=0-> ∃M,V6 b x.2.1 x.2.2 M/\zJ M t r.1)/\(bW b x->qI b t->r.2=0\/r.2=3/\ ¬Iy x.2.2/\ ¬UG b x.2.1 x.2.2)/\(¬(bW b x/\qI b t)->r.2=1)
theorem X5 {St:Nat->LI×Int×LI×LR×Int×List (RT Int)->Option Af} {V:Nat->Aa->Option Bool} {Mi:Nat->Aa->Option Aq} {T:Nat->LI×Int×List (RT Int)->Option Bool}
 (b:LI) (x:Aut) (t:RT Int) (I:Sp V (b,x.1,x.2.1,x.2.2) (λ r=>r=true ↔ bW b x)) (K:Sp T (b,t.a,t.kids) (λ r=>r=true ↔ qI b t)) (v:Sp Mi (b,x.1,x.2.1,x.2.2) (aje b x))
 (z: ∀M:Aut,bW b M->qI b t->Sp St (b,M.1,M.2.1,M.2.2,t.a,t.kids) (λ r=>r.2=0/\ ∀q,q∈r.1 ↔ Reach M.2.2 t q)):
 Sp (λ n=>EO.P (St n) (V n) (Mi n) (T n) n) (b,x.1,x.2.1,x.2.2,t.a,t.kids) (afs b x t):=by
 show Tt (λ n=>EO.P (St n) (V n) (Mi n) (T n) n (b,x.1,x.2.1,x.2.2,t.a,t.kids)) _;unfold EO.P;dsimp only;refine aZ1 (R:=λ y=> ∃g:Bool,(g=false ↔ bW b x/\qI b t)/\y=(b,x.1,x.2.1,x.2.2,t.a,t.kids,g)) (aZ1 I λ U A=> ?_) ?_
 ·refine aY4 (λ h=>aZ0 ⟨true,⟨λ h=>(by cases h),λ hv=> ?_⟩,rfl⟩) (λ h=>aZ1 K λ L B=>aZ0 ⟨!L,⟨λ N=>⟨A.1 (by simpa using h),B.1 (by simpa using N)⟩,λ hv=> ?_⟩,rfl⟩)
  ·rw[A.2 hv.1]at h;cases h
  ·rw[B.2 hv.2];rfl
 rintro _ ⟨g,C,rfl⟩;dsimp only;refine aY4 (λ h=>aZ0 ⟨λ h=>(by cases h),λ f i=> ?_,λ _=>rfl⟩) (λ h=> ?_)
 ·rw[C.2 ⟨f,i⟩]at h;cases h
 obtain⟨f,i⟩:=C.1 h;refine aZ1 v λ m D=>aY4 (λ d=>aZ0 ⟨λ E=> ?_,λ _ _=>D.2.1 f,λ k=>absurd ⟨f,i⟩ k⟩) (λ d=> ?_)
 ·dsimp only at E;rw[dY E]at d;cases d
 have em:m.2.2.2=0:=by simpa using d
 obtain⟨_,p⟩:=D.1 em;have u:=p.valid f.1;refine aZ1 (z (m.1,m.2.1,m.2.2.1) u i) λ l G=>aW (by rw[G.1];rfl) ?_;obtain⟨O,Q⟩:=Wh p.1.det.uni (λ q S=>(p.1.st' S).1) G.2;refine aY4 (λ d=>aZ0 ⟨λ _=>⟨_,p,O (aav (by have:=fZ d;omega))⟩,λ _ _=> .inl rfl,λ k=>absurd ⟨f,i⟩ k⟩) (λ d=> ?_);have e:0<l.1.length:=by have:=dec_not d;omega
 rw[show(0:Int)=((0:Nat):Int)from rfl,fE e];exact aZ0 ⟨λ _=>⟨_,p,Q e⟩,λ _ _=> .inl rfl,λ k=>absurd ⟨f,i⟩ k⟩
theorem aiY {O:Nat->Int×LI×LR×Int×List (RT Int)->Option LI} (M:Aut) (t:RT Int) (f:Uni M.2.2) (g: ∀q,Reach M.2.2 t q->0<=q) (i:Sp O (M.1,M.2.1,M.2.2,t.a,t.kids) (λ l=> ∀q,q∈l ↔ Reach M.2.2 t q)):
 Sp (λ n=>H7.P (O n) n) (M.1,M.2.1,M.2.2,t.a,t.kids) (zJ M t):=by
 show Tt (λ n=>H7.P (O n) n (M.1,M.2.1,M.2.2,t.a,t.kids)) _;unfold H7.P;dsimp only;refine aZ1 i λ l k=> ?_;obtain⟨m,p⟩:=Wh f g k;refine aY4 (λ e=>aZ0 (m (aav (by have:=fZ e;omega)))) (λ e=> ?_);have d:0<l.length:=by have:=dec_not e;omega
 rw[show(0:Int)=((0:Nat):Int)from rfl,fE d];exact aZ0 (p d)
theorem Uj {Aw:Nat->Unit->Option Bool} {Fw Lg:Nat->LI×List Aut->Option Bool} {q:Nat->LI×Int×LI×LR×Int×List (RT Int)->Option Ac} {u:Nat->Int×List (RT Int)×Int->Option Bool} {v:Nat->LI×Int×List (RT Int)->Option Bool}
 {V3 Df:Nat->Aa->Option Bool} {z:Nat->Aa->Option BD} {Ru:Nat->Int×LI×LR×Int×List (RT Int)->Option Int} (b:LI) (x:Aut) (t:RT Int) {P:Prop}
 (A:Sp Aw () (λ r=>r=true)) (B:Sp Fw (b,[x]) (λ r=>r=true->P)) (C:Sp u (t.a,t.kids,(400:Int)) (λ _=>True)) (D:P->Szb x) (E:P->Sp q (b,x.1,x.2.1,x.2.2,t.a,t.kids) (afs b x t))
 (G: ∀M:Aut,Szb M->Sp V3 (b,M.1,M.2.1,M.2.2) (λ r=>r=true ↔ bW b M)) (I:Sp v (b,t.a,t.kids) (λ r=>r=true ↔ qI b t))
 (K:P->bW b x->Sp Df (b,x.1,x.2.1,x.2.2) (λ r=>r=true->Iy x.2.2\/UG b x.2.1 x.2.2)) (L:P->bW b x->Sp Lg (b,[x]) (λ _=>True))
 (N:P->bW b x->Sp z (b,x.1,x.2.1,x.2.2) (λ t=>t.2.2.2=true->Yw x.2.1 x.2.2 (t.1,t.2.1,t.2.2.1)))
 (O: ∀M:Aut,V6 b x.2.1 x.2.2 M->qI b t->Sp Ru (M.1,M.2.1,M.2.2,t.a,t.kids) (zJ M t)):
 Sp (λ n=>tK.P (Aw n) (Fw n) (q n) (u n) (v n) (V3 n) (Df n) (Lg n) (z n) (Ru n) n) (b,x.1,x.2.1,x.2.2,t.a,t.kids) (λ r=>r=true):=by
 have e:=ajg A;show Tt (λ n=>tK.P (Aw n) (Fw n) (q n) (u n) (v n) (V3 n) (Df n) (Lg n) (z n) (Ru n) n (b,x.1,x.2.1,x.2.2,t.a,t.kids)) _;unfold tK.P;dsimp only;refine aZ1 (R:=λ y=> ∃g:Bool,(g=false->P)/\y=(b,x.1,x.2.1,x.2.2,t.a,t.kids,g)) (aZ1 B λ f1 Q=>aY4 (λ h=>aZ0 ⟨true,λ h=>(by cases h),rfl⟩) (λ h=>aZ1 C λ f2 _=>aZ0 ⟨_,λ _=>Q (by simpa using h),rfl⟩)) ?_;rintro _ ⟨g,k,rfl⟩;dsimp only;refine aY4 (λ _=>e) (λ h=> ?_);have f:=k h;have sx:=D f;refine aZ1 (E f) λ s hs=> ?_;refine aZ1 (R:=λ y=> ∃g:Bool,(g=false ↔ bW b x/\qI b t)/\y=(b,x.1,x.2.1,x.2.2,t.a,t.kids,s.1,s.2,g)) (aZ1 (G x sx) λ r1 m=> ?_) ?_
 ·refine aY4 (λ h=>aZ0 ⟨true,⟨λ h=>(by cases h),λ hv=> ?_⟩,rfl⟩) (λ h=>aZ1 I λ r2 p=>aZ0 ⟨!r2,⟨λ h'=>⟨m.1 (by simpa using h),p.1 (by simpa using h')⟩,λ hv=> ?_⟩,rfl⟩)
  ·rw[m.2 hv.1]at h;cases h
  ·rw[p.2 hv.2];rfl
 rintro _ ⟨g,k,rfl⟩;dsimp only;refine aY4 (λ h=>VY (aX7 (dY (hs.2.2 λ hv=>by rw[k.2 hv]at h;cases h)) e)) (λ h=> ?_);obtain⟨i,S⟩:=k.1 h;refine aY4 (λ g3=>VY (aZ1 (K f i) λ d hd=>aY4 (λ _=>e) (λ gd=> ?_))) (λ g3=> ?_)
 ·have h3:=fZ g3;rcases hs.2.1 i S with h|⟨_,m,p⟩
  ·omega
  ·exact absurd (hd (by simpa using gd)) λ h=>h.elim m p
 have Z:s.2=0:=by
  rcases hs.2.1 i S with h|⟨h,_⟩
  ·exact h
  ·rw[dY h]at g3;cases g3
 refine aW (by rw[dY Z];rfl) (aZ1 (L f i) λ l _=>aY4 (λ _=>e) (λ _=>aZ1 (N f i) λ o ho=>VY (aY4 (λ _=>e) (λ go=> ?_))));have hr:=ho (by simpa using go);obtain⟨M,U,hc⟩:=hs.1 Z;have W:M=((o.1,o.2.1,o.2.2.1):Aut):=(U.toR.eq hr).1 λ _=>ab7;rw[W]at U hc;exact aZ1 (O _ U S) λ c Y=>aX7 (dY (hc.uniq Y)) e
end Go.Bk
end
