import Derived.Test.YtdchbjmbgecejaaGreatDoorMv
set_option linter.unusedVariables false
noncomputable section
namespace Go.Bk
open Go Go.AM
def wF (r:Rule):LI:=r.1::(r.2.1++[r.2.2])
theorem agN (r:Rule) (h:r.2.1.length<=1000):Sp Hf.P r (λ k=>k=wF r):=by
 obtain⟨s,l,q⟩:=r;show Tt (λ n=>Hf.P n (s,l,q)) _;unfold Hf.P;dsimp only at h ⊢;refine aX0 (jS (by simp;omega)) (aX0 (jS ?_) (aZ0 rfl));show List.length ([s]++l)+_<=_;simp;omega
theorem Yo {a b:LI} {i:Nat} (d:i<a.length) (e:i<b.length):cmpL (a.drop i) (b.drop i)=bif decide (a[i]=b[i])then cmpL (a.drop (i+1)) (b.drop (i+1))else Gm a[i] b[i]:=by
 rw[aaI d,aaI e,uX]
theorem agF (a b:LI) (m:a.length<=1002):Sp rP.P (a,b) (λ v=>v=cmpL a b):=by
 show Tt (λ n=>rP.P n (a,b)) _;unfold rP.P;dsimp only;have e:min (a.length:Int) (b.length:Int)=((min a.length b.length:Nat):Int):=by omega
 rw[e];refine aZ1 (R:=λ q=>q=Sum.inr (cmpL a b)\/q=Sum.inl (a,b)/\cmpL a b=cmpL (a.drop (min a.length b.length)) (b.drop (min a.length b.length))) (aZ8 (aZ6 (min a.length b.length) (λ i s=>s=(a,b,((min a.length b.length:Nat):Int),(i:Int))/\cmpL a b=cmpL (a.drop i) (b.drop i)) ?_ ?_ ⟨rfl,rfl⟩)) ?_
 ·rintro i s p ⟨rfl,f⟩;unfold rP.L1;dsimp only;have g:i<a.length:=by omega
  have k:i<b.length:=by omega
  rw[Yo g k]at f;refine aY1 (by omega) (aY g (aY k (aY9 (λ h=>aZ4 (.inl ?_)) (λ h=>aY g (aY k (aY9 (λ d=>aZ4 (.inl ?_)) (λ d=>aZ2 ⟨by rw[ak (by omega)],?_⟩)))))))
  ·have h:=iy h;rw[f,decide_eq_false (by omega),cond_false];unfold Gm;rw[fE h];rfl
  ·have h:=dec_not h;have d:=iy d;rw[f,decide_eq_false (by omega),cond_false];unfold Gm;rw[decide_eq_false h,fE d];rfl
  ·have h:=dec_not h;have d:=dec_not d;rw[f,fE (by omega)];rfl
 ·rintro s ⟨rfl,f⟩;unfold rP.L1;dsimp only;exact aY3 (by omega) (aZ4 (.inr ⟨rfl,f⟩))
 ·rintro q (rfl|⟨rfl,f⟩)
  ·exact aZ0 rfl
  ·rw[f];refine aY4 (λ h=>aZ0 ?_) (λ h=>aY4 (λ d=>aZ0 ?_) (λ d=>aZ0 ?_))
   ·have h:=iy h;rw[aa2 (by omega),aaI (by omega)];rfl
   ·have d:=iy d;rw[aa2 (l:=b) (by omega),aaI (by omega)];rfl
   ·have h:=dec_not h;have d:=dec_not d;rw[aa2 (by omega),aa2 (by omega)];rfl
theorem ad1 {r d:Rule} (h:wF r=wF d):r=d:=by
 unfold wF at h;obtain⟨e,f⟩:=abJ h;obtain⟨g,i⟩:=List.append_inj' f rfl;exact abU e (abU g (by simpa using i))
theorem VE: ∀{l m:LI} (a b:Int),l.length=m.length->cmpL (l++[a]) (m++[b])=bif decide (cmpL l m=0)then Gm a b else cmpL l m
 | [],[],a,b,_=>by
   show cmpL [a] [b]=Gm a b;rw[uX];by_cases e:a=b
   ·rw[fE e,e,sJ.refl];rfl
   ·rw[decide_eq_false e];rfl
 |x::l,y::m,a,b,h=>by
  rw[List.cons_append,List.cons_append,uX,uX,VE a b (by simpa using h)];by_cases e:x=y
  ·simp[e]
  ·have:Gm x y≠0:=λ h=>e (sJ.eq _ _ h);simp[e,this]
theorem ad3 {r d:Rule} (h:r.1=d.1->r.2.1.length=d.2.1.length):cmpL (wF r) (wF d)=uY r d:=by
 unfold wF uY;rw[uX];by_cases e:r.1=d.1
 ·rw[fE e,cond_true,cond_true,VE _ _ (h e)]
 ·rw[decide_eq_false e];rfl
section
variable {K:Nat->Rule->Option LI} {L:Nat->Ao->Option Int}
theorem agK (hK: ∀r:Rule,r.2.1.length<=1000->Sp K r (λ k=>k=wF r)) (hL: ∀a b:LI,a.length<=1002->Sp L (a,b) (λ v=>v=cmpL a b)) (x:LR) (hx:x.length<=1000000000) (U: ∀r∈x,r.2.1.length<=1000):
 Sp (λ n=>mX.P (L n) (K n) n) x (λ r:LR=>r.length<=x.length/\(∀y,y∈r ↔ y∈x)/\r.Pairwise λ a b=>cmpL (wF a) (wF b)<0):=by
 show Tt (λ n=>mX.P (L n) (K n) n x) _;unfold mX.P;refine aZ1 (R:=λ r:LR=>r.length<=x.length/\(∀y,y∈r ↔ y∈x)/\r.Pairwise λ a b=>cmpL (wF a) (wF b)<0) (aZ8 (aZ6 x.length (λ i s=> ∃out:LR,out.length<=i/\((∀y,y∈out ↔ y∈x.take i)/\out.Pairwise λ a b=>cmpL (wF a) (wF b)<0)/\s=(out,x,(x.length:Int),(i:Int))) ?_ ?_ ⟨[],by simp,⟨by simp,.nil⟩,rfl⟩)) λ r U=>aZ0 U
 ·rintro i s E ⟨out,ho,⟨p,d⟩,rfl⟩;have W:x[i]∈x:=aaf E;have B: ∀y∈out,y.2.1.length<=1000:=λ y g=>U y (abq ((p y).1 g));unfold mX.L2;dsimp only;refine aY1 (by omega) (aY E ?_);refine aZ5 (R:=λ t=> ∃lo:Nat,(lo<=out.length/\(∀j y,j<lo->out[j]? =some y->cmpL (wF y) (wF x[i])<0)/\(∀j y,lo<=j->out[j]? =some y->0<=cmpL (wF y) (wF x[i])))/\t=(out,x[i].1,x[i].2.1,x[i].2.2,(lo:Int),x,(x.length:Int),(i:Int))) (aZ8 (aX1 (λ s=> ∃lo E:Nat,lo<=E/\(E<=out.length/\(∀j y,j<lo->out[j]? =some y->cmpL (wF y) (wF x[i])<0)/\(∀j y,E<=j->out[j]? =some y->0<=cmpL (wF y) (wF x[i])))/\s=(out,x[i].1,x[i].2.1,x[i].2.2,(lo:Int),(E:Int),x,(x.length:Int),(i:Int))) (λ s=>(s.2.2.2.2.2.1-s.2.2.2.2.1).toNat) ?_ ⟨0,out.length,by omega,⟨by omega,λ j y h=>absurd h (by omega),λ j y h h'=>absurd (aad.1 h').1 (by omega)⟩,rfl⟩)) ?_
  ·rintro s ⟨lo,f,h1,⟨h2,C,q⟩,rfl⟩;unfold mX.L1;dsimp only;refine aY9 (λ Y=> ?_) (λ a9=>aZ4 ⟨lo,⟨by omega,C,λ j y h=>q j y (by have:=dec_not a9;omega)⟩,rfl⟩);have Y:=iy Y;have hm:(lo+f)/2<f:=by omega
   have c6:lo<=(lo+f)/2:=by omega
   rw[af0 (by omega) h1];refine aZ9 (by decide) (aZ9 (rng (by omega) (by omega)) ?_);rw[aal];refine aY6 (by omega) λ e Q l=> ?_;have b0:(wF e).length<=1002:=by have:=B e Q;simp[wF];omega
   refine aZ5 (hK e (B e Q)) λ r7 S=>aZ5 (hK (x[i].1,x[i].2.1,x[i].2.2) (U _ W)) λ r8 h8=>aZ5 (hL r7 r8 (by rw[S];exact b0)) λ Z m=> ?_;rw[S,h8]at m;have m:Z=cmpL (wF e) (wF x[i]):=m;refine aY2 (λ hc=> ?_) (λ hc=> ?_)
   ·have hc:=iy hc;refine aZ3 (aZ2 ⟨⟨(lo+f)/2+1,f,by omega,⟨h2,λ j y hj g=> ?_,q⟩,?_⟩,?_⟩)
    ·by_cases N:j=(lo+f)/2
     ·rw[N,l]at g;cases g;omega
     ·have u:=aaR.1 d j ((lo+f)/2) (aad.1 g).1 (by omega) (by omega);rw[(aad.1 g).2,(aad.1 l).2]at u;exact Ih.lt u (by omega)
    ·rw[ak (by omega)]
    ·dsimp only;rw[ak (by omega)];omega
   ·have hc:=dec_not hc;refine aZ3 (aZ2 ⟨⟨lo,(lo+f)/2,by omega,⟨by omega,C,λ j y hj g=> ?_⟩,rfl⟩,?_⟩)
    ·by_cases N:j=(lo+f)/2
     ·rw[N,l]at g;cases g;omega
     ·have u:=aaR.1 d ((lo+f)/2) j (by omega) (aad.1 g).1 (by omega);rw[(aad.1 g).2,(aad.1 l).2]at u;apply aaP;intro c3;have:=Ih.lt u (show cmpL (wF y) (wF x[i])<=0 by omega);omega
    dsimp only;omega
  ·rintro t ⟨lo,⟨b3,C,q⟩,rfl⟩;dsimp only;refine aZ5 (R:=λ t=> ∃b:Bool,(b=false->x[i]∈out)/\(b=true-> ∀y,out[lo]? =some y->cmpL (wF y) (wF x[i])≠0)/\t=(out,x[i].1,x[i].2.1,x[i].2.2,(lo:Int),x,(x.length:Int),(i:Int),b)) ?_ ?_
   ·refine aY4 (λ h=>aZ0 ⟨_,λ h=>(by cases h),λ _ y g=>absurd (aad.1 g).1 (by have:=iy h;omega),rfl⟩) (λ h=>aX0 (rng (by omega) (by have:=dec_not h;omega)) ?_);have:=dec_not h;rw[aal];refine aX8 (by omega) λ e Q l=>aZ1 (hK e (B e Q)) λ r7 S=>aZ1 (hK (x[i].1,x[i].2.1,x[i].2.2) (U _ W)) λ r8 h8=>aZ1 (hL r7 r8 (by rw[S];have:=B e Q;simp[wF];omega)) λ Z m=>aZ0 ⟨_,λ O=> ?_,λ O y g=> ?_,rfl⟩
    ·rw[S,h8]at m;have m:Z=cmpL (wF e) (wF x[i]):=m;have:Z=0:=by simpa using O
     rw[←ad1 (Ih.eq _ _ (m.symm.trans this))];exact Q
    ·rw[S,h8]at m;have m:Z=cmpL (wF e) (wF x[i]):=m;rw[l]at g;cases g;rw[←m];simpa using O
   ·rintro _ ⟨b,b4,b5,rfl⟩;dsimp only;have a2: ∀y,y∈x.take (i+1) ↔ y∈x.take i\/y=x[i]:=λ y=>by rw[aau,aac E,aap,aaS,aah]
    refine aY2 (λ b6=> ?_) (λ b7=> ?_)
    ·have a3:(List.append out [((0:Int),([]:LI),(0:Int))]).length=out.length+1:=by
      show(out++_).length=_;simp
     have a4:IntKind.wrap .i64 ((lo:Int)+1)=((lo+1:Nat):Int):=ak (by omega);rw[a4];refine aY0 (jS (by simp;omega)) (aY0 (by rw[a3];simp;omega) (aY0 (by rw[a3];simp;omega) ?_));simp only[aal];have G:=YO out ((0:Int),([]:LI),(0:Int)) (x[i].1,x[i].2.1,x[i].2.2) lo b3;have z:=congrArg List.length G;rw[aa5]at z;have A:(out.take lo++(x[i].1,x[i].2.1,x[i].2.2)::out.drop lo).length=out.length+1:=by simp;omega
     refine aY0 (rng (by omega) (by rw[z,A];omega)) (aY5 (aY6 (by rw[z,A];omega) λ e _ _=>aZ3 ?_));refine aZ2 ⟨out.take lo++(x[i].1,x[i].2.1,x[i].2.2)::out.drop lo,by omega,⟨λ y=> ?_,?_⟩,?_⟩
     ·rw[a2,←p y,aap,aaQ];constructor
      ·rintro(h|rfl|h)
       ·exact .inl (abq h)
       ·exact .inr rfl
       ·exact .inl (abD h)
      ·rintro(h|rfl)
       ·rw[←abj lo out,aap]at h;exact h.elim .inl λ h=> .inr (.inr h)
       ·exact .inr (.inl rfl)
     ·have D:=d;rw[←abj lo out,abZ]at D;refine abZ.2 ⟨D.1,ab5.2 ⟨λ y g=> ?_,D.2.1⟩,λ a ha b O=> ?_⟩
      ·obtain⟨j,hj,rfl⟩:=aaz g;have a5:lo+j<out.length:=by simp at hj;omega
       have I:out[lo+j]? =some (out.drop lo)[j]:=by rw[aac a5,List.getElem_drop]
       have h0:=q (lo+j) _ (by omega) I
       have c7:cmpL (wF (out.drop lo)[j]) (wF x[i])≠0:=by
        by_cases j0:j=0
        ·subst j0;exact b5 b6 _ I
        ·intro b8;have M:lo<out.length:=by omega
         have h1:=aaR.1 d lo (lo+j) M a5 (by omega);have h2:=q lo _ (aav _) (aac M);rw[List.getElem_drop]at b8;have:=Ih.lt h1 (show cmpL (wF out[lo+j]) (wF x[i])<=0 by omega);omega
       have h4:=Ih.anti (wF (out.drop lo)[j]) (wF x[i]);show cmpL (wF x[i]) (wF (out.drop lo)[j])<0;omega
      ·have b9:cmpL (wF a) (wF x[i])<0:=by
        obtain⟨j,hj,rfl⟩:=aaz ha;rw[abV];simp at hj;exact C j _ (by omega) (aac (by omega))
       rcases aaQ.1 O with rfl|O
       ·exact b9
       ·exact D.2.2 a ha b O
     ·dsimp only;rw[G,ak (by omega)]
    ·refine aZ3 (aZ2 ⟨out,by omega,⟨λ y=> ?_,d⟩,?_⟩)
     ·rw[a2,←p y];exact⟨.inl,λ h=>h.elim id λ e=>by rw[e];exact b4 b7⟩
     rw[ak (by omega)]
 ·rintro s ⟨out,ho,⟨p,d⟩,rfl⟩;unfold mX.L2;dsimp only;exact aY3 (by omega) (aZ4 ⟨ho,λ y=>by rw[p y,aat],d⟩)
abbrev ArC (x:LR):Prop:= ∀r∈x,∀d∈x,r.1=d.1->r.2.1.length=d.2.1.length
theorem Na {x r:LR} (e:ArC x) (d: ∀y,y∈r ↔ y∈x) (f:r.Pairwise λ a b=>cmpL (wF a) (wF b)<0):r.Pairwise λ a b=>uY a b<0:=
 f.imp_of_mem λ{a b} g i h=>by rw[←ad3 (e a ((d a).1 g) b ((d b).1 i))];exact h
end
def Snd (S:Int) (W:Int->Prop) (R:List Bool):Prop:= ∀s,bC S s->bat R s=true->W s
theorem ZM {S:Int} {W:Int->Prop} {n:Nat}:Snd S W (List.replicate n false):=λ s _ h=>by
 unfold bat at h;rw[abp]at h;split at h<;>cases h
theorem Snd.set {S s:Int} {W:Int->Prop} {R:List Bool} (h:Snd S W R) (hs:bC S s) (g:W s):Snd S W (R.set s.toNat true):=λ t d f=>by
 by_cases e:t=s
 ·rw[e];exact g
 ·refine h t d ?_;unfold bat at f ⊢
  rwa [aa3 (by have:=d.1;have:=hs.1;omega)]at f
theorem Snd.clear {S:Int} {i:Nat} {W:Int->Prop} {R:List Bool} (h:Snd S W R):Snd S W (R.set i false):=λ t e d=>by
 refine h t e ?_;unfold bat at d ⊢;rw[aaU]at d;split at d
 ·split at d<;>cases d
 ·exact d
theorem TN (S:Int) (fin:LI) (rs:LR) (h:Wf S fin rs):Sp gy.P (S,fin,rs) (λ r=>r.length=S.toNat/\Closed rs r/\Snd S (Rch rs) r):=by
 obtain⟨U,Z,_,W,_,E⟩:=h;show Tt (λ n=>gy.P n (S,fin,rs)) _;unfold gy.P;dsimp only;refine aX0 (tY U (by omega)) (aZ1 (R:=λ r:List Bool=>r.length=S.toNat/\Closed rs r/\Snd S (Rch rs) r) (aZ8 (aX1 (λ s=> ∃(out:List Bool) (more:Bool),out.length=S.toNat/\((more=false->Closed rs out)/\Snd S (Rch rs) out)/\s=(S,fin,rs,out,more)) (λ s=>if s.2.2.2.2 then nf s.2.2.2.1+1 else 0) ?_ ⟨_,true,by simp,⟨λ h=>(by cases h),ZM⟩,rfl⟩)) λ r E=>aZ0 E);rintro s ⟨out,more,O,⟨G,B⟩,rfl⟩;unfold gy.L3;dsimp only;refine aY9 (λ I=> ?_) (λ I=>aZ4 ⟨O,G I,B⟩);subst I;refine aZ5 (R:=λ t=> ∃(d:List Bool) (f:Bool),(d.length=S.toNat/\Snd S (Rch rs) d)/\nf d<=nf out/\(f=true->nf d<nf out)/\(f=false->d=out/\ ∀r∈rs,(∀s∈r.2.1,bat out s=true)->bat out r.2.2=true)/\t=(S,fin,rs,d,f)) (aZ8 (aZ6 rs.length (λ i s=> ∃(d:List Bool) (f:Bool),(d.length=S.toNat/\Snd S (Rch rs) d)/\nf d<=nf out/\(f=true->nf d<nf out)/\(f=false->d=out/\ ∀r∈rs.take i,(∀s∈r.2.1,bat out s=true)->bat out r.2.2=true)/\s=(S,fin,rs,d,f,rs,(rs.length:Int),(i:Int))) ?_ ?_ ⟨out,false,⟨O,B⟩,aav _,λ h=>(by cases h),λ _=>⟨rfl,by simp⟩,rfl⟩)) ?_
 ·rintro i s D ⟨d,f,⟨p,g⟩,A,q,k,rfl⟩;unfold gy.L2;dsimp only;obtain⟨l,u,Y⟩:=E rs[i] (aaf D);refine aY1 (by omega) (aY D ?_);refine aZ5 (R:=λ t=> ∃b:Bool,b=rs[i].2.1.all (bat d)/\t=(S,fin,rs,d,f,rs[i].1,rs[i].2.1,rs[i].2.2,b,rs,(rs.length:Int),(i:Int))) (aZ8 (aZ6 rs[i].2.1.length (λ j s=> ∃b:Bool,b=(rs[i].2.1.take j).all (bat d)/\s=(S,fin,rs,d,f,rs[i].1,rs[i].2.1,rs[i].2.2,b,rs,(rs.length:Int),(i:Int),rs[i].2.1,((rs[i].2.1.length:Nat):Int),(j:Int))) ?_ ?_ ⟨true,rfl,rfl⟩)) ?_
  ·rintro j s K ⟨b,z,rfl⟩;unfold gy.L1;dsimp only;obtain⟨q0,q1⟩:=u rs[i].2.1[j] (aaf K);refine aY1 (by omega) (aY K (aY2 (λ v=> ?_) (λ v=> ?_)))
   ·exact aY0 (rng q0 (by omega)) (aY5 (aY6 (by omega) λ e _ C=>aZ3 (aZ2 ⟨e,Pn K (z.symm.trans v) (Yc C),by rw[ak (by omega)]⟩)))
   ·exact aZ3 (aZ2 ⟨false,X7 (z.symm.trans v),by rw[ak (by omega)]⟩)
  ·rintro s ⟨b,z,rfl⟩;unfold gy.L1;dsimp only;rw[aat]at z;exact aY3 (by omega) (aZ4 ⟨b,z,rfl⟩)
  ·rintro _ ⟨b,z,rfl⟩;dsimp only;refine aZ5 (R:=λ t=> ∃c:Bool,(c=true->d[rs[i].2.2.toNat]? =some false/\b=true)/\(c=false->b=true->bat d rs[i].2.2=true)/\t=(S,fin,rs,d,f,rs[i].1,rs[i].2.1,rs[i].2.2,rs,(rs.length:Int),(i:Int),c)) ?_ ?_
   ·refine aY4 (λ v=>aX0 (rng l.1 (by have:=l.2;omega)) (aX8 (by have:=l.2;have:=l.1;omega) λ e _ C=>aZ0 ⟨!e,λ h=> ?_,λ h _=> ?_,rfl⟩)) (λ L=>aZ0 ⟨false,λ h=>(by cases h),λ _ h=>(by rw[L]at h;cases h),rfl⟩)
    ·cases e with
     |true=>cases h
     |false=>exact⟨C,v⟩
    ·cases e with
     |true=>exact Yc C
     |false=>cases h
   ·rintro _ ⟨c,Q,M,rfl⟩;dsimp only;refine aY2 (λ y=> ?_) (λ y=> ?_)
    ·refine aY0 (rng l.1 (by have:=l.2;omega)) (aY5 (aY6 (by have:=l.2;have:=l.1;omega) λ e _ C=>aZ3 (aZ2 ⟨d.set rs[i].2.2.toNat true,true,⟨by simpa using p,g.set l (JX (aaf D) λ s hs=>g s (u s hs) (aaV.1 (z.symm.trans (Q y).2) s hs))⟩,?_,λ _=> ?_,λ h=>(by cases h),by rw[ak (by omega)]⟩)))
     ·exact aaX (RV _ _) A
     ·exact abn (GV (Q y).1) A
    ·refine aZ3 (aZ2 ⟨_,f,⟨p,g⟩,A,q,λ h=>⟨(k h).1,λ r m N=> ?_⟩,by rw[ak (by omega)]⟩);rw[aau,aac D,aap]at m;rcases m with m|m
     ·exact(k h).2 r m N
     ·simp only[aaS,aah]at m;subst m;rw[←(k h).1]at N ⊢;exact M y (by rw[z,aaV];exact N)
 ·rintro s ⟨d,f,⟨p,g⟩,A,q,k,rfl⟩;unfold gy.L2;dsimp only;rw[aat]at k;exact aY3 (by omega) (aZ4 ⟨d,f,⟨p,g⟩,A,q,k,rfl⟩)
 ·rintro _ ⟨d,f,⟨p,g⟩,A,q,k,rfl⟩;dsimp only;refine aZ2 ⟨⟨d,f,p,⟨λ h=>by rw[(k h).1];exact(k h).2,g⟩,rfl⟩,?_⟩;dsimp only
  cases f with
  |true=>have:=q rfl;simp;omega
  |false=>simp
theorem ZY {F:Nat->Ab->Option (List Bool)} (S:Int) (fin:LI) (rs:LR) (h:Wf S fin rs) (hF:Sp F (S,fin,rs) (λ r=>r.length=S.toNat/\Closed rs r/\Snd S (Rch rs) r)):Sp (λ n=>fO.P (F n) n) (S,fin,rs) (λ r=>r.length=S.toNat/\(∀s,bC S s->bat r s=true->Up rs fin s)/\ ∃R,Closed rs R/\Useful fin rs R r):=by
 obtain⟨h0,h1,b9,c6,a1,hr⟩:=h;show Tt (λ n=>fO.P (F n) n (S,fin,rs)) _;unfold fO.P;dsimp only;refine aZ1 hF λ rch Y=>aX0 (tY h0 (by omega)) ?_;obtain⟨c0,a3,a4⟩:=Y;refine aZ1 (R:=λ t=> ∃out:List Bool,(out.length=S.toNat/\Snd S (Up rs fin) out)/\(∀s∈fin,bat rch s=true->bat out s=true)/\t=(S,fin,rs,rch,out)) (aZ8 (aZ6 fin.length (λ i s=> ∃out:List Bool,(out.length=S.toNat/\Snd S (Up rs fin) out)/\(∀s∈fin.take i,bat rch s=true->bat out s=true)/\s=(S,fin,rs,rch,out,fin,(fin.length:Int),(i:Int))) ?_ ?_ ⟨_,⟨by simp,ZM⟩,by simp,rfl⟩)) ?_
 ·rintro i s O ⟨out,⟨ho,C⟩,hf,rfl⟩;unfold fO.L1;dsimp only;obtain⟨q0,q1⟩:=a1 fin[i] (aaf O);refine aY1 (by omega) (aY O (aZ9 (rng q0 (by omega)) (aY6 (by omega) λ e _ U=>aZ9 (rng q0 (by omega)) (aY6 (by omega) λ e' _ _=>aZ2 ⟨out.set fin[i].toNat e,⟨by simpa using ho,?_⟩,λ s hs B=> ?_,by rw[ak (by omega)]⟩))))
  ·cases e with
   |true=>exact C.set ⟨q0,q1⟩ (.fin (aaf O) (a4 _ ⟨q0,q1⟩ (Dn U)))
   |false=>exact C.clear
  unfold bat;rw[aaU];split
  ·rename_i Z;rw[if_pos (by omega)];have:=Dn U;unfold bat at B this;rw[Z,B]at this;exact this.symm
  ·rename_i Z;refine hf s ?_ B;rw[aau,aac O,aap]at hs;rcases hs with hs|hs
   ·exact hs
   ·simp only[aaS,aah]at hs;rw[hs]at Z;exact absurd rfl Z
 ·rintro s ⟨out,⟨ho,C⟩,hf,rfl⟩;unfold fO.L1;dsimp only;rw[aat]at hf;exact aY3 (by omega) (aZ4 ⟨out,⟨ho,C⟩,hf,rfl⟩)
 rintro _ ⟨c1,⟨b1,a5⟩,b2,rfl⟩;dsimp only;refine aZ1 (R:=λ r:List Bool=>(r.length=S.toNat/\Snd S (Up rs fin) r)/\Useful fin rs rch r) (aZ8 (aX1 (λ s=> ∃(out:List Bool) (more:Bool),(out.length=S.toNat/\Snd S (Up rs fin) out)/\(∀s∈fin,bat rch s=true->bat out s=true)/\(more=false-> ∀r∈rs,bat out r.2.2=true->(∀s∈r.2.1,bat rch s=true)-> ∀s∈r.2.1,bat out s=true)/\s=(S,fin,rs,rch,out,more)) (λ s=>if s.2.2.2.2.2 then nf s.2.2.2.2.1+1 else 0) ?_ ⟨_,true,⟨b1,a5⟩,b2,λ h=>(by cases h),rfl⟩)) λ r hr=>aZ0 ⟨hr.1.1,hr.1.2,rch,a3,hr.2⟩;rintro s ⟨out,more,⟨ho,C⟩,a6,b3,rfl⟩;unfold fO.L5;dsimp only;refine aY9 (λ hm=> ?_) (λ hm=>aZ4 ⟨⟨ho,C⟩,a6,b3 hm⟩);subst hm;refine aZ5 (R:=λ t=> ∃(f:List Bool) (k:Bool),(f.length=S.toNat/\Snd S (Up rs fin) f)/\nf f<=nf out/\(k=true->nf f<nf out)/\(∀s,bat out s=true->bat f s=true)/\(k=false->f=out/\ ∀r∈rs,bat out r.2.2=true->(∀s∈r.2.1,bat rch s=true)-> ∀s∈r.2.1,bat out s=true)/\t=(S,fin,rs,rch,f,k)) (aZ8 (aZ6 rs.length (λ i s=> ∃(f:List Bool) (k:Bool),(f.length=S.toNat/\Snd S (Up rs fin) f)/\nf f<=nf out/\(k=true->nf f<nf out)/\(∀s,bat out s=true->bat f s=true)/\(k=false->f=out/\ ∀r∈rs.take i,bat out r.2.2=true->(∀s∈r.2.1,bat rch s=true)-> ∀s∈r.2.1,bat out s=true)/\s=(S,fin,rs,rch,f,k,rs,(rs.length:Int),(i:Int))) ?_ ?_ ⟨out,false,⟨ho,C⟩,aav _,λ h=>(by cases h),λ _ h=>h,λ _=>⟨rfl,by simp⟩,rfl⟩)) ?_
 ·rintro i s O ⟨f,k,⟨K,q⟩,hn,L,M,z,rfl⟩;unfold fO.L4;dsimp only;obtain⟨N,D,c7⟩:=hr rs[i] (aaf O);refine aY1 (by omega) (aY O (aZ9 (rng N.1 (by have:=N.2;omega)) (aY6 (by have:=N.2;have:=N.1;omega) λ c8 _ a7=> ?_)));refine aZ5 (R:=λ t=> ∃b:Bool,b=(bat f rs[i].2.2&&rs[i].2.1.all (bat rch))/\t=(S,fin,rs,rch,f,k,rs[i].1,rs[i].2.1,rs[i].2.2,b,rs,(rs.length:Int),(i:Int))) (aZ8 (aZ6 rs[i].2.1.length (λ j s=> ∃b:Bool,b=(bat f rs[i].2.2&&(rs[i].2.1.take j).all (bat rch))/\s=(S,fin,rs,rch,f,k,rs[i].1,rs[i].2.1,rs[i].2.2,b,rs,(rs.length:Int),(i:Int),rs[i].2.1,((rs[i].2.1.length:Nat):Int),(j:Int))) ?_ ?_ ⟨_,by rw[Dn a7];simp,rfl⟩)) ?_
  ·rintro j s W ⟨b,B,rfl⟩;unfold fO.L2;dsimp only;obtain⟨q0,q1⟩:=D rs[i].2.1[j] (aaf W);refine aY1 (by omega) (aY W (aY2 (λ p=> ?_) (λ p=> ?_)))
   ·refine aY0 (rng q0 (by omega)) (aY5 (aY6 (by omega) λ e _ U=>aZ3 (aZ2 ⟨e,?_,by rw[ak (by omega)]⟩)));rw[p]at B;obtain⟨g1,g2⟩:=(aae _ _).mp B.symm;rw[g1,acO];exact Pn W g2 (Dn U)
   ·refine aZ3 (aZ2 ⟨false,?_,by rw[ak (by omega)]⟩);rw[p]at B;rcases(Bool.and_eq_false_iff).mp B.symm with g|g
    ·rw[g,Bool.false_and]
    ·rw[←X7 (j:=j) g,Bool.and_false]
  ·rintro s ⟨b,B,rfl⟩;unfold fO.L2;dsimp only;rw[aat]at B;exact aY3 (by omega) (aZ4 ⟨b,B,rfl⟩)
  ·rintro _ ⟨b,B,rfl⟩;dsimp only
   have b6:b=true-> ∀s∈rs[i].2.1,Up rs fin s:=λ p s hs=>by
    obtain⟨g1,g2⟩:=(aae _ _).mp (B.symm.trans p);exact .rule (aaf O) (q _ N g1) (λ y hy=>a4 y (D y hy) (aaV.1 g2 y hy)) hs
   refine aZ5 (R:=λ t=> ∃(d:List Bool) (l:Bool),(d.length=S.toNat/\Snd S (Up rs fin) d)/\nf d<=nf out/\(l=true->nf d<nf out)/\(∀s,bat out s=true->bat d s=true)/\(l=false->d=out/\k=false/\(b=true-> ∀s∈rs[i].2.1,bat d s=true))/\t=(S,fin,rs,rch,d,l,rs,(rs.length:Int),(i:Int))) (aZ8 (aZ6 rs[i].2.1.length (λ j s=> ∃(d:List Bool) (l:Bool),(d.length=S.toNat/\Snd S (Up rs fin) d)/\nf d<=nf out/\(l=true->nf d<nf out)/\(∀s,bat out s=true->bat d s=true)/\(l=false->d=out/\k=false/\(b=true-> ∀s∈rs[i].2.1.take j,bat d s=true))/\s=(S,fin,rs,rch,d,l,b,rs,(rs.length:Int),(i:Int),rs[i].2.1,((rs[i].2.1.length:Nat):Int),(j:Int))) ?_ ?_ ⟨f,k,⟨K,q⟩,hn,L,M,λ h=>⟨(z h).1,h,by simp⟩,rfl⟩)) ?_
   ·rintro j s W ⟨d,l,⟨I,u⟩,E,A,v,m,rfl⟩;unfold fO.L3;dsimp only;obtain⟨q0,q1⟩:=D rs[i].2.1[j] (aaf W);refine aY1 (by omega) (aY W ?_);refine aZ5 (R:=λ t=> ∃c:Bool,(c=true->d[rs[i].2.1[j].toNat]? =some false/\b=true)/\(c=false->b=true->bat d rs[i].2.1[j]=true)/\t=(S,fin,rs,rch,d,l,b,rs[i].2.1[j],rs,(rs.length:Int),(i:Int),rs[i].2.1,((rs[i].2.1.length:Nat):Int),(j:Int),c)) ?_ ?_
    ·refine aY4 (λ p=>aX0 (rng q0 (by omega)) (aX8 (by omega) λ e _ U=>aZ0 ⟨!e,λ h=> ?_,λ h _=> ?_,rfl⟩)) (λ b7=>aZ0 ⟨false,λ h=>(by cases h),λ _ h=>(by rw[b7]at h;cases h),rfl⟩)
     ·cases e with
      |true=>cases h
      |false=>exact⟨U,p⟩
     ·cases e with
      |true=>exact Yc U
      |false=>cases h
    ·rintro _ ⟨c,hc,b8,rfl⟩;dsimp only;refine aY2 (λ Q=> ?_) (λ Q=> ?_)
     ·refine aY0 (rng q0 (by omega)) (aY5 (aY6 (by omega) λ e _ U=>aZ3 (aZ2 ⟨d.set rs[i].2.1[j].toNat true,true,⟨by simpa using I,u.set ⟨q0,q1⟩ (b6 (hc Q).2 _ (aaf W))⟩,?_,λ _=> ?_,λ s h=>afw (v s h),λ h=>(by cases h),by rw[ak (by omega)]⟩)))
      ·exact aaX (RV _ _) E
      ·exact abn (GV (hc Q).1) E
     ·refine aZ3 (aZ2 ⟨_,l,⟨I,u⟩,E,A,v,λ h=>⟨(m h).1,(m h).2.1,λ p s hs=> ?_⟩,by rw[ak (by omega)]⟩);rw[aau,aac W,aap]at hs;rcases hs with hs|hs
      ·exact(m h).2.2 p s hs
      ·simp only[aaS,aah]at hs;rw[hs];exact b8 Q p
   ·rintro s ⟨d,l,⟨I,u⟩,E,A,v,m,rfl⟩;unfold fO.L3;dsimp only;rw[aat]at m;exact aY3 (by omega) (aZ4 ⟨d,l,⟨I,u⟩,E,A,v,m,rfl⟩)
   ·rintro _ ⟨d,l,⟨I,u⟩,E,A,v,m,rfl⟩;dsimp only;refine aZ2 ⟨d,l,⟨I,u⟩,E,A,v,λ h=>⟨(m h).1,λ r G h1 h2=> ?_⟩,by rw[ak (by omega)]⟩;obtain⟨e2,Z,e3⟩:=m h;rw[aau,aac O,aap]at G;rcases G with G|G
    ·exact(z Z).2 r G h1 h2
    ·simp only[aaS,aah]at G;subst G;intro s hs;rw[←e2];refine e3 ?_ s hs;rw[B,(z Z).1,h1,acO,aaV];exact h2
 ·rintro s ⟨f,k,⟨K,q⟩,hn,L,M,z,rfl⟩;unfold fO.L4;dsimp only;rw[aat]at z;exact aY3 (by omega) (aZ4 ⟨f,k,⟨K,q⟩,hn,L,M,z,rfl⟩)
 ·rintro _ ⟨f,k,⟨K,q⟩,hn,L,M,z,rfl⟩;dsimp only;refine aZ2 ⟨⟨f,k,⟨K,q⟩,λ s hs B=>M s (a6 s hs B),λ h=>by rw[(z h).1];exact(z h).2,rfl⟩,?_⟩;dsimp only
  cases k with
  |true=>have:=L rfl;simp;omega
  |false=>simp
abbrev ahp (F:Nat->LR->Option (LR)):Prop:= ∀x:LR,x.length<=1000000000->(∀r∈x,r.2.1.length<=1000)->Sp F x (λ r:LR=>r.length<=x.length/\(∀y,y∈r ↔ y∈x)/\r.Pairwise λ a b=>cmpL (wF a) (wF b)<0)
theorem ZT {F:Nat->LR->Option (LR)} (hF:ahp F) (S:Int) (fin:LI) (rs:LR) (keep:List Bool) (h:Wf S fin rs) (hk:keep.length=S.toNat) (hA:ArC rs):
 Sp (λ n=>iD.P (F n) n) (S,fin,rs,keep) (λ a=>su S fin rs keep a/\a.1=(keep.count true:Int)):=by
 obtain⟨h0,hS,d2,d3,K,hr⟩:=h;show Tt (λ n=>iD.P (F n) n (S,fin,rs,keep)) _;unfold iD.P;dsimp only;refine aX0 (tY h0 (by omega)) ?_
 refine aZ1 (R:=λ t=> ∃(num:LI) (c:Int),num.length=S.toNat/\0<=c/\(c<=S/\c=(keep.count true:Int))/\(∀s,bC S s->bat keep s=true->bC c (iat num s))/\(∀s s',bC S s->bC S s'->bat keep s=true->bat keep s'=true->s<s'->iat num s<iat num s')/\(∀q,bC c q-> ∃s,bC S s/\bat keep s=true/\iat num s=q)/\
  t=(keep,S,fin,rs,(0:Int),([]:LI),([]:LR),num,c,([]:LI),([]:LR)))
  (aZ8 (aZ6 keep.length (λ i t=> ∃(num:LI) (c:Int),num.length=S.toNat/\0<=c/\(c<=(i:Int)/\c=(((keep.take i).count true:Nat):Int))/\(∀s,bC (i:Int) s->bat keep s=true->bC c (iat num s))/\(∀s s',bC (i:Int) s->bC (i:Int) s'->bat keep s=true->bat keep s'=true->s<s'->iat num s<iat num s')/\(∀q,bC c q-> ∃s,bC (i:Int) s/\bat keep s=true/\iat num s=q)/\
   t=(keep,S,fin,rs,(0:Int),([]:LI),([]:LR),num,c,([]:LI),([]:LR),keep,(keep.length:Int),(i:Int))) ?_ ?_ ?_)) ?_
 ·rintro i t C ⟨num,c,hn,D,⟨c1,L⟩,M,U,hK,rfl⟩
  have b6:(keep.take (i+1)).count true=(keep.take i).count true+if keep[i]then 1 else 0:=by
   rw[aau,aac C,List.count_append];cases keep[i]<;>rfl
  unfold iD.L1;dsimp only;have b7:bat keep (i:Int)=keep[i]:=by unfold bat;rw[aal,aac C];rfl
  refine aY1 (by omega) (aY C (aY2 (λ N=> ?_) (λ N=> ?_)))
  ·refine aY0 (rng (by omega) (by omega)) (aY5 ?_);rw[aal];refine aY6 (by omega) λ e _ _=>aZ3 (aZ2 ?_)
   have A: ∀s:Int,bC ((i+1:Nat):Int) s->iat (num.set i c) s=if s=(i:Int)then c else iat num s:=by
    intro s hs;unfold iat;rw[aaU];by_cases e:s=(i:Int)
    ·subst e;rw[if_pos rfl,aal,if_pos rfl,if_pos (by omega)];rfl
    ·rw[if_neg e,if_neg (by have:=hs.1;omega)]
   have E: ∀s:Int,bC ((i+1:Nat):Int) s->s≠(i:Int)->bC (i:Int) s:=λ s hs e=>⟨hs.1,by have:=hs.2;omega⟩;refine⟨num.set i c,c+1,by simpa using hn,by omega,⟨by omega,by rw[b6,N,if_pos rfl];omega⟩,λ s hs m=> ?_,λ s s' hs u m B e=> ?_,λ q O=> ?_,by rw[ak (by omega),kS _ (by omega) (by omega)]⟩
   ·rw[A s hs];split
    ·exact⟨D,by omega⟩
    ·rename_i e;obtain⟨a1,a2⟩:=M s (E s hs e) m;exact⟨a1,by omega⟩
   ·rw[A s hs,A s' u,if_neg (show s≠(i:Int) by have:=u.2;omega)];split
    ·rename_i e2;exact(M s ⟨hs.1,by omega⟩ m).2
    ·rename_i e2;exact U s s' ⟨hs.1,by have:=u.2;omega⟩ (E s' u e2) m B e
   ·rcases abS (Int.lt_add_one_iff.1 O.2)with h|rfl
    ·obtain⟨s,d,k,p⟩:=hK q ⟨O.1,h⟩;have Q:bC ((i+1:Nat):Int) s:=⟨d.1,by have:=d.2;omega⟩;exact⟨s,Q,k,by rw[A s Q,if_neg (by have:=d.2;omega)];exact p⟩
    ·have Q:bC ((i+1:Nat):Int) (i:Int):=⟨by omega,by omega⟩;exact⟨i,Q,b7.trans N,by rw[A _ Q,if_pos rfl]⟩
  ·have E: ∀s:Int,bC ((i+1:Nat):Int) s->bat keep s=true->bC (i:Int) s:=λ s hs m=>⟨hs.1,by
    have:=hs.2;have:s≠(i:Int):=by rintro rfl;rw[b7,N]at m;cases m
    omega⟩
   exact aZ3 (aZ2 ⟨num,c,hn,D,⟨by omega,by rw[b6,N];simpa using L⟩,λ s hs m=>M s (E s hs m) m,λ s s' hs u m B e=>U s s' (E s hs m) (E s' u B) m B e,λ q O=>by obtain⟨s,d,k,p⟩:=hK q O;exact⟨s,⟨d.1,by have:=d.2;omega⟩,k,p⟩,by rw[ak (by omega)]⟩)
 ·rintro t ⟨num,c,hn,D,⟨c1,L⟩,M,U,hK,rfl⟩;rw[aat]at L;unfold iD.L1;dsimp only;have e:(keep.length:Int)=S:=by omega
  rw[e]at M U hK;exact aY3 (by omega) (aZ4 ⟨num,c,hn,D,⟨by omega,L⟩,M,U,hK,rfl⟩)
 ·exact⟨_,0,by simp,by omega,⟨by omega,by simp⟩,λ s hs=>absurd hs.1 (by have:=hs.2;omega),λ s s' hs=>absurd hs.1 (by have:=hs.2;omega),λ q O=>absurd O.1 (by have:=O.2;omega),rfl⟩
 rintro _ ⟨num,c,hn,D,⟨c2,L⟩,M,U,hK,rfl⟩;dsimp only;have c3: ∀s,bC S s->s.toNat<num.length:=λ s hs=>by have:=hs.1;have:=hs.2;omega
 refine aZ1 (R:=λ t=> ∃fin':LI,(fin'.length<=fin.length/\((fin.Pairwise λ a b=>a<b)->fin'.Pairwise λ a b=>a<b))/\ahc (λ s=>bat keep s=true) (iat num) fin fin'/\t=(keep,S,fin,rs,(0:Int),([]:LI),([]:LR),num,c,fin',([]:LR)))
  (aZ8 (aZ6 fin.length (λ i t=> ∃fin':LI,(fin'.length<=i/\((fin.Pairwise λ a b=>a<b)->fin'.Pairwise λ a b=>a<b))/\ahc (λ s=>bat keep s=true) (iat num) (fin.take i) fin'/\t=(keep,S,fin,rs,(0:Int),([]:LI),([]:LR),num,c,fin',([]:LR),fin,(fin.length:Int),(i:Int))) ?_ ?_ ⟨[],⟨by simp,λ _=> .nil⟩,λ q=>by simp,rfl⟩)) ?_
 ·rintro i t C ⟨fin',⟨a4,G⟩,l,rfl⟩;unfold iD.L2;dsimp only;have hs:=K fin[i] (aaf C);refine aY1 (by omega) (aY C ?_);refine aW0 hs.1 (by have:=hs.1;have:=hs.2;omega) λ b0 _ z=> ?_;have z:=Dn z;refine aY2 (λ m=> ?_) (λ m=> ?_)
  ·refine aY0 (rng hs.1 (by have:=hs.1;have:=hs.2;omega)) (aY5 (aY6 (c3 _ hs) λ v _ hv=>aY0 (jS (by simp;omega)) (aZ3 (aZ2 ⟨fin'++[v],⟨by simp;omega,λ hp=>abZ.2 ⟨G hp,abR ..,λ x hx y hy=> ?_⟩⟩,λ q=> ?_,by rw[ak (by omega)];rfl⟩))))
   ·obtain⟨s,d,k,rfl⟩:=(l x).1 hx;rw[aah.1 hy,←l9 hv];obtain⟨j,hj,rfl⟩:=aaz d;rw[aaE]at hj;rw[abV]at k ⊢;exact U _ _ (K _ (aaf (by omega))) hs k (z.trans m) (aaR.1 hp j i (by omega) C (by omega))
   rw[aap,l,aau,aac C,aah,←l9 hv];constructor
   ·rintro(⟨s,d,k,p⟩|h)
    ·exact⟨s,aaG _ d,k,p⟩
    ·exact⟨fin[i],aa6 _ (by simp),z.trans m,h⟩
   ·rintro⟨s,d,k,p⟩;rcases aap.1 d with d|d
    ·exact .inl ⟨s,d,k,p⟩
    ·simp only[aaS,aah]at d;rw[d]at p;exact .inr p
  ·refine aZ3 (aZ2 ⟨fin',⟨by omega,G⟩,λ q=> ?_,by rw[ak (by omega)]⟩);rw[l,aau,aac C];constructor
   ·rintro⟨s,d,k,p⟩;exact⟨s,aaG _ d,k,p⟩
   ·rintro⟨s,d,k,p⟩;rcases aap.1 d with d|d
    ·exact⟨s,d,k,p⟩
    ·simp only[aaS,aah]at d;rw[d,z,m]at k;cases k
 ·rintro t ⟨fin',⟨a4,G⟩,l,rfl⟩;unfold iD.L2;dsimp only;rw[aat]at l;exact aY3 (by omega) (aZ4 ⟨fin',⟨a4,G⟩,l,rfl⟩)
 rintro _ ⟨fin',⟨a4,G⟩,l,rfl⟩;dsimp only
 refine aZ1 (R:=λ t=> ∃f:LR,f.length<=rs.length/\Ren (λ s=>bat keep s=true) (iat num) rs f/\t=((0:Int),([]:LI),([]:LR),c,fin',f))
  (aZ8 (aZ6 rs.length (λ i t=> ∃f:LR,f.length<=i/\Ren (λ s=>bat keep s=true) (iat num) (rs.take i) f/\t=(keep,(0:Int),([]:LI),([]:LR),num,c,fin',f,rs,(rs.length:Int),(i:Int))) ?_ ?_ ⟨[],by simp,λ q=>by simp,rfl⟩)) ?_
 ·rintro i t C ⟨f,a5,l,rfl⟩;unfold iD.L4;dsimp only;obtain⟨I,a6,c9⟩:=hr rs[i] (aaf C)
  have skip: ¬(bat keep rs[i].2.2=true/\ ∀s∈rs[i].2.1,bat keep s=true)->Ren (λ s=>bat keep s=true) (iat num) (rs.take (i+1)) f:=by
   intro hn q;rw[l,aau,aac C];constructor
   ·rintro⟨s,d,k⟩;exact⟨s,aaG _ d,k⟩
   ·rintro⟨s,d,k,p,Q⟩;rcases aap.1 d with d|d
    ·exact⟨s,d,k,p,Q⟩
    ·simp only[aaS,aah]at d;subst d;exact absurd ⟨k,p⟩ hn
  have main:bat keep rs[i].2.2=true->(∀s∈rs[i].2.1,bat keep s=true)->Ren (λ s=>bat keep s=true) (iat num) (rs.take (i+1)) (f++[(rs[i].1,rs[i].2.1.map (iat num),iat num rs[i].2.2)]):=by
   intro c4 c5 q;rw[aap,l,aau,aac C,aah];constructor
   ·rintro(⟨s,d,k⟩|h)
    ·exact⟨s,aaG _ d,k⟩
    ·exact⟨rs[i],aa6 _ (by simp),c4,c5,h⟩
   ·rintro⟨s,d,k,p,Q⟩;rcases aap.1 d with d|d
    ·exact .inl ⟨s,d,k,p,Q⟩
    ·simp only[aaS,aah]at d;rw[d]at Q;exact .inr Q
  refine aY1 (by omega) (aY C (aW0 I.1 (by have:=I.2;omega) λ b0 _ z=> ?_));have z:=Dn z
  refine aZ5 (R:=λ t=>t=(keep,(0:Int),([]:LI),([]:LR),num,c,fin',f,rs[i].1,rs[i].2.1,rs[i].2.2,(bat keep rs[i].2.2&&rs[i].2.1.all (bat keep)),rs[i].2.1.map (iat num),rs,(rs.length:Int),(i:Int)))
   (aZ8 (aZ6 rs[i].2.1.length (λ j s=>s=(keep,(0:Int),([]:LI),([]:LR),num,c,fin',f,rs[i].1,rs[i].2.1,rs[i].2.2,(bat keep rs[i].2.2&&(rs[i].2.1.take j).all (bat keep)),(rs[i].2.1.take j).map (iat num),rs,(rs.length:Int),(i:Int),rs[i].2.1,((rs[i].2.1.length:Nat):Int),(j:Int))) ?_ ?_ (by rw[z];simp))) ?_
  ·rintro j s hj rfl;unfold iD.L3;dsimp only;obtain⟨q0,q1⟩:=a6 rs[i].2.1[j] (aaf hj);refine aY1 (by omega) (aY hj ?_);refine aZ5 (R:=λ t=>t=(keep,(0:Int),([]:LI),([]:LR),num,c,fin',f,rs[i].1,rs[i].2.1,rs[i].2.2,(bat keep rs[i].2.2&&(rs[i].2.1.take (j+1)).all (bat keep)),(rs[i].2.1.take j).map (iat num),rs[i].2.1[j],rs,(rs.length:Int),(i:Int),rs[i].2.1,((rs[i].2.1.length:Nat):Int),(j:Int))) ?_ ?_
   ·refine aY4 (λ a7=>aW4 q0 (by omega) λ e _ he=>aZ0 ?_) (λ W=>aZ0 ?_)
    ·obtain⟨g1,g2⟩:=(aae _ _).mp a7;rw[g1,acO,←Pn hj g2 (Dn he)]
    ·rcases(Bool.and_eq_false_iff).mp W with g|g
     ·rw[g,Bool.false_and]
     ·rw[←X7 (j:=j) g,Bool.and_false]
   ·rintro _ rfl;dsimp only;exact aZ9 (rng q0 (by omega)) (aY6 (by omega) λ v _ hv=>aZ9 (jS (by simp;omega)) (aZ2 (by rw[ak (by omega),←l9 hv,←zO hj];rfl)))
  ·rintro s rfl;unfold iD.L3;dsimp only;rw[aat];exact aY3 (by omega) (aZ4 rfl)
  ·rintro _ rfl;dsimp only;refine aY2 (λ a7=> ?_) (λ W=> ?_)
   ·obtain⟨g1,g2⟩:=(aae _ _).mp a7;refine aY0 (rng I.1 (by have:=I.2;omega)) (aY5 (aY6 (by have:=I.2;have:=I.1;omega) λ v _ hv=>aY0 (jS (by simp;omega)) (aZ3 (aZ2 ⟨_,?_,main g1 (aaV.1 g2),by rw[ak (by omega),l9 hv];rfl⟩))));simp;omega
   ·refine aZ3 (aZ2 ⟨f,by omega,skip λ⟨g1,g2⟩=> ?_,by rw[ak (by omega)]⟩);rw[g1,aaV.2 g2]at W;cases W
 ·rintro s ⟨f,a5,l,rfl⟩;unfold iD.L4;dsimp only;rw[aat]at l;exact aY3 (by omega) (aZ4 ⟨f,a5,l,rfl⟩)
 rintro _ ⟨f,d9,Y,rfl⟩;dsimp only;refine aZ1 (hF f (by omega) λ r' a8=> ?_) ?_
 ·obtain⟨r,d,_,_,e⟩:=(Y r').1 a8;rw[e];have:=(hr r d).2.2;simpa using by omega
 ·rintro out ⟨a5,b9,a9⟩;have Z:Ren (λ s=>bat keep s=true) (iat num) rs out:=λ r'=>(b9 r').trans (Y r')
  have c6:ArC f:=λ r1 d r2 k e=>by
   obtain⟨x,x1,_,_,rfl⟩:=(Y r1).1 d;obtain⟨y,y1,_,_,rfl⟩:=(Y r2).1 k;simpa using hA x x1 y y1 e
  have a9:=Na c6 b9 a9;refine aZ0 ⟨⟨⟨⟨D,by dsimp only;omega,by dsimp only;omega,by dsimp only;omega,λ q O=> ?_,λ r' a8=> ?_⟩,c2,G⟩,iat num,λ s s' hs u m B e=> ?_,l,Z,M,hK,by dsimp only;omega,a9⟩,by dsimp only;omega⟩
  ·obtain⟨s,d,k,e⟩:=(l q).1 O;rw[e];exact M s (K s d) k
  ·obtain⟨r,d,k,p,e⟩:=(Z r').1 a8;obtain⟨b1,b2,b3⟩:=hr r d;rw[e];refine⟨M _ b1 k,λ q O=> ?_,by simpa using b3⟩;obtain⟨s,hs,e⟩:=aaB.1 O;rw[←e];exact M s (b2 s hs) (p s hs)
  ·rcases Int.lt_trichotomy s s' with h|h|h
   ·have:=U s s' hs u m B h;omega
   ·exact h
   ·have:=U s' s u hs B m h;omega
def xW (S:Int) (fin:LI) (rs:LR) (a:Aut):Prop:= ∃keep R:List Bool,keep.length=S.toNat/\(∀s,bC S s->bat keep s=true->Up rs fin s)/\Closed rs R/\Useful fin rs R keep/\su S fin rs keep a/\a.1=(keep.count true:Int)
theorem TP {U:Nat->Ab->Option (List Bool)} {K:Nat->Int×LI×LR×List Bool->Option Aut} {S:Int} {fin:LI} {rs:LR} (e:Sp U (S,fin,rs) (λ r=>r.length=S.toNat/\(∀s,bC S s->bat r s=true->Up rs fin s)/\ ∃R,Closed rs R/\Useful fin rs R r))
 (f: ∀keep:List Bool,keep.length=S.toNat->Sp K (S,fin,rs,keep) (λ a=>su S fin rs keep a/\a.1=(keep.count true:Int))):Sp (λ n=>wK.P (K n) (U n) n) (S,fin,rs) (xW S fin rs):=by
 show Tt (λ n=>wK.P (K n) (U n) n (S,fin,rs)) _;unfold wK.P;dsimp only
 exact aZ1 e λ keep d=>aZ1 (f keep d.1) λ r g=>by
  obtain⟨i,k,R,l,m⟩:=d;exact aZ0 ⟨keep,R,i,k,l,m,g⟩
theorem WB (m r:Nat) (f:r<=1000) (h: ∀i,i<=r->m^i<=1099511627776) (g:m<=1000):Sp l7.P ((m:Int),(r:Int)) (λ p=>p=((m^r:Nat):Int)):=by
 show Tt (λ n=>l7.P n ((m:Int),(r:Int))) _;unfold l7.P;dsimp only;refine aZ1 (R:=λ p=>p=((m^r:Nat):Int)) (aZ8 (aZ6 r (λ i s=>s=((m:Int),((m^i:Nat):Int),(r:Int),(i:Int))) ?_ ?_ ?_)) λ p d=>aZ0 d
 ·rintro i s k rfl;unfold l7.L1;dsimp only;refine aY1 (by omega) (aZ2 ?_);have l:=h (i+1) (by omega);have e:((m^i:Nat):Int)*(m:Int)=((m^(i+1):Nat):Int):=by rw[acY,Int.natCast_mul]
  rw[e,kS _ (by omega) (by omega),ak (by omega)];congr 2;omega
 ·rintro s rfl;unfold l7.L1;dsimp only;exact aY3 (by omega) (aZ4 rfl)
 ·simp
theorem TM (m r:Nat) (d:m<=1000) (e:r<=3):Sp l7.P ((m:Int),(r:Int)) (λ p=>p=((m^r:Nat):Int)):=WB m r (by omega) (λ i f=>by
 have g:m^i<=1000^i:=ab1 d _;have k:1000^i<=1000^3:=abN (by omega) (by omega);omega) d
theorem agJ (r:Nat) (d:r<=8):Sp l7.P ((2:Int),(r:Int)) (λ p=>p=((2^r:Nat):Int)):=WB 2 r (by omega) (λ i e=>by
 have f:2^i<=2^8:=abN (by omega) (by omega);omega) (by omega)
theorem agC {F:Nat->Ac->Option Int} (hF: ∀m r:Nat,m<=1000->r<=3->Sp F ((m:Int),(r:Int)) (λ p=>p=((m^r:Nat):Int))) (al:LI) (m:Nat) (q:m<=1000) (e:F9 al):Sp (λ n=>rO.P (F n) n) (al,(m:Int)) (λ v=>v=(lZ al m:Int)):=by
 have A:=e.1;show Tt (λ n=>rO.P (F n) n (al,(m:Int))) _;unfold rO.P;dsimp only;refine aZ1 (R:=λ v=>v=(lZ al m:Int)) (aZ8 (aZ6 al.length (λ i s=>s=((m:Int),(lZ (al.take i) m:Int),al,(al.length:Int),(i:Int))/\lZ (al.take i) m<=i*1000000000) ?_ ?_ ⟨rfl,by simp[lZ]⟩)) λ p u=>aZ0 u
 ·rintro i s f ⟨rfl,B⟩;unfold rO.L1;dsimp only;refine aY1 (by omega) (aY f ?_);obtain⟨k,g,y⟩:=e.rank f;have d:=Eu (m:=m) f;rw[y];have C:m^k<=1000^k:=ab1 q _;have D:1000^k<=1000^3:=abN (by omega) (by omega);have l:al[i].toNat=k:=by omega
  rw[l]at d;refine aZ5 (hF m k q g) λ r z=>aZ2 ⟨?_,by rw[d,abx];omega⟩;rw[z,ak (by omega),d];have t:i*1000000000<=12*1000000000:=aaA _ (by omega);rw[kS _ (by omega) (by omega)];rfl
 ·rintro s ⟨rfl,_⟩;unfold rO.L1;dsimp only;rw[aat];exact aY3 (by omega) (aZ4 rfl)
theorem agI {d:Nat->Ah->Option Int} (al:LI) (m:Nat) (g:m<=1000) (e:Sp d (al,(m:Int)) (λ v=>v=(lZ al m:Int))):Sp (λ n=>EH.P (d n) n) (al,(m:Int)) (λ b=>b=true ↔ 300<m\/20000<lZ al m):=by
 show Tt (λ n=>EH.P (d n) n (al,(m:Int))) _;unfold EH.P;dsimp only;refine aZ1 (R:=λ b=>b=true ↔ 300<m\/20000<lZ al m) (aY4 (λ h=>aZ0 ?_) (λ h=>aZ1 e λ v hv=>aZ0 ?_)) λ r f=>aZ0 f
 ·have:=iy h;exact⟨λ _=> .inl (by omega),λ _=>rfl⟩
 ·have:=dec_not h;rw[hv,decide_eq_true_eq];exact⟨λ h=> .inr (by omega),λ h=>by omega⟩
theorem agA {P:Nat->Ac->Option Int} {T:Nat->Ab->Option Aut} {S:Int} {fin:LI} {rs:LR} (k:S<=8) (g:Sp T (S,fin,rs) (xW S fin rs)) (i: ∀r:Nat,r<=8->Sp P ((2:Int),(r:Int)) (λ p=>p=((2^r:Nat):Int))):
 Sp (λ n=>EG.P (P n) (T n) n) (S,fin,rs) (λ v=> ∃a,xW S fin rs a/\v=((2^a.1.toNat:Nat):Int)/\a.1<=8):=by
 show Tt (λ n=>EG.P (P n) (T n) n (S,fin,rs)) _;unfold EG.P;dsimp only;refine aZ1 g λ a e=> ?_;obtain⟨keep,R,l,m,q,t,u,f⟩:=id e;have y:keep.count true<=keep.length:=List.count_le_length;have d:keep.count true<=8:=by omega
 rw[f];refine aZ1 (i _ d) λ v hv=>aZ0 ⟨a,e,?_,by omega⟩;rw[hv,f,aal]
theorem XB {O:Nat->Ab->Option Bool} {B:Nat->Ab->Option Int} {Ov:Nat->Ah->Option Bool} {al:LI} {S:Int} {fin:LI} {rs:LR} (g:Sp O (S,fin,rs) (λ r=>r=true->Ia rs))
 (i:Sp B (S,fin,rs) (λ v=> ∃a,xW S fin rs a/\v=((2^a.1.toNat:Nat):Int)/\a.1<=8)) (d: ∀m:Nat,m<=1000->Sp Ov (al,(m:Int)) (λ b=>b=true ↔ 300<m\/20000<lZ al m)):
 Sp (λ n=>wL.P (O n) (B n) (Ov n) n) (al,S,fin,rs) (λ b=>b=true->Ia rs\/ ∃a,xW S fin rs a/\2^a.1.toNat<=300/\lZ al (2^a.1.toNat)<=20000):=by
 show Tt (λ n=>wL.P (O n) (B n) (Ov n) n (al,S,fin,rs)) _;unfold wL.P;dsimp only;refine aZ1 (R:=λ b=>b=true->Ia rs\/ ∃a,xW S fin rs a/\2^a.1.toNat<=300/\lZ al (2^a.1.toNat)<=20000) ?_ λ r e=>aZ0 e;refine aZ1 g λ r e=>aY4 (λ h=>aZ0 λ _=> .inl (e h)) (λ _=>aZ1 i λ v hv=> ?_);obtain⟨a,k,rfl,l⟩:=hv;have p:2^a.1.toNat<=2^8:=abN (by omega) (by omega);refine aZ1 (d _ (by omega)) λ b f=>aZ0 λ h=> .inr ⟨a,k,?_⟩;have:b=false:=by simpa using h
 rw[this]at f;have q: ¬(300<2^a.1.toNat\/20000<lZ al (2^a.1.toNat)):=λ h=>acK (f.2 h);exact⟨by omega,by omega⟩
theorem aeC {e:Nat->Ah->Option Int} {f:Nat->Ab->Option Bool} {T:Nat->Ab->Option Aut} {g:Nat->Ab->Option Int}
 (al:LI) (d:List Aut) (G:d.length<=1000) (k: ∀m:Nat,m<=1000->Sp e (al,(m:Int)) (λ _=>True)) (l: ∀a∈d,Sp f a (λ _=>True)) (z: ∀a∈d,Sp T a (λ a=>0<=a.1/\a.1<=8)) (p: ∀a∈d,Sp g a (λ v=>0<=v/\v<=256)):
 Sp (λ n=>o9.P (e n) (f n) (T n) (g n) n) (al,d) (λ _=>True):=by
 show Tt (λ n=>o9.P (e n) (f n) (T n) (g n) n (al,d)) _;unfold o9.P;dsimp only;refine aZ1 (R:=λ q=>q=Sum.inl ()\/ ∃b,q=Sum.inr b) (aZ8 (aZ6 d.length (λ i s=>s=(al,d,(d.length:Int),(i:Int))) ?_ ?_ rfl)) ?_
 ·rintro i s y rfl;have u:d[i]∈d:=aaf y;unfold o9.L1;dsimp only;refine aY1 (by omega) (aY y ?_);refine aZ5 (R:=λ t=> ∃b:Bool,t=(al,d[i].1,d[i].2.1,d[i].2.2,d,(d.length:Int),(i:Int),b)) ?_ ?_
  ·exact aY4 (λ _=>aZ0 ⟨true,rfl⟩) (λ h=>aZ0 ⟨_,rfl⟩)
  ·rintro _ ⟨b,rfl⟩;dsimp only;refine aY9 (λ _=>aZ4 (.inr ⟨_,rfl⟩)) (λ A=> ?_);refine aZ5 (p _ u) λ B C=>aZ5 (l _ u) λ I _=> ?_;refine aZ5 (R:=λ t=> ∃v:Nat,v<=256/\t=(al,(v:Int),d,(d.length:Int),(i:Int))) ?_ ?_
   ·exact aY4 (λ _=>aZ1 (z _ u) λ D E=>aZ0 ⟨D.1.toNat,by omega,by rw[abI E.1]⟩) (λ _=>aZ0 ⟨B.toNat,by omega,by rw[abI C.1]⟩)
   ·rintro _ ⟨v,hv,rfl⟩;dsimp only;rw[ak (by omega)];exact aZ5 (k (v+1) (by omega)) λ K _=>aY9 (λ _=>aZ4 (.inr ⟨_,rfl⟩)) (λ _=>aZ2 (by rw[ak (by omega)]))
 ·rintro s rfl;unfold o9.L1;dsimp only;exact aY3 (by omega) (aZ4 (.inl rfl))
 ·rintro q (rfl|⟨b,rfl⟩)
  ·exact aZ0 trivial
  ·exact aZ0 trivial
theorem QA {p:Nat->Ao->Option Bool} (a b:Aut) (E:a.2.1.length<=1000) (G: ∀r∈a.2.2,r.2.1.length<=1000) (I:a.2.2.length<=1000000) (l: ∀x y:LI,x.length<=1000->Sp p (x,y) (λ r=>r=true ↔ x=y)):
 Sp (λ n=>qy.P (p n) n) (a.1,a.2.1,a.2.2,b.1,b.2.1,b.2.2) (λ v=>v=true ↔ a=b):=by
 show Tt (λ n=>qy.P (p n) n (a.1,a.2.1,a.2.2,b.1,b.2.1,b.2.2)) _;unfold qy.P;dsimp only;refine aZ1 (R:=λ x=> ∃c:Bool,(c=false->a.1=b.1/\a.2.1=b.2.1/\a.2.2.length=b.2.2.length)/\(c=true->a≠b)/\x=(a.1,a.2.1,a.2.2,b.1,b.2.1,b.2.2,c)) ?_ ?_
 ·refine aY4 (λ h=>aZ0 ⟨true,λ h=>(by cases h),λ _ e=> ?_,rfl⟩) (λ h=>aZ1 (l _ _ E) λ c g=>aY4 (λ d=>aZ0 ⟨true,λ h=>(by cases h),λ _ e=> ?_,rfl⟩) (λ d=>aZ0 ⟨_,λ m=>⟨?_,?_,?_⟩,λ m e=> ?_,rfl⟩))
  ·subst e;simp at h
  ·subst e;have:c=true:=g.2 rfl;rw[this]at d;cases d
  ·simpa using h
  ·exact g.1 (by simpa using d)
  ·have:(a.2.2.length:Int)=(b.2.2.length:Int):=by simpa using m
   omega
  ·subst e;simp at m
 rintro _ ⟨c,t,u,rfl⟩;dsimp only;refine aY4 (λ h=>aZ0 ⟨λ h=>(by cases h),λ e=>absurd e (u h)⟩) (λ h=> ?_);obtain⟨K,L,N⟩:=t h;refine aZ1 (R:=λ q=>q=Sum.inl ()/\a.2.2=b.2.2\/q=Sum.inr false/\a≠b) (aZ8 (aZ6 a.2.2.length (λ i s=>s=(b.1,b.2.1,b.2.2,a.2.2,(a.2.2.length:Int),(i:Int))/\ ∀k,k<i->a.2.2[k]? =b.2.2[k]?) ?_ ?_ ⟨rfl,λ k h=>absurd h (by omega)⟩)) ?_
 ·rintro i s z ⟨rfl,A⟩;unfold qy.L1;dsimp only;have f:i<b.2.2.length:=by omega
  refine aY1 (by omega) (aY z ?_);refine aZ5 (R:=λ x=> ∃c:Bool,(c=true ↔ a.2.2[i]≠b.2.2[i])/\x=(b.1,b.2.1,b.2.2,a.2.2,(a.2.2.length:Int),(i:Int),c)) ?_ ?_
  ·refine aW1 f (aY4 (λ h=>aZ0 ⟨true,⟨λ _ e=> ?_,λ _=>rfl⟩,rfl⟩) (λ h=>aW1 f (aY4 (λ d=>aZ0 ⟨true,⟨λ _ e=> ?_,λ _=>rfl⟩,rfl⟩) (λ d=>aW1 f (aZ1 (l _ _ (G _ (aaf z))) λ c g=>aZ0 ⟨!c,?_,rfl⟩)))))
   ·rw[e]at h;simp at h
   ·rw[e]at d;simp at d
   ·have h:a.2.2[i].1=b.2.2[i].1:=by simpa using h
    have d:a.2.2[i].2.2=b.2.2[i].2.2:=by simpa using d
    cases c with
    |true=>exact⟨λ h=>(by cases h),λ m=>absurd (abU h (abU (g.1 rfl) d)) m⟩
    |false=>exact⟨λ _ e=>(by have:=g.2 (by rw[e]);cases this),λ _=>rfl⟩
  rintro _ ⟨c,g,rfl⟩;dsimp only;refine aY9 (λ h=>aZ4 (.inr ⟨rfl,λ e=> ?_⟩)) (λ h=>aZ2 ⟨by rw[ak (by omega)],λ k D=> ?_⟩)
  ·subst e;exact g.1 h rfl
  ·by_cases B:k=i
   ·subst B;rw[aac z,aac f];congr 1;apply aaP;intro M;rw[g.2 M]at h;cases h
   ·exact A k (by omega)
 ·rintro s ⟨rfl,A⟩;unfold qy.L1;dsimp only;refine aY3 (by omega) (aZ4 (.inl ⟨rfl,aaT λ k=> ?_⟩));by_cases D:k<a.2.2.length
  ·exact A k D
  ·rw[aai (by omega),aai (by omega)]
 ·rintro q (⟨rfl,C⟩|⟨rfl,C⟩)
  ·exact aZ0 ⟨λ _=>abU K (abU L C),λ _=>rfl⟩
  ·exact aZ0 ⟨λ h=>(by cases h),λ e=>absurd e C⟩
theorem Lm {R:RT Int->Int->Prop}: ∀f:List (RT Int),(∀k∈f,∃p,R k p)-> ∃l:LI,l.length=f.length/\ ∀(i:Nat) (k:RT Int) (p:Int),f[i]? =some k->l[i]? =some p->R k p
 | [],_=>⟨[],rfl,λ i k p h=>by simp at h⟩
 |k::f,h=>by
  obtain⟨p,g⟩:=h k (abG ..);obtain⟨l,m,q⟩:=Lm f λ k t=>h k (aaO _ t);refine⟨p::l,by simp[m],λ i u v d e=> ?_⟩
  cases i with
  |zero=>
   simp only[aaN,aag]at d e;rw[←d,←e];exact g
  |succ i=>exact q i u v (by simpa using d) (by simpa using e)
section
variable {St:Nat->Aj->Option LI} {al:LI} {S:Int} {fin:LI} {rs:LR} {sets:LL}
theorem WE (d:Ob St al S fin rs) (hs: ∀s∈sets,s.length<=1000000) {f a:Nat} {l:LI} (i:al[f]? =some (a:Int)) (k:l∈kV sets.length a):
 ∃to,Val (λ n=>St n (S,fin,rs,(f:Int),tu sets l)) to/\ ∀q,q∈to ↔ ∃r∈rs,Fit (f:Int) (tu sets l) r/\r.2.2=q:=by
 obtain⟨e,m⟩:=aad.1 i;have g:=(dP.1 k).1;obtain⟨to,p,t⟩:=(d f e (tu sets l) (by simp[tu,m,g]) (LW hs l));exact⟨to,t,p.2⟩
theorem aek {l:LI} {j i:Nat} {x:LI} (d:l[j]? =some (i:Int)) (e:sets[i]? =some x):(tu sets l)[j]? =some x:=by
 unfold tu;rw[aas,d,aaL,abd,aal,e];rfl
def aju (St:Nat->Aj->Option LI) (al:LI) (S:Int) (fin:LI) (rs:LR) (sets:LL) (D:Aut):Prop:=
 sets.length<=300/\D.1=(sets.length:Int)/\D.2.1.length<=300/\ahi fin sets D.2.1/\D.2.2.length<=20000/\(∀r,r∈D.2.2 ↔ afl St al S fin rs sets r)/\Ug St al S fin rs sets/\ ∀f,Di St al S fin rs sets f
theorem ac0 (Y:Ar al rs) (C:Ob St al S fin rs) {D:Aut} (h:aju St al S fin rs sets D) (t:RT Int):
 (∀p,Reach D.2.2 t p-> ∃(i:Nat) (x:LI),p=(i:Int)/\sets[i]? =some x/\ ∀q,q∈x ↔ Reach rs t q)/\ ∀q,Reach rs t q-> ∃p,Reach D.2.2 t p:=by
 obtain⟨_,_,_,hF,_,hR,hI,hC⟩:=h
 induction t using y8 with
 |h a d Z=>
  have fit: ∀(l:LI),l.length=d.length->(∀(j:Nat) (k:RT Int) (p:Int),d[j]? =some k->l[j]? =some p->Reach D.2.2 k p)-> ∀r:Rule,r.2.1.length=d.length->r.1=a->(Fit a (tu sets l) r ↔ ∀(i:Nat) (k:RT Int) (f:Int),d[i]? =some k->r.2.1[i]? =some f->Reach rs k f):=by
   intro l hl M r u a2
   have at_: ∀(j:Nat) (k:RT Int),d[j]? =some k-> ∃x,(tu sets l)[j]? =some x/\ ∀q,q∈x ↔ Reach rs k q:=λ j k E=>by
    have G:j<l.length:=by have:=(aad.1 E).1;omega
    obtain⟨i,x,m,v,e3⟩:=(Z k (aaj E)).1 _ (M j k _ E (aac G));exact⟨x,aek (by rw[aac G,m]) v,e3⟩
   constructor
   ·rintro⟨_,_,z⟩ i k f a3 N;obtain⟨x,m,v⟩:=at_ i k a3;exact(v f).1 (z i x f m N)
   ·intro z;refine⟨a2,by simp[tu];omega,λ i x f hx N=> ?_⟩;have A:i<d.length:=by have:=(aad.1 N).1;omega
    obtain⟨x',m,v⟩:=at_ i _ (aac A);rw[hx]at m;cases m;exact(v f).2 (z i _ f (aac A) N)
  constructor
  ·intro p hp;obtain⟨r',a6,h1,h2,z,h4⟩:=bY.1 hp;obtain⟨f,a',i,g1,g2,g3,g4,x,x0,g5,g6⟩:=(hR r').1 a6;refine⟨i,x,by rw[←h2,g4],g5,λ q=> ?_⟩;obtain⟨to,O,Q⟩:=WE C hI.1 g1 g3;have:=Val.uniq g6 O;subst this;rw[Q q];have U:(f:Int)=a:=by rw[←g2,h1]
   rw[U];constructor
   ·rintro⟨r,B,g,I⟩;have u:r.2.1.length=d.length:=by have:=g.2.1;simp[tu]at this;omega
    exact bY.2 ⟨r,B,g.1,I,u,(fit r'.2.1 z h4 r u g.1).1 g⟩
   ·intro hq;obtain⟨r,B,g,I,r4,W⟩:=bY.1 hq;exact⟨r,B,(fit r'.2.1 z h4 r r4 g).2 W,I⟩
  ·intro q hq;obtain⟨r,B,g,I,r4,W⟩:=bY.1 hq
   obtain⟨l,l1,l2⟩:=Lm (R:=λ k p=>Reach D.2.2 k p) d λ k M=>by
    obtain⟨i,A,rfl⟩:=aaz M;exact(Z _ M).2 _ (W i _ r.2.1[i] (aac A) (aac (by omega)))
   obtain⟨a0,a1⟩:=Y r B
   have y:l∈kV sets.length r.2.1.length:=dP.2 ⟨by omega,λ p hp=>by
    obtain⟨j,E,rfl⟩:=aaz hp;have K:j<d.length:=by omega
    obtain⟨i,x,m,v,_⟩:=(Z _ (aaf K)).1 _ (l2 j _ _ (aac K) (aac E));have:=(aad.1 v).1;rw[m];exact⟨by omega,by omega⟩⟩
   obtain⟨to,O,Q⟩:=WE C hI.1 a1 y;have U:(r.1.toNat:Int)=a:=by rw[←g];omega
   rw[U]at Q;have b1:q∈to:=(Q q).2 ⟨r,B,(fit l l1 l2 r r4 g).2 W,I⟩;have L:to≠[]:=List.ne_nil_of_mem b1;obtain⟨b2,he⟩:=aad.1 a1;obtain⟨i,A,e⟩:=aaz (hC r.1.toNat b2 _ he l y to O L);refine⟨(i:Int),bY.2 ⟨(a,l,(i:Int)),(hR _).2 ⟨r.1.toNat,r.2.1.length,i,a1,U.symm,y,rfl,to,L,by rw[aac A,e],O⟩,rfl,rfl,l1,l2⟩⟩
def DOk (al fin:LI) (rs:LR) (m:Nat) (D:Aut):Prop:=
 m<=300/\D.1=(m:Int)/\D.2.1.length<=300/\D.2.2.length<=20000/\Det D.2.2/\(∀r∈D.2.2,FH al m r)/\(∀q∈D.2.1,bC (m:Int) q)/\(∀q,bC (m:Int) q->Rch D.2.2 q)/\ ∀t,Acc D.2.2 D.2.1 t ↔ Acc rs fin t
theorem acZ (A:Ar al rs) (B:Ob St al S fin rs) {D:Aut} (h:aju St al S fin rs sets D):DOk al fin rs sets.length D:=by
 have d:=λ t=>ac0 A B h t;obtain⟨Y,Z,h3,hF,h5,u,M,hC⟩:=h;refine⟨Y,Z,h3,h5,λ r C r' E G m=> ?_,λ r C=> ?_,λ q e=> ?_,λ q e=> ?_,λ t=> ?_⟩
 ·obtain⟨f,a,i,v,g2,g3,g4,x,I,z,N⟩:=(u r).1 C;obtain⟨f',a',O,k1,k2,k3,k4,x',a6,k5,Q⟩:=(u r').1 E;have:f'=f:=by omega
  subst this;rw[←m]at Q;have:=Val.uniq N Q;subst this;rw[g4,k4];exact congrArg Nat.cast ((List.getElem?_inj (aad.1 z).1 M.2.1).1 (z.trans k5.symm))
 ·obtain⟨f,a,i,v,g2,g3,g4,x,I,z,N⟩:=(u r).1 C;have:=(aad.1 z).1;exact⟨f,a,v,g2,g3,by rw[g4];exact⟨by omega,by omega⟩⟩
 ·obtain⟨i,x,rfl,g,_⟩:=(hF q).1 e;have:=(aad.1 g).1;exact⟨by omega,by omega⟩
 ·have: ∀i:Nat,i<sets.length->Rch D.2.2 (i:Int):=by
   intro i
   induction i using Nat.strongRecOn with
   |ind i ih=>
    intro R;obtain⟨I,f,l,v,g2,g3⟩:=M.2.2 i _ (aac R);refine JX (r:=((f:Int),l,(i:Int))) ((u _).2 ⟨f,l.length,i,v,rfl,dP.2 ⟨rfl,λ q e=>⟨(g2 q e).1,by have:=(g2 q e).2;omega⟩⟩,rfl,_,I,aac R,g3⟩) λ s hs=> ?_;obtain⟨k,K,rfl⟩:=Nl (g2 s hs);exact ih k K (by omega)
  obtain⟨k,K,rfl⟩:=Nl e;exact this k K
 ·constructor
  ·rintro⟨p,p1,p2⟩;obtain⟨i,x,G,m,L⟩:=(d t).1 p p1;obtain⟨O,x',e4,U,y,y1,y2⟩:=(hF p).1 p2;have:O=i:=by omega
   subst this;rw[m]at U;cases U;exact⟨y,(L y).1 y1,y2⟩
  ·rintro⟨q,q1,q2⟩;obtain⟨p,W⟩:=(d t).2 q q1;obtain⟨i,x,G,m,L⟩:=(d t).1 p W;exact⟨p,W,(hF p).2 ⟨i,x,G,m,q,(L q).2 q1,q2⟩⟩
end
section
variable {al fin:LI} {rs:LR} {m:Nat} {D F:Aut}
def FOk (al fin:LI) (rs:LR) (m:Nat) (F:Aut):Prop:=(∃δ,XY al (m+1) F.2.2 δ)/\F.1=((m+1:Nat):Int)/\(∀q∈F.2.1,bC (m:Int) q)/\(∀q,bC (m:Int) q->Rch F.2.2 q)/\(∀r∈F.2.2,(m:Int)∈r.2.1->r.2.2=(m:Int))/\ ∀t,Acc F.2.2 F.2.1 t ↔ Acc rs fin t
theorem afH (h:DOk al fin rs m D) (Q:F.1=((m+1:Nat):Int)) (N:F.2.1=D.2.1) (z: ∀r,r∈F.2.2 ↔ r∈D.2.2\/aeP al m D.2.2 r):FOk al fin rs m F:=by
 classical
 obtain⟨_,d2,_,_,dd,A,O,g,R⟩:=h
 have sub: ∀t q,Reach D.2.2 t q->Reach F.2.2 t q:=by
  intro t
  induction t using y8 with
  |h a S C=>
   intro q p;obtain⟨r,E,G,B,I,K⟩:=bY.1 p;exact bY.2 ⟨r,(z r).2 (.inl E),G,B,I,λ i k f u v=>C k (aaj u) f (K i k f u v)⟩
 have L: ∀t q,Reach F.2.2 t q->q≠(m:Int)->Reach D.2.2 t q:=by
  intro t
  induction t using y8 with
  |h a S C=>
   intro q p M;obtain⟨r,E,G,B,I,K⟩:=bY.1 p;rcases(z r).1 E with d|d
   ·refine bY.2 ⟨r,d,G,B,I,λ i k f u v=>C k (aaj u) f (K i k f u v) ?_⟩;have:=((A r d).st.2 f (aaj v)).2;omega
   ·exact absurd (B.symm.trans d.1) M
 refine⟨⟨λ f l=>if h: ∃r∈D.2.2,r.1=f/\r.2.1=l then h.choose.2.2 else(m:Int),λ f a l v hl=> ?_,λ r=> ?_⟩,Q,by rw[N];exact O,λ q p=> ?_,λ r d U=> ?_,λ t=> ?_⟩
 ·dsimp only;split
  ·rename_i h;have:=(A _ h.choose_spec.1).st.1;exact⟨this.1,by have:=this.2;omega⟩
  ·exact⟨by omega,by omega⟩
 ·dsimp only;rw[z r];constructor
  ·rintro(d|d)
   ·obtain⟨f,a,y,g2,g3,g4⟩:=A r d;have e: ∃x∈D.2.2,x.1=(f:Int)/\x.2.1=r.2.1:=⟨r,d,g2,rfl⟩;refine⟨f,a,y,g2,Zc g3,?_⟩;rw[dif_pos e];exact dd r d _ e.choose_spec.1 (g2.trans e.choose_spec.2.1.symm) e.choose_spec.2.2.symm
   ·obtain⟨W,⟨f,a,y,g2,g3⟩,Y⟩:=d;refine⟨f,a,y,g2,g3,?_⟩;rw[dif_neg λ⟨x,Z,x2,x3⟩=>Y x Z ⟨x2.trans g2.symm,x3⟩,W]
  ·rintro⟨f,a,y,g2,g3,g4⟩;split at g4
   ·rename_i e;have:r=e.choose:=abU (g2.trans e.choose_spec.2.1.symm) (abU e.choose_spec.2.2.symm g4);rw[this];exact .inl e.choose_spec.1
   ·rename_i e;exact .inr ⟨g4,⟨f,a,y,g2,g3⟩,λ x hx ⟨e1,e2⟩=>e ⟨x,hx,e1.trans g2,e2⟩⟩
 ·obtain⟨t,ht⟩:=g q p;exact⟨t,sub t q ht⟩
 ·rcases(z r).1 d with d|d
  ·have:=((A r d).st.2 _ U).2;omega
  ·exact d.1
 ·rw[←R t,N];constructor
  ·rintro⟨q,q1,q2⟩;exact⟨q,L t q q1 (by have:=(O q q2).2;omega),q2⟩
  ·rintro⟨q,q1,q2⟩;exact⟨q,sub t q q1,q2⟩
end
def Sz (M:Aut):Prop:=M.2.1.length<=1000/\M.2.2.length<=100000/\ ∀r∈M.2.2,r.2.1.length<=3
def WO (fin:LI) (rs:LR) (M:Aut):Prop:=Can M/\Num M/\(M.2.1.Pairwise λ a b=>a<b)/\(M.2.2.Pairwise λ a b=>uY a b<0)/\(∀t,Acc M.2.2 M.2.1 t ↔ Acc rs fin t)/\0<=M.1/\Sz M
theorem ads.toR {al fin:LI} {rs:LR} {M:Aut} (h:ads al fin rs M):WO fin rs M:=⟨h.1,h.2.1,h.2.2.1,h.2.2.2.1,h.2.2.2.2.1,h.2.2.2.2.2.1.1,by have w:=h.2.2.2.2.2.2.2.2;exact⟨w.2.2.1,w.2.2.2.1,λ r d=>(w.2.2.2.2.2 r d).2.2⟩⟩
theorem WO.eq {fin fin':LI} {rs e:LR} {M f:Aut} (h:WO fin rs M) (d:WO fin' e f):(∀t,Acc rs fin t ↔ Acc e fin' t) ↔ M=f:=by
 constructor
 ·intro hs;obtain⟨g,i,k⟩:=aeX h.1 d.1 (λ t=>(h.2.2.2.2.1 t).trans ((hs t).trans (d.2.2.2.2.1 t).symm)) h.2.1 d.2.1 h.2.2.2.2.2.1 d.2.2.2.2.2.1;exact abU g (abU (wS (λ a b l m=>by omega) h.2.2.1 d.2.2.1 k) (wS F7.asym h.2.2.2.1 d.2.2.2.1 i))
 ·rintro rfl t;exact(h.2.2.2.2.1 t).symm.trans (d.2.2.2.2.1 t)
section
variable {al fin:LI} {rs:LR} {m:Nat} {F Q T M:Aut} {num:LI}
theorem Ux {S:Int} {fin:LI} {rs d:LR} {ν:Int->Int} (m:Wf S fin rs) (v:Det rs) (f:Gg S fin rs ν) (p:Img ν rs d):Det d:=by
 intro x g y i q k;obtain⟨r,z,rfl⟩:=(p x).1 g;obtain⟨e,t,rfl⟩:=(p y).1 i;dsimp only at q k ⊢;have A:e.2.1.length=r.2.1.length:=by have:=congrArg List.length k;simpa using this.symm
 obtain⟨B,C,D,u,E⟩:=f.list m z (l:=e.2.1) A (m.2.2.2.2.2 e t).2.1 (λ j x y g i=>by
  have:=congrArg (λ l:LI=>l[j]?) k;simp only[aas,g,i,aaL,aag]at this;exact this.symm) _ (aav _)
 rw[aat,aa2 (by omega),aaM]at u;rw[←E,v B C e t (D.trans q) u]
theorem XY.det {δ:Int->LI->Int} (h:XY al m rs δ):Det rs:=λ r e g d p i=>by
 obtain⟨f,a,q,g2,g3,g4⟩:=(h.2 r).1 e;obtain⟨k,a',t,u,v,l⟩:=(h.2 g).1 d;rw[g4,l,i,show(f:Int)=(k:Int) by omega]
theorem map_inj {l k:LI} {ν:Int->Int} {P:Int->Prop} (m: ∀s t,P s->P t->ν s=ν t->s=t) (p: ∀x∈l,P x) (q: ∀x∈k,P x) (e:l.map ν=k.map ν):l=k:=by
 have d:l.length=k.length:=by have:=congrArg List.length e;simpa using this
 refine acI d λ i f g=>m _ _ (p _ (aaf f)) (q _ (aaf g)) ?_;have:=congrArg (λ l:LI=>l[i]?) e;simpa [aas,aac f,aac g]using this
theorem aeo (hF:FOk al fin rs m F) (B:Wf F.1 F.2.1 F.2.2) (E:Ue (m+1) F.2.1 F.2.2 num) (K:Wf Q.1 Q.2.1 Q.2.2) (L:Img (iat num) F.2.2 Q.2.2) (M:adq (iat num) F.2.1 Q.2.1) (hT:xW Q.1 Q.2.1 Q.2.2 T):
 ∀h:Int->Int,Gg T.1 T.2.1 T.2.2 h-> ∀s t,bC T.1 s->bC T.1 t->h s=h t->s=t:=by
 classical
 obtain⟨⟨δ,Z⟩,f1,f2,f3,f4,f5⟩:=hF;obtain⟨c1,c2,c3,c4⟩:=E;obtain⟨keep,R,k1,k2,k3,k4,⟨_,ν,n1,n2,n3,n4,n5,_⟩,_⟩:=hT;rw[f1]at B;have d6:Det Q.2.2:=Ux B Z.det c3 L;have p:=EF B c3 L;have rch: ∀s,Rch F.2.2 s->Rch Q.2.2 (iat num s):=λ s ⟨t,C⟩=>⟨t,(p t _).2 ⟨s,C,rfl⟩⟩;have b7: ∀c,Up Q.2.2 Q.2.1 c->bat keep c=true:=λ c E=>(ac6 (S:=Q.1) k3 k4 n2 n3 E).1
 have d7: ∀c,Up Q.2.2 Q.2.1 c->bC Q.1 c:=λ c E=>by
  obtain⟨t,C⟩:=E.rch;exact He K C
 have G:bC ((m+1:Nat):Int) (m:Int):=⟨by omega,by omega⟩;have a0: ∀s,bC ((m+1:Nat):Int) s->s≠(m:Int)->Rch F.2.2 s:=λ s hs h9=>f3 s ⟨hs.1,by have:=hs.2;omega⟩
 have b8: ∀c,Up Q.2.2 Q.2.1 c->c≠iat num (m:Int):=by
  intro c E
  induction E with
  | @fin s h N=>
    rintro e;obtain⟨x,U,x2⟩:=(M _).1 h;have:=(c3.1 x (m:Int) (by have:=f2 x U;exact⟨this.1,by have:=this.2;omega⟩) G (x2.symm.trans e)).1 U;have:=(f2 _ this).2;omega
  | @rule r s N h hk hs ih=>
    rintro e;obtain⟨r0,a1,rfl⟩:=(L r).1 N;obtain⟨i,hi,ei⟩:=aaz hs;have a5:i<r0.2.1.length:=by simpa using hi
    obtain⟨z,b1,b2,b3,b4⟩:=c3.2 r0.2.1[i] (m:Int) ((B.2.2.2.2.2 r0 a1).2.1 _ (aaf a5)) G (by rw[←e,←ei];simp) r0 i ⟨a1,aac a5⟩;have hm:z.2.2=(m:Int):=f4 z b1 (by rw[b3];exact List.mem_iff_getElem.2 ⟨i,by simpa using a5,by simp⟩);exact ih (by rw[←hm];exact b4.symm)
 have dead: ∀r∈F.2.2,Up Q.2.2 Q.2.1 (iat num r.2.2)-> ∀s∈r.2.1,Up Q.2.2 Q.2.1 (iat num s):=by
  intro r N k s hs;have d9:(m:Int)∉r.2.1:=λ hm=>b8 _ k (by rw[f4 r N hm]);refine .rule ((L _).2 ⟨r,N,rfl⟩) k (λ y hy=> ?_) (aaB.2 ⟨s,hs,rfl⟩);obtain⟨x,O,rfl⟩:=aaB.1 hy;exact rch x (a0 x ((B.2.2.2.2.2 r N).2.1 x O) λ e=>d9 (e▸O))
 have I: ∀s∈F.2.1,Up Q.2.2 Q.2.1 (iat num s):=λ s hs=> .fin ((M _).2 ⟨s,hs,rfl⟩) (rch s (f3 s (f2 s hs)));intro h hh
 let g:Int->Int:=λ s=>if Up Q.2.2 Q.2.1 (iat num s)then 2*h (ν (iat num s))else 1
 have a6: ∀s t,g s=g t->Up Q.2.2 Q.2.1 (iat num s)->Up Q.2.2 Q.2.1 (iat num t)/\h (ν (iat num s))=h (ν (iat num t)):=λ s t e k=>by
  by_cases hv:Up Q.2.2 Q.2.1 (iat num t)
  ·simp only[g,if_pos k,if_pos hv]at e;exact⟨hv,by omega⟩
  ·simp only[g,if_pos k,if_neg hv]at e;omega
 have e5: ∀s t,(Up Q.2.2 Q.2.1 (iat num s)->Up Q.2.2 Q.2.1 (iat num t)/\h (ν (iat num s))=h (ν (iat num t)))->(Up Q.2.2 Q.2.1 (iat num t)->Up Q.2.2 Q.2.1 (iat num s))->g s=g t:=λ s t h1 h2=>by
  by_cases k:Up Q.2.2 Q.2.1 (iat num s)
  ·obtain⟨hv,e⟩:=h1 k;simp only[g,if_pos k,if_pos hv,e]
  ·simp only[g,if_neg k,if_neg λ hv=>k (h2 hv)]
 have l: ∀s,Up Q.2.2 Q.2.1 (iat num s)->bC Q.1 (iat num s)/\bat keep (iat num s)=true:=λ s k=>⟨d7 _ k,b7 _ k⟩
 have W: ∀s,bC ((m+1:Nat):Int) s->Up Q.2.2 Q.2.1 (iat num s)->(ν (iat num s)∈T.2.1 ↔ s∈F.2.1):=λ s hs k=>by
  obtain⟨u1,u2⟩:=l s k;rw[n2];constructor
  ·rintro⟨c,d1,d2,d3⟩;have e:=n1 _ _ u1 (K.2.2.2.2.1 c d1) u2 d2 d3;obtain⟨x,U,x2⟩:=(M _).1 d1;exact(c3.1 s x hs (by have:=f2 x U;exact⟨this.1,by have:=this.2;omega⟩) (e.trans x2)).2 U
  ·intro hf;exact⟨_,(M _).2 ⟨s,hf,rfl⟩,u2,rfl⟩
 have Y: ∀s t,bC ((m+1:Nat):Int) s->bC ((m+1:Nat):Int) t->g s=g t-> ∀r∈F.2.2,∀z∈F.2.2,∀i:Nat,r.2.1[i]? =some s->z.1=r.1->z.2.1=r.2.1.set i t->Up Q.2.2 Q.2.1 (iat num r.2.2)->Up Q.2.2 Q.2.1 (iat num z.2.2)/\h (ν (iat num r.2.2))=h (ν (iat num z.2.2)):=by
  intro s t hs C e r N z D i hi e1 e2 k;have A:=dead r N k;have a7:s∈r.2.1:=aaj hi;obtain⟨v,ev⟩:=a6 s t e (A s a7)
  have a8: ∀x∈z.2.1,Up Q.2.2 Q.2.1 (iat num x):=λ x O=>by
   rw[e2]at O;rcases abv O with h|rfl
   ·exact A x h
   ·exact v
  have e6:(r.1,(r.2.1.map (iat num)).map ν,ν (iat num r.2.2))∈T.2.2:=(n3 _).2 ⟨_,(L _).2 ⟨r,N,rfl⟩,(l _ k).2,λ y hy=>by obtain⟨x,O,rfl⟩:=aaB.1 hy;exact(l x (A x O)).2,rfl⟩;obtain⟨r2,a1,a2,a3,a4⟩:=hh.2 (ν (iat num s)) (ν (iat num t)) (n4 _ (l s (A s a7)).1 (l s (A s a7)).2) (n4 _ (l t v).1 (l t v).2) ev _ i ⟨e6,by rw[aas,aas,hi];rfl⟩;obtain⟨rq,b1,b2,b3,rfl⟩:=(n3 r2).1 a1;obtain⟨r3,d1,rfl⟩:=(L rq).1 b1;dsimp only at a2 a3 a4 b2 b3
  have e3:r3.2.1.map (iat num)=z.2.1.map (iat num):=by
   refine map_inj (P:=λ c=>bC Q.1 c/\bat keep c=true) (λ s t hs C e=>n1 s t hs.1 C.1 hs.2 C.2 e) (λ c E=> ?_) (λ c E=> ?_) (ν:=ν) ?_
   ·exact⟨(K.2.2.2.2.2 _ b1).2.1 c E,b3 c E⟩
   ·obtain⟨x,O,rfl⟩:=aaB.1 E;exact l x (a8 x O)
   ·rw[a3,e2,List.map_set,List.map_set]
  have e4:iat num r3.2.2=iat num z.2.2:=d6 _ ((L _).2 ⟨r3,d1,rfl⟩) _ ((L _).2 ⟨z,D,rfl⟩) (a2.trans e1.symm) e3;rw[e4]at b2 a4;have e9:=(K.2.2.2.2.2 _ ((L _).2 ⟨z,D,rfl⟩)).1;exact⟨k2 _ e9 b2,a4.symm⟩
 have hg:Gg ((m+1:Nat):Int) F.2.1 F.2.2 g:=by
  refine⟨λ s t hs C e=> ?_,λ s t hs C e r i ho=> ?_⟩
  ·by_cases k:Up Q.2.2 Q.2.1 (iat num s)
   ·obtain⟨hv,ev⟩:=a6 s t e k;rw[←W s hs k,←W t C hv];exact hh.1 _ _ (n4 _ (l s k).1 (l s k).2) (n4 _ (l t hv).1 (l t hv).2) ev
   ·have hv: ¬Up Q.2.2 Q.2.1 (iat num t):=λ hv=>k (a6 t s e.symm hv).1;exact⟨λ h=>absurd (I s h) k,λ h=>absurd (I t h) hv⟩
  ·obtain⟨f,a,g1,g2,g3,g4⟩:=(Z.2 r).1 ho.1;obtain⟨hi,f0⟩:=aad.1 ho.2;have hl:r.2.1.set i t∈kV (m+1) a:=dP.2 ⟨by simpa using(dP.1 g3).1,λ q hq=>(abv hq).elim (λ h=>(dP.1 g3).2 q h) λ e=>e▸C⟩
   let z:Rule:=(r.1,r.2.1.set i t,δ (f:Int) (r.2.1.set i t))
   have D:z∈F.2.2:=(Z.2 _).2 ⟨f,a,g1,g2,hl,rfl⟩;refine⟨z,D,rfl,rfl,(e5 r.2.2 z.2.2 (Y s t hs C e r ho.1 z D i ho.2 rfl rfl) λ hv=> ?_).symm⟩;refine(Y t s C hs e.symm z D r ho.1 i (by show(r.2.1.set i t)[i]? =some t;rw[aa9 hi]) rfl ?_ hv).1;show r.2.1=(r.2.1.set i t).set i s;rw[List.set_set,←f0,List.set_getElem_self]
 intro s t hs C e;obtain⟨c,U,x2,rfl⟩:=n5 s hs;obtain⟨d,y1,y2,rfl⟩:=n5 t C;obtain⟨u,k⟩:=(k2 c U x2).rch;obtain⟨w,hw⟩:=(k2 d y1 y2).rch;obtain⟨s0,z1,rfl⟩:=(p u c).1 k;obtain⟨t0,z2,rfl⟩:=(p w d).1 hw;rw[c4 g hg s0 t0 (He B z1) (He B z2) (by simp only[g,if_pos (k2 _ U x2),if_pos (k2 _ y1 y2),e])]
theorem agm (hF:FOk al fin rs m F) (f:Wf F.1 F.2.1 F.2.2) (K:Ue (m+1) F.2.1 F.2.2 num) (C:Wf Q.1 Q.2.1 Q.2.2) (L:Img (iat num) F.2.2 Q.2.2) (D:adq (iat num) F.2.1 Q.2.1) (hT:xW Q.1 Q.2.1 Q.2.2 T) {k:Nat} (hk:T.1=(k:Int)) (hM:adv k T.2.1 T.2.2 M):WO fin rs M:=by
 have i:=aeo hF f K C L D hT;obtain⟨⟨δ,N⟩,f1,f2,f3,f4,f5⟩:=hF;rw[f1]at f;have O:Det Q.2.2:=Ux f N.det K.2.2.1 L;obtain⟨keep,R,k1,k2,k3,k4,kO,_⟩:=hT;obtain⟨w,b6,wu,ws,wa,z,b9,a6,c0⟩:=Lj C k2 k3 k4 kO;obtain⟨ν,order,B,U,W,Y,d,Z,E,G⟩:=hM;have a0:=wu O;rw[hk]at i w z;have inj: ∀s t,bC (k:Int) s->bC (k:Int) t->0<=iat ν s->iat ν s=iat ν t->s=t:=λ s t hs A h0 e=>B.inj hs A h0 e;obtain⟨I,_⟩:=MH w inj W d
 have g: ∀s,bC (k:Int) s->0<=iat ν s:=λ s hs=>by
  obtain⟨t,A⟩:=(z s hs).rch;exact I t s A
 have st: ∀s,bC (k:Int) s->bC M.1 (iat ν s):=λ s hs=>by rw[U];exact(B.lt hs (g s hs)).1
 have a1: ∀q,bC M.1 q-> ∃s,bC (k:Int) s/\iat ν s=q:=λ q hq=>by
  rw[U]at hq;exact⟨_,B.get hq⟩
 have p:Gg (k:Int) T.2.1 T.2.2 (iat ν):=VD λ s t hs A e=>inj s t hs A (g s hs) e
 have u:adq (iat ν) T.2.1 M.2.1:=λ q=>by
  rw[Z q];constructor
  ·rintro⟨j,s,rfl,v,h2⟩;exact⟨s,h2,((B.2.1 j s).1 v).2.symm⟩
  ·rintro⟨s,v,rfl⟩;have hs:=w.2.2.2.2.1 s v;have:=g s hs;exact⟨(iat ν s).toNat,s,by omega,(B.2.1 _ s).2 ⟨hs,by omega⟩,v⟩
 obtain⟨y,_⟩:=Uj (a:=((k:Int),T.2.1,T.2.2)) (M:=M) w a0 z p d u st a1 λ h hh s t hs A e=>by rw[i h hh s t hs A e]
 refine⟨y,Zj (q:=((k:Int),T.2.1,T.2.2)) w d g Y,E,G,λ t=>(JW w p d u t).trans ((wa t).trans ((JW f K.2.2.1 L D t).trans (f5 t))),by rw[U];omega,?_,?_,λ r hr=> ?_⟩
 ·have c4:=B.len;have:=LD (S:=M.1) (l:=M.2.1) (E.imp λ h=>by omega) y.fin;have:=w.2.1;omega
 ·have a3:M.2.2.Nodup:=G.imp λ{a b} h e=>by
   rw[e]at h;have:=oL.refl b;omega
  have:=Ez (a:=M.2.2) (b:=T.2.2.map λ r=>(r.1,r.2.1.map (iat ν),iat ν r.2.2)) a3 λ r hr=>by
   obtain⟨r0,v,rfl⟩:=(d r).1 hr;exact aaB.2 ⟨r0,v,rfl⟩
  rw[aaH]at this;have:=w.2.2.2.1;omega
 ·obtain⟨r0,v,rfl⟩:=(d r).1 hr;simpa using(w.2.2.2.2.2 r0 v).2.2
end
theorem VA {al:LI} {rs:LR} (h:Ar al rs):ArC rs:=λ r f g d e=>by
 have a:=(h r f).2;have b:=(h g d).2;rw[e,b]at a;have:=aak a;omega
theorem aew {al:LI} {k:Nat} {fin:LI} {rs:LR} (w:Wf (k:Int) fin rs) (h:Ar al rs) {r:Rule} (d:r∈rs):FH al k r:=by
 obtain⟨i,e⟩:=h r d;obtain⟨f,g,_⟩:=w.2.2.2.2.2 r d;exact⟨r.1.toNat,r.2.1.length,e,by omega,dP.2 ⟨rfl,g⟩,f⟩
section
variable {In:Nat->Ah->Option Bool} {Is:Nat->Ah->Option LI} {Tr:Nat->Ab->Option Aut} {Fi:Nat->Aa->Option Aut} {Ov:Nat->Ah->Option Bool}
 {Re:Nat->Aa->Option Aut} {Su:Nat->Aa->Option AA} {Cl:Nat->Aa->Option LI}
theorem JJ (al:LI) (S:Int) (fin:LI) (rs:LR) (hw:Wf S fin rs) (a5:Ar al rs)
 (a6: ∀S fin rs,Wf S fin rs->ArC rs->Sp Tr (S,fin,rs) (xW S fin rs)) (c8: ∀S fin rs,Wf S fin rs->Ar al rs->Sp Su (al,S,fin,rs) (λ t=>t.2.2.2.2=0->F9 al/\ ∃m,DOk al fin rs m (t.1,t.2.1,t.2.2.1)))
 (c9:F9 al-> ∀m:Nat,m<=1000->Sp Ov (al,(m:Int)) (λ b=>b=true ↔ 300<m\/20000<lZ al m))
 (d0: ∀(m:Nat) fin rs,F9 al->m<=300->fin.length<=300->rs.length<=20000->(∀r∈rs,r.2.1.length<=3)->lZ al (m+1)<=20000->Sp Fi (al,(m:Int),fin,rs) (λ t=>t.1=((m+1:Nat):Int)/\t.2.1=fin/\t.2.2.length<=40000/\ ∀r,r∈t.2.2 ↔ r∈rs\/aeP al m rs r))
 (d6: ∀(m:Nat) fin rs δ,F9 al->m<=301->fin.length<=1000000000->(∀q∈fin,bC (m:Int) q)->rs.length<=1000000000->XY al m rs δ->Sp Cl (al,(m:Int),fin,rs) (Ue m fin rs))
 (d7: ∀(m:Nat) fin rs,F9 al->m<=301->fin.length<=1000000000->rs.length<=1000000000->(∀r∈rs,FH al m r)->Det rs->Sp Re (al,(m:Int),fin,rs) (adv m fin rs))
 (d8: ∀(l:LI) (v:Int),l.length<=1000000000->Sp In (l,v) (λ b=>b=true ↔ v∈l))
 (d9: ∀l v,l.length<=1000000000->Sp Is (l,v) (λ r=>(∀y,y∈r ↔ y=v\/y∈l)/\r.length<=l.length+1)):
 Sp (λ n=>dJ.P (In n) (Is n) (Tr n) (Fi n) (Ov n) (Re n) (Su n) (Cl n) n) (al,S,fin,rs) (λ t=>t.2.2.2=true->WO fin rs (t.1,t.2.1,t.2.2.1)):=by
 show Tt (λ n=>dJ.P (In n) (Is n) (Tr n) (Fi n) (Ov n) (Re n) (Su n) (Cl n) n (al,S,fin,rs)) _;unfold dJ.P;dsimp only;refine aZ1 (a6 S fin rs hw (VA a5)) λ r1 e0=> ?_;obtain⟨e2,R0,k1,k2,k3,k4,k5,_⟩:=e0;obtain⟨w0,_,_,_,e3,_,a7,_,_⟩:=Lj hw k2 k3 k4 k5;refine aZ1 (c8 _ _ _ w0 (a7 al a5)) λ p a8=> ?_;refine aZ1 (R:=λ x=> ∃b:Bool,(b=false->p.2.2.2.2=0/\ ∀m:Nat,p.1=(m:Int)->m<=300->m+1<=300/\lZ al (m+1)<=20000)/\x=(al,(0:Int),([]:LI),([]:LR),p.1,p.2.1,p.2.2.1,b)) ?_ ?_
 ·refine aY4 (λ _=>aZ0 ⟨true,λ h=>(by cases h),rfl⟩) (λ h=> ?_);have h0:p.2.2.2.2=0:=by simpa using h
  obtain⟨I,m,hD⟩:=a8 h0;have hm:=hD.1;have e1:p.1=(m:Int):=hD.2.1;rw[e1,ak (by omega)];refine aZ1 (c9 I (m+1) (by omega)) λ b hb=>aZ0 ⟨b,λ B=>⟨h0,λ m' e i9=> ?_⟩,rfl⟩;have:m'=m:=by omega
  subst this;have h4: ¬(300<m'+1\/20000<lZ al (m'+1)):=λ h=>by rw[hb.2 h]at B;cases B
  exact⟨by omega,by omega⟩
 rintro _ ⟨b,hb,rfl⟩;dsimp only;refine aY4 (λ _=>aZ0 λ h=>(by cases h)) (λ B=> ?_);obtain⟨h0,D⟩:=hb B;obtain⟨I,m,hD⟩:=a8 h0;obtain⟨hm,e1,u,h4,h5,h6,K,_⟩:=id hD;dsimp only at e1 u h4 h5 h6 K;obtain⟨j6,D⟩:=D m e1 hm
 have z: ∀{m:Nat} {r:Rule},FH al m r->r.2.1.length<=3:=λ E=>by
  obtain⟨f,a,A,_,u,_⟩:=E;obtain⟨K,h4⟩:=dP.1 u;obtain⟨hf,he⟩:=aad.1 A;obtain⟨a',j8,e'⟩:=I.rank hf;omega
 rw[e1];refine aZ1 (d0 m _ _ I hm u h4 (λ r E=>z (h6 r E)) D) λ d hd=> ?_;obtain⟨dS,dF,g⟩:=d;obtain⟨d1,d2,d3,d4⟩:=hd;dsimp only at d1 d2 d3 d4 ⊢;subst d1 d2;have b1:FOk al r1.2.1 r1.2.2 m (((m+1:Nat):Int),p.2.1,g):=afH hD rfl rfl d4;obtain⟨δ,L⟩:=b1.1;dsimp only at L
 have d5: ∀r∈g,FH al (m+1) r:=λ r E=>by
  obtain⟨f,a,g1,g2,g3,g4⟩:=(L.2 r).1 E;exact⟨f,a,g1,g2,g3,by rw[g4];exact L.1 f a _ g1 g3⟩
 have G: ∀q∈p.2.1,bC ((m+1:Nat):Int) q:=λ q hq=>⟨(K q hq).1,by have:=(K q hq).2;omega⟩;have b2:Wf ((m+1:Nat):Int) p.2.1 g:=⟨by omega,by omega,by omega,by omega,G,λ r E=>⟨(d5 r E).st.1,(d5 r E).st.2,z (d5 r E)⟩⟩;refine aZ1 (d6 (m+1) _ _ δ I (by omega) (by omega) G (by omega) L) λ num O=> ?_;obtain⟨k7,b3,e6,k8⟩:=id O
 refine aZ1 (R:=λ x=> ∃C:Int,0<=C/\C<=((m+1:Nat):Int)/\(∀v∈num,v<C)/\x=(al,(0:Int),([]:LI),([]:LR),((m+1:Nat):Int),p.2.1,g,num,C,([]:LI),([]:LR)))
  (aZ8 (aZ6 num.length (λ i s=> ∃C:Int,0<=C/\C<=((m+1:Nat):Int)/\(∀v∈num.take i,v<C)/\s=(al,(0:Int),([]:LI),([]:LR),((m+1:Nat):Int),p.2.1,g,num,C,([]:LI),([]:LR),(num.length:Int),(i:Int))) ?_ ?_ ⟨0,by omega,by omega,by simp,rfl⟩)) ?_
 ·rintro i s U ⟨C,c0,c1,c2,rfl⟩;unfold dJ.L1;dsimp only;refine aY1 (by omega) (aZ9 (rng (by omega) (by omega)) ?_);rw[aal];refine aY6 U λ e W he=> ?_;have hv:=b3 e W;have k9:=hv.1;have l0:=hv.2;rw[kS (e+1) (by omega) (by omega)];refine aZ2 ⟨max C (e+1),by omega,by omega,λ v hv=> ?_,by rw[ak (by omega)]⟩;rw[aau,he]at hv;rcases aap.1 hv with h|h
  ·have:=c2 v h;omega
  ·have:v=e:=by simpa using h
   omega
 ·rintro s ⟨C,c0,c1,c2,rfl⟩;unfold dJ.L1;dsimp only;exact aY3 (by omega) (aZ4 ⟨C,c0,c1,λ v hv=>c2 v (by rw[aat];exact hv),rfl⟩)
 rintro _ ⟨C,c0,c1,c2,rfl⟩;dsimp only;have e8: ∀v∈num,bC C v:=λ v hv=>⟨(b3 v hv).1,c2 v hv⟩
 have N: ∀s,bC ((m+1:Nat):Int) s->bC C (iat num s):=λ s hs=>by
  have hl:s.toNat<num.length:=by have:=hs.1;have:=hs.2;omega
  exact e8 _ (by rw[←sV hl];exact aaf hl)
 refine aZ1 (R:=λ x=> ∃fin':LI,fin'.length<=num.length/\adq (iat num) p.2.1 fin'/\x=(al,(0:Int),([]:LI),([]:LR),((m+1:Nat):Int),p.2.1,g,num,C,fin',([]:LR)))
  (aZ8 (aZ6 num.length (λ i s=> ∃fin':LI,fin'.length<=i/\(∀q,q∈fin' ↔ ∃s:Nat,s<i/\(s:Int)∈p.2.1/\q=iat num (s:Int))/\s=(al,(0:Int),([]:LI),([]:LR),((m+1:Nat):Int),p.2.1,g,num,C,fin',([]:LR),(num.length:Int),(i:Int))) ?_ ?_ ⟨[],by simp,λ q=>⟨λ h=>(by cases h),λ⟨s,h,_⟩=>absurd h (by omega)⟩,rfl⟩)) ?_
 ·rintro i s U ⟨fin',f1,Y,rfl⟩;unfold dJ.L2;dsimp only;refine aY1 (by omega) (aZ9 (rng (by omega) (by omega)) ?_);rw[aal];refine aY6 U λ e W he=>aZ5 (d8 _ _ (by omega)) λ b hb=>aY2 (λ f0=> ?_) (λ B=> ?_)
  ·have b5:iat num (i:Int)=e:=l9 (by rw[aal];exact he);refine aY5 (aZ5 (d9 fin' e (by omega)) λ r E=>aZ3 (aZ2 ⟨r,by have:=E.2;omega,λ q=> ?_,by rw[ak (by omega)]⟩));rw[E.1 q,Y q];constructor
   ·rintro(rfl|⟨s,A,u⟩)
    ·exact⟨i,by omega,hb.1 f0,b5.symm⟩
    ·exact⟨s,by omega,u⟩
   ·rintro⟨s,A,u,K⟩;by_cases f3:s=i
    ·subst f3;exact .inl (K.trans b5)
    ·exact .inr ⟨s,by omega,u,K⟩
  ·refine aZ3 (aZ2 ⟨fin',by omega,λ q=> ?_,by rw[ak (by omega)]⟩);rw[Y q];refine⟨λ⟨s,A,u⟩=>⟨s,by omega,u⟩,λ⟨s,A,u,K⟩=>⟨s,?_,u,K⟩⟩;apply aaP;intro hk;have:s=i:=by omega
   subst this;rw[hb.2 u]at B;cases B
 ·rintro s ⟨fin',f1,Y,rfl⟩;unfold dJ.L2;dsimp only;refine aY3 (by omega) (aZ4 ⟨fin',f1,λ q=> ?_,rfl⟩);rw[Y q];constructor
  ·rintro⟨s,_,u,K⟩;exact⟨_,u,K⟩
  ·rintro⟨s,A,rfl⟩;obtain⟨k,hk,rfl⟩:=Nl (G s A);exact⟨k,by omega,A,rfl⟩
 rintro _ ⟨fin',f1,Y,rfl⟩;dsimp only
 refine aZ1 (R:=λ x=>x=(al,(0:Int),([]:LI),([]:LR),C,fin',g.map λ r=>(r.1,r.2.1.map (iat num),iat num r.2.2)))
  (aZ8 (aZ6 g.length (λ i s=>s=(al,(0:Int),([]:LI),([]:LR),((m+1:Nat):Int),p.2.1,g,num,C,fin',(g.take i).map (λ r=>(r.1,r.2.1.map (iat num),iat num r.2.2)),(g.length:Int),(i:Int))) ?_ ?_ (by simp))) ?_
 ·rintro i s U rfl;unfold dJ.L4;dsimp only;have b6:=d5 _ (aaf U);have l1:=z b6;obtain⟨⟨g7,g8⟩,g6⟩:=b6.st;refine aY1 (by omega) (aY U (aZ9 (rng g7 (by omega)) (aY6 (by omega) λ e W he=> ?_)))
  refine aZ5 (R:=λ x=>x=(al,(0:Int),([]:LI),([]:LR),((m+1:Nat):Int),p.2.1,g,num,C,fin',(g.take i).map (λ r=>(r.1,r.2.1.map (iat num),iat num r.2.2)),g[i].1,g[i].2.1.map (iat num),e,(g.length:Int),(i:Int)))
   (aZ8 (aZ6 g[i].2.1.length (λ j s=>s=(al,(0:Int),([]:LI),([]:LR),((m+1:Nat):Int),p.2.1,g,num,C,fin',(g.take i).map (λ r=>(r.1,r.2.1.map (iat num),iat num r.2.2)),g[i].1,(g[i].2.1.take j).map (iat num),e,(g.length:Int),(i:Int),g[i].2.1,((g[i].2.1.length:Nat):Int),(j:Int))) ?_ ?_ (by simp))) ?_
  ·rintro j s hj rfl;unfold dJ.L3;dsimp only;obtain⟨f5,l4⟩:=g6 _ (aaf hj);refine aY1 (by omega) (aY hj (aZ9 (rng f5 (by omega)) (aY6 (by omega) λ e' i3 f6=> ?_)));exact aZ9 (jS (by simp;omega)) (aZ2 (by rw[ak (by omega),←l9 f6,←zO hj];rfl))
  ·rintro s rfl;unfold dJ.L3;dsimp only;rw[aat];exact aY3 (by omega) (aZ4 rfl)
  ·rintro _ rfl;dsimp only;refine aZ9 (jS (by simp;omega)) (aZ2 ?_);rw[ak (by omega),aau,aac U,abr,←l9 he];rfl
 ·rintro s rfl;unfold dJ.L4;dsimp only;rw[aat];exact aY3 (by omega) (aZ4 rfl)
 rintro _ rfl;dsimp only
 have hI:Img (iat num) g (g.map λ r=>(r.1,r.2.1.map (iat num),iat num r.2.2)):=λ r'=>by
  rw[aaB];exact⟨λ⟨r,A,u⟩=>⟨r,A,u.symm⟩,λ⟨r,A,u⟩=>⟨r,A,u.symm⟩⟩
 have Z:Wf C fin' (g.map λ r=>(r.1,r.2.1.map (iat num),iat num r.2.2)):=⟨c0,by omega,by omega,by simpa using by omega,λ q hq=>by
  obtain⟨s,A,rfl⟩:=(Y q).1 hq;exact N s (G s A),λ r' a0=>by
  obtain⟨r,A,rfl⟩:=(hI r').1 a0;have:=d5 r A;refine⟨N _ this.st.1,λ q hq=> ?_,by simpa using z this⟩;obtain⟨s,hs,rfl⟩:=aaB.1 hq;exact N s (this.st.2 s hs)⟩
 have b7:Ar al (g.map λ r=>(r.1,r.2.1.map (iat num),iat num r.2.2)):=λ r' a0=>by
  obtain⟨r,A,rfl⟩:=(hI r').1 a0;obtain⟨f,a,g1,g2,g3,_⟩:=d5 r A;dsimp only;rw[g2,aal,aaH,(dP.1 g3).1];exact⟨by omega,g1⟩
 refine aZ1 (a6 C fin' _ Z (VA b7)) λ t ht=> ?_;obtain⟨keep,R,j1,j2,j3,j4,j5,_⟩:=id ht;obtain⟨w,m0,wu,_,_,_,f7,_,_⟩:=Lj Z j2 j3 j4 j5;obtain⟨k,hk⟩: ∃k:Nat,t.1=(k:Int):=⟨t.1.toNat,by have:=w.1;omega⟩;have f8:Det t.2.2:=wu (Ux b2 L.det e6 hI);have m2:=w.2.2;rw[hk]at w ⊢;refine aZ1 (d7 k t.2.1 t.2.2 I (by omega) (by omega) (by omega) (λ r E=>aew w (f7 al b7) E) f8) λ M hM=>aZ0 λ _=> ?_;have:=agm (Q:=(C,fin',g.map λ r=>(r.1,r.2.1.map (iat num),iat num r.2.2))) (M:=(M.1,M.2.1,M.2.2)) b1 b2 O Z hI Y ht hk hM;exact⟨this.1,this.2.1,this.2.2.1,this.2.2.2.1,λ t=>(this.2.2.2.2.1 t).trans (e3 t),this.2.2.2.2.2⟩
end
theorem NW {g:Nat->Ae->Option Bool} {Mi:Nat->Aa->Option A3_} (al:LI) (a b:Aut) {P:Aut->Aut->Prop}
 (m:Sp Mi (al,a.1,a.2.1,a.2.2) (λ t=>t.2.2.2=true->WO a.2.1 a.2.2 (t.1,t.2.1,t.2.2.1))) (p:Sp Mi (al,b.1,b.2.1,b.2.2) (λ t=>t.2.2.2=true->WO b.2.1 b.2.2 (t.1,t.2.1,t.2.2.1)))
 (i: ∀x y:Aut,WO a.2.1 a.2.2 x->WO b.2.1 b.2.2 y->Sp g (x.1,x.2.1,x.2.2,y.1,y.2.1,y.2.2) (λ v=>v=true ↔ x=y)):
 Sp (λ n=>zX.P (g n) (Mi n) n) (al,a.1,a.2.1,a.2.2,b.1,b.2.1,b.2.2) (λ r=>r.2=true->(r.1=true ↔ ∀t,Acc a.2.2 a.2.1 t ↔ Acc b.2.2 b.2.1 t)):=by
 show Tt (λ n=>zX.P (g n) (Mi n) n (al,a.1,a.2.1,a.2.2,b.1,b.2.1,b.2.2)) _;unfold zX.P;dsimp only;refine aZ1 m λ t l=>aZ1 p λ k d=> ?_;refine aZ1 (R:=λ r=>r.2=true->(r.1=true ↔ ∀t,Acc a.2.2 a.2.1 t ↔ Acc b.2.2 b.2.1 t)) ?_ λ r q=>aZ0 q;refine aY4 (λ h=>aY4 (λ f=> ?_) (λ f=>aX6 h (aZ0 λ e=> ?_))) (λ h=>aW h (aZ0 λ e=>(by cases e)))
 ·refine aZ1 (i (t.1,t.2.1,t.2.2.1) (k.1,k.2.1,k.2.2.1) (l h) (d f)) λ c u=>aX6 h (aZ0 λ _=> ?_);exact u.trans ((l h).eq (d f)).symm
 ·dsimp only at e;rw[f]at e;cases e
theorem JI {G:Nat->LI->Option Bool} (al:LI) (hG:Sp G al (λ r=>r=true ↔ F9 al)) (S:Int) (fin:LI) (rs:LR) (a5:fin.length<=1000000000) (a6:rs.length<=1000000000) (K: ∀r∈rs,r.2.1.length<=1000):
 Sp (λ n=>gB.P (G n) n) (al,S,fin,rs) (λ r=>r=true ↔ cu al (S,fin,rs)):=by
 show Tt (λ n=>gB.P (G n) n (al,S,fin,rs)) _;unfold gB.P;dsimp only;refine aZ1 (R:=λ t=> ∃g:Bool,(g=false->F9 al/\0<=S/\S<=300/\rs.length<=20000)/\(g=true-> ¬cu al (S,fin,rs))/\t=(al,S,fin,rs,g)) (aZ1 hG λ b d=> ?_) ?_
 ·refine aY4 (λ h=>aZ0 ⟨true,λ h=>(by cases h),λ _ hv=> ?_,rfl⟩) (λ h=>aY4 (λ f=>aZ0 ⟨true,λ h=>(by cases h),λ _ hv=> ?_,rfl⟩) (λ f=>aY4 (λ l=>aZ0 ⟨true,λ h=>(by cases h),λ _ hv=> ?_,rfl⟩) (λ l=>aZ0 ⟨_,λ v=> ?_,λ v hv=> ?_,rfl⟩)))
  ·rw[d.2 hv.1]at h;cases h
  ·have:=iy f;have:=hv.2.1;dsimp only at this;omega
  ·have:=iy l;have:=hv.2.2.1;dsimp only at this;omega
  ·have f:=dec_not f;have l:=dec_not l;have v:=of_decide_eq_false v;exact⟨d.1 (by simpa using h),by omega,by omega,by omega⟩
  ·have:=iy v;have:=hv.2.2.2.1;dsimp only at this;omega
 rintro _ ⟨g,M,N,rfl⟩;dsimp only;refine aY4 (λ h=>aZ0 ⟨λ h=>(by cases h),λ hv=>absurd hv (N h)⟩) (λ h=> ?_);obtain⟨W,a2,a3,a4⟩:=M h;have b0:=W.1
 refine aZ1 (R:=λ t=>t=Sum.inl (al,S,fin,rs)/\(∀k,k<fin.length->Uf S fin k)\/t=Sum.inr false/\ ¬cu al (S,fin,rs))
  (aZ8 (L:=λ _=>gB.L1) (aZ6 fin.length (λ i t=>t=(al,S,fin,rs,fin,(fin.length:Int),(i:Int))/\ ∀k,k<i->Uf S fin k) ?_ ?_ ⟨rfl,λ k h=>absurd h (by omega)⟩)) ?_
 ·rintro i t q ⟨rfl,y⟩;unfold gB.L1;dsimp only;refine aY1 (by omega) (aY q (aZ5 (R:=λ t=> ∃b:Bool,(b=true ↔ ¬Uf S fin i)/\t=(al,S,fin,rs,fin,(fin.length:Int),(i:Int),b)) ?_ ?_))
  ·refine aY4 (λ h=>aZ0 ⟨true,⟨λ _ u=> ?_,λ _=>rfl⟩,rfl⟩) (λ h=>aY4 (λ f=>aZ0 ⟨true,⟨λ _ u=> ?_,λ _=>rfl⟩,rfl⟩) (λ f=>aY4 (λ l=> ?_) (λ l=>aZ0 ⟨false,⟨λ h=>(by cases h),λ u=>absurd (λ b1=>⟨⟨?_,?_⟩,λ h0=> ?_⟩) u⟩,rfl⟩)))
   ·have:=iy h;have:=(u q).1.1;omega
   ·have:=iy f;have:=(u q).1.2;omega
   ·have h:=dec_not h;have f:=dec_not f;have l:=iy l;rw[kS ((i:Int)-1) (by omega) (by omega)];refine aW4 (by omega) (by omega) λ e _ z=>aZ0 ⟨_,⟨λ d u=> ?_,λ u=> ?_⟩,rfl⟩
    ·have A:((i:Int)-1).toNat=i-1:=by omega
     rw[A,aac (by omega)]at z;cases z;have:=iy d;have:=(u q).2 (by omega);omega
    ·have A:((i:Int)-1).toNat=i-1:=by omega
     rw[A,aac (by omega)]at z;cases z;apply aaP;intro d;have d:=of_decide_eq_false (by simpa using d:decide (fin[i]<=fin[i-1])=false);exact u λ _=>⟨⟨by omega,by omega⟩,λ _=>by omega⟩
   ·have:=dec_not h;omega
   ·have:=dec_not f;omega
   ·have:=dec_not l;omega
  ·rintro _ ⟨b,d,rfl⟩;dsimp only;refine aY9 (λ h=>aZ4 (.inr ⟨rfl,λ hv=>d.1 h (hv.2.2.2.2.1 i q)⟩)) (λ h=>aZ2 ⟨by rw[ak (by omega)],λ k Y=> ?_⟩);by_cases e:k=i
   ·subst e;apply aaP;intro p;rw[d.2 p]at h;cases h
   ·exact y k (by omega)
 ·rintro t ⟨rfl,y⟩;unfold gB.L1;dsimp only;exact aY3 (by omega) (aZ4 (.inl ⟨rfl,y⟩))
 rintro _ (⟨rfl,C⟩|⟨rfl,p⟩)
 rotate_left
 ·exact aZ0 ⟨λ h=>(by cases h),λ hv=>absurd hv p⟩
 dsimp only
 refine aZ1 (R:=λ t=>t=Sum.inl ()/\(∀k,k<rs.length->Oa al S rs k)\/t=Sum.inr false/\ ¬cu al (S,fin,rs))
  (aZ8 (L:=λ n=>gB.L3 n) (aZ6 rs.length (λ i t=>t=(al,S,fin,rs,rs,(rs.length:Int),(i:Int))/\ ∀k,k<i->Oa al S rs k) ?_ ?_ ⟨rfl,λ k h=>absurd h (by omega)⟩)) ?_
 ·rintro i t q ⟨rfl,y⟩;unfold gB.L3;dsimp only;have Z:=K _ (aaf q);refine aY1 (by omega) (aY q (aZ5 (R:=λ t=> ∃b:Bool,(b=true-> ¬Gi al S rs[i])/\(b=false->0<=rs[i].1/\rs[i].1<(al.length:Int)/\(∀h:rs[i].1.toNat<al.length,((rs[i].2.1.length:Nat):Int)=al[rs[i].1.toNat])/\bC S rs[i].2.2)/\t=(al,S,fin,rs,rs[i].1,rs[i].2.1,rs[i].2.2,rs,(rs.length:Int),(i:Int),b)) ?_ ?_))
  ·refine aY4 (λ h=>aZ0 ⟨true,λ _ m=> ?_,λ h=>(by cases h),rfl⟩) (λ h=>aY4 (λ f=>aZ0 ⟨true,λ _ m=> ?_,λ h=>(by cases h),rfl⟩) (λ f=> ?_))
   ·have:=iy h;have:=m.1;omega
   ·have:=iy f;have:=m.2.1;omega
   have h:=dec_not h;have f:=dec_not f;refine aW4 (by omega) (by omega) λ e _ z=> ?_;have D:rs[i].1.toNat<al.length:=by omega
   rw[aac D]at z;cases z;refine aY4 (λ l=>aZ0 ⟨true,λ _ m=> ?_,λ h=>(by cases h),rfl⟩) (λ l=>aY4 (λ v=>aZ0 ⟨true,λ _ m=> ?_,λ h=>(by cases h),rfl⟩) (λ v=>aZ0 ⟨_,λ d m=> ?_,λ d=>⟨by omega,by omega,λ _=> ?_,?_,?_⟩,rfl⟩))
   ·have:=m.2.2.1 D;rw[decide_eq_true this]at l;cases l
   ·have:=iy v;have:=m.2.2.2.1.1;omega
   ·have:=iy d;have:=m.2.2.2.1.2;omega
   ·simpa using l
   ·have:=dec_not v;omega
   ·have:=of_decide_eq_false d;omega
  ·rintro _ ⟨b,O,Q,rfl⟩;dsimp only;have E: ¬Gi al S rs[i]-> ¬cu al (S,fin,rs):=λ p hv=>p (hv.2.2.2.2.2 i q q);refine aY9 (λ h=>aZ4 (.inr ⟨rfl,E (O h)⟩)) (λ h=> ?_);obtain⟨c1,c2,c3,c4⟩:=Q h
   refine aZ5 (R:=λ t=>t=Sum.inl (al,S,fin,rs,rs,(rs.length:Int),(i:Int))/\(∀k,k<rs[i].2.1.length->N8 S rs[i].2.1 k)\/t=Sum.inr (Sum.inr false)/\ ¬Gi al S rs[i])
    (aZ8 (L:=λ _=>gB.L2) (aZ6 rs[i].2.1.length (λ j t=>t=(al,S,fin,rs,rs,(rs.length:Int),(i:Int),rs[i].2.1,((rs[i].2.1.length:Nat):Int),(j:Int))/\ ∀k,k<j->N8 S rs[i].2.1 k) ?_ ?_ ⟨rfl,λ k h=>absurd h (by omega)⟩)) ?_
   ·rintro j t U ⟨rfl,I⟩;unfold gB.L2;dsimp only;refine aY1 (by omega) (aY U (aZ5 (R:=λ t=> ∃b:Bool,(b=true ↔ ¬bC S rs[i].2.1[j])/\t=(al,S,fin,rs,rs,(rs.length:Int),(i:Int),rs[i].2.1,((rs[i].2.1.length:Nat):Int),(j:Int),b)) ?_ ?_))
    ·refine aY4 (λ h=>aZ0 ⟨true,⟨λ _ hs=> ?_,λ _=>rfl⟩,rfl⟩) (λ h=>aZ0 ⟨_,⟨λ d hs=> ?_,λ hs=> ?_⟩,rfl⟩)
     ·have:=iy h;have:=hs.1;omega
     ·have:=iy d;have:=hs.2;omega
     ·have:=dec_not h;apply aaP;intro d;have d:=of_decide_eq_false (by simpa using d:decide (S<=rs[i].2.1[j])=false);exact hs ⟨by omega,by omega⟩
    ·rintro _ ⟨b,d,rfl⟩;dsimp only;refine aY9 (λ h=>aZ4 (.inr ⟨rfl,λ m=>d.1 h (m.2.2.2.2 j U U)⟩)) (λ h=>aZ2 ⟨by rw[ak (by omega)],λ k Y B=> ?_⟩);by_cases e:k=j
     ·subst e;apply aaP;intro p;rw[d.2 p]at h;cases h
     ·exact I k (by omega) B
   ·rintro t ⟨rfl,I⟩;unfold gB.L2;dsimp only;exact aY3 (by omega) (aZ4 (.inl ⟨rfl,I⟩))
   ·rintro _ (⟨rfl,I⟩|⟨rfl,p⟩)
    ·refine aZ2 ⟨by rw[ak (by omega)],λ k Y B=> ?_⟩;by_cases e:k=i
     ·subst e;exact⟨c1,c2,c3,c4,I⟩
     ·exact y k (by omega) B
    ·exact aZ4 (.inr ⟨rfl,E p⟩)
 ·rintro t ⟨rfl,y⟩;unfold gB.L3;dsimp only;exact aY3 (by omega) (aZ4 (.inl ⟨rfl,y⟩))
 rintro _ (⟨rfl,m⟩|⟨rfl,p⟩)
 ·exact aZ0 ⟨λ _=>⟨W,a2,a3,a4,C,m⟩,λ _=>rfl⟩
 ·exact aZ0 ⟨λ h=>(by cases h),λ hv=>absurd hv p⟩
theorem xW.upB {S:Int} {fin:LI} {rs:LR} {a:Aut} (h:xW S fin rs a):UpB rs fin a.1.toNat:=λ l e d=>by
 obtain⟨keep,R,_,_,f,g,_,i⟩:=h;have:=adG (U:=keep) e λ s hs=>⟨(d s hs).1,ag8 f g (d s hs).2⟩;omega
theorem Yk {al:LI} {m:Nat} {rs:LR} {δ:Int->LI->Int} (hF:XY al m rs δ) {f a:Nat} {l:LI} {v:Int} (d:al[f]? =some (a:Int)) (e:l∈kV m a) (h:QT rs (f:Int) l v):v=δ (f:Int) l:=by
 rcases h with⟨_,h⟩|⟨r,i,q,k,p⟩
 ·exact absurd ⟨rfl,rfl⟩ (h ((f:Int),l,δ (f:Int) l) ((hF.2 _).2 ⟨f,a,d,rfl,e,rfl⟩))
 ·obtain⟨g,c,q1,q2,q3,q4⟩:=(hF.2 r).1 i;rw[←p,q4,k,show(g:Int)=(f:Int) by omega]
theorem XY.aiV {al:LI} {m:Nat} {rs:LR} {δ:Int->LI->Int} (hF:XY al m rs δ): ∀r∈rs,FH al m r:=λ r e=>by
 obtain⟨f,a,d,g2,g3,g4⟩:=(hF.2 r).1 e;exact⟨f,a,d,g2,g3,by rw[g4];exact hF.1 f a _ d g3⟩
def Szb (M:Aut):Prop:=M.2.1.length<=1000/\M.2.2.length<=1000000/\ ∀r∈M.2.2,r.2.1.length<=1000
theorem ads.szb {al fin:LI} {rs:LR} {M:Aut} (h:ads al fin rs M):Szb M:=by
 have w:=h.2.2.2.2.2.2.2.2;exact⟨w.2.2.1,by have:=w.2.2.2.1;omega,λ r d=>by have:=(w.2.2.2.2.2 r d).2.2;omega⟩
theorem WO.szb {fin:LI} {rs:LR} {M:Aut} (h:WO fin rs M):Szb M:=by
 have w:=h.2.2.2.2.2.2;exact⟨w.1,by have:=w.2.1;omega,λ r d=>by have:=w.2.2 r d;omega⟩
def aiA (b:LI) (x:Aut) (v:Aq):Prop:=(v.2.2.2=0->cu b x/\ads b x.2.1 x.2.2 (v.1,v.2.1,v.2.2.1))/\(cu b x->v.2.2.2=0\/v.2.2.2=3/\ ¬Ia x.2.2/\ ¬QM b x.2.1 x.2.2)/\(¬cu b x->v.2.2.2=1)
section
variable {Aw:Nat->Unit->Option Bool} {Fw Lg:Nat->LI×List Aut->Option Bool} {E S3:Nat->Ae->Option Bool} {Mi:Nat->Aa->Option Aq} {V3 Df:Nat->Aa->Option Bool}
theorem aiC (d:Sp Aw () (λ r=>r=true)):Tt (λ n=>(Aw n ()).bind λ r=>some r) (λ r=>r=true):=aZ1 d λ r e=>aZ0 e
theorem Vu {G:Nat->Option Bool} (h:Tt G (λ r=>r=true)):Tt (λ n=>(G n).bind λ x=>some x) (λ r=>r=true):=aZ1 h λ r d=>aZ0 d
def ahn (b:LI) (x y:Aut) (r:Bh):Prop:=(r.2=0->(r.1=true ↔ ∀t,Acc x.2.2 x.2.1 t ↔ Acc y.2.2 y.2.1 t))/\(cu b x->cu b y->r.2=0\/r.2=3/\(¬Ia x.2.2/\ ¬QM b x.2.1 x.2.2\/ ¬Ia y.2.2/\ ¬QM b y.2.1 y.2.2))/\(¬(cu b x/\cu b y)->r.2=1)
theorem ZV {V:Nat->Aa->Option Bool} (b:LI) (x y:Aut) (v: ∀z,z=x\/z=y->Sp V (b,z.1,z.2.1,z.2.2) (λ r=>r=true ↔ cu b z)) (l: ∀z,z=x\/z=y->Sp Mi (b,z.1,z.2.1,z.2.2) (aiA b z))
 (I: ∀M p:Aut,Szb M->Szb p->Sp E (M.1,M.2.1,M.2.2,p.1,p.2.1,p.2.2) (λ r=>r=true ↔ M=p)):
 Sp (λ n=>GU.P (V n) (E n) (Mi n) n) (b,x.1,x.2.1,x.2.2,y.1,y.2.1,y.2.2) (ahn b x y):=by
 show Tt (λ n=>GU.P (V n) (E n) (Mi n) n (b,x.1,x.2.1,x.2.2,y.1,y.2.1,y.2.2)) _;unfold GU.P;dsimp only;refine aZ1 (R:=λ t=> ∃g:Bool,(g=false ↔ cu b x/\cu b y)/\t=(b,x.1,x.2.1,x.2.2,y.1,y.2.1,y.2.2,g)) (aZ1 (v x (.inl rfl)) λ Q e=> ?_) ?_
 ·refine aY4 (λ h=>aZ0 ⟨true,⟨λ h=>(by cases h),λ hv=> ?_⟩,rfl⟩) (λ h=>aZ1 (v y (.inr rfl)) λ K f=>aZ0 ⟨!K,⟨λ L=>⟨e.1 (by simpa using h),f.1 (by simpa using L)⟩,λ hv=> ?_⟩,rfl⟩)
  ·rw[e.2 hv.1]at h;cases h
  ·rw[f.2 hv.2];rfl
 rintro _ ⟨g,A,rfl⟩;dsimp only;refine aY4 (λ h=>aZ0 ⟨λ h=>(by cases h),λ i k=> ?_,λ _=>rfl⟩) (λ h=> ?_)
 ·rw[A.2 ⟨i,k⟩]at h;cases h
 obtain⟨i,k⟩:=A.1 h;refine aZ1 (l x (.inl rfl)) λ m B=>aY4 (λ d=>aZ0 ⟨λ q=> ?_,λ _ _=> ?_,λ u=>absurd ⟨i,k⟩ u⟩) (λ d=> ?_)
 ·dsimp only at q;rw[fE q]at d;cases d
 ·exact(B.2.1 i).imp id λ⟨e,f⟩=>⟨e,.inl f⟩
 have em:m.2.2.2=0:=by simpa using d
 refine aZ1 (l y (.inr rfl)) λ w C=>aY4 (λ d=>aZ0 ⟨λ q=> ?_,λ _ _=> ?_,λ u=>absurd ⟨i,k⟩ u⟩) (λ d=> ?_)
 ·dsimp only at q;rw[fE q]at d;cases d
 ·exact(C.2.1 k).imp id λ⟨e,f⟩=>⟨e,.inr f⟩
 have N:w.2.2.2=0:=by simpa using d
 obtain⟨_,D⟩:=B.1 em;obtain⟨_,G⟩:=C.1 N;exact aZ1 (I _ _ D.szb G.szb) λ r O=>aZ0 ⟨λ _=>O.trans (D.toR.eq G.toR).symm,λ _ _=> .inl rfl,λ u=>absurd ⟨i,k⟩ u⟩
theorem Vo {v:Nat->Af->Option Bh} {Eq:Nat->Af->Option A7_} (b:LI) (x y:Aut) {P:Prop} (A:Sp Aw () (λ r=>r=true)) (B:Sp Fw (b,[x,y]) (λ r=>r=true->P)) (C:P->Szb x/\Szb y)
 (D:P->Sp v (b,x.1,x.2.1,x.2.2,y.1,y.2.1,y.2.2) (ahn b x y)) (m: ∀M:Aut,Szb M->Sp V3 (b,M.1,M.2.1,M.2.2) (λ r=>r=true ↔ cu b M))
 (p:P-> ∀z,z=x\/z=y->cu b z->Sp Df (b,z.1,z.2.1,z.2.2) (λ r=>r=true->Ia z.2.2\/QM b z.2.1 z.2.2)) (E:P->cu b x->cu b y->Sp Lg (b,[x,y]) (λ _=>True))
 (G:P->cu b x->cu b y->Sp Eq (b,x.1,x.2.1,x.2.2,y.1,y.2.1,y.2.2) (λ r=>r.2=true->(r.1=true ↔ ∀t,Acc x.2.2 x.2.1 t ↔ Acc y.2.2 y.2.1 t))):
 Sp (λ n=>uQ.P (Aw n) (Fw n) (v n) (V3 n) (Df n) (Eq n) (Lg n) n) (b,x.1,x.2.1,x.2.2,y.1,y.2.1,y.2.2) (λ r=>r=true):=by
 have e:=aiC A;show Tt (λ n=>uQ.P (Aw n) (Fw n) (v n) (V3 n) (Df n) (Eq n) (Lg n) n (b,x.1,x.2.1,x.2.2,y.1,y.2.1,y.2.2)) _;unfold uQ.P;dsimp only;refine aZ1 B λ f1 I=>aY4 (λ _=>e) (λ Q=> ?_);have f:P:=I (by simpa using Q);obtain⟨S,U⟩:=C f;refine aZ1 (D f) λ s hs=> ?_;refine aZ1 (R:=λ t=> ∃g:Bool,(g=false ↔ cu b x/\cu b y)/\t=(b,x.1,x.2.1,x.2.2,y.1,y.2.1,y.2.2,s.1,s.2,g)) (aZ1 (m x S) λ r1 i=> ?_) ?_
 ·refine aY4 (λ h=>aZ0 ⟨true,⟨λ h=>(by cases h),λ hv=> ?_⟩,rfl⟩) (λ h=>aZ1 (m y U) λ W k=>aZ0 ⟨!W,⟨λ Y=>⟨i.1 (by simpa using h),k.1 (by simpa using Y)⟩,λ hv=> ?_⟩,rfl⟩)
  ·rw[i.2 hv.1]at h;cases h
  ·rw[k.2 hv.2];rfl
 rintro _ ⟨g,N,rfl⟩;dsimp only;refine aY4 (λ h=>Vu (aX6 (fE (hs.2.2 λ hv=>by rw[N.2 hv]at h;cases h)) e)) (λ h=> ?_);obtain⟨q,u⟩:=N.1 h;refine aY4 (λ g3=>Vu (aZ1 (p f x (.inl rfl) q) λ d Z=>aY4 (λ _=>e) (λ gd=>aZ1 (p f y (.inr rfl) u) λ d2 K=>aY4 (λ _=>e) (λ L=> ?_)))) (λ g3=> ?_)
 ·have h3:=iy g3;rcases hs.2.1 q u with h|⟨_,⟨i,k⟩|⟨i,k⟩⟩
  ·omega
  ·exact absurd (Z (by simpa using gd)) λ h=>h.elim i k
  ·exact absurd (K (by simpa using L)) λ h=>h.elim i k
 have O:s.2=0:=by
  rcases hs.2.1 q u with h|⟨h,_⟩
  ·exact h
  ·rw[fE h]at g3;cases g3
 refine aW (by rw[fE O];rfl) (aZ1 (E f q u) λ l _=>aY4 (λ _=>e) (λ _=>aZ1 (G f q u) λ o ho=>Vu (aY4 (λ _=>e) (λ go=> ?_))));have hr:=ho (by simpa using go);have:s.1=o.1:=Bool.eq_iff_iff.2 ((hs.1 O).trans hr.symm);exact aX6 (by rw[this];simp) e
end
end Go.Bk
end
