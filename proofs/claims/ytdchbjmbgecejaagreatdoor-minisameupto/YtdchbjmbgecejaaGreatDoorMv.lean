import Derived.Test.YtdchbjmbgecejaaGreatDoorMs
set_option linter.unusedVariables false
noncomputable section
namespace Go.Bk
open Go Go.AM
def Val {β:Type} (F:Nat->Option β) (r:β):Prop:=Ev λ n=>F n=some r
theorem Tt.val {β:Type} {F:Nat->Option β} {Q:β->Prop} (h:Tt F Q):Tt F (λ r=>Q r/\Val F r):=h.elim λ r d=>⟨r,⟨d.1,d.2⟩,d.2⟩
theorem Val.uniq {β:Type} {F:Nat->Option β} {r s:β} (h:Val F r) (e:Val F s):r=s:=by
 obtain⟨N,f⟩:=h.and e;obtain⟨g,d⟩:=f N (aav _);rw[g]at d;exact aak d
def kV (n:Nat):Nat->LL
 |0=>[[]]
 |r+1=>(List.range n).flatMap λ i:Nat=>(kV n r).map λ l=>(i:Int)::l
theorem dP {n:Nat}: ∀{r:Nat} {l:LI},l∈kV n r ↔ l.length=r/\ ∀q∈l,bC (n:Int) q
 |0,l=>by
  simp only[kV,aah];constructor
  ·rintro rfl;simp
  ·rintro⟨h,_⟩;exact aax h
 |r+1,l=>by
  simp only[kV,acp,ab2,aaB];constructor
  ·rintro⟨i,p,k,f,rfl⟩;obtain⟨e,d⟩:=dP.1 f;refine⟨by simp[e],λ q g=> ?_⟩;rcases aaQ.1 g with rfl|g
   ·exact⟨by omega,by omega⟩
   ·exact d q g
  ·rintro⟨e,d⟩
   match l,e,d with
   |q::k,e,d=>
    obtain⟨q0,q1⟩:=d q (by simp);refine⟨q.toNat,by omega,k,dP.2 ⟨by simpa using e,λ x m=>d x (by simp[m])⟩,?_⟩;rw[abI q0]
theorem FM {α β:Type} {f:α->List β} {k:Nat}: ∀(l:List α),(∀a∈l,(f a).length=k)->(l.flatMap f).length=l.length*k
 | [],_=>by simp
 |a::l,h=>by
  rw[abo,aaq,h a (by simp),FM l λ b d=>h b (by simp[d]),abl,abx,acX]
theorem ru (n:Nat): ∀r,(kV n r).length=n^r
 |0=>by simp[kV]
 |r+1=>by
  rw[kV,FM (k:=n^r) _ λ a _=>by rw[aaH,ru n r],List.length_range,acY,abW]
theorem tC {n r:Nat} (d:n<=301) (e:r<=3):n^r<=27270901:=by
 have f:n^r<=301^r:=ab1 d r;have g:(301:Nat)^r<=301^3:=abN (by omega) e;omega
theorem WA {F:Nat->Ac->Option (LL)} (hF: ∀n x,F (n+1) x=iM.P (F n) n x) (N:Nat) (m:N<=301): ∀r:Nat,r<=3->Sp F ((N:Int),(r:Int)) (λ l=>l=kV N r)
 |0,_=>by
  refine aZ7 (G:=λ n x=>iM.P (F n) n x) hF ?_;show Tt (λ n=>iM.P (F n) n ((N:Int),((0:Nat):Int))) _;unfold iM.P;dsimp only;exact aX6 (by simp) (aZ0 rfl)
 |r+1,C=>by
  refine aZ7 (G:=λ n x=>iM.P (F n) n x) hF ?_;show Tt (λ n=>iM.P (F n) n ((N:Int),((r+1:Nat):Int))) _;unfold iM.P;dsimp only;have p:=WA hF N m r (by omega);have d:=ru N r;have f:=tC m (r:=r) (by omega);refine aW (by simp;omega) (aZ1 (R:=λ l=>l=kV N (r+1)) (aZ8 (aZ6 N (λ i s=>s=((N:Int),((r+1:Nat):Int),(List.range i).flatMap (λ i:Nat=>(kV N r).map λ l=>(i:Int)::l),(N:Int),(i:Int))) ?_ ?_ rfl)) λ l q=>aZ0 q)
  ·rintro i s D rfl;unfold iM.L2;dsimp only;have u:IntKind.wrap .i64 (((r+1:Nat):Int)-1)=(r:Int):=by rw[kS _ (by omega) (by omega)];omega
   rw[u];refine aY1 (by omega) (aZ5 p λ E g=> ?_);subst g
   have v:((List.range i).flatMap (λ i:Nat=>(kV N r).map λ l=>(i:Int)::l)).length<=301*27270901:=by
    rw[FM (k:=N^r) _ λ a _=>by rw[aaH,d],List.length_range];exact Nat.mul_le_mul (by omega) f
   refine aZ5 (R:=λ t=>t=((N:Int),((r+1:Nat):Int),(List.range (i+1)).flatMap (λ i:Nat=>(kV N r).map λ l=>(i:Int)::l),(N:Int),(i:Int))) (aZ8 (aZ6 (kV N r).length (λ j s=>s=((N:Int),((r+1:Nat):Int),(List.range i).flatMap (λ i:Nat=>(kV N r).map λ l=>(i:Int)::l)++((kV N r).take j).map (λ l=>(i:Int)::l),(i:Int),(N:Int),(i:Int),kV N r,((kV N r).length:Int),(j:Int))) ?_ ?_ ?_)) ?_
   ·rintro j s y rfl;unfold iM.L1;dsimp only;refine aY1 (by omega) (aZ9 (rng (by omega) (by omega)) ?_);rw[aal];refine aY6 y λ e z A=> ?_;have B:e.length=r:=(dP.1 z).1;refine aZ9 (jS (by simp;omega)) (aZ9 (jS ?_) (aZ2 ?_))
    ·simp only[aaq,aaH,aaE,aaY];omega
    ·rw[ak (by omega)];congr 3;show(_++_)++[[(i:Int)]++e]=_;rw[aaD];congr 1;rw[aau,A];simp
   ·rintro s rfl;unfold iM.L1;dsimp only;refine aY3 (by omega) (aZ4 ?_);rw[aat,List.range_succ,List.flatMap_append];simp
   ·simp
   ·rintro _ rfl;dsimp only;exact aZ2 (by rw[ak (by omega)])
  ·rintro s rfl;unfold iM.L2;dsimp only;exact aY3 (by omega) (aZ4 rfl)
def tu (sets:LL) (l:LI):LL:=l.map λ q=>sets.getD q.toNat []
theorem agP (sets:LL) (l:LI) (p:l.length<=1000) (f: ∀q∈l,bC (sets.length:Int) q):Sp rV.P (sets,l) (λ r=>r=tu sets l):=by
 show Tt (λ n=>rV.P n (sets,l)) _;unfold rV.P;dsimp only;refine aZ1 (R:=λ r=>r=tu sets l) (aZ8 (aZ6 l.length (λ i s=>s=(sets,(l.take i).map (λ q=>sets.getD q.toNat []),l,(l.length:Int),(i:Int))) ?_ ?_ rfl)) λ r g=>aZ0 g
 ·rintro i s d rfl;unfold rV.L1;dsimp only;obtain⟨q0,q1⟩:=f l[i] (aaf d);refine aY1 (by omega) (aY d (aW0 q0 q1 λ e _ k=>aZ9 (jS (by simp;omega)) (aZ2 ?_)));rw[ak (by omega)];congr 2;show _++[e]=_;have m:l.take (i+1)=l.take i++[l[i]]:=by rw[aau,aac d];rfl
  rw[m,abr];simp only[abm,acN,abd,k,aby]
 ·rintro s rfl;unfold rV.L1;dsimp only;refine aY3 (by omega) (aZ4 ?_);rw[aat];rfl
theorem aeF {F:Nat->Ao->Option Bool} (l:LL) (x:LI) (t:l.length<=1000000000) (hF: ∀y∈l,Sp F (x,y) (λ r=>r=true ↔ x=y)):
 Sp (λ n=>qc.P (F n) n) (l,x) (λ p=>(p= -1/\x∉l)\/ ∃i:Nat,l[i]? =some x/\p=(i:Int)):=by
 show Tt (λ n=>qc.P (F n) n (l,x)) _;unfold qc.P;dsimp only;refine aZ1 (R:=λ q=>(q=Sum.inl ()/\x∉l)\/ ∃i:Nat,l[i]? =some x/\q=Sum.inr (i:Int)) (aZ8 (aZ6 l.length (λ i s=>s=(x,l,(l.length:Int),(i:Int))/\x∉l.take i) ?_ ?_ ⟨rfl,by simp⟩)) ?_
 ·rintro i s d ⟨rfl,f⟩;unfold qc.L1;dsimp only;refine aY1 (by omega) (aY d (aZ5 (hF _ (aaf d)) λ b k=>aY9 (λ g=> ?_) (λ e=> ?_)))
  ·exact aZ4 (.inr ⟨i,by rw[aac d,k.1 g],rfl⟩)
  ·refine aZ2 ⟨by rw[ak (by omega)],?_⟩;rw[aau,aac d];intro m;rcases aap.1 m with h|h
   ·exact f h
   ·have:x=l[i]:=by simpa using h
    rw[k.2 this]at e;cases e
 ·rintro s ⟨rfl,f⟩;unfold qc.L1;dsimp only;refine aY3 (by omega) (aZ4 (.inl ⟨rfl,?_⟩))
  rwa [aat]at f
 ·rintro q (⟨rfl,h⟩|⟨i,d,rfl⟩)
  ·exact aZ0 (.inl ⟨rfl,h⟩)
  ·exact aZ0 (.inr ⟨i,d,rfl⟩)
theorem F9.rank {al:LI} (h:F9 al) {f:Nat} (d:f<al.length): ∃r:Nat,r<=3/\al[f]=(r:Int):=by
 obtain⟨e,g⟩:=h.2 f d;exact⟨al[f].toNat,by omega,by omega⟩
def Di (St:Nat->Aj->Option LI) (al:LI) (S:Int) (fin:LI) (rs:LR) (sets:LL) (f:Nat):Prop:=
 ∀(d:f<al.length) (r:Nat),al[f]=(r:Int)-> ∀l,l∈kV sets.length r-> ∀to,Val (λ n=>St n (S,fin,rs,(f:Int),tu sets l)) to->to≠[]->to∈sets
def Ob (St:Nat->Aj->Option LI) (al:LI) (S:Int) (fin:LI) (rs:LR):Prop:=
 ∀(f:Nat) (e:f<al.length) (d:LL),(d.length:Int)=al[f]->(∀l∈d,l.length<=1000000)->Sp St (S,fin,rs,(f:Int),d) (λ l=>l.length<=1000000/\ ∀q,q∈l ↔ ∃r∈rs,Fit (f:Int) d r/\r.2.2=q)
def Born (St:Nat->Aj->Option LI) (al:LI) (S:Int) (fin:LI) (rs:LR) (sets:LL) (i:Nat) (x:LI):Prop:=
 x≠[]/\ ∃(f:Nat) (l:LI),al[f]? =some (l.length:Int)/\(∀q∈l,bC (i:Int) q)/\Val (λ n=>St n (S,fin,rs,(f:Int),tu sets l)) x
def Ug (St:Nat->Aj->Option LI) (al:LI) (S:Int) (fin:LI) (rs:LR) (sets:LL):Prop:=
 (∀s∈sets,s.length<=1000000)/\sets.Nodup/\ ∀(i:Nat) (x:LI),sets[i]? =some x->Born St al S fin rs sets i x
theorem IB {sets z:LL} {l:LI} (h: ∀q∈l,bC (sets.length:Int) q):tu (sets++z) l=tu sets l:=by
 refine acj λ q d=> ?_;obtain⟨e,f⟩:=h q d;rw[abd,abd,aaw (by omega)]
theorem Ug.nil {St:Nat->Aj->Option LI} {al:LI} {S:Int} {fin:LI} {rs:LR}:Ug St al S fin rs []:=⟨by simp,List.nodup_nil,by simp⟩
theorem Ug.snoc {St:Nat->Aj->Option LI} {al:LI} {S:Int} {fin:LI} {rs:LR} {sets:LL} (h:Ug St al S fin rs sets) {x:LI} (k:x.length<=1000000) (m:x∉sets) (p:x≠[]) {f:Nat} {l:LI} (t:al[f]? =some (l.length:Int)) (e: ∀q∈l,bC (sets.length:Int) q)
 (hv:Val (λ n=>St n (S,fin,rs,(f:Int),tu sets l)) x):Ug St al S fin rs (sets++[x]):=by
 obtain⟨u,v,z⟩:=h;refine⟨λ s hs=> ?_,acD.2 ⟨v,by simp,λ a A b B=> ?_⟩,λ i y d=> ?_⟩
 ·rcases aap.1 hs with h|h
  ·exact u s h
  ·rw[aah.1 h];exact k
 ·rw[aah.1 B];rintro rfl;exact m A
 ·rcases aaF i sets.length with h|h
  ·rw[aaw h]at d;obtain⟨g0,f,l,C,g2,g3⟩:=z i y d;exact⟨g0,f,l,C,g2,by rw[IB λ q g=>⟨(g2 q g).1,by have:=(g2 q g).2;omega⟩];exact g3⟩
  ·rw[aaC h]at d
   have D:i=sets.length:=by
    have:=(aad.1 d).1;simp at this;omega
   subst D;have:y=x:=by simpa using d.symm
   subst this;exact⟨p,f,l,t,e,by rw[IB e];exact hv⟩
theorem LW {sets:LL} (hs: ∀s∈sets,s.length<=1000000) (l:LI): ∀x∈tu sets l,x.length<=1000000:=by
 intro x d;obtain⟨q,_,rfl⟩:=aaB.1 d;rw[abd]
 cases h:sets[q.toNat]? with
 |none=>simp
 |some s=>exact hs s (aaj h)
section
variable {St:Nat->Aj->Option LI} {Ls:Nat->Ac->Option (LL)} {Pk:Nat->Bm->Option (LL)} {Pl:Nat->Bm->Option Int}
theorem ag3 (al:LI) (S:Int) (fin:LI) (rs:LR) (L:F9 al) (a2:Ob St al S fin rs) (a3: ∀N r:Nat,N<=301->r<=3->Sp Ls ((N:Int),(r:Int)) (λ l=>l=kV N r))
 (a4: ∀(sets:LL) (l:LI),l.length<=1000->(∀q∈l,bC (sets.length:Int) q)->Sp Pk (sets,l) (λ r=>r=tu sets l))
 (a5: ∀(l:LL) (x:LI),l.length<=1000000000->x.length<=1000000->Sp Pl (l,x) (λ p=>(p= -1/\x∉l)\/ ∃i:Nat,l[i]? =some x/\p=(i:Int))):
 Sp (λ n=>jW.P (St n) (Ls n) (Pk n) (Pl n) n) (al,S,fin,rs) (λ t=>t.2=true->t.1.length<=300/\Ug St al S fin rs t.1/\ ∀f,Di St al S fin rs t.1 f):=by
 have a6:=L.1;show Tt (λ n=>jW.P (St n) (Ls n) (Pk n) (Pl n) n (al,S,fin,rs)) _;unfold jW.P;dsimp only
 refine aZ1 (R:=λ q=> ∃t:afj,(t.2=true->t.1.length<=300/\Ug St al S fin rs t.1/\ ∀f,Di St al S fin rs t.1 f)/\q=Sum.inr t)
  (aZ8 (aX1 (λ s=> ∃sets:LL,sets.length<=300/\Ug St al S fin rs sets/\s=(al,S,fin,rs,sets)) (λ s=>301-s.2.2.2.2.length) ?_ ⟨[],by simp,.nil,rfl⟩)) ?_
 ·rintro s ⟨sets,c3,M,rfl⟩;unfold jW.L3;dsimp only
  refine aZ5 (R:=λ t=> ∃ex:LL,ex.length<=al.length*27270901/\Ug St al S fin rs (sets++ex)/\(ex= []-> ∀f,Di St al S fin rs sets f)/\t=(al,S,fin,rs,sets++ex,(sets.length:Int)))
   (aZ8 (aZ6 al.length (λ i s=> ∃ex:LL,ex.length<=i*27270901/\Ug St al S fin rs (sets++ex)/\(ex= []-> ∀f,f<i->Di St al S fin rs sets f)/\
    s=(al,S,fin,rs,sets++ex,(sets.length:Int),al,(al.length:Int),(i:Int))) ?_ ?_ ⟨[],by simp,by simpa using M,λ _ f O=>absurd O (by omega),by simp⟩)) ?_
  ·rintro i s hi ⟨ex,E,g,u,rfl⟩;unfold jW.L2;dsimp only;obtain⟨r,Q,y⟩:=L.rank hi;have c4:=tC (n:=sets.length) (r:=r) (by omega) Q;have c5:=ru sets.length r;have c0:i*27270901<=12*27270901:=aaA _ (by omega);refine aY1 (by omega) (aY hi ?_);rw[y];refine aZ5 (a3 sets.length r (by omega) Q) λ l6 a7=> ?_;subst a7
   refine aZ5 (R:=λ t=> ∃d:LL,d.length<=(i+1)*27270901/\Ug St al S fin rs (sets++d)/\(d= []->ex= []/\Di St al S fin rs sets i)/\
    t=(al,S,fin,rs,sets++d,(sets.length:Int),al,(al.length:Int),(i:Int)))
    (aZ8 (aZ6 (kV sets.length r).length (λ j s=> ∃d:LL,d.length<=ex.length+j/\Ug St al S fin rs (sets++d)/\
     (d= []->ex= []/\ ∀l,l∈(kV sets.length r).take j-> ∀to,Val (λ n=>St n (S,fin,rs,(i:Int),tu sets l)) to->to≠[]->to∈sets)/\
     s=(al,S,fin,rs,sets++d,(sets.length:Int),(i:Int),al,(al.length:Int),(i:Int),kV sets.length r,((kV sets.length r).length:Int),(j:Int))) ?_ ?_ ⟨ex,by omega,g,λ h=>⟨h,by simp⟩,rfl⟩)) ?_
   ·rintro j s hj ⟨d,G,k,e,rfl⟩;unfold jW.L1;dsimp only;refine aY1 (by omega) (aZ9 (rng (by omega) (by omega)) ?_);rw[aal];refine aY6 hj λ l a8 a9=>aZ9 (by simp;omega) ?_;have I:List.drop (Int.toNat 0) (List.take (Int.toNat (sets.length:Int)) (sets++d))=sets:=by simp
    rw[I];obtain⟨U,z⟩:=dP.1 a8;refine aZ5 (a4 sets l (by omega) z) λ qs b0=> ?_;subst b0;have W:(tu sets l).length=l.length:=by simp[tu]
    refine aZ5 (Tt.val (a2 i hi (tu sets l) (by rw[W,y,U]) (LW M.1 l))) λ to b1=> ?_;obtain⟨⟨B,_⟩,C⟩:=b1
    have v:(sets++d).length<=1000000000:=by
     rw[aaq];omega
    refine aZ5 (R:=λ t=> ∃b:Bool,((b=false->to= []\/to∈sets++d)/\(b=true->to≠[]/\to∉sets++d))/\t=(al,S,fin,rs,sets++d,(sets.length:Int),(i:Int),to,al,(al.length:Int),(i:Int),kV sets.length r,((kV sets.length r).length:Int),(j:Int),b)) ?_ ?_
    ·refine aY4 (λ h0=>aZ1 (a5 (sets++d) to v B) λ p hp=>aZ0 ⟨_,⟨λ A=> .inr ?_,λ A=>⟨?_,?_⟩⟩,rfl⟩) (λ A=>aZ0 ⟨false,⟨λ _=> .inl ?_,λ h=>(by cases h)⟩,rfl⟩)
     ·rcases hp with⟨rfl,_⟩|⟨q,Y,rfl⟩
      ·simp at A
      ·exact aaj Y
     ·rintro rfl;have:=iy h0;simp at this
     ·rcases hp with⟨_,hn⟩|⟨q,Y,rfl⟩
      ·exact hn
      ·have:=iy A;omega
     ·have:=dec_not A;exact aax (by omega)
    ·rintro _ ⟨b,A,rfl⟩;dsimp only;refine aY2 (λ Z=> ?_) (λ b2=> ?_)
     ·refine aY0 (jS (by simp;simp at v;omega)) (aZ3 (aZ2 ⟨d++[to],by simp;omega,?_,λ h=>by simp at h,?_⟩))
      ·rw[←aaD];refine k.snoc B (A.2 Z).2 (A.2 Z).1 (f:=i) (l:=l) (by rw[aac hi,y,U]) (λ q Y=>⟨(z q Y).1,by have:=(z q Y).2;rw[aaq];omega⟩) ?_;rw[IB z];exact C
      ·rw[ak (by omega),←aaD];rfl
     ·refine aZ3 (aZ2 ⟨d,by omega,k,λ h=>⟨(e h).1,λ l' a0 b3 hv m=> ?_⟩,by rw[ak (by omega)]⟩);rw[aau,a9]at a0;rcases aap.1 a0 with h1|h1
      ·exact(e h).2 l' h1 b3 hv m
      ·have:l'=l:=by simpa using h1
       subst this;have:=Val.uniq hv C;subst this;rcases A.1 b2 with K|K
       ·exact absurd K m
       ·rw[h,aaM]at K;exact K
   ·rintro s ⟨d,G,k,e,rfl⟩;unfold jW.L1;dsimp only;refine aY3 (by omega) (aZ4 ⟨d,by omega,k,λ h=>⟨(e h).1,λ _ r' b5 l hl to hv m=> ?_⟩,rfl⟩);have:r'=r:=by rw[y]at b5;omega
    subst this;exact(e h).2 l (by rw[aat];exact hl) to hv m
   ·rintro _ ⟨d,G,k,e,rfl⟩;dsimp only;refine aZ2 ⟨d,G,k,λ h f O=> ?_,by rw[ak (by omega)]⟩;rcases aaF f i with K|K
    ·exact u (e h).1 f K
    ·obtain rfl:f=i:=by omega
     exact(e h).2
  ·rintro s ⟨ex,E,g,u,rfl⟩;unfold jW.L2;dsimp only;refine aY3 (by omega) (aZ4 ⟨ex,E,g,λ h f=> ?_,rfl⟩);by_cases O:f<al.length
   ·exact u h f O
   ·intro h';exact absurd h' O
  ·rintro _ ⟨ex,E,g,u,rfl⟩;dsimp only;refine aY9 (λ _=>aZ4 ⟨_,λ h=>(by cases h),rfl⟩) (λ D=>aY9 (λ b6=> ?_) (λ m=> ?_))
   ·have h3:=dec_not D;have h4:=iy b6;have b9:ex= []:=aax (by simp at h4;omega);subst b9;rw[aaM]at g h3 ⊢;exact aZ4 ⟨(sets,true),λ _=>⟨by omega,g,u rfl⟩,rfl⟩
   ·have h3:=dec_not D;have h4:=dec_not m;refine aZ2 ⟨⟨sets++ex,by omega,g,rfl⟩,?_⟩;dsimp only;simp only[aaq]at h3 h4 ⊢;omega
 ·rintro _ ⟨t,ht,rfl⟩;exact aZ0 ht
def FH (al:LI) (m:Nat) (r:Rule):Prop:= ∃(f:Nat) (a:Nat),al[f]? =some (a:Int)/\r.1=(f:Int)/\r.2.1∈kV m a/\bC (m:Int) r.2.2
def afl (St:Nat->Aj->Option LI) (al:LI) (S:Int) (fin:LI) (rs:LR) (sets:LL) (r:Rule):Prop:=
 ∃f a i:Nat,al[f]? =some (a:Int)/\r.1=(f:Int)/\r.2.1∈kV sets.length a/\r.2.2=(i:Int)/\ ∃x,x≠[]/\sets[i]? =some x/\Val (λ n=>St n (S,fin,rs,(f:Int),tu sets r.2.1)) x
def ahi (fin:LI) (sets:LL) (fin':LI):Prop:= ∀q,q∈fin' ↔ ∃(i:Nat) (x:LI),q=(i:Int)/\sets[i]? =some x/\ ∃y∈x,y∈fin
theorem VH {fin:LI} {sets:LL} {i:Nat} {q:Int} (l:i<sets.length) {b:Bool} (m:b=true ↔ ∃y∈sets[i],y∈fin) {P:Prop} (p:P ↔ b=true/\q=(i:Int)):
 ((∃(k:Nat) (x:LI),q=(k:Int)/\(sets.take i)[k]? =some x/\ ∃y∈x,y∈fin)\/P) ↔ ∃(k:Nat) (x:LI),q=(k:Int)/\(sets.take (i+1))[k]? =some x/\ ∃y∈x,y∈fin:=by
 rw[p];constructor
 ·rintro(⟨k,x,f,d,g⟩|⟨h,rfl⟩)
  ·have:=(aad.1 d).1;rw[aaE]at this;rw[ab4 (by omega)]at d;exact⟨k,x,f,by rw[ab4 (by omega)];exact d,g⟩
  ·exact⟨i,_,rfl,by rw[ab4 (by omega),aac l],m.1 h⟩
 ·rintro⟨k,x,f,d,g⟩;have:=(aad.1 d).1;rw[aaE]at this;rw[ab4 (by omega)]at d;by_cases e:k=i
  ·subst e;rw[aac l]at d;cases d;exact .inr ⟨m.2 g,f⟩
  ·exact .inl ⟨k,x,f,by rw[ab4 (by omega)];exact d,g⟩
theorem ac3 {Me:Nat->Ao->Option Bool} {Va:Nat->Aa->Option Bool} {Se:Nat->Aa->Option afj}
 (al:LI) (S:Int) (fin:LI) (rs:LR) (L:fin.length<=1000000000) (a6:Sp Va (al,S,fin,rs) (λ r=>r=true ↔ cu al (S,fin,rs)))
 (a7:cu al (S,fin,rs)->Sp Se (al,S,fin,rs) (λ t=>t.2=true->t.1.length<=300/\Ug St al S fin rs t.1/\ ∀f,Di St al S fin rs t.1 f))
 (a8: ∀l1 l2:LI,l1.length<=1000000->l2.length<=1000000000->Sp Me (l1,l2) (λ r=>r=true ↔ ∃y∈l1,y∈l2))
 (b1:cu al (S,fin,rs)->Ob St al S fin rs) (b2: ∀N r:Nat,N<=301->r<=3->Sp Ls ((N:Int),(r:Int)) (λ l=>l=kV N r))
 (b3: ∀(sets:LL) (l:LI),l.length<=1000->(∀q∈l,bC (sets.length:Int) q)->Sp Pk (sets,l) (λ r=>r=tu sets l))
 (b4: ∀(l:LL) (x:LI),l.length<=1000000000->x.length<=1000000->Sp Pl (l,x) (λ p=>(p= -1/\x∉l)\/ ∃i:Nat,l[i]? =some x/\p=(i:Int))):
 Sp (λ n=>gV.P (Me n) (St n) (Va n) (Ls n) (Se n) (Pk n) (Pl n) n) (al,S,fin,rs) (λ t=>t.2.2.2.2=0->cu al (S,fin,rs)/\ ∃sets:LL,sets.length<=300/\t.1=(sets.length:Int)/\t.2.1.length<=300/\ahi fin sets t.2.1/\t.2.2.1.length<=20000/\(∀r,r∈t.2.2.1 ↔ afl St al S fin rs sets r)/\Ug St al S fin rs sets/\ ∀f,Di St al S fin rs sets f):=by
 show Tt (λ n=>gV.P (Me n) (St n) (Va n) (Ls n) (Se n) (Pk n) (Pl n) n (al,S,fin,rs)) _;unfold gV.P;dsimp only;refine aZ1 a6 λ b hb=>aY4 (λ _=>aZ0 λ h=>by simp at h) (λ G=> ?_);have hv:cu al (S,fin,rs):=hb.1 (by simpa using G);have M:=hv.1;have b5:=M.1;refine aZ1 (a7 hv) λ t ht=>aY4 (λ _=>aZ0 λ h=>by simp at h) (λ b6=> ?_);obtain⟨sets,tb⟩:=t;obtain⟨h1,O,h3⟩:=ht (by simpa using b6);simp only at h1 O h3 ⊢
 refine aZ1 (R:=λ t=> ∃fin':LI,fin'.length<=sets.length/\ahi fin sets fin'/\t=(al,S,fin,rs,(0:Int),([]:LI),([]:LR),sets,(sets.length:Int),fin',([]:LR)))
  (aZ8 (aZ6 sets.length (λ i s=> ∃fin':LI,fin'.length<=i/\ahi fin (sets.take i) fin'/\s=(al,S,fin,rs,(0:Int),([]:LI),([]:LR),sets,(sets.length:Int),fin',([]:LR),sets,(sets.length:Int),(i:Int))) ?_ ?_ ⟨[],by simp,by simp[ahi],rfl⟩)) ?_
 ·rintro i s z ⟨fin',hf,k,rfl⟩;unfold gV.L1;dsimp only;refine aY1 (by omega) (aY z (aZ5 (a8 _ _ (O.1 _ (aaf z)) L) λ b hb=>aY2 (λ b9=> ?_) (λ G=> ?_)))
  ·refine aY0 (jS (by simp;omega)) (aZ3 (aZ2 ⟨fin'++[(i:Int)],by simp;omega,λ q=> ?_,by rw[ak (by omega)];rfl⟩));rw[aap,k q,aah];exact VH z (b:=true) (by rw[←hb,b9]) (by simp)
  ·exact aZ3 (aZ2 ⟨fin',by omega,λ q=>by rw[k q,←VH z (b:=false) (P:=False) (by rw[←hb,G]) (by simp),or_false],by rw[ak (by omega)]⟩)
 ·rintro s ⟨fin',hf,k,rfl⟩;unfold gV.L1;dsimp only;rw[aat]at k;exact aY3 (by omega) (aZ4 ⟨fin',hf,k,rfl⟩)
 rintro _ ⟨fin',hf,k,rfl⟩;dsimp only
 refine aZ1 (R:=λ t=> ∃out:LR,(∀r,r∈out ↔ afl St al S fin rs sets r)/\t=((0:Int),([]:LI),([]:LR),sets,(sets.length:Int),fin',out))
  (aZ8 (aZ6 al.length (λ i s=> ∃out:LR,out.length<=i*27270901/\(∀r,r∈out ↔ r.1<(i:Int)/\afl St al S fin rs sets r)/\s=(S,fin,rs,(0:Int),([]:LI),([]:LR),sets,(sets.length:Int),fin',out,al,(al.length:Int),(i:Int))) ?_ ?_ ⟨[],by simp,λ r=>⟨λ h=>(by cases h),λ⟨h,f,_,_,_,e,_⟩=>by omega⟩,rfl⟩)) ?_
 ·rintro i s z ⟨out,c0,A,rfl⟩;unfold gV.L3;dsimp only;obtain⟨r,Q,B⟩:=M.rank z;have d6:=tC (n:=sets.length) (r:=r) (by omega) Q;have d7:=ru sets.length r;have d2:i*27270901<=12*27270901:=aaA _ (by omega);refine aY1 (by omega) (aY z ?_);rw[B];refine aZ5 (b2 sets.length r (by omega) Q) λ l6 c1=> ?_;subst c1
  refine aZ5 (R:=λ t=> ∃d:LR,d.length<=(i+1)*27270901/\(∀r,r∈d ↔ r.1<((i+1:Nat):Int)/\afl St al S fin rs sets r)/\t=(S,fin,rs,(0:Int),([]:LI),([]:LR),sets,(sets.length:Int),fin',d,al,(al.length:Int),(i:Int)))
   (aZ8 (aZ6 (kV sets.length r).length (λ j s=> ∃d:LR,d.length<=out.length+j/\(∀g,g∈d ↔ (g.1<(i:Int)\/g.1=(i:Int)/\g.2.1∈(kV sets.length r).take j)/\afl St al S fin rs sets g)/\
    s=(S,fin,rs,(0:Int),([]:LI),([]:LR),sets,(sets.length:Int),fin',d,(i:Int),al,(al.length:Int),(i:Int),kV sets.length r,((kV sets.length r).length:Int),(j:Int))) ?_ ?_ ⟨out,by omega,by simpa using A,rfl⟩)) ?_
  ·rintro j s hj ⟨d,I,v,rfl⟩;unfold gV.L2;dsimp only;refine aY1 (by omega) (aZ9 (rng (by omega) (by omega)) ?_);rw[aal];refine aY6 hj λ l K c2=> ?_;obtain⟨c3,c4⟩:=dP.1 K;refine aZ5 (b3 sets l (by omega) c4) λ qs c5=> ?_;subst c5;have U:(tu sets l).length=l.length:=by simp[tu]
   refine aZ5 (Tt.val (b1 hv i z (tu sets l) (by rw[U,B,c3]) (LW O.1 l))) λ to c6=> ?_;obtain⟨⟨W,_⟩,m⟩:=c6
   have Y: ∀g:Rule,(g.1<(i:Int)\/g.1=(i:Int)/\g.2.1∈(kV sets.length r).take (j+1)) ↔ (g.1<(i:Int)\/g.1=(i:Int)/\g.2.1∈(kV sets.length r).take j)\/g.1=(i:Int)/\g.2.1=l:=λ g=>by
    rw[aau,c2,aap,aaS,aah,or_assoc,←and_or_left]
   refine aY2 (λ C=> ?_) (λ C=> ?_)
   ·have C:=iy C;have E:to≠[]:=by rintro rfl;simp at C
    have Z:to∈sets:=h3 i z r B l K to m E;refine aY5 (aZ5 (b4 sets to (by omega) W) λ p hp=> ?_);obtain⟨q,hq,rfl⟩: ∃i:Nat,sets[i]? =some to/\p=(i:Int):=hp.resolve_left λ h=>h.2 Z;have hD:afl St al S fin rs sets ((i:Int),l,(q:Int)):=⟨i,r,q,by rw[aac z,B],rfl,K,rfl,to,E,hq,m⟩;refine aY0 (jS (by simp;omega)) (aZ3 (aZ2 ⟨d++[((i:Int),l,(q:Int))],by simp;omega,λ g=> ?_,by rw[ak (by omega)];rfl⟩));rw[aap,aah,v,Y];constructor
    ·rintro(⟨h,u⟩|rfl)
     ·exact⟨.inl h,u⟩
     ·exact⟨.inr ⟨rfl,rfl⟩,hD⟩
    ·rintro⟨h|h,u⟩
     ·exact .inl ⟨h,u⟩
     ·refine .inr (abU h.1 (abU h.2 ?_));obtain⟨f,_,q',_,e1,_,e2,x,_,hx,D⟩:=u;obtain⟨e3,e4⟩:=h;have:f=i:=by omega
      subst this;rw[e4]at D;have:=Val.uniq D m;subst this;rw[e2];exact congrArg Nat.cast ((List.getElem?_inj (aad.1 hx).1 O.2.1).1 (hx.trans hq.symm))
   ·refine aZ3 (aZ2 ⟨d,by omega,λ g=> ?_,by rw[ak (by omega)]⟩);rw[v,Y];refine⟨λ⟨h,u⟩=>⟨.inl h,u⟩,λ⟨h,u⟩=>⟨h.resolve_right λ⟨e3,e4⟩=> ?_,u⟩⟩;obtain⟨f,_,q',_,e1,_,e2,x,x0,hx,D⟩:=u;have:f=i:=by omega
    subst this;rw[e4]at D;have:=Val.uniq D m;subst this;have:=dec_not C;exact x0 (aax (by omega))
  ·rintro s ⟨d,I,v,rfl⟩;unfold gV.L2;dsimp only;refine aY3 (by omega) (aZ4 ⟨d,by omega,λ g=> ?_,rfl⟩);rw[v,aat];refine⟨λ⟨h,u⟩=>⟨by omega,u⟩,λ⟨h,u⟩=>⟨?_,u⟩⟩;obtain⟨f,a,q',ha,e1,hl,_⟩:=u;by_cases e:f=i
   ·subst e;rw[aac z,B]at ha;have:a=r:=by have:=aak ha;omega
    subst this;exact .inr ⟨e1,hl⟩
   ·exact .inl (by omega)
  ·rintro _ ⟨d,I,v,rfl⟩;dsimp only;exact aZ2 ⟨d,I,v,by rw[ak (by omega)]⟩
 ·rintro s ⟨out,c0,A,rfl⟩;unfold gV.L3;dsimp only;refine aY3 (by omega) (aZ4 ⟨out,λ g=> ?_,rfl⟩);rw[A];refine⟨λ h=>h.2,λ h=>⟨?_,h⟩⟩;obtain⟨f,a,q',ha,e1,_⟩:=h;have:=(aad.1 ha).1;omega
 rintro _ ⟨out,A,rfl⟩;dsimp only;refine aY4 (λ _=>aZ0 λ h=>by simp at h) (λ d0=>aZ0 λ _=>⟨hv,sets,h1,rfl,by simp only;omega,k,?_,A,O,h3⟩);have:=dec_not d0;simp only;omega
theorem Zc {m r:Nat} {l:LI} (h:l∈kV m r):l∈kV (m+1) r:=by
 obtain⟨d,e⟩:=dP.1 h;exact dP.2 ⟨d,λ q f=>by obtain⟨a,b⟩:=e q f;exact⟨a,by omega⟩⟩
def aeP (al:LI) (m:Nat) (rs:LR) (r:Rule):Prop:=r.2.2=(m:Int)/\(∃f a:Nat,al[f]? =some (a:Int)/\r.1=(f:Int)/\r.2.1∈kV (m+1) a)/\ ∀x∈rs,¬(x.1=r.1/\x.2.1=r.2.1)
theorem ac2 {U:Nat->Ao->Option Bool} (al:LI) (m:Nat) (fin:LI) (rs:LR) (K:F9 al) (hm:m<=300) (a7:fin.length<=300) (a9:rs.length<=20000) (C: ∀r∈rs,r.2.1.length<=3) (W:lZ al (m+1)<=20000)
 (Y: ∀x y:LI,x.length<=1000->Sp U (x,y) (λ r=>r=true ↔ x=y)) (Z: ∀N r:Nat,N<=301->r<=3->Sp Ls ((N:Int),(r:Int)) (λ l=>l=kV N r)):
 Sp (λ n=>gU.P (U n) (Ls n) n) (al,(m:Int),fin,rs) (λ t=>t.1=((m+1:Nat):Int)/\t.2.1=fin/\t.2.2.length<=40000/\ ∀r,r∈t.2.2 ↔ r∈rs\/aeP al m rs r):=by
 have a0:=K.1;show Tt (λ n=>gU.P (U n) (Ls n) n (al,(m:Int),fin,rs)) _;unfold gU.P;dsimp only;have hw:IntKind.wrap .i64 ((m:Int)+1)=((m+1:Nat):Int):=ak (by omega);refine aX0 (jS (by simp;omega)) (aX0 (jS (by simp;omega)) ?_);rw[hw]
 refine aZ1 (R:=λ t=> ∃out:LR,out.length<=40000/\(∀r,r∈out ↔ r∈rs\/aeP al m rs r)/\t=((0:Int),([]:LI),([]:LR),((m+1:Nat):Int),fin,out))
  (aZ8 (aZ6 al.length (λ i s=> ∃out:LR,out.length<=20000+lZ (al.take i) (m+1)/\(∀r,r∈out ↔ r∈rs\/r.1<(i:Int)/\aeP al m rs r)/\
   s=((m:Int),fin,rs,(0:Int),([]:LI),([]:LR),((m+1:Nat):Int),fin,out,al,(al.length:Int),(i:Int))) ?_ ?_ ?_)) ?_
 ·rintro i s L ⟨out,D,v,rfl⟩;unfold gU.L3;dsimp only;obtain⟨r,M,A⟩:=K.rank L;have b0:=tC (n:=m+1) (r:=r) (by omega) M;have b1:=ru (m+1) r;have a1:=Eu (m:=m+1) L;have b2:=VJ (al:=al) (m:=m+1) (i:=i+1);rw[A,aal]at a1;refine aY1 (by omega) (aY L ?_);rw[A,hw];refine aZ5 (Z (m+1) r (by omega) M) λ l6 a2=> ?_;subst a2
  refine aZ5 (R:=λ t=> ∃d:LR,d.length<=20000+lZ (al.take (i+1)) (m+1)/\(∀r,r∈d ↔ r∈rs\/r.1<((i+1:Nat):Int)/\aeP al m rs r)/\
   t=((m:Int),fin,rs,(0:Int),([]:LI),([]:LR),((m+1:Nat):Int),fin,d,al,(al.length:Int),(i:Int)))
   (aZ8 (aZ6 (kV (m+1) r).length (λ j s=> ∃d:LR,d.length<=out.length+j/\(∀g,g∈d ↔ g∈rs\/(g.1<(i:Int)\/g.1=(i:Int)/\g.2.1∈(kV (m+1) r).take j)/\aeP al m rs g)/\
    s=((m:Int),fin,rs,(0:Int),([]:LI),([]:LR),((m+1:Nat):Int),fin,d,(i:Int),al,(al.length:Int),(i:Int),kV (m+1) r,((kV (m+1) r).length:Int),(j:Int))) ?_ ?_ ⟨out,by omega,by simpa using v,rfl⟩)) ?_
  ·rintro j s hj ⟨d,E,q,rfl⟩;unfold gU.L2;dsimp only;refine aY1 (by omega) (aZ9 (rng (by omega) (by omega)) ?_);rw[aal];refine aY6 hj λ l a3 a4=> ?_
   refine aZ5 (R:=λ t=> ∃b:Bool,(b=true ↔ ∀x∈rs,¬(x.1=(i:Int)/\x.2.1=l))/\t=((m:Int),fin,rs,(0:Int),([]:LI),([]:LR),((m+1:Nat):Int),fin,d,(i:Int),l,b,al,(al.length:Int),(i:Int),kV (m+1) r,((kV (m+1) r).length:Int),(j:Int)))
    (aZ8 (aZ6 rs.length (λ k s=> ∃b:Bool,(b=true ↔ ∀x∈rs.take k,¬(x.1=(i:Int)/\x.2.1=l))/\s=((m:Int),fin,rs,(0:Int),([]:LI),([]:LR),((m+1:Nat):Int),fin,d,(i:Int),l,b,al,(al.length:Int),(i:Int),kV (m+1) r,((kV (m+1) r).length:Int),(j:Int),rs,(rs.length:Int),(k:Int))) ?_ ?_ ⟨true,by simp,rfl⟩)) ?_
   ·rintro k s hk ⟨b,G,rfl⟩;unfold gU.L1;dsimp only
    have u: ∀{c:Bool},(c=true ↔ b=true/\ ¬(rs[k].1=(i:Int)/\rs[k].2.1=l))->(c=true ↔ ∀x∈rs.take (k+1),¬(x.1=(i:Int)/\x.2.1=l)):=λ O=>by
     rw[O,G,aau,aac hk,aaS];exact⟨λ⟨h1,h2⟩ x hx=>(aap.1 hx).elim (h1 x) λ h=>by rw[aah.1 h];exact h2,λ h=>⟨λ x hx=>h x (aaG _ hx),h _ (aa6 _ (aah.2 rfl))⟩⟩
    refine aY1 (by omega) (aY hk (aY2 (λ B=>aY2 (λ z=> ?_) (λ z=> ?_)) (λ I=> ?_)))
    ·refine aY5 (aZ5 (Y _ _ (by have:=C _ (aaf hk);omega)) λ c O=>aZ3 (aZ2 ⟨!c,u ?_,by rw[ak (by omega)]⟩));have:=iy z;cases c
     ·exact⟨λ _=>⟨B,λ h=>by have:=O.2 h.2;cases this⟩,λ _=>rfl⟩
     ·exact⟨λ h=>(by cases h),λ h=>absurd ⟨this,O.1 rfl⟩ h.2⟩
    ·have:=of_decide_eq_false z;exact aZ3 (aZ2 ⟨!false,u ⟨λ _=>⟨B,λ h=>this h.1⟩,λ _=>rfl⟩,by rw[ak (by omega)]⟩)
    ·exact aZ3 (aZ2 ⟨false,u ⟨λ h=>(by cases h),λ h=>by rw[I]at h;exact h.1⟩,by rw[ak (by omega)]⟩)
   ·rintro s ⟨b,G,rfl⟩;unfold gU.L1;dsimp only;rw[aat]at G;exact aY3 (by omega) (aZ4 ⟨b,G,rfl⟩)
   ·rintro _ ⟨b,G,rfl⟩;dsimp only
    have u: ∀g:Rule,(g.1<(i:Int)\/g.1=(i:Int)/\g.2.1∈(kV (m+1) r).take (j+1)) ↔ (g.1<(i:Int)\/g.1=(i:Int)/\g.2.1∈(kV (m+1) r).take j)\/g.1=(i:Int)/\g.2.1=l:=λ g=>by
     rw[aau,a4,aap,aaS,aah,or_assoc,←and_or_left]
    refine aY2 (λ B=> ?_) (λ I=> ?_)
    ·refine aY0 (jS (by simp;omega)) (aZ3 (aZ2 ⟨d++[((i:Int),l,(m:Int))],by simp;omega,λ g=> ?_,by rw[ak (by omega)];rfl⟩));rw[aap,aah,q,u];have hM:aeP al m rs ((i:Int),l,(m:Int)):=⟨rfl,⟨i,r,by rw[aac L,A],rfl,a3⟩,G.1 B⟩;constructor
     ·rintro((h|⟨h,p⟩)|rfl)
      ·exact .inl h
      ·exact .inr ⟨.inl h,p⟩
      ·exact .inr ⟨.inr ⟨rfl,rfl⟩,hM⟩
     ·rintro(h|⟨h|h,p⟩)
      ·exact .inl (.inl h)
      ·exact .inl (.inr ⟨h,p⟩)
      ·exact .inr (abU h.1 (abU h.2 p.1))
    ·refine aZ3 (aZ2 ⟨d,by omega,λ g=> ?_,by rw[ak (by omega)]⟩);rw[q,u];refine or_congr acd ⟨λ⟨h,p⟩=>⟨.inl h,p⟩,λ⟨h,p⟩=>⟨h.resolve_right λ⟨Q,e2⟩=> ?_,p⟩⟩;have:=G.2 (by have:=p.2.2;rwa [Q,e2]at this);rw[I]at this;cases this
  ·rintro s ⟨d,E,q,rfl⟩;unfold gU.L2;dsimp only;refine aY3 (by omega) (aZ4 ⟨d,by omega,λ g=> ?_,rfl⟩);rw[q,aat];refine or_congr acd ⟨λ⟨h,p⟩=>⟨by omega,p⟩,λ⟨h,p⟩=>⟨?_,p⟩⟩;obtain⟨_,⟨f,a,S,Q,hl⟩,_⟩:=p;by_cases e:f=i
   ·subst e;rw[aac L,A]at S;have:a=r:=by have:=aak S;omega
    subst this;exact .inr ⟨Q,hl⟩
   ·exact .inl (by omega)
  ·rintro _ ⟨d,E,q,rfl⟩;dsimp only;exact aZ2 ⟨d,E,q,by rw[ak (by omega)]⟩
 ·rintro s ⟨out,D,v,rfl⟩;unfold gU.L3;dsimp only;refine aY3 (by omega) (aZ4 ⟨out,by have:=VJ (al:=al) (m:=m+1) (i:=al.length);omega,λ r=> ?_,rfl⟩);rw[v];refine or_congr acd ⟨λ h=>h.2,λ h=>⟨?_,h⟩⟩;obtain⟨_,⟨f,a,S,Q,_⟩,_⟩:=h;have:=(aad.1 S).1;omega
 ·refine⟨rs,by omega,λ r=>⟨.inl,λ h=>h.resolve_right λ h=> ?_⟩,rfl⟩;obtain⟨h,_,⟨f,a,_,e,_⟩,_⟩:=h;omega
 rintro _ ⟨out,D,v,rfl⟩;exact aZ0 ⟨rfl,rfl,D,v⟩
end
def adP (m:Nat) (n:Nat) (l:LI):Nat:=l.foldl (λ n s=>n*m+s.toNat) n
def Ib (m:Nat) (l:LI):Nat:=adP m 0 l
theorem YK (m:Nat): ∀(l:LI) (n:Nat),(∀q∈l,bC (m:Int) q)->adP m n l<(n+1)*m^l.length
 | [],n,_=>by simp[adP]
 |s::l,n,h=>by
  have d:=h s (abG ..);have e:=YK m l (n*m+s.toNat) (λ q f=>h q (aaO _ f))
  have hs:n*m+s.toNat+1<=(n+1)*m:=by
   have:=d.1;have:=d.2;rw[abO];omega
  show adP m (n*m+s.toNat) l<_
  calc adP m (n*m+s.toNat) l<(n*m+s.toNat+1)*m^l.length:=e
   _<=(n+1)*m*m^l.length:=aaA _ hs
   _=(n+1)*m^(s::l).length:=by rw[abl,acY,Nat.mul_assoc,abW m]
theorem Uw {m:Nat} {l:LI} (h: ∀q∈l,bC (m:Int) q):Ib m l<m^l.length:=by
 have:=YK m l 0 h;simpa [Ib]using this
theorem YL {m:Nat} {l:LI} {i:Nat} (d:i<l.length):Ib m (l.take (i+1))=Ib m (l.take i)*m+l[i].toNat:=by
 rw[aau,aac d];simp only[Ib,adP,List.foldl_append,aaS,acC,acS]
theorem aeD (m:Nat) (d:LL) (l:LI) (f:m<=301) (y:l.length<=3) (g: ∀q∈l,bC (m:Int) q):
 Sp jo.P ((m:Int),d,l) (λ v=>v=(Ib m l:Int)):=by
 show Tt (λ n=>jo.P n ((m:Int),d,l)) _;unfold jo.P;dsimp only
 refine aZ1 (R:=λ v=>v=(Ib m l:Int))
  (aZ8 (aZ6 l.length (λ i s=>s=((m:Int),d,(Ib m (l.take i):Int),l,(l.length:Int),(i:Int))) ?_ ?_ ?_)) ?_
 ·rintro i s e rfl;unfold jo.L1;dsimp only;refine aY1 (by omega) (aY e (aZ2 ?_));have z:Ib m (l.take i)<m^(l.take i).length:=Uw λ q h=>g q (abq h);have A:=tC (n:=m) (r:=(l.take i).length) f (by simp;omega);have k:=g _ (aaf e);have B:Ib m (l.take i)*m<=27270901*301:=Nat.mul_le_mul (by omega) f;have p:(Ib m (l.take i):Int)*(m:Int)=((Ib m (l.take i)*m:Nat):Int):=by simp
  have C:=k.1;have D:=k.2;have t:IntKind.wrap .i64 ((Ib m (l.take i)*m:Nat):Int)=((Ib m (l.take i)*m:Nat):Int):=kS _ (by omega) (by omega);rw[p,t,kS (((Ib m (l.take i)*m:Nat):Int)+l[i]) (by omega) (by omega),ak (by omega),YL e];have u:((Ib m (l.take i)*m:Nat):Int)+l[i]=((Ib m (l.take i)*m+l[i].toNat:Nat):Int):=by omega
  rw[u]
 ·rintro s rfl;unfold jo.L1;dsimp only;exact aY3 (by omega) (aZ4 (by rw[aat]))
 ·simp[Ib,adP]
 ·rintro r rfl;exact aZ0 rfl
def afp (m a:Nat) (row:LI):Prop:=row.length=m^a/\ ∀v∈row,v= -1\/bC (m:Int) v
def Ph (al:LI) (m:Nat) (t:LL):Prop:=t.length=al.length/\ ∀(f a:Nat),al[f]? =some (a:Int)-> ∃row,t[f]? =some row/\afp m a row
def QT (rs:LR) (f:Int) (l:LI) (v:Int):Prop:=(v= -1/\ ∀r∈rs,¬(r.1=f/\r.2.1=l))\/ ∃r∈rs,r.1=f/\r.2.1=l/\r.2.2=v
def aeS (al:LI) (m:Nat) (rs:LR) (t:LL):Prop:= ∀(f a:Nat) (l row:LI) (v:Int),al[f]? =some (a:Int)->l∈kV m a->t[f]? =some row->row[Ib m l]? =some v->QT rs (f:Int) l v
theorem VL (m:Nat): ∀(l d:LI) (n f:Nat),l.length=d.length->(∀q∈l,bC (m:Int) q)->(∀q∈d,bC (m:Int) q)->adP m n l=adP m f d->n=f/\l=d
 | [],[],n,f,_,_,_,e=>⟨e,rfl⟩
 |s::l,s'::d,n,f,u,h,k,e=>by
  obtain⟨v,y⟩:=VL m l d (n*m+s.toNat) (f*m+s'.toNat) (by simpa using u) (λ q g=>h q (aaO _ g)) (λ q g=>k q (aaO _ g)) e;obtain⟨z,A⟩:=h s (abG ..);obtain⟨B,C⟩:=k s' (abG ..)
  have p: ∀{n s:Nat},s<m->(n*m+s) % m=s/\(n*m+s)/m=n:=λ{n s} hs=>by
   rw[abW,Nat.mul_add_mod,Nat.mod_eq_of_lt hs,Nat.mul_add_div (by omega),acJ hs];exact⟨rfl,rfl⟩
  have i:=p (n:=n) (s:=s.toNat) (by omega);have t:=p (n:=f) (s:=s'.toNat) (by omega);rw[v]at i;have D:s.toNat=s'.toNat:=i.1.symm.trans t.1;exact⟨i.2.symm.trans t.2,by rw[y,show s=s' by omega]⟩
theorem adQ {m a:Nat} {l d:LI} (h:l∈kV m a) (f:d∈kV m a) (e:Ib m l=Ib m d):l=d:=by
 obtain⟨k,g⟩:=dP.1 h;obtain⟨p,i⟩:=dP.1 f;exact(VL m l d 0 0 (by omega) g i e).2
theorem ZC {α:Type} (t:List α) (i:Nat):rowAt? (t.map some) i=t[i]? :=by
 unfold rowAt?;rw[aas];cases t[i]? <;>rfl
theorem FY {α:Type}: ∀(t:List α),oN (t.map some)=some t
 | []=>rfl
 |x::l=>by
  show(oN (l.map some)).map (x:: ·)=_;rw[FY l];rfl
theorem agY {Po:Nat->Ac->Option Int} {Ix:Nat->BV->Option Int} (al:LI) (m:Nat) (fin:LI) (rs:LR) (K:F9 al) (hm:m<=301) (c5:rs.length<=1000000000) (Z: ∀r∈rs,FH al m r)
 (b3: ∀m r:Nat,m<=1000->r<=3->Sp Po ((m:Int),(r:Int)) (λ p=>p=((m^r:Nat):Int)))
 (b4: ∀(m:Nat) (d:LL) (l:LI),m<=301->l.length<=3->(∀q∈l,bC (m:Int) q)->Sp Ix ((m:Int),d,l) (λ v=>v=(Ib m l:Int))):
 Sp (λ n=>jI.P (Po n) (Ix n) n) (al,(m:Int),fin,rs) (λ t=>t.1=(m:Int)/\Ph al m t.2/\aeS al m rs t.2):=by
 have b5:=K.1;show Tt (λ n=>jI.P (Po n) (Ix n) n (al,(m:Int),fin,rs)) _;unfold jI.P;dsimp only
 refine aZ1 (R:=λ t=> ∃d:LL,Ph al m d/\(∀row∈d,∀v∈row,v= -1)/\t=((m:Int),fin,rs,(0:Int),([]:LL),(m:Int),d.map some))
  (aZ8 (aZ6 al.length (λ i s=> ∃d:LL,d.length=i/\(∀(f a:Nat),f<i->al[f]? =some (a:Int)-> ∃row,d[f]? =some row/\afp m a row)/\(∀row∈d,∀v∈row,v= -1)/\
   s=((m:Int),fin,rs,(0:Int),([]:LL),(m:Int),d.map some,al,(al.length:Int),(i:Int))) ?_ ?_ ⟨[],rfl,λ f a hf=>absurd hf (by omega),by simp,rfl⟩)) ?_
 ·rintro i s L ⟨d,g,y,M,rfl⟩;unfold jI.L2;dsimp only;obtain⟨r,a0,a1⟩:=K.rank L;have b6:=tC (n:=m) (r:=r) (by omega) a0;refine aY1 (by omega) (aY L ?_);rw[a1];refine aZ5 (b3 m r (by omega) a0) λ p hp=> ?_;subst hp;refine aZ9 (tY (by omega) (by omega)) ?_;rw[aal,abB]
  refine aZ5 (R:=λ t=> ∃row:LI,afp m r row/\(∀v∈row,v= -1)/\t=((m:Int),fin,rs,(0:Int),([]:LL),(m:Int),d.map some,row,al,(al.length:Int),(i:Int)))
   (aZ8 (aZ6 (m^r) (λ j s=> ∃row:LI,row.length=m^r/\(∀k,k<j->row[k]? =some (-1))/\s=((m:Int),fin,rs,(0:Int),([]:LL),(m:Int),d.map some,row,al,(al.length:Int),(i:Int),((m^r:Nat):Int),(j:Int))) ?_ ?_ ⟨List.replicate (m^r) 0,by simp,λ k hk=>absurd hk (by omega),rfl⟩)) ?_
  ·rintro j s hj ⟨row,hl,hv,rfl⟩;unfold jI.L1;dsimp only;refine aY1 (by omega) (aZ9 (rng (by omega) (by omega)) ?_);rw[aal];refine aY6 (by omega) λ e _ _=>aZ2 ⟨row.set j (-1),by simpa using hl,λ k hk=> ?_,by rw[ak (by omega)]⟩;rw[aaU];by_cases h:j=k
   ·subst h;simp[hl,hj]
   ·simp[h];exact hv k (by omega)
  ·rintro s ⟨row,hl,hv,rfl⟩;unfold jI.L1;dsimp only;have a2: ∀v∈row,v= -1:=λ v N=> ?_
   ·exact aY3 (by omega) (aZ4 ⟨row,⟨hl,λ v N=> .inl (a2 v N)⟩,a2,rfl⟩)
   obtain⟨k,hk,rfl⟩:=aaz N;have:=hv k (by omega);rw[aac hk]at this;exact aak this
  ·rintro _ ⟨row,A,O,rfl⟩;dsimp only;refine aZ9 (jS (by simp;omega)) (aZ2 ⟨d++[row],by simp[g],λ f a hf W=> ?_,λ z h=>(aap.1 h).elim (M z) λ h=>by rw[aah.1 h];exact O,by rw[ak (by omega),abr];rfl⟩);rcases aaF f i with h|h
   ·obtain⟨z,G,B⟩:=y f a h W;exact⟨z,by rw[aaw (by omega)];exact G,B⟩
   ·obtain rfl:f=i:=by omega
    rw[aac L,a1]at W;have:a=r:=by have:=aak W;omega
    subst this;exact⟨row,by rw[aaC (by omega)];simp[g],A⟩
 ·rintro s ⟨d,g,y,M,rfl⟩;unfold jI.L2;dsimp only;exact aY3 (by omega) (aZ4 ⟨d,⟨g,λ f a W=>y f a (aad.1 W).1 W⟩,M,rfl⟩)
 rintro _ ⟨a3,Q,S,rfl⟩;dsimp only
 refine aZ1 (R:=λ t=> ∃d:LL,Ph al m d/\aeS al m rs d/\t=((0:Int),([]:LL),(m:Int),d.map some))
  (aZ8 (aZ6 rs.length (λ i s=> ∃d:LL,Ph al m d/\aeS al m (rs.take i) d/\s=((0:Int),([]:LL),(m:Int),d.map some,rs,(rs.length:Int),(i:Int))) ?_ ?_ ⟨a3,Q,λ f a l row v _ _ Z hv=> .inl ⟨S row (aaj Z) v (aaj hv),by simp⟩,rfl⟩)) ?_
 ·rintro i s L ⟨d,g,y,rfl⟩;unfold jI.L3;dsimp only;obtain⟨f,a,C,a4,a5,b7⟩:=Z _ (aaf L);obtain⟨b8,a6⟩:=dP.1 a5;have E:f<al.length:=(aad.1 C).1
  have b9:a<=3:=by
   obtain⟨a',G,B⟩:=K.rank E;rw[aac E,B]at C;have:=aak C;omega
  obtain⟨row,A,a7,c0⟩:=g.2 f a C;have c1:=Uw a6;have b6:=tC (n:=m) (r:=a) (by omega) b9;refine aY1 (by omega) (aY L ?_);rw[a4];refine aZ9 (rng (by omega) (by rw[aaH,g.1];omega)) ?_;rw[aal,FY,ZC,A];simp only[aan];refine aZ5 (b4 m d _ hm (by omega) a6) λ v hv=> ?_;subst hv;rw[b8]at c1;refine aZ9 (rng (by omega) (by omega)) ?_;rw[aal];refine aY6 (by omega) λ e _ _=>aZ2 ⟨d.set f (row.set (Ib m rs[i].2.1) rs[i].2.2),⟨by simpa using g.1,λ I a' u=> ?_⟩,λ I a' Y z v u U D hv=> ?_,by rw[ak (by omega),List.map_set]⟩
  ·by_cases h:f=I
   ·subst h;rw[C]at u;have:a'=a:=by have:=aak u;omega
    subst this;refine⟨row.set (Ib m rs[i].2.1) rs[i].2.2,?_,by simpa using a7,λ v hv=> ?_⟩
    ·rw[aa9 (by rw[g.1];exact E)]
    ·rcases abv hv with h|h
     ·exact c0 v h
     ·subst h;exact .inr b7
   ·obtain⟨z,G,B⟩:=g.2 I a' u;exact⟨z,by rw[aa3 h];exact G,B⟩
  ·have a8:rs.take (i+1)=rs.take i++[rs[i]]:=by rw[aau,aac L];rfl
   have old: ¬(f=I/\rs[i].2.1=Y)->QT (rs.take i) (I:Int) Y v->QT (rs.take (i+1)) (I:Int) Y v:=λ c2 h=>by
    rw[a8];rcases h with⟨G,B⟩|⟨r,G,B⟩
    ·refine .inl ⟨G,λ r Z=>(aap.1 Z).elim (B r) λ h=> ?_⟩;rw[aah.1 h];exact λ⟨e1,e2⟩=>c2 ⟨by omega,e2⟩
    ·exact .inr ⟨r,aaG _ G,B⟩
   by_cases h:f=I
   ·subst h;have:a'=a:=by rw[C]at u;have:=aak u;omega
    subst this;rw[aa9 (by rw[g.1];exact E)]at D;have D:=aak D;subst D;by_cases B:Ib m rs[i].2.1=Ib m Y
    ·rw[←B,aa9 (by omega)]at hv;exact .inr ⟨rs[i],by rw[a8];exact aa6 _ (aah.2 rfl),a4,adQ a5 U B,aak hv⟩
    ·rw[aa3 B]at hv;exact old (λ⟨_,e⟩=>B (by rw[e])) (y f a' Y row v u U A hv)
   ·rw[aa3 h]at D;exact old (λ⟨e,_⟩=>h e) (y I a' Y z v u U D hv)
 ·rintro s ⟨d,g,y,rfl⟩;unfold jI.L3;dsimp only;exact aY3 (by omega) (aZ4 ⟨d,g,by rw[aat]at y;exact y,rfl⟩)
 rintro _ ⟨d,g,y,rfl⟩;dsimp only;rw[FY];exact aZ0 ⟨rfl,g,y⟩
theorem agZ {t:Nat->BV->Option Int} (al:LI) (m:Nat) (d:LL) (f a:Nat) (l:LI) (u:F9 al) (E:m<=301) (B:Ph al m d) {rs:LR} (G:aeS al m rs d) (e:al[f]? =some (a:Int)) (C:l∈kV m a)
 (y: ∀(m:Nat) (d:LL) (l:LI),m<=301->l.length<=3->(∀q∈l,bC (m:Int) q)->Sp t ((m:Int),d,l) (λ v=>v=(Ib m l:Int))):
 Sp (λ n=>qW.P (t n) n) ((m:Int),d,(f:Int),l) (λ v=>QT rs (f:Int) l v):=by
 show Tt (λ n=>qW.P (t n) n ((m:Int),d,(f:Int),l)) _;unfold qW.P;dsimp only;obtain⟨z,k⟩:=dP.1 C;have i:f<al.length:=(aad.1 e).1
 have I:a<=3:=by
  obtain⟨a',N,K⟩:=u.rank i;rw[aac i,K]at e;have:=aak e;omega
 obtain⟨row,g,D,L⟩:=B.2 f a e;have A:=Uw k;rw[z]at A;have p:f<d.length:=by rw[B.1];exact i
 rw[gQ p]
 have M:d[f]=row:=by
  rw[aac p]at g;exact aak g
 rw[M];refine aY8 (aZ1 (y m d l E (by omega) k) λ v hv=> ?_);subst hv;refine aW1 (by omega) (aZ0 (G f a l row _ e C g (aac _)))
def dd:LI->LI
 | []=>[]
 |x::l=>if x∈l then dd l else x::dd l
theorem DL: ∀{l:LI} {x:Int},x∈dd l ↔ x∈l
 | [],_=>acd
 |a::l,x=>by
  unfold dd;by_cases h:a∈l
  ·rw[if_pos h,DL,aaQ];exact⟨.inr,λ d=>d.elim (λ e=>e▸h) id⟩
  ·rw[if_neg h,aaQ,aaQ,DL]
theorem GX: ∀l:LI,(dd l).Nodup
 | []=>List.nodup_nil
 |a::l=>by
  unfold dd;by_cases h:a∈l
  ·rw[if_pos h];exact GX l
  ·rw[if_neg h];exact List.nodup_cons.2 ⟨λ d=>h (DL.1 d),GX l⟩
theorem Ez {α:Type} [BEq α] [LawfulBEq α]: ∀{a b:List α},a.Nodup->(∀x∈a,x∈b)->a.length<=b.length
 | [],b,_,_=>by simp
 |x::a,b,k,hs=>by
  obtain⟨l,m⟩:=List.nodup_cons.1 k;have g:x∈b:=hs x (abG ..)
  have:=Ez (b:=b.erase x) m λ y i=>by
   have d:=hs y (aaO _ i);have f:y≠x:=λ e=>l (e▸i);exact(List.mem_erase_of_ne f).2 d
  have p:=List.length_pos_of_mem g;rw[List.length_erase_of_mem g]at this;simp only[abl];omega
theorem aiF (l:LI):(dd l).length<=l.length:=Ez (GX l) λ x h=>DL.1 h
theorem afc {m:Nat} {num after b:LI} (z:num.length=m) (d: ∀k j,k<m->j<m->after[k]? =after[j]? ->num[k]? =num[j]?) (A:after.length=m)
 (g: ∀k,k<m-> ∃j v,j<m/\num[k]? =num[j]? /\v∈b/\after[j]? =some v):(dd num).length<=b.length:=by
 have i:=Ez (GX num) (b:=b.map λ v=>num.getD (after.idxOf v) 0) λ x l=>by
  obtain⟨k,p,rfl⟩:=aaz (DL.1 l);obtain⟨j,v,q,t,u,f⟩:=g k (by omega);have hv:v∈after:=aaj f;have y:=List.idxOf_lt_length_of_mem hv;have e:after[after.idxOf v]? =some v:=by rw[aac y,List.getElem_idxOf]
  have:=d j (after.idxOf v) q (by omega) (by rw[e,f]);refine aaB.2 ⟨v,u,?_⟩;rw[abd,←this,←t,aac p,aby]
 rwa [aaH]at i
theorem ah9 {m:Nat} {num after:LI} (q:num.length=m) (d: ∀k j,k<m->j<m->after[k]? =after[j]? ->num[k]? =num[j]?) (t:after.length=m) (y:(dd after).length=(dd num).length):
 ∀k j,k<m->j<m->num[k]? =num[j]? ->after[k]? =after[j]? :=by
 intro k j u v e;apply aaP;intro g;have f:after[k]∈dd after:=DL.2 (aaf (by omega))
 have:=afc q d t (b:=(dd after).erase after[k]) λ i p=>by
  by_cases h:after[i]? =after[k]?
  ·refine⟨j,after[j],v,(d i k p u h).trans e,?_,aac (by omega)⟩;refine(List.mem_erase_of_ne λ l=>g ?_).2 (DL.2 (aaf (by omega)));rw[aac (by omega),aac (by omega),l]
  ·refine⟨i,after[i],p,rfl,?_,aac (by omega)⟩;refine(List.mem_erase_of_ne λ l=>h ?_).2 (DL.2 (aaf (by omega)));rw[aac (by omega),aac (by omega),l]
 rw[List.length_erase_of_mem f]at this;have:=List.length_pos_of_mem f;omega
theorem afE {m:Nat} {num after:LI} (e:num.length=m) (d: ∀k j,k<m->j<m->after[k]? =after[j]? ->num[k]? =num[j]?) (f:after.length=m):(dd num).length<=(dd after).length:=
 afc e d f λ k g=>⟨k,after[k],g,rfl,DL.2 (aaf (by omega)),aac (by omega)⟩
theorem ag4 {F:Nat->Ah->Option LI} (hF: ∀l v,l.length+1<=ay->Sp F (l,v) (λ r=>(∀y,y∈r ↔ y=v\/y∈l)/\r.length<=l.length+1/\((l.Pairwise λ a b=>a<b)->r.Pairwise λ a b=>a<b))) (l:LI) (p:l.length<=1000000):
 Sp (λ n=>rU.P (F n) n) l (λ v=>v=((dd l).length:Int)):=by
 show Tt (λ n=>rU.P (F n) n l) _;unfold rU.P
 refine aZ1 (R:=λ out=>(out.Pairwise λ a b=>a<b)/\ ∀y,y∈out ↔ y∈l)
  (aZ8 (aZ6 l.length (λ i s=> ∃out:LI,out.length<=i/\(out.Pairwise λ a b=>a<b)/\(∀y,y∈out ↔ y∈l.take i)/\s=(out,l,(l.length:Int),(i:Int))) ?_ ?_ ⟨[],by simp,List.Pairwise.nil,by simp,rfl⟩)) ?_
 ·rintro i s k ⟨out,e,d,f,rfl⟩;unfold rU.L1;dsimp only;refine aY1 (by omega) (aY k (aZ5 (hF out l[i] (by rw[xw];omega)) λ r m=>aZ2 ⟨r,by omega,m.2.2 d,λ y=> ?_,by rw[ak (by omega)]⟩));rw[m.1,aau,aac k,aap,f];simp only[aaS,aah];exact⟨λ h=>h.symm,λ h=>h.symm⟩
 ·rintro s ⟨out,e,d,f,rfl⟩;unfold rU.L1;dsimp only;exact aY3 (by omega) (aZ4 ⟨d,λ y=>by rw[f,aat]⟩)
 ·rintro out ⟨e,d⟩;refine aZ0 ?_;have a:=Ez (e.imp λ h=>by omega) (b:=dd l) λ x g=>DL.2 ((d x).1 g);have b:=Ez (GX l) (b:=out) λ x g=>(d x).2 (DL.1 g);omega
def Ic (l:LI) (i:Nat) (s:Int):LI:=l.take i++s::l.drop i
theorem YM (l:LI) (i:Nat) (s:Int):List.append (List.append (List.append ([]:LI) (List.drop (Int.toNat 0) (List.take (Int.toNat (i:Int)) l))) ([s]:LI)) (List.drop (Int.toNat (i:Int)) (List.take (Int.toNat (l.length:Int)) l))=Ic l i s:=by
 unfold Ic;simp
theorem GI {m r:Nat} {l:LI} {i:Nat} {s:Int} (h:l∈kV m r) (f:i<=l.length) (hs:bC (m:Int) s):Ic l i s∈kV m (r+1):=by
 obtain⟨g,d⟩:=dP.1 h;refine dP.2 ⟨by simp[Ic];omega,λ q e=> ?_⟩;have:q∈l.take i\/q=s\/q∈l.drop i:=by simpa [Ic]using e
 rcases this with h|h|h
 ·exact d q (abq h)
 ·rw[h];exact hs
 ·exact d q (abD h)
def afk (al:LI) (m:Nat) (num:LI) (δ:Int->LI->Int) (s t:Int):Prop:=
 ∀(f a i:Nat) (l:LI),al[f]? =some ((a+1:Nat):Int)->l∈kV m a->i<=a->iat num (δ (f:Int) (Ic l i s))=iat num (δ (f:Int) (Ic l i t))
theorem aeK {Ls:Nat->Ac->Option (LL)} {Ne:Nat->AI->Option Int} (al:LI) (m:Nat) (d:LL) (num:LI) (s t:Int) (δ:Int->LI->Int) (D:F9 al) (hm:m<=301)
 (hn:num.length=m) (hs:bC (m:Int) s) (ht:bC (m:Int) t) (Y: ∀N r:Nat,N<=301->r<=3->Sp Ls ((N:Int),(r:Int)) (λ l=>l=kV N r))
 (E: ∀(f a:Nat) (l:LI),al[f]? =some (a:Int)->l∈kV m a->bC (m:Int) (δ (f:Int) l)/\Sp Ne ((m:Int),d,(f:Int),l) (λ v=>v=δ (f:Int) l)):
 Sp (λ n=>iP.P (Ls n) (Ne n) n) (al,(m:Int),d,num,s,t) (λ b=>b=true ↔ afk al m num δ s t):=by
 have Z:=D.1;show Tt (λ n=>iP.P (Ls n) (Ne n) n (al,(m:Int),d,num,s,t)) _;unfold iP.P;dsimp only
 refine aZ1 (R:=λ q=>q=Sum.inl ()/\afk al m num δ s t\/q=Sum.inr false/\ ¬afk al m num δ s t)
  (aZ8 (aZ6 al.length (λ k x=>x=(num,s,t,(m:Int),d,al,(al.length:Int),(k:Int))/\ ∀(f a i:Nat) (l:LI),f<k->al[f]? =some ((a+1:Nat):Int)->l∈kV m a->i<=a->iat num (δ (f:Int) (Ic l i s))=iat num (δ (f:Int) (Ic l i t))) ?_ ?_ ⟨rfl,λ f _ _ _ h=>absurd h (by omega)⟩)) ?_
 ·rintro f x hf ⟨rfl,W⟩;unfold iP.L3;dsimp only;obtain⟨r,b3,G⟩:=D.rank hf;have I:al[f]? =some (r:Int):=by rw[aac hf,G]
  refine aY1 (by omega) (aY hf ?_);rw[G];refine aY9 (λ h0=> ?_) (λ K=> ?_)
  ·have h0:=iy h0;refine aZ2 ⟨by rw[ak (by omega)],λ L a i l a1 p B g=> ?_⟩;by_cases e:L=f
   ·subst e;rw[I]at p;have:=aak p;omega
   ·exact W L a i l (by omega) p B g
  have K:=dec_not K
  have e1:IntKind.wrap .i64 ((r:Int)-1)=((r-1:Nat):Int):=by
   rw[kS _ (by omega) (by omega)];omega
  rw[e1];have u:al[f]? =some (((r-1+1:Nat):Nat):Int):=by rw[I];congr 1;omega
  have b4:=tC (n:=m) (r:=r-1) (by omega) (by omega);have b5:=ru m (r-1);refine aZ5 (Y m (r-1) (by omega) (by omega)) λ ls a2=> ?_;subst a2
  refine aZ5 (R:=λ q=>q=Sum.inl (num,s,t,(m:Int),d,al,(al.length:Int),(f:Int))/\(∀(i:Nat) (l:LI),l∈kV m (r-1)->i<=r-1->iat num (δ (f:Int) (Ic l i s))=iat num (δ (f:Int) (Ic l i t)))\/q=Sum.inr (Sum.inr false)/\ ¬afk al m num δ s t)
   (aZ8 (aZ6 (kV m (r-1)).length (λ j x=>x=(num,s,t,(m:Int),d,(f:Int),(r:Int),al,(al.length:Int),(f:Int),kV m (r-1),((kV m (r-1)).length:Int),(j:Int))/\ ∀(i:Nat) (l:LI),l∈(kV m (r-1)).take j->i<=r-1->iat num (δ (f:Int) (Ic l i s))=iat num (δ (f:Int) (Ic l i t))) ?_ ?_ ⟨rfl,by simp⟩)) ?_
  ·rintro j x hj ⟨rfl,M⟩;unfold iP.L2;dsimp only;refine aY1 (by omega) (aZ9 (rng (by omega) (by omega)) ?_);rw[aal];refine aY6 hj λ l y a3=> ?_;obtain⟨b7,b8⟩:=dP.1 y
   refine aZ5 (R:=λ q=>q=Sum.inl (num,s,t,(m:Int),d,(f:Int),(r:Int),al,(al.length:Int),(f:Int),kV m (r-1),((kV m (r-1)).length:Int),(j:Int))/\(∀i:Nat,i<=r-1->iat num (δ (f:Int) (Ic l i s))=iat num (δ (f:Int) (Ic l i t)))\/q=Sum.inr (Sum.inr (Sum.inr false))/\ ¬afk al m num δ s t)
    (aZ8 (aZ6 r (λ i x=>x=(num,s,t,(m:Int),d,(f:Int),(r:Int),l,al,(al.length:Int),(f:Int),kV m (r-1),((kV m (r-1)).length:Int),(j:Int),(r:Int),(i:Int))/\ ∀C:Nat,C<i->iat num (δ (f:Int) (Ic l C s))=iat num (δ (f:Int) (Ic l C t))) ?_ ?_ ⟨rfl,λ C h=>absurd h (by omega)⟩)) ?_
   ·rintro i x g ⟨rfl,O⟩;unfold iP.L1;dsimp only;have Q:=GI (i:=i) y (by omega) hs;have S:=GI (i:=i) y (by omega) ht;refine aY1 (by omega) (aZ9 (by simp;omega) (aZ9 (jS (by simp;omega)) (aZ9 (jS (by simp;omega)) (aZ9 (by simp;omega) (aZ9 (jS (by simp;omega)) ?_)))));refine aZ9 (by simp;omega) (aZ9 (jS (by simp;omega)) (aZ9 (jS (by simp;omega)) (aZ9 (by simp;omega) (aZ9 (jS (by simp;omega)) ?_))));rw[YM,YM];obtain⟨n1,n2⟩:=E f _ _ u Q;obtain⟨o1,o2⟩:=E f _ _ u S;refine aZ5 n2 λ v1 a4=> ?_;subst a4;refine aW0 n1.1 (by have:=n1.2;omega) λ e1 _ z=>aZ5 o2 λ v2 a5=> ?_;subst a5;refine aW0 o1.1 (by have:=o1.2;omega) λ e2 _ A=> ?_;have z:=l9 z;have A:=l9 A;refine aY9 (λ h=>aZ4 (t:=Sum.inr (Sum.inr (Sum.inr false))) (.inr ⟨rfl,λ hA=> ?_⟩)) (λ h=>aZ2 ⟨by rw[ak (by omega)],λ C c2=> ?_⟩)
    ·have:=hA f (r-1) i l u y (by omega);rw[z,A]at this;rw[this]at h;simp at h
    ·by_cases e:C=i
     ·subst e;rw[z,A];simpa using h
     ·exact O C (by omega)
   ·rintro x ⟨rfl,O⟩;unfold iP.L1;dsimp only;exact aY3 (by omega) (aZ4 (.inl ⟨rfl,λ i g=>O i (by omega)⟩))
   ·rintro q (⟨rfl,O⟩|⟨rfl,h⟩)
    ·refine aZ2 ⟨by rw[ak (by omega)],λ i l' U g=> ?_⟩;rw[aau,a3]at U;rcases aap.1 U with h|h
     ·exact M i l' h g
     ·have:l'=l:=by simpa using h
      subst this;exact O i g
    ·exact aZ4 (.inr ⟨rfl,h⟩)
  ·rintro x ⟨rfl,M⟩;unfold iP.L2;dsimp only;exact aY3 (by omega) (aZ4 (.inl ⟨rfl,λ i l B=>M i l (by rw[aat];exact B)⟩))
  ·rintro q (⟨rfl,M⟩|⟨rfl,h⟩)
   ·refine aZ2 ⟨by rw[ak (by omega)],λ L a i l a1 p B g=> ?_⟩;by_cases e:L=f
    ·subst e;rw[u]at p;have:a=r-1:=by have:=aak p;omega
     subst this;exact M i l B g
    ·exact W L a i l (by omega) p B g
   ·exact aZ4 (.inr ⟨rfl,h⟩)
 ·rintro x ⟨rfl,W⟩;unfold iP.L3;dsimp only;exact aY3 (by omega) (aZ4 (.inl ⟨rfl,λ f a i l p B g=>W f a i l (aad.1 p).1 p B g⟩))
 ·rintro q (⟨rfl,h⟩|⟨rfl,h⟩)
  ·exact aZ0 ⟨λ _=>h,λ _=>rfl⟩
  ·exact aZ0 ⟨λ h'=>(by cases h'),λ h'=>absurd h' h⟩
def XY (al:LI) (m:Nat) (rs:LR) (δ:Int->LI->Int):Prop:=
 (∀(f a:Nat) (l:LI),al[f]? =some (a:Int)->l∈kV m a->bC (m:Int) (δ (f:Int) l))/\
 ∀r:Rule,r∈rs ↔ ∃f a:Nat,al[f]? =some (a:Int)/\r.1=(f:Int)/\r.2.1∈kV m a/\r.2.2=δ (f:Int) r.2.1
def EqS (al:LI) (m:Nat) (δ:Int->LI->Int) (num:LI) (s t:Int):Prop:=iat num s=iat num t/\afk al m num δ s t
section
variable {al:LI} {m:Nat} {δ:Int->LI->Int} {num first after fin:LI} {rs:LR} {s t u:Int}
theorem EqS.refl:EqS al m δ num s s:=⟨rfl,λ _ _ _ _ _ _ _=>rfl⟩
theorem EqS.symm (h:EqS al m δ num s t):EqS al m δ num t s:=⟨h.1.symm,λ f a i l d e g=>(h.2 f a i l d e g).symm⟩
theorem EqS.trans (h:EqS al m δ num s t) (d:EqS al m δ num t u):EqS al m δ num s u:=⟨h.1.trans d.1,λ f a i l e g k=>(h.2 f a i l e g k).trans (d.2 f a i l e g k)⟩
def WL (al:LI) (m:Nat) (δ:Int->LI->Int) (num first after:LI) (k:Nat):Prop:= ∃c t:Nat,after[k]? =some (c:Int)/\first[c]? =some (t:Int)/\t<m/\EqS al m δ num (k:Int) (t:Int)
theorem WL.app {k:Nat} (h:WL al m δ num first after k) (x:Int):WL al m δ num (first++[x]) after k:=by
 obtain⟨c,t,e,d,f⟩:=h;exact⟨c,t,e,by rw[aaw (aad.1 d).1];exact d,f⟩
def FirstN (al:LI) (m:Nat) (δ:Int->LI->Int) (num first:LI):Prop:= ∀(c d:Nat) (t e:Int),first[c]? =some t->first[d]? =some e->EqS al m δ num t e->c=d
theorem Vk {α:Type} {l:List α} {x y:α} {i:Nat} (h:(l++[x])[i]? =some y):l[i]? =some y\/i=l.length/\y=x:=by
 rcases aaF i l.length with d|d
 ·rw[aaw d]at h;exact .inl h
 ·rw[aaC d]at h;have:=(aad.1 h).1;have:i=l.length:=by simp at this;omega
  subst this;exact .inr ⟨rfl,by simpa using h.symm⟩
theorem FirstN.snoc {x:Int} (h:FirstN al m δ num first) (d: ∀t∈first,¬EqS al m δ num x t):FirstN al m δ num (first++[x]):=λ c i t f k l e=>by
 rcases Vk k with g|⟨rfl,rfl⟩<;>rcases Vk l with g2|⟨rfl,rfl⟩
 ·exact h c i t f g g2 e
 ·exact absurd e.symm (d t (aaj g))
 ·exact absurd e (d f (aaj g2))
 ·rfl
theorem qV {l:LI} (d:l.length=m) {k:Nat} (e:k<m):l[k]? =some (iat l (k:Int)):=by
 rw[aac (by omega),l9];rw[aal,aac (by omega)]
theorem Nl (h:bC (m:Int) s): ∃k:Nat,k<m/\s=(k:Int):=⟨s.toNat,by have:=h.1;have:=h.2;omega,by have:=h.1;omega⟩
theorem afz (l:after.length=m) (p: ∀k,k<m->WL al m δ num first after k) (B:FirstN al m δ num first) {s t:Int} (hs:bC (m:Int) s) (C:bC (m:Int) t):iat after s=iat after t ↔ EqS al m δ num s t:=by
 obtain⟨k,q,rfl⟩:=Nl hs;obtain⟨j,v,rfl⟩:=Nl C;obtain⟨c,u,f,y,D,z⟩:=p k q;obtain⟨d,w,g,i,E,A⟩:=p j v;rw[qV l q]at f;rw[qV l v]at g;have f:=aak f;have g:=aak g;rw[f,g];constructor
 ·intro e;have:c=d:=by omega
  subst this;rw[y]at i;have:u=w:=by have:=aak i;omega
  subst this;exact z.trans A.symm
 ·intro e;rw[B c d _ _ y i (z.symm.trans (e.trans A))]
def JCl (m:Nat) (fin:LI) (rs:LR) (num:LI):Prop:=(∀s t,bC (m:Int) s->bC (m:Int) t->iat num s=iat num t->(s∈fin ↔ t∈fin))/\ ∀h,Gg (m:Int) fin rs h-> ∀s t,bC (m:Int) s->bC (m:Int) t->h s=h t->iat num s=iat num t
def Ue (m:Nat) (fin:LI) (rs:LR) (cl:LI):Prop:=cl.length=m/\(∀v∈cl,bC (m:Int) v)/\Gg (m:Int) fin rs (iat cl)/\ ∀h,Gg (m:Int) fin rs h-> ∀s t,bC (m:Int) s->bC (m:Int) t->h s=h t->iat cl s=iat cl t
theorem adS (h: ∀q,bC (m:Int) q->iat num q=if q∈fin then 1 else 0):JCl m fin rs num:=by
 have e: ∀s t,bC (m:Int) s->bC (m:Int) t->(iat num s=iat num t ↔ (s∈fin ↔ t∈fin)):=λ s t hs d=>by
  rw[h s hs,h t d];by_cases f:s∈fin<;>by_cases g:t∈fin<;>simp[f,g]
 exact⟨λ s t hs d=>(e s t hs d).1,λ h i s t hs d eq=>(e s t hs d).2 (i.1 s t hs d eq)⟩
theorem ahG {l:LI} {i:Nat} (d:i<=l.length):(Ic l i s)[i]? =some s:=by
 unfold Ic;rw[aaC (by simp;omega),show i-(l.take i).length=0 by simp;omega];rfl
theorem YN {l:LI} {i:Nat} (d:i<=l.length):(Ic l i s).set i t=Ic l i t:=by
 unfold Ic;rw[List.set_append_right _ _ (by simp;omega),show i-(l.take i).length=0 by simp;omega];rfl
theorem ahH {l:LI} {a i:Nat} (e:l∈kV m a) (h:l[i]? =some s): ∃(b:Nat) (d:LI),a=b+1/\d∈kV m b/\i<=b/\l=Ic d i s/\i<=d.length:=by
 obtain⟨t,f⟩:=dP.1 e;have u:=(aad.1 h).1;refine⟨a-1,l.take i++l.drop (i+1),by omega,dP.2 ⟨by simp;omega,λ q g=>f q ?_⟩,by omega,?_,by simp;omega⟩
 ·rcases aap.1 g with h|h
  ·exact abq h
  ·exact abD h
 ·unfold Ic;obtain⟨k,p⟩:=QB h;rw[abE (by omega),aaJ (by omega),List.drop_append,aa2 (by omega),p,acH,abA,abT];exact k
theorem VP (hF:XY al m rs δ) (p:JCl m fin rs num) (A: ∀{s t:Int},bC (m:Int) s->bC (m:Int) t->(iat after s=iat after t ↔ EqS al m δ num s t)):JCl m fin rs after:=by
 refine⟨λ s t hs g e=>p.1 s t hs g ((A hs g).1 e).1,λ h q s t hs g e=>(A hs g).2 ⟨p.2 h q s t hs g e,λ f a i l u v E=> ?_⟩⟩;have d:i<=l.length:=by have:=(dP.1 v).1;omega
 have k:=GI v d hs;have y:=GI v d g;obtain⟨r,D,B,z,C⟩:=q.2 s t hs g e ((f:Int),Ic l i s,δ (f:Int) (Ic l i s)) i ⟨(hF.2 _).2 ⟨f,a+1,u,rfl,k,rfl⟩,ahG d⟩;dsimp only at B z C;rw[YN d]at z;obtain⟨G,a',I,g2,g3,g4⟩:=(hF.2 r).1 D;rw[←g2,B,z]at g4;refine p.2 h q _ _ (hF.1 f _ _ u k) (hF.1 f _ _ u y) ?_;rw[←C,g4]
theorem Yn (d:num.length=m) (f:after.length=m) (l: ∀{s t:Int},bC (m:Int) s->bC (m:Int) t->(iat after s=iat after t ↔ EqS al m δ num s t)): ∀k j,k<m->j<m->after[k]? =after[j]? ->num[k]? =num[j]? :=λ k j g i e=>by
 rw[qV f g,qV f i]at e;rw[qV d g,qV d i,((l (s:=(k:Int)) (t:=(j:Int)) ⟨by omega,by omega⟩ ⟨by omega,by omega⟩).1 (aak e)).1]
theorem adE (hF:XY al m rs δ) (p:num.length=m) (d:after.length=m) (K:JCl m fin rs num) (u: ∀{s t:Int},bC (m:Int) s->bC (m:Int) t->(iat after s=iat after t ↔ EqS al m δ num s t)) (L:(dd after).length=(dd num).length) (hv: ∀v∈after,bC (m:Int) v):Ue m fin rs after:=by
 have g:=VP hF K u;refine⟨d,hv,⟨g.1,λ s t hs C e r i D=> ?_⟩,g.2⟩;obtain⟨f,a,q,g2,g3,g4⟩:=(hF.2 r).1 D.1;obtain⟨b,l,rfl,E,M,G,I⟩:=ahH g3 D.2;have k:=GI E I C;refine⟨((f:Int),Ic l i t,δ (f:Int) (Ic l i t)),(hF.2 _).2 ⟨f,b+1,q,rfl,k,rfl⟩,g2.symm,by rw[G,YN I],?_⟩;dsimp only;rw[g4];have z:=((u hs C).1 e).2 f b i l q E M;rw[←G]at z;obtain⟨x,A,N⟩:=Nl (hF.1 f _ _ q g3);obtain⟨y,B,O⟩:=Nl (hF.1 f _ _ q k);rw[N,O]at z ⊢;have:=ah9 p (Yn p d u) d L x y A B (by rw[qV p A,qV p B,z]);rw[qV d A,qV d B]at this;exact(aak this).symm
end
section
variable {Mk:Nat->Aa->Option ahb} {Ak:Nat->AJ->Option Bool} {Mn:Nat->LI->Option Int}
theorem XI (al:LI) (m:Nat) (fin:LI) (rs:LR) (hm:m<=301) (d1:fin.length<=1000000000) (L: ∀q∈fin,bC (m:Int) q)
 (δ:Int->LI->Int) (hF:XY al m rs δ) (P:LL->Prop) (a9:Sp Mk (al,(m:Int),fin,rs) (λ t=>t.1=(m:Int)/\P t.2))
 (b0: ∀(f:LL) (num:LI) (s t:Int),P f->num.length=m->bC (m:Int) s->bC (m:Int) t->Sp Ak (al,(m:Int),f,num,s,t) (λ b=>b=true ↔ afk al m num δ s t))
 (M: ∀l:LI,l.length<=1000000->Sp Mn l (λ v=>v=((dd l).length:Int))):
 Sp (λ n=>dV.P (Mk n) (Ak n) (Mn n) n) (al,(m:Int),fin,rs) (Ue m fin rs):=by
 show Tt (λ n=>dV.P (Mk n) (Ak n) (Mn n) n (al,(m:Int),fin,rs)) _;unfold dV.P;dsimp only;refine aZ1 a9 λ t N=> ?_;obtain⟨t1,f⟩:=t;obtain⟨h1,hP⟩:=N;dsimp only at h1 hP ⊢;subst h1;refine aX0 (tY (by omega) (by omega)) ?_;rw[aal]
 refine aZ1 (R:=λ x=> ∃num:LI,num.length=m/\JCl m fin rs num/\x=(al,(m:Int),fin,rs,(m:Int),f,num))
  (aZ8 (aZ6 fin.length (λ i s=> ∃num:LI,num.length=m/\(∀q,bC (m:Int) q->iat num q=if q∈fin.take i then 1 else 0)/\s=(al,(m:Int),fin,rs,(m:Int),f,num,fin,(fin.length:Int),(i:Int))) ?_ ?_ ⟨List.replicate m 0,by simp,λ q p=>by obtain⟨q0,q1⟩:=p;rw[if_neg (by simp),l9 (v:=0)];rw[abp,if_pos (by omega)],rfl⟩)) ?_
 ·rintro i s O ⟨num,B,y,rfl⟩;unfold dV.L1;dsimp only;have p:=L _ (aaf O);refine aY1 (by omega) (aY O (aZ9 (rng p.1 (by have:=p.2;omega)) ?_));refine aY6 (by have:=p.1;have:=p.2;omega) λ e _ _=>aZ2 ⟨num.set (Int.toNat fin[i]) 1,by simpa using B,λ q Q=> ?_,by rw[ak (by omega)]⟩;rw[Ir (by have:=p.1;have:=p.2;omega) p.1 Q.1,y q Q,aau,aac O,aaS];by_cases e:q=fin[i]
  ·rw[if_pos e,if_pos (aa6 _ (aah.2 e))]
  ·rw[if_neg e];simp only[aap,aah,e,or_false]
 ·rintro s ⟨num,B,y,rfl⟩;unfold dV.L1;dsimp only;rw[aat]at y;exact aY3 (by omega) (aZ4 ⟨num,B,adS y,rfl⟩)
 rintro _ ⟨S,b4,b5,rfl⟩;dsimp only
 refine aZ1 (R:=λ q=> ∃l:LI,Ue m fin rs l/\q=Sum.inr l)
  (aZ8 (aX1 (λ s=> ∃num:LI,num.length=m/\JCl m fin rs num/\s=(al,(m:Int),fin,rs,(m:Int),f,num)) (λ s=>m-(dd s.2.2.2.2.2.2).length) ?_ ⟨S,b4,b5,rfl⟩)) ?_
 ·rintro s ⟨num,B,hj,rfl⟩;unfold dV.L4;dsimp only;refine aZ9 (tY (by omega) (by omega)) ?_;rw[aal,abB]
  refine aZ5 (R:=λ x=> ∃first after:LI,after.length=m/\first.length<=m/\(∀k,k<m->WL al m δ num first after k)/\FirstN al m δ num first/\x=(al,(m:Int),fin,rs,(m:Int),f,num,after))
   (aZ8 (aZ6 m (λ i s=> ∃first after:LI,after.length=m/\first.length<=i/\(∀t∈first,bC (m:Int) t)/\(∀k,k<i->WL al m δ num first after k)/\FirstN al m δ num first/\s=(al,(m:Int),fin,rs,(m:Int),f,num,first,after,(m:Int),(i:Int))) ?_ ?_ ⟨[],List.replicate m 0,by simp,by simp,by simp,λ k E=>absurd E (by omega),λ c c' t t' h=>by simp at h,rfl⟩)) ?_
  ·rintro i s O ⟨first,after,g,hf,z,G,K,rfl⟩
   unfold dV.L3;dsimp only;refine aY1 (by omega) (aZ9 (rng (by omega) (by omega)) ?_);rw[aal];refine aY6 (by omega) λ e _ _=> ?_
   refine aZ5 (R:=λ x=> ∃c:Nat,(c=first.length/\(∀t∈first,¬EqS al m δ num (i:Int) t)\/ ∃t:Nat,first[c]? =some (t:Int)/\t<m/\EqS al m δ num (i:Int) (t:Int))/\x=(al,(m:Int),fin,rs,(m:Int),f,num,first,after.set i (c:Int),(i:Int),(m:Int),(i:Int)))
    (aZ8 (aZ6 first.length (λ k s=>s=(al,(m:Int),fin,rs,(m:Int),f,num,first,after.set i (first.length:Int),(i:Int),(m:Int),(i:Int),(first.length:Int),(k:Int))/\ ∀t∈first.take k,¬EqS al m δ num (i:Int) t) ?_ ?_ ⟨rfl,by simp⟩)) ?_
   ·rintro k s E ⟨rfl,hS⟩;unfold dV.L2;dsimp only;refine aY1 (by omega) (aZ9 (rng (by omega) (by omega)) ?_);rw[aal];refine aY6 E λ t b7 U=> ?_;have d:=z t b7;refine aY0 (rng (by omega) (by omega)) (aY5 ?_);rw[aal];refine aY6 (by omega) λ e1 _ b8=> ?_;refine aY0 (rng d.1 (by have:=d.2;omega)) (aY5 ?_);refine aY6 (by have:=d.1;have:=d.2;omega) λ e2 _ b9=> ?_;have C:iat num (i:Int)=iat num t ↔ e1=e2:=by rw[l9 (by rw[aal];exact b8),l9 b9]
    refine aZ5 (R:=λ x=> ∃b:Bool,(b=true ↔ EqS al m δ num (i:Int) t)/\x=(al,(m:Int),fin,rs,(m:Int),f,num,first,after.set i (first.length:Int),(i:Int),(k:Int),(m:Int),(i:Int),(first.length:Int),(k:Int),b))
     (aY4 (λ h=>aZ1 (b0 f num (i:Int) t hP B ⟨by omega,by omega⟩ d) λ b hb=>aZ0 ⟨b,hb.trans ⟨λ I=>⟨C.2 (iy h),I⟩,λ I=>I.2⟩,rfl⟩) (λ h=>aZ0 ⟨false,⟨λ h=>(by cases h),λ I=>absurd (C.1 I.1) (of_decide_eq_false h)⟩,rfl⟩)) ?_
    rintro _ ⟨b,hb,rfl⟩;dsimp only;refine aY9 (λ c0=> ?_) (λ W=>aZ2 ⟨by rw[ak (by omega)],λ u hu=> ?_⟩)
    rotate_left
    ·rw[aau,U]at hu;rcases aap.1 hu with h|h
     ·exact hS u h
     ·have:u=t:=by simpa using h
      subst this;exact λ I=>by rw[hb.2 I]at W;cases W
    refine aZ9 (rng (by omega) (by simp;omega)) ?_;rw[aal];refine aY6 (by simp;omega) λ e3 _ _=>aZ4 ⟨k,.inr ⟨t.toNat,?_,by have:=d.1;have:=d.2;omega,?_⟩,by rw[List.set_set]⟩
    ·rw[U];congr 1;have:=d.1;omega
    ·have:=hb.1 c0
     rwa [abI d.1]
   ·rintro s ⟨rfl,hS⟩;unfold dV.L2;dsimp only;rw[aat]at hS;exact aY3 (by omega) (aZ4 ⟨first.length,.inl ⟨rfl,hS⟩,rfl⟩)
   ·rintro _ ⟨c,hc,rfl⟩;dsimp only;refine aZ9 (rng (by omega) (by simp;omega)) ?_;rw[aal];refine aY6 (by simp;omega) λ e4 _ A=> ?_;rw[aa9 (by omega)]at A;have A:=aak A;subst A;refine aY2 (λ h=> ?_) (λ h=> ?_)
    ·have Y:=iy h;refine aY0 (jS (by simp;omega)) (aZ3 (aZ2 ⟨first++[(i:Int)],after.set i (c:Int),by simpa using g,by simp;omega,λ t N=> ?_,λ k E=> ?_,K.snoc ?_,by rw[ak (by omega)];rfl⟩))
     ·rcases aap.1 N with h|h
      ·exact z t h
      ·rw[aah.1 h];exact⟨by omega,by omega⟩
     ·rcases aaF k i with Z|Z
      ·have c1:=(G k Z).app (i:Int);obtain⟨c',t',D,a2⟩:=c1;exact⟨c',t',by rw[aa3 (by omega)];exact D,a2⟩
      ·obtain rfl:k=i:=by omega
       refine⟨c,k,by rw[aa9 (by omega)],?_,O,.refl⟩;have c2:c=first.length:=by omega
       subst c2;simp
     ·rcases hc with⟨_,h⟩|⟨t,h,_⟩
      ·exact h
      ·have:=(aad.1 h).1;omega
    ·have Y:=dec_not h
     have c3: ∃t:Nat,first[c]? =some (t:Int)/\t<m/\EqS al m δ num (i:Int) (t:Int):=by
      rcases hc with⟨h,_⟩|h
      ·exact absurd (by omega) Y
      ·exact h
     refine aZ3 (aZ2 ⟨first,after.set i (c:Int),by simpa using g,by omega,z,λ k E=> ?_,K,by rw[ak (by omega)]⟩)
     rcases aaF k i with Z|Z
     ·obtain⟨c',t',D,a2⟩:=G k Z;exact⟨c',t',by rw[aa3 (by omega)];exact D,a2⟩
     ·obtain rfl:k=i:=by omega
      obtain⟨t,b1,b2,b3⟩:=c3;exact⟨c,t,by rw[aa9 (by omega)],b1,b2,b3⟩
  ·rintro s ⟨first,after,g,hf,z,G,K,rfl⟩
   unfold dV.L3;dsimp only;exact aY3 (by omega) (aZ4 ⟨first,after,g,hf,G,K,rfl⟩)
  ·rintro _ ⟨first,after,g,hf,G,K,rfl⟩
   dsimp only;have hR: ∀{s t:Int},bC (m:Int) s->bC (m:Int) t->(iat after s=iat after t ↔ EqS al m δ num s t):=λ hs N=>afz g G K hs N;have a4:=Yn B g hR;refine aZ5 (M after (by omega)) λ v1 d7=>aZ5 (M num (by omega)) λ v2 d8=>aY9 (λ h=>aZ4 ⟨after,adE hF B g hj hR (by have:=iy h;omega) λ v hv=> ?_,rfl⟩) (λ h=>aZ2 ⟨⟨after,g,VP hF hj hR,rfl⟩,?_⟩)
   ·obtain⟨k,E,rfl⟩:=aaz hv;obtain⟨c,t,D,a2,_⟩:=G k (by omega);rw[aac E]at D;have D:=aak D;have a3:=(aad.1 a2).1;rw[D];exact⟨by omega,by omega⟩
   ·have d9:=dec_not h;have e0:=afE B a4 g;have d0:=aiF after;show m-(dd after).length<m-(dd num).length;omega
 ·rintro _ ⟨l,hl,rfl⟩;exact aZ0 hl
end
theorem Lu (n:Nat): ∀r,(kV n r).Pairwise λ a b=>cmpL a b<0
 |0=>abR ..
 |r+1=>by
  have d:=Lu n r;unfold kV;refine List.pairwise_flatMap.2 ⟨λ i _=>acQ.2 (d.imp λ{a b} h=> ?_),List.pairwise_lt_range.imp λ{i j} h x e y f=> ?_⟩
  ·rw[uX];simpa using h
  ·obtain⟨a,_,rfl⟩:=aaB.1 e;obtain⟨b,_,rfl⟩:=aaB.1 f;rw[uX,decide_eq_false (by omega)];unfold Gm;rw[fE (by omega)];show(-1:Int)<0;omega
theorem afA {f g:Int} {l k:LI} (h:f<g\/f=g/\cmpL l k<=0):uY (f,l,0) (g,k,0)<=0:=by
 unfold uY;dsimp only;rcases h with h|⟨rfl,h⟩
 ·rw[decide_eq_false (by omega)];unfold Gm;rw[fE h];show(-1:Int)<=0;omega
 ·rw[fE rfl];by_cases e:cmpL l k=0
  ·rw[e];exact acW 0
  ·rw[decide_eq_false e];exact h
def NO (m:Nat) (num order:LI):Prop:=num.length=m/\(∀(i:Nat) (s:Int),order[i]? =some s ↔ bC (m:Int) s/\iat num s=(i:Int))/\ ∀v∈num,-1<=v
section
variable {al:LI} {m:Nat} {num num' order ex l:LI} {rs:LR} {s t:Int}
theorem NO.get (h:NO m num order) {q:Int} (d:bC (order.length:Int) q):bC (m:Int) (iat order q)/\iat num (iat order q)=q:=by
 have e:q.toNat<order.length:=by have:=d.1;have:=d.2;omega
 have:=(h.2.1 q.toNat (iat order q)).1 (by rw[aac e,sV e]);exact⟨this.1,by rw[this.2];exact abI d.1⟩
theorem NO.lt (h:NO m num order) (hs:bC (m:Int) s) (d:0<=iat num s):bC (order.length:Int) (iat num s)/\iat order (iat num s)=s:=by
 have:=(h.2.1 (iat num s).toNat s).2 ⟨hs,by omega⟩;have e:=(aad.1 this).1;exact⟨⟨d,by omega⟩,l9 this⟩
theorem NO.inj (h:NO m num order) (hs:bC (m:Int) s) (d:bC (m:Int) t) (f:0<=iat num s) (e:iat num s=iat num t):s=t:=by
 rw[←(h.lt hs f).2,←(h.lt d (by omega)).2,e]
theorem NO.len (h:NO m num order):order.length<=m:=by
 have:=LD (S:=(m:Int)) (l:=order) ?_ λ q f=> ?_
 ·simpa using this
 ·refine aaR.2 λ i j d g k e=> ?_;have a:=((h.2.1 i _).1 (aac d)).2;have b:=((h.2.1 j _).1 (aac g)).2;rw[e]at a;omega
 ·obtain⟨i,d,rfl⟩:=aaz f;exact((h.2.1 i _).1 (aac d)).1
theorem NO.zero:NO m (List.replicate m (-1)) []:=by
 refine⟨by simp,λ i s=>⟨λ h=>by simp at h,λ⟨h,e⟩=> ?_⟩,λ v hv=>by rw[(acL.1 hv).2];omega⟩;rw[l9 (v:= -1)]at e
 ·omega
 ·rw[abp,if_pos (by have:=h.1;have:=h.2;omega)]
theorem NO.push (h:NO m num order) (hs:bC (m:Int) s) (p:iat num s<0):NO m (num.set s.toNat (order.length:Int)) (order++[s]):=by
 have d:s.toNat<num.length:=by have:=h.1;have:=hs.1;have:=hs.2;omega
 refine⟨by simpa using h.1,λ i t=>⟨λ f=> ?_,λ⟨k,g⟩=> ?_⟩,λ v hv=>(abv hv).elim (h.2.2 v) λ e=>by omega⟩
 ·rcases Vk f with f|⟨rfl,rfl⟩
  ·obtain⟨l,g2⟩:=(h.2.1 i t).1 f;refine⟨l,?_⟩;rw[Ir d hs.1 l.1,if_neg (by rintro rfl;omega)];exact g2
  ·exact⟨hs,by rw[Ir d hs.1 hs.1,if_pos rfl]⟩
 ·rw[Ir d hs.1 k.1]at g;split at g
  ·rename_i e;subst e;have:i=order.length:=by omega
   subst this;simp
  ·have:=(h.2.1 i t).2 ⟨k,g⟩;rw[aaw (aad.1 this).1];exact this
theorem NO.ext (h:NO m num order) (d:NO m num' (order++ex)):aiz (m:Int) num num' (order.length:Int):=by
 refine λ s hs=>⟨λ e=> ?_,λ f=> ?_⟩
 ·have a:=(h.2.1 (iat num s).toNat s).2 ⟨hs,by omega⟩;have b:=((d.2.1 (iat num s).toNat s).1 (by rw[aaw (aad.1 a).1];exact a)).2;omega
 ·apply aaP;intro g;have a:=(d.2.1 (iat num' s).toNat s).2 ⟨hs,by omega⟩;rw[aaw (by omega)]at a;have:=((h.2.1 _ s).1 a).2;omega
theorem NO.from (h:NO m num order) (p:NO m num' (order++ex)) {r:Nat} (i:l∈kV order.length r):l.map (iat (order++ex))∈kV m r/\(l.map (iat (order++ex))).map (iat num)=l/\ ∀x∈l.map (iat (order++ex)),0<=iat num x:=by
 obtain⟨k,f⟩:=dP.1 i
 have e: ∀q∈l,iat (order++ex) q=iat order q:=λ q d=>by
  obtain⟨q0,q1⟩:=f q d;unfold iat;rw[aaw (by omega)]
 refine⟨dP.2 ⟨by simpa using k,λ x g=> ?_⟩,?_,λ x g=> ?_⟩
 ·obtain⟨q,d,rfl⟩:=aaB.1 g;rw[e q d];exact(h.get (f q d)).1
 ·rw[abM];exact(acj λ q d=>by show iat num (iat (order++ex) q)=id q;rw[e q d];exact(h.get (f q d)).2).trans (List.map_id l)
 ·obtain⟨q,d,rfl⟩:=aaB.1 g;rw[e q d,(h.get (f q d)).2];exact(f q d).1
theorem NO.uniq (h:NO m num order) {k d:LI} (g: ∀x∈k,bC (m:Int) x/\0<=iat num x) (i: ∀x∈d,bC (m:Int) x/\0<=iat num x) (e:k.map (iat num)=d.map (iat num)):k=d:=by
 have f: ∀k:LI,(∀x∈k,bC (m:Int) x/\0<=iat num x)->(k.map (iat num)).map (iat order)=k:=λ k g=>by
  rw[abM];exact(acj λ x l=>(h.lt (g x l).1 (g x l).2).2).trans (List.map_id k)
 rw[←f k g,e,f d i]
def Rnd (rs:LR) (m:Nat) (num order:LI) (Vis:Int->LI->Prop) (num' ex:LI):Prop:=
 NO m num' (order++ex)/\(∀r∈rs,(∀x∈r.2.1,0<=iat num x)->Vis r.1 (r.2.1.map (iat num))->0<=iat num' r.2.2)/\
 ∀j:Nat,order.length<=j->j<order.length+ex.length-> ∃r∈rs,iat num' r.2.2=(j:Int)/\(∀x∈r.2.1,0<=iat num x)/\ ∀d∈rs,(∀x∈d.2.1,0<=iat num x)->(iat num' d.2.2<0\/(j:Int)<=iat num' d.2.2)->uY (r.1,r.2.1.map (iat num),0) (d.1,d.2.1.map (iat num),0)<=0
theorem Rnd.mono {Vis d:Int->LI->Prop} (h:Rnd rs m num order Vis num' ex) (hv: ∀r∈rs,(∀x∈r.2.1,0<=iat num x)->d r.1 (r.2.1.map (iat num))->Vis r.1 (r.2.1.map (iat num))):Rnd rs m num order d num' ex:=
 ⟨h.1,λ r f g e=>h.2.1 r f g (hv r f g e),h.2.2⟩
theorem Rnd.nil (h:NO m num order):Rnd rs m num order (λ _ _=>False) num []:=⟨by rw[aaM];exact h,λ _ _ _ h=>h.elim,λ j e d=>by simp at d;omega⟩
theorem Rnd.skip {Vis:Int->LI->Prop} {f:Int} (h:Rnd rs m num order Vis num' ex) (k: ∀r∈rs,(∀x∈r.2.1,0<=iat num x)->r.1=f->r.2.1.map (iat num)=l->0<=iat num' r.2.2):
 Rnd rs m num order (λ d e=>Vis d e\/d=f/\e=l) num' ex:=
 ⟨h.1,λ r g i hv=>hv.elim (h.2.1 r g i) λ⟨p,q⟩=>k r g i p q,h.2.2⟩
theorem Rnd.add {Vis:Int->LI->Prop} {f:Int} (g: ∀r∈rs,bC (m:Int) r.2.2) (h:Rnd rs m num order Vis num' ex) (hs:bC (m:Int) s) (E:iat num' s<0) (L: ∃r∈rs,r.1=f/\r.2.1.map (iat num)=l/\r.2.2=s/\ ∀x∈r.2.1,0<=iat num x)
 (A: ∀r∈rs,(∀x∈r.2.1,0<=iat num x)->r.1=f->r.2.1.map (iat num)=l->r.2.2=s)
 (p: ∀r∈rs,(∀x∈r.2.1,0<=iat num x)-> ¬Vis r.1 (r.2.1.map (iat num))->uY (f,l,0) (r.1,r.2.1.map (iat num),0)<=0):
 Rnd rs m num order (λ G I=>Vis G I\/G=f/\I=l) (num'.set s.toNat ((order++ex).length:Int)) (ex++[s]):=by
 have M:=h.1.push hs E;have N:s.toNat<num'.length:=by have:=h.1.1;have:=hs.1;have:=hs.2;omega
 have d: ∀t,bC (m:Int) t->iat (num'.set s.toNat ((order++ex).length:Int)) t=if t=s then((order++ex).length:Int)else iat num' t:=λ t A=>Ir N hs.1 A.1;refine⟨by rw[←aaD];exact M,λ r q K hv=> ?_,λ j O Q=> ?_⟩
 ·rw[d _ (g r q)];split
  ·omega
  ·rename_i e;exact hv.elim (h.2.1 r q K) λ⟨R,S⟩=>absurd (A r q K R S) e
 ·by_cases B:j<order.length+ex.length
  ·obtain⟨r,v,z,C,D⟩:=h.2.2 j O B;refine⟨r,v,?_,C,λ i k u y=>D i k u ?_⟩
   ·rw[d _ (g r v),if_neg (by rintro e;rw[e]at z;omega)];exact z
   ·rw[d _ (g i k)]at y;split at y
    ·rename_i e;rw[e];exact .inl E
    ·exact y
  ·have B:j=(order++ex).length:=by simp at Q ⊢;omega
   subst B;obtain⟨r,v,z,C,D,U⟩:=L;refine⟨r,v,by rw[d _ (g r v),if_pos D],U,λ i k u y=> ?_⟩;rw[z,C];by_cases e:i.2.2=s
   ·refine p i k u λ hv=> ?_;have:=h.2.1 i k u hv;rw[e]at this;omega
   ·rw[d _ (g i k),if_neg e]at y;refine p i k u λ hv=> ?_;have W:=h.2.1 i k u hv;have Y:=(h.1.lt (g i k) W).1.2;omega
theorem Rnd.next (d: ∀r∈rs,bC (m:Int) r.2.2/\ ∀q∈r.2.1,bC (m:Int) q) (g:NO m num order) (i:RnI rs num (order.length:Int)) (h:Rnd rs m num order (λ _ _=>True) num' ex) (e:ex≠[]):RnI rs num' ((order++ex).length:Int):=by
 have C:=List.length_pos_iff.2 e;refine OO d (by omega) (by simp;omega) (λ s hs=> ?_) i (g.ext h.1) (λ j k f=> ?_) λ r l k f=>h.2.1 r l f trivial
 ·rcases acs (iat num s) 0 with h|h
  ·omega
  ·exact(g.lt hs h).1.2
 ·obtain⟨r,p,t,u,v⟩:=h.2.2 j (by omega) (by simp at f;omega);exact⟨r,p,t,u,λ y z _ A B=>v y z A B⟩
theorem aeu:RnI rs num 0:=⟨λ _=>0,rfl,λ n d=>by omega,λ n d=>by omega⟩
end
section
variable {In:Nat->Ah->Option Bool} {So:Nat->LR->Option (LR)} {Ls:Nat->Ac->Option (LL)} {Mk:Nat->Aa->Option ahb} {Ne:Nat->AI->Option Int}
def adv (m:Nat) (fin:LI) (rs:LR) (M:Aut):Prop:= ∃num order:LI,NO m num order/\M.1=(order.length:Int)/\(∀r∈rs,(∀s∈r.2.1,0<=iat num s)->0<=iat num r.2.2)/\RnI rs num M.1/\Img (iat num) rs M.2.2/\
 (∀q,q∈M.2.1 ↔ ∃(k:Nat) (s:Int),q=(k:Int)/\order[k]? =some s/\s∈fin)/\(M.2.1.Pairwise λ a b=>a<b)/\M.2.2.Pairwise λ a b=>uY a b<0
def Vis (al:LI) (n f j:Nat) (d:Int) (e:LI):Prop:=d<(f:Int)\/d=(f:Int)/\ ∃a:Nat,al[f]? =some (a:Int)/\e∈(kV n a).take j
theorem aha {al:LI} {n f j a:Nat} {l:LI} (q:al[f]? =some (a:Int)) (k:(kV n a)[j]? =some l) {g a':Nat} {m:LI} (d:al[g]? =some (a':Int)) (p:m∈kV n a') (hv: ¬Vis al n f j (g:Int) m):uY ((f:Int),l,0) ((g:Int),m,0)<=0:=by
 apply afA;rcases acg f g with h|rfl|h
 ·exact .inl (by omega)
 ·refine .inr ⟨rfl,?_⟩;have:a'=a:=by rw[q]at d;have:=aak d;omega
  subst this;obtain⟨i,t,rfl⟩:=aaz p;rcases acg i j with h|rfl|h
  ·exact absurd (.inr ⟨rfl,a',q,List.mem_take_iff_getElem.2 ⟨i,by omega,rfl⟩⟩) hv
  ·rw[aac t]at k;rw[aak k,Gn];omega
  ·obtain⟨u,e⟩:=aad.1 k;have:=aaR.1 (Lu n a') j i u t h;rw[e]at this;omega
 ·exact absurd (.inl (by omega)) hv
theorem FH.st {al:LI} {m:Nat} {r:Rule} (h:FH al m r):bC (m:Int) r.2.2/\ ∀q∈r.2.1,bC (m:Int) q:=by
 obtain⟨f,a,_,_,d,e⟩:=h;exact⟨e,(dP.1 d).2⟩
theorem aes {al:LI} {m:Nat} {rs:LR} {num order num' ex:LI} {f j a:Nat} {l:LI} (D: ∀r∈rs,FH al m r) (E:Det rs) (A:NO m num order) (h:Rnd rs m num order (Vis al order.length f j) num' ex) (G:al[f]? =some (a:Int)) (B:(kV order.length a)[j]? =some l) {to:Int} (z:QT rs (f:Int) (l.map (iat (order++ex))) to):
 (¬(0<=to/\iat num' to<0)->Rnd rs m num order (Vis al order.length f (j+1)) num' ex)/\(0<=to->iat num' to<0->bC (m:Int) to/\Rnd rs m num order (Vis al order.length f (j+1)) (num'.set to.toNat ((order++ex).length:Int)) (ex++[to])):=by
 obtain⟨N,I,K⟩:=A.from h.1 (aaj B);have i: ∀r∈rs,bC (m:Int) r.2.2/\ ∀q∈r.2.1,bC (m:Int) q:=λ r h=>(D r h).st;have k: ∀r∈rs,(∀x∈r.2.1,0<=iat num x)->r.2.1.map (iat num)=l->r.2.1=l.map (iat (order++ex)):=λ r d p e=>A.uniq (λ x t=>⟨(i r d).2 x t,p x t⟩) (λ x t=>⟨(dP.1 N).2 x t,K x t⟩) (e.trans I.symm)
 have u: ∀r∈rs,(∀x∈r.2.1,0<=iat num x)->Vis al order.length f (j+1) r.1 (r.2.1.map (iat num))->Vis al order.length f j r.1 (r.2.1.map (iat num))\/r.1=(f:Int)/\r.2.1.map (iat num)=l:=λ r _ _ hv=>by
  rcases hv with h|⟨d,b,p,e⟩
  ·exact .inl (.inl h)
  ·have:b=a:=by rw[G]at p;have:=aak p;omega
   subst this;rw[aau,B]at e;rcases aap.1 e with e|e
   ·exact .inl (.inr ⟨d,b,p,e⟩)
   ·exact .inr ⟨d,by simpa using e⟩
 constructor
 ·intro L;refine(h.skip (f:=(f:Int)) (l:=l) λ r d p e C=> ?_).mono u;have M:=k r d p C;rcases z with⟨_,g⟩|⟨v,y,g2,g3,g4⟩
  ·exact absurd ⟨e,M⟩ (g r d)
  ·have:=E r d v y (e.trans g2.symm) (M.trans g3.symm);rw[this,g4];have:=(i v y).1.1;omega
 ·intro U L;rcases z with⟨g,_⟩|⟨v,y,g2,g3,g4⟩
  ·omega
  ·have hs:=(i v y).1;rw[g4]at hs;refine⟨hs,(h.add (λ r h=>(i r h).1) (f:=(f:Int)) (l:=l) hs L ⟨v,y,g2,by rw[g3];exact I,g4,by rw[g3];exact K⟩ (λ r d p e C=> ?_) (λ r d p hv=> ?_)).mono u⟩
   ·rw[←g4];exact E r d v y (e.trans g2.symm) ((k r d p C).trans g3.symm)
   ·obtain⟨W,a',O,Q,R,_⟩:=D r d;rw[Q]at hv ⊢;refine aha G B O (dP.2 ⟨by simpa using(dP.1 R).1,λ q S=> ?_⟩) hv;obtain⟨x,t,rfl⟩:=aaB.1 S;exact(A.lt ((i r d).2 x t) (p x t)).1
theorem aeN {al:LI} {m:Nat} {rs:LR} {num order num' ex:LI} {f a:Nat} (l: ∀r∈rs,FH al m r) (p:NO m num order) (d:al[f]? =some (a:Int)) (h:Rnd rs m num order (Vis al order.length f (kV order.length a).length) num' ex):Rnd rs m num order (Vis al order.length (f+1) 0) num' ex:=by
 refine h.mono λ r t u hv=> ?_;rcases hv with hv|⟨_,_,_,hv⟩
 ·obtain⟨v,a',g,y,i,_⟩:=l r t;by_cases e:v=f
  ·subst e;have:a'=a:=by rw[d]at g;have:=aak g;omega
   subst this;refine .inr ⟨y,a',d,?_⟩;rw[aat];refine dP.2 ⟨by simpa using(dP.1 i).1,λ q z=> ?_⟩;obtain⟨x,k,rfl⟩:=aaB.1 z;exact(p.lt ((dP.1 i).2 x k) (u x k)).1
  ·exact .inl (by omega)
 ·simp at hv
theorem ag9 {al:LI} {m:Nat} {rs:LR} {num order num' ex:LI} (d: ∀r∈rs,FH al m r) (h:Rnd rs m num order (Vis al order.length al.length 0) num' ex):Rnd rs m num order (λ _ _=>True) num' ex:=by
 refine h.mono λ r e g _=> .inl ?_;obtain⟨i,a',f,k,_⟩:=d r e;have:=(aad.1 f).1;omega
theorem zO {l:LI} {f:Int->Int} {i:Nat} (h:i<l.length):(l.take i).map f++[f l[i]]=(l.take (i+1)).map f:=by
 rw[aau,aac h,abr];rfl
theorem Vt (al:LI) (m:Nat) (fin:LI) (rs:LR) (a7:F9 al) (hm:m<=301) (c8:fin.length<=1000000000) (c9:rs.length<=1000000000) (Y: ∀r∈rs,FH al m r) (hd:Det rs)
 (P:LL->Prop) (d0:Sp Mk (al,(m:Int),fin,rs) (λ t=>t.1=(m:Int)/\P t.2))
 (d1: ∀(p:LL) (f a:Nat) (l:LI),P p->al[f]? =some (a:Int)->l∈kV m a->Sp Ne ((m:Int),p,(f:Int),l) (λ v=>QT rs (f:Int) l v))
 (d2: ∀(l:LI) (v:Int),l.length<=1000000000->Sp In (l,v) (λ b=>b=true ↔ v∈l))
 (d3: ∀x:LR,x.length<=1000000000->(∀r∈x,r.2.1.length<=1000)->(∀r∈x,∀r'∈x,r.1=r'.1->r.2.1.length=r'.2.1.length)->Sp So x (λ r:LR=>(∀y,y∈r ↔ y∈x)/\r.Pairwise λ a b=>uY a b<0))
 (d4: ∀N r:Nat,N<=301->r<=3->Sp Ls ((N:Int),(r:Int)) (λ l=>l=kV N r)):
 Sp (λ n=>aP.P (In n) (So n) (Ls n) (Mk n) (Ne n) n) (al,(m:Int),fin,rs) (adv m fin rs):=by
 have d5:=a7.1;show Tt (λ n=>aP.P (In n) (So n) (Ls n) (Mk n) (Ne n) n (al,(m:Int),fin,rs)) _;unfold aP.P;dsimp only;refine aZ1 d0 λ t ht=> ?_;obtain⟨t1,p⟩:=t;obtain⟨B,hP⟩:=ht;dsimp only at B hP ⊢;subst B;refine aX0 (tY (by omega) (by omega)) ?_;rw[aal,abB]
 refine aZ1 (R:=λ x=> ∃num:LI,num=List.replicate m (-1)/\x=(al,(m:Int),fin,rs,(0:Int),([]:LI),([]:LR),(m:Int),p,num))
  (aZ8 (aZ6 m (λ i s=> ∃num:LI,num.length=m/\(∀k,k<i->num[k]? =some (-1))/\s=(al,(m:Int),fin,rs,(0:Int),([]:LI),([]:LR),(m:Int),p,num,(m:Int),(i:Int))) ?_ ?_ ⟨List.replicate m 0,by simp,λ k hk=>absurd hk (by omega),rfl⟩)) ?_
 ·rintro i s O ⟨num,hn,hv,rfl⟩;unfold aP.L1;dsimp only;refine aY1 (by omega) (aZ9 (rng (by omega) (by omega)) ?_);rw[aal];refine aY6 (by omega) λ e _ _=>aZ2 ⟨num.set i (-1),by simpa using hn,λ k hk=> ?_,by rw[ak (by omega)]⟩;rw[aaU];by_cases h:i=k
  ·subst h;simp[hn,O]
  ·simp[h];exact hv k (by omega)
 ·rintro s ⟨num,hn,hv,rfl⟩;unfold aP.L1;dsimp only;refine aY3 (by omega) (aZ4 ⟨num,aaT λ k=> ?_,rfl⟩);rw[abp];split
  ·exact hv k (by assumption)
  ·exact aai (by omega)
 rintro _ ⟨_,rfl,rfl⟩;dsimp only
 refine aZ1 (R:=λ x=> ∃num order:LI,NO m num order/\(∀r∈rs,(∀s∈r.2.1,0<=iat num s)->0<=iat num r.2.2)/\RnI rs num (order.length:Int)/\x=((m:Int),fin,rs,(0:Int),([]:LI),([]:LR),num,order))
  (aZ8 (aX1 (λ s=> ∃num order:LI,NO m num order/\RnI rs num (order.length:Int)/\s=(al,(m:Int),fin,rs,(0:Int),([]:LI),([]:LR),(m:Int),p,num,order)) (λ s=>m-s.2.2.2.2.2.2.2.2.2.2.length) ?_ ⟨_,[],.zero,aeu,rfl⟩)) ?_
 ·rintro s ⟨num,order,G,a4,rfl⟩;unfold aP.L5;dsimp only
  have d7: ∀r∈rs,Vis al order.length 0 0 r.1 (r.2.1.map (iat num))->False:=λ r B hv=>by
   rcases hv with hv|⟨_,_,_,hv⟩
   ·obtain⟨f',_,_,b2,_⟩:=Y r B;omega
   ·simp at hv
  have d8:order.length<=m:=G.len
  refine aZ5 (R:=λ x=> ∃num' ex:LI,Rnd rs m num order (λ _ _=>True) num' ex/\x=(al,(m:Int),fin,rs,(0:Int),([]:LI),([]:LR),(m:Int),p,num',order++ex,(order.length:Int)))
   (aZ8 (aZ6 al.length (λ f s=> ∃num' ex:LI,Rnd rs m num order (Vis al order.length f 0) num' ex/\s=(al,(m:Int),fin,rs,(0:Int),([]:LI),([]:LR),(m:Int),p,num',order++ex,(order.length:Int),al,(al.length:Int),(f:Int))) ?_ ?_ ⟨num,[],(Rnd.nil G).mono (λ r B d hv=>d7 r B hv),by rw[aaM];rfl⟩)) ?_
  ·rintro f s Z ⟨u,K,D,rfl⟩;unfold aP.L4;dsimp only;obtain⟨r,b6,b7⟩:=a7.rank Z;have a8:al[f]? =some (r:Int):=by rw[aac Z,b7]
   have b8:=tC (n:=order.length) (r:=r) (by omega) b6;have f6:=ru order.length r;refine aY1 (by omega) (aY Z ?_);rw[b7];refine aZ5 (d4 order.length r (by omega) b6) λ ls d9=> ?_;subst d9
   refine aZ5 (R:=λ x=> ∃num' ex:LI,Rnd rs m num order (Vis al order.length f (kV order.length r).length) num' ex/\x=(al,(m:Int),fin,rs,(0:Int),([]:LI),([]:LR),(m:Int),p,num',order++ex,(order.length:Int),al,(al.length:Int),(f:Int)))
    (aZ8 (aZ6 (kV order.length r).length (λ j s=> ∃num' ex:LI,Rnd rs m num order (Vis al order.length f j) num' ex/\s=(al,(m:Int),fin,rs,(0:Int),([]:LI),([]:LR),(m:Int),p,num',order++ex,(order.length:Int),(f:Int),al,(al.length:Int),(f:Int),kV order.length r,((kV order.length r).length:Int),(j:Int))) ?_ ?_ ⟨u,K,D,rfl⟩)) ?_
   ·rintro j s hj ⟨z,A,E,rfl⟩;unfold aP.L3;dsimp only;have c0:(order++A).length<=m:=E.1.len;have f7:order.length<=(order++A).length:=by simp
    refine aY1 (by omega) (aZ9 (rng (by omega) (by omega)) ?_);rw[aal];refine aY6 hj λ l c1 e0=> ?_;obtain⟨f8,e1⟩:=dP.1 c1
    refine aZ5 (R:=λ x=> ∃C:LI,C=l.map (iat (order++A))/\x=(al,(m:Int),fin,rs,(0:Int),([]:LI),([]:LR),(m:Int),p,z,order++A,(order.length:Int),(f:Int),C,al,(al.length:Int),(f:Int),kV order.length r,((kV order.length r).length:Int),(j:Int)))
     (aZ8 (aZ6 l.length (λ i s=> ∃C:LI,C=(l.take i).map (iat (order++A))/\s=(al,(m:Int),fin,rs,(0:Int),([]:LI),([]:LR),(m:Int),p,z,order++A,(order.length:Int),(f:Int),C,al,(al.length:Int),(f:Int),kV order.length r,((kV order.length r).length:Int),(j:Int),l,(l.length:Int),(i:Int))) ?_ ?_ ⟨[],by simp,rfl⟩)) ?_
    ·rintro i s O ⟨_,rfl,rfl⟩;unfold aP.L2;dsimp only;have hq:=e1 _ (aaf O);refine aY1 (by omega) (aY O (aZ9 (rng hq.1 (by have:=hq.2;omega)) ?_));refine aY6 (by have:=hq.1;have:=hq.2;omega) λ e f9 Q=>aZ9 (jS (by simp;omega)) (aZ2 ⟨_,zO O,by rw[ak (by omega),l9 Q];rfl⟩)
    ·rintro s ⟨_,rfl,rfl⟩;unfold aP.L2;dsimp only;rw[aat];exact aY3 (by omega) (aZ4 ⟨_,rfl,rfl⟩)
    rintro _ ⟨_,rfl,rfl⟩;dsimp only;refine aZ5 (d1 p f r _ hP a8 (G.from E.1 c1).1) λ to c2=> ?_;obtain⟨c3,c4⟩:=aes Y hd G E a8 e0 c2;refine aZ5 (R:=λ x=> ∃b:Bool,(b=true ↔ 0<=to/\iat z to<0)/\x=(al,(m:Int),fin,rs,(0:Int),([]:LI),([]:LR),(m:Int),p,z,order++A,(order.length:Int),(f:Int),to,al,(al.length:Int),(f:Int),kV order.length r,((kV order.length r).length:Int),(j:Int),b)) ?_ ?_
    ·refine aY4 (λ h=> ?_) (λ h=>aZ0 ⟨false,⟨λ h=>(by cases h),λ h'=>absurd h'.1 (of_decide_eq_false h)⟩,rfl⟩);have h0:=iy h
     have I:bC (m:Int) to:=by
      rcases c2 with⟨h,_⟩|⟨r0,g1,_,_,g4⟩
      ·omega
      ·rw[←g4];exact(Y r0 g1).st.1
     have c5:=E.1.1;refine aX0 (rng h0 (by have:=I.2;omega)) (aX8 (by have:=I.2;omega) λ e _ Q=>aZ0 ⟨_,⟨λ hb=>⟨h0,by rw[l9 Q];exact iy hb⟩,λ hb=> ?_⟩,rfl⟩);rw[l9 Q]at hb;exact fE hb.2
    rintro _ ⟨b,hb,rfl⟩;dsimp only;refine aY2 (λ b0=> ?_) (λ S=>aZ3 (aZ2 ⟨z,A,c3 λ h=>(by rw[hb.2 h]at S;cases S),by rw[ak (by omega)]⟩));obtain⟨e3,e4⟩:=hb.1 b0;obtain⟨I,a6⟩:=c4 e3 e4;have c5:=E.1.1;refine aY0 (rng I.1 (by have:=I.2;omega)) (aY5 (aY6 (by have:=I.1;have:=I.2;omega) λ e _ _=> ?_));refine aY0 (jS (by simp at c0 ⊢;omega)) (aZ3 (aZ2 ⟨_,_,a6,by rw[ak (by omega),←aaD];rfl⟩))
   ·rintro s ⟨z,A,E,rfl⟩;unfold aP.L3;dsimp only;exact aY3 (by omega) (aZ4 ⟨z,A,E,rfl⟩)
   ·rintro _ ⟨z,A,E,rfl⟩;dsimp only;exact aZ2 ⟨z,A,aeN Y G a8 E,by rw[ak (by omega)]⟩
  ·rintro s ⟨u,K,D,rfl⟩;unfold aP.L4;dsimp only;exact aY3 (by omega) (aZ4 ⟨u,K,ag9 Y D,rfl⟩)
  ·rintro _ ⟨u,K,D,rfl⟩;dsimp only;refine aY9 (λ h=> ?_) (λ h=>aZ2 ⟨⟨u,order++K,D.1,D.next (λ r h=>(Y r h).st) G a4 ?_,rfl⟩,?_⟩)
   ·have h:=iy h;have Q:K= []:=aax (by simp at h;omega);subst Q;have U:=D.1;have hE:=G.ext D.1;rw[aaM]at U
    have e6: ∀s,bC (m:Int) s->iat u s<0\/iat u s=iat num s/\0<=iat num s:=λ s hs=>by
     rcases acs (iat num s) 0 with h|h
     ·rcases(hE s hs).2 h with d|d
      ·exact .inl d
      ·have:=(U.lt hs (by omega)).1.2;omega
     ·exact .inr ⟨(hE s hs).1 h,h⟩
    have b8:u=num:=by
     refine acI (by rw[U.1,G.1]) λ i B d=> ?_;have a6:bC (m:Int) (i:Int):=⟨by omega,by have:=G.1;omega⟩;have a1:=qV U.1 (k:=i) (by have:=G.1;omega);have a2:=qV G.1 (k:=i) (by have:=G.1;omega);rw[aac B]at a1;rw[aac d]at a2;have a1:=aak a1;have a2:=aak a2;have b1:=U.2.2 _ (aaf B);have b2:=G.2.2 _ (aaf d);rcases e6 (i:Int) a6 with h|h
     ·rcases acs (iat num (i:Int)) 0 with L|L
      ·omega
      ·have:=(hE _ a6).1 L;omega
     ·omega
    subst b8;rw[aaM];exact aZ4 ⟨u,order,G,λ r M hx=>D.2.1 r M hx trivial,a4,rfl⟩
   ·rintro rfl;have h:=dec_not h;simp at h
   ·have h:=dec_not h;have d:=D.1.len;dsimp only;simp only[aaq]at h d ⊢;omega
 rintro _ ⟨num,order,G,e9,a4,rfl⟩;dsimp only;have d8:order.length<=m:=G.len;have c5:=G.1
 refine aZ1 (R:=λ x=> ∃fin':LI,((∀q,q∈fin' ↔ ∃(k:Nat) (s:Int),q=(k:Int)/\order[k]? =some s/\s∈fin)/\fin'.Pairwise λ a b=>a<b)/\x=((m:Int),fin,rs,(0:Int),([]:LI),([]:LR),num,(order.length:Int),fin',([]:LR)))
  (aZ8 (aZ6 order.length (λ i s=> ∃fin':LI,(fin'.length<=i/\(∀q,q∈fin' ↔ ∃(k:Nat) (s:Int),k<i/\q=(k:Int)/\order[k]? =some s/\s∈fin)/\fin'.Pairwise λ a b=>a<b)/\s=((m:Int),fin,rs,(0:Int),([]:LI),([]:LR),num,order,(order.length:Int),fin',([]:LR),(order.length:Int),(i:Int))) ?_ ?_ ⟨[],⟨by simp,λ q=>⟨λ h=>(by cases h),λ⟨k,_,h,_⟩=>absurd h (by omega)⟩,.nil⟩,rfl⟩)) ?_
 ·rintro i s O ⟨fin',⟨Z,hm,hp⟩,rfl⟩;unfold aP.L6;dsimp only;refine aY1 (by omega) (aZ9 (rng (by omega) (by omega)) ?_);rw[aal];refine aY6 O λ e _ Q=>aZ5 (d2 fin e c8) λ b hb=>aY2 (λ b0=> ?_) (λ S=> ?_)
  ·refine aY0 (jS (by simp;omega)) (aZ3 (aZ2 ⟨fin'++[(i:Int)],⟨by simp;omega,λ q=> ?_,abZ.2 ⟨hp,abR ..,λ a ha b f0=> ?_⟩⟩,by rw[ak (by omega)];rfl⟩))
   ·rw[aap,hm q,aah];constructor
    ·rintro(⟨k,s,B,d⟩|rfl)
     ·exact⟨k,s,by omega,d⟩
     ·exact⟨i,e,by omega,rfl,Q,hb.1 b0⟩
    ·rintro⟨k,s,B,d,L,h4⟩;by_cases hk:k=i
     ·subst hk;exact .inr d
     ·exact .inl ⟨k,s,by omega,d,L,h4⟩
   ·rw[aah.1 f0];obtain⟨k,_,B,d,_⟩:=(hm a).1 ha;omega
  ·refine aZ3 (aZ2 ⟨fin',⟨by omega,λ q=> ?_,hp⟩,by rw[ak (by omega)]⟩);rw[hm q];refine⟨λ⟨k,s,B,d⟩=>⟨k,s,by omega,d⟩,λ⟨k,s,B,d,L,h4⟩=>⟨k,s,?_,d,L,h4⟩⟩;apply aaP;intro hk;have:k=i:=by omega
   subst this;rw[Q]at L;have:=aak L;subst this;rw[hb.2 h4]at S;cases S
 ·rintro s ⟨fin',⟨Z,hm,hp⟩,rfl⟩;unfold aP.L6;dsimp only;refine aY3 (by omega) (aZ4 ⟨fin',⟨λ q=> ?_,hp⟩,rfl⟩);rw[hm q];exact⟨λ⟨k,s,_,d⟩=>⟨k,s,d⟩,λ⟨k,s,B,d,L⟩=>⟨k,s,(aad.1 d).1,B,d,L⟩⟩
 rintro _ ⟨fin',Z,rfl⟩;dsimp only
 have W: ∀r∈rs,r.2.1.length<=3:=λ r M=>by
  obtain⟨f,a,B,_,d,_⟩:=Y r M;obtain⟨L,h4⟩:=dP.1 d;obtain⟨Z,Q⟩:=aad.1 B;obtain⟨a',g5,e'⟩:=a7.rank Z;omega
 refine aZ1 (R:=λ x=>x=((0:Int),([]:LI),([]:LR),(order.length:Int),fin',rs.map λ r=>(r.1,r.2.1.map (iat num),iat num r.2.2)))
  (aZ8 (aZ6 rs.length (λ i s=>s=((0:Int),([]:LI),([]:LR),num,(order.length:Int),fin',(rs.take i).map (λ r=>(r.1,r.2.1.map (iat num),iat num r.2.2)),rs,(rs.length:Int),(i:Int))) ?_ ?_ (by simp))) ?_
 ·rintro i s O rfl;unfold aP.L8;dsimp only;obtain⟨f,a,B,d,L,h4⟩:=Y _ (aaf O);obtain⟨h5,h6⟩:=dP.1 L;have h7:=W _ (aaf O);refine aY1 (by omega) (aY O (aZ9 (rng h4.1 (by have:=h4.2;omega)) (aY6 (by have:=h4.1;have:=h4.2;omega) λ e _ Q=> ?_)))
  refine aZ5 (R:=λ x=>x=((0:Int),([]:LI),([]:LR),num,(order.length:Int),fin',(rs.take i).map (λ r=>(r.1,r.2.1.map (iat num),iat num r.2.2)),rs[i].1,rs[i].2.1.map (iat num),e,rs,(rs.length:Int),(i:Int)))
   (aZ8 (aZ6 rs[i].2.1.length (λ j s=>s=((0:Int),([]:LI),([]:LR),num,(order.length:Int),fin',(rs.take i).map (λ r=>(r.1,r.2.1.map (iat num),iat num r.2.2)),rs[i].1,(rs[i].2.1.take j).map (iat num),e,rs,(rs.length:Int),(i:Int),rs[i].2.1,((rs[i].2.1.length:Nat):Int),(j:Int))) ?_ ?_ (by simp))) ?_
  ·rintro j s hj rfl;unfold aP.L7;dsimp only;have hq:=h6 _ (aaf hj);refine aY1 (by omega) (aY hj (aZ9 (rng hq.1 (by have:=hq.2;omega)) (aY6 (by have:=hq.1;have:=hq.2;omega) λ e' _ f1=> ?_)));exact aZ9 (jS (by simp;omega)) (aZ2 (by rw[ak (by omega),←l9 f1,←zO hj];rfl))
  ·rintro s rfl;unfold aP.L7;dsimp only;rw[aat];exact aY3 (by omega) (aZ4 rfl)
  ·rintro _ rfl;dsimp only;refine aZ9 (jS (by simp;omega)) (aZ2 ?_);rw[ak (by omega),aau,aac O,abr,←l9 Q];rfl
 ·rintro s rfl;unfold aP.L8;dsimp only;rw[aat];exact aY3 (by omega) (aZ4 rfl)
 rintro _ rfl;dsimp only;refine aZ1 (d3 _ (by simpa using c9) (λ r h=> ?_) λ r h r' h' e=> ?_) λ r M=>aZ0 ⟨num,order,G,rfl,e9,a4,λ r'=> ?_,Z.1,Z.2,M.2⟩
 ·obtain⟨r0,h0,rfl⟩:=aaB.1 h;have:=W r0 h0;simpa using by omega
 ·obtain⟨x,x1,rfl⟩:=aaB.1 h;obtain⟨y,y1,rfl⟩:=aaB.1 h';obtain⟨f,a,p1,p2,p3,_⟩:=Y x x1;obtain⟨g,c,q1,q2,q3,_⟩:=Y y y1;have e:x.1=y.1:=e;have:g=f:=by omega
  subst this;rw[p1]at q1;have:=aak q1;have:=(dP.1 p3).1;have:=(dP.1 q3).1;simp only[aaH];omega
 ·rw[M.1 r',aaB];exact⟨λ⟨r0,B,d⟩=>⟨r0,B,d.symm⟩,λ⟨r0,B,d⟩=>⟨r0,B,d.symm⟩⟩
end
end Go.Bk
end
