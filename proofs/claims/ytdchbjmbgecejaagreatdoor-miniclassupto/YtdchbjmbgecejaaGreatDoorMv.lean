import Derived.Test.YtdchbjmbgecejaaGreatDoorMs
set_option linter.unusedVariables false
noncomputable section
namespace Go.Bk
open Go Go.AM
def Val {β:Type} (F:Nat->Option β) (r:β):Prop:=Ev λ n=>F n=some r
theorem Tt.val {β:Type} {F:Nat->Option β} {Q:β->Prop} (h:Tt F Q):Tt F (λ r=>Q r/\Val F r):=h.elim λ r d=>⟨r,⟨d.1,d.2⟩,d.2⟩
theorem Val.uniq {β:Type} {F:Nat->Option β} {r s:β} (h:Val F r) (e:Val F s):r=s:=by
 obtain⟨N,f⟩:=h.and e;obtain⟨g,d⟩:=f N (aaw _);rw[g]at d;exact aak d
def kV (n:Nat):Nat->LL
 |0=>[[]]
 |r+1=>(List.range n).flatMap λ i:Nat=>(kV n r).map λ l=>(i:Int)::l
theorem dN {n:Nat}: ∀{r:Nat} {l:LI},l∈kV n r ↔ l.length=r/\ ∀q∈l,bg (n:Int) q
 |0,l=>by
  simp only[kV,aah];constructor
  ·rintro rfl;simp
  ·rintro⟨h,_⟩;exact aav h
 |r+1,l=>by
  simp only[kV,acp,ab1,aaC];constructor
  ·rintro⟨i,p,k,f,rfl⟩;obtain⟨e,d⟩:=dN.1 f;refine⟨by simp[e],λ q g=> ?_⟩;rcases aaU.1 g with rfl|g
   ·exact⟨Ω,Ω⟩
   ·exact d q g
  ·rintro⟨e,d⟩
   match l,e,d with
   |q::k,e,d=>
    obtain⟨q0,q1⟩:=d q Θ;refine⟨q.toNat,Ω,k,dN.2 ⟨by simpa using e,λ x m=>d x (by simp[m])⟩,?_⟩;rw[abI q0]
theorem F9 {α β:Type} {f:α->List β} {k:Nat}: ∀(l:List α),(∀a∈l,(f a).length=k)->(l.flatMap f).length=l.length*k
 | [],_=>by simp
 |a::l,h=>by
  rw[abq,aaq,h a Θ,F9 l λ b d=>h b (by simp[d]),aaX,abx,acQ]
theorem rE (n:Nat): ∀r,(kV n r).length=n^r
 |0=>by simp[kV]
 |r+1=>by
  rw[kV,F9 (k:=n^r) _ λ a _=>by rw[aaH,rE n r],List.length_range,acZ,abW]
theorem uf {n r:Nat} (d:n<=301) (e:r<=3):n^r<=27270901:=by
 have f:n^r<=301^r:=abZ d r;have g:(301:Nat)^r<=301^3:=abN Ω e;omega
theorem Xe {F:Nat->Ac->Option (LL)} (hF: ∀n x,F (n+1) x=iM.P (F n) n x) (N:Nat) (m:N<=301): ∀r:Nat,r<=3->Sp F ((N:Int),(r:Int)) (λ l=>l=kV N r)
 |0,_=>by
  refine aZ5 (G:=λ n x=>iM.P (F n) n x) hF ?_;show Tt (λ n=>iM.P (F n) n ((N:Int),((0:Nat):Int))) _;unfold iM.P;dsimp only;exact aX7 Θ (aZ0 rfl)
 |r+1,C=>by
  refine aZ5 (G:=λ n x=>iM.P (F n) n x) hF ?_;show Tt (λ n=>iM.P (F n) n ((N:Int),((r+1:Nat):Int))) _;unfold iM.P;dsimp only;have p:=Xe hF N m r Ω;have d:=rE N r;have f:=uf m (r:=r) Ω;refine aW Δ (aZ1 (R:=λ l=>l=kV N (r+1)) (aZ8 (aZ6 N (λ i s=>s=((N:Int),((r+1:Nat):Int),(List.range i).flatMap (λ i:Nat=>(kV N r).map λ l=>(i:Int)::l),(N:Int),(i:Int))) ?_ ?_ rfl)) λ l q=>aZ0 q)
  ·rintro i s D rfl;unfold iM.L2;dsimp only;have u:IntKind.wrap .i64 (((r+1:Nat):Int)-1)=(r:Int):=by rw[jX _ Ω Ω];omega
   rw[u];refine aY1 Ω (aZ7 p λ E g=> ?_);subst g
   have v:((List.range i).flatMap (λ i:Nat=>(kV N r).map λ l=>(i:Int)::l)).length<=301*27270901:=by
    rw[F9 (k:=N^r) _ λ a _=>by rw[aaH,d],List.length_range];exact Nat.mul_le_mul Ω f
   refine aZ7 (R:=λ t=>t=((N:Int),((r+1:Nat):Int),(List.range (i+1)).flatMap (λ i:Nat=>(kV N r).map λ l=>(i:Int)::l),(N:Int),(i:Int))) (aZ8 (aZ6 (kV N r).length (λ j s=>s=((N:Int),((r+1:Nat):Int),(List.range i).flatMap (λ i:Nat=>(kV N r).map λ l=>(i:Int)::l)++((kV N r).take j).map (λ l=>(i:Int)::l),(i:Int),(N:Int),(i:Int),kV N r,((kV N r).length:Int),(j:Int))) ?_ ?_ ?_)) ?_
   ·rintro j s y rfl;unfold iM.L1;dsimp only;refine aY1 Ω (aZ9 (rng Ω Ω) ?_);rw[aam];refine aY6 y λ e z A=> ?_;have B:e.length=r:=(dN.1 z).1;refine aZ9 (jK Δ) (aZ9 (jK ?_) (aZ2 ?_))
    ·simp only[aaq,aaH,aaE,aaY];omega
    ·rw[ak Ω];congr 3;show(_++_)++[[(i:Int)]++e]=_;rw[aaD];congr 1;rw[aat,A];simp
   ·rintro s rfl;unfold iM.L1;dsimp only;refine aY3 Ω (aZ4 ?_);rw[aar,List.range_succ,List.flatMap_append];simp
   ·simp
   ·rintro _ rfl;dsimp only;exact aZ2 (by rw[ak Ω])
  ·rintro s rfl;unfold iM.L2;dsimp only;exact aY3 Ω (aZ4 rfl)
def tZ (sets:LL) (l:LI):LL:=l.map λ q=>sets.getD q.toNat []
theorem ahx (sets:LL) (l:LI) (p:l.length<=1000) (f: ∀q∈l,bg (sets.length:Int) q):Sp rZ.P (sets,l) (λ r=>r=tZ sets l):=by
 show Tt (λ n=>rZ.P n (sets,l)) _;unfold rZ.P;dsimp only;refine aZ1 (R:=λ r=>r=tZ sets l) (aZ8 (aZ6 l.length (λ i s=>s=(sets,(l.take i).map (λ q=>sets.getD q.toNat []),l,(l.length:Int),(i:Int))) ?_ ?_ rfl)) λ r g=>aZ0 g
 ·rintro i s d rfl;unfold rZ.L1;dsimp only;obtain⟨q0,q1⟩:=f l[i] (aaf d);refine aY1 Ω (aY d (aW0 q0 q1 λ e _ k=>aZ9 (jK Δ) (aZ2 ?_)));rw[ak Ω];congr 2;show _++[e]=_;have m:l.take (i+1)=l.take i++[l[i]]:=by rw[aat,aac d];rfl
  rw[m,abt];simp only[abo,acP,abg,k,aby]
 ·rintro s rfl;unfold rZ.L1;dsimp only;refine aY3 Ω (aZ4 ?_);rw[aar];rfl
theorem afi {F:Nat->Au->Option Bool} (l:LL) (x:LI) (t:l.length<=1000000000) (hF: ∀y∈l,Sp F (x,y) (λ r=>r=true ↔ x=y)):
 Sp (λ n=>qj.P (F n) n) (l,x) (λ p=>(p= -1/\x∉l)\/ ∃i:Nat,l[i]? =some x/\p=(i:Int)):=by
 show Tt (λ n=>qj.P (F n) n (l,x)) _;unfold qj.P;dsimp only;refine aZ1 (R:=λ q=>(q=Sum.inl ()/\x∉l)\/ ∃i:Nat,l[i]? =some x/\q=Sum.inr (i:Int)) (aZ8 (aZ6 l.length (λ i s=>s=(x,l,(l.length:Int),(i:Int))/\x∉l.take i) ?_ ?_ ⟨rfl,Θ⟩)) ?_
 ·rintro i s d ⟨rfl,f⟩;unfold qj.L1;dsimp only;refine aY1 Ω (aY d (aZ7 (hF _ (aaf d)) λ b k=>aY9 (λ g=> ?_) (λ e=> ?_)))
  ·exact aZ4 (.inr ⟨i,by rw[aac d,k.1 g],rfl⟩)
  ·refine aZ2 ⟨by rw[ak Ω],?_⟩;rw[aat,aac d];intro m;rcases aap.1 m with h|h
   ·exact f h
   ·have:x=l[i]:=by simpa using h
    rw[k.2 this]at e;cases e
 ·rintro s ⟨rfl,f⟩;unfold qj.L1;dsimp only;refine aY3 Ω (aZ4 (.inl ⟨rfl,?_⟩))
  rwa [aar]at f
 ·rintro q (⟨rfl,h⟩|⟨i,d,rfl⟩)
  ·exact aZ0 (.inl ⟨rfl,h⟩)
  ·exact aZ0 (.inr ⟨i,d,rfl⟩)
theorem ED.rank {al:LI} (h:ED al) {f:Nat} (d:f<al.length): ∃r:Nat,r<=3/\al[f]=(r:Int):=by
 obtain⟨e,g⟩:=h.2 f d;exact⟨al[f].toNat,Ω,Ω⟩
def Dy (St:Nat->Ag->Option LI) (al:LI) (S:Int) (fin:LI) (rs:LR) (sets:LL) (f:Nat):Prop:=
 ∀(d:f<al.length) (r:Nat),al[f]=(r:Int)-> ∀l,l∈kV sets.length r-> ∀to,Val (λ n=>St n (S,fin,rs,(f:Int),tZ sets l)) to->to≠[]->to∈sets
def OG (St:Nat->Ag->Option LI) (al:LI) (S:Int) (fin:LI) (rs:LR):Prop:=
 ∀(f:Nat) (e:f<al.length) (d:LL),(d.length:Int)=al[f]->(∀l∈d,l.length<=1000000)->Sp St (S,fin,rs,(f:Int),d) (λ l=>l.length<=1000000/\ ∀q,q∈l ↔ ∃r∈rs,Fit (f:Int) d r/\r.2.2=q)
def Born (St:Nat->Ag->Option LI) (al:LI) (S:Int) (fin:LI) (rs:LR) (sets:LL) (i:Nat) (x:LI):Prop:=
 x≠[]/\ ∃(f:Nat) (l:LI),al[f]? =some (l.length:Int)/\(∀q∈l,bg (i:Int) q)/\Val (λ n=>St n (S,fin,rs,(f:Int),tZ sets l)) x
def UH (St:Nat->Ag->Option LI) (al:LI) (S:Int) (fin:LI) (rs:LR) (sets:LL):Prop:=
 (∀s∈sets,s.length<=1000000)/\sets.Nodup/\ ∀(i:Nat) (x:LI),sets[i]? =some x->Born St al S fin rs sets i x
theorem IZ {sets z:LL} {l:LI} (h: ∀q∈l,bg (sets.length:Int) q):tZ (sets++z) l=tZ sets l:=by
 refine acj λ q d=> ?_;obtain⟨e,f⟩:=h q d;rw[abg,abg,aax Ω]
theorem UH.nil {St:Nat->Ag->Option LI} {al:LI} {S:Int} {fin:LI} {rs:LR}:UH St al S fin rs []:=⟨Θ,List.nodup_nil,Θ⟩
theorem UH.snoc {St:Nat->Ag->Option LI} {al:LI} {S:Int} {fin:LI} {rs:LR} {sets:LL} (h:UH St al S fin rs sets) {x:LI} (k:x.length<=1000000) (m:x∉sets) (p:x≠[]) {f:Nat} {l:LI} (t:al[f]? =some (l.length:Int)) (e: ∀q∈l,bg (sets.length:Int) q)
 (hv:Val (λ n=>St n (S,fin,rs,(f:Int),tZ sets l)) x):UH St al S fin rs (sets++[x]):=by
 obtain⟨u,v,z⟩:=h;refine⟨λ s hs=> ?_,acE.2 ⟨v,Θ,λ a A b B=> ?_⟩,λ i y d=> ?_⟩
 ·rcases aap.1 hs with h|h
  ·exact u s h
  ·rw[aah.1 h];exact k
 ·rw[aah.1 B];rintro rfl;exact m A
 ·rcases aaG i sets.length with h|h
  ·rw[aax h]at d;obtain⟨g0,f,l,C,g2,g3⟩:=z i y d;exact⟨g0,f,l,C,g2,by rw[IZ λ q g=>⟨(g2 q g).1,by have:=(g2 q g).2;omega⟩];exact g3⟩
  ·rw[aaB h]at d
   have D:i=sets.length:=by
    have:=(aad.1 d).1;simp at this;omega
   subst D;have:y=x:=by simpa using d.symm
   subst this;exact⟨p,f,l,t,e,by rw[IZ e];exact hv⟩
theorem MQ {sets:LL} (hs: ∀s∈sets,s.length<=1000000) (l:LI): ∀x∈tZ sets l,x.length<=1000000:=by
 intro x d;obtain⟨q,_,rfl⟩:=aaC.1 d;rw[abg]
 cases h:sets[q.toNat]? with
 |none=>simp
 |some s=>exact hs s (aai h)
section
variable {St:Nat->Ag->Option LI} {Ls:Nat->Ac->Option (LL)} {Pk:Nat->Bs->Option (LL)} {Pl:Nat->Bs->Option Int}
theorem ahJ (al:LI) (S:Int) (fin:LI) (rs:LR) (L:ED al) (a2:OG St al S fin rs) (a3: ∀N r:Nat,N<=301->r<=3->Sp Ls ((N:Int),(r:Int)) (λ l=>l=kV N r))
 (a4: ∀(sets:LL) (l:LI),l.length<=1000->(∀q∈l,bg (sets.length:Int) q)->Sp Pk (sets,l) (λ r=>r=tZ sets l))
 (a5: ∀(l:LL) (x:LI),l.length<=1000000000->x.length<=1000000->Sp Pl (l,x) (λ p=>(p= -1/\x∉l)\/ ∃i:Nat,l[i]? =some x/\p=(i:Int))):
 Sp (λ n=>jV.P (St n) (Ls n) (Pk n) (Pl n) n) (al,S,fin,rs) (λ t=>t.2=true->t.1.length<=300/\UH St al S fin rs t.1/\ ∀f,Dy St al S fin rs t.1 f):=by
 have a6:=L.1;show Tt (λ n=>jV.P (St n) (Ls n) (Pk n) (Pl n) n (al,S,fin,rs)) _;unfold jV.P;dsimp only
 refine aZ1 (R:=λ q=> ∃t:afX,(t.2=true->t.1.length<=300/\UH St al S fin rs t.1/\ ∀f,Dy St al S fin rs t.1 f)/\q=Sum.inr t)
  (aZ8 (aX1 (λ s=> ∃sets:LL,sets.length<=300/\UH St al S fin rs sets/\s=(al,S,fin,rs,sets)) (λ s=>301-s.2.2.2.2.length) ?_ ⟨[],Θ,.nil,rfl⟩)) ?_
 ·rintro s ⟨sets,c3,M,rfl⟩;unfold jV.L3;dsimp only
  refine aZ7 (R:=λ t=> ∃ex:LL,ex.length<=al.length*27270901/\UH St al S fin rs (sets++ex)/\(ex= []-> ∀f,Dy St al S fin rs sets f)/\t=(al,S,fin,rs,sets++ex,(sets.length:Int)))
   (aZ8 (aZ6 al.length (λ i s=> ∃ex:LL,ex.length<=i*27270901/\UH St al S fin rs (sets++ex)/\(ex= []-> ∀f,f<i->Dy St al S fin rs sets f)/\
    s=(al,S,fin,rs,sets++ex,(sets.length:Int),al,(al.length:Int),(i:Int))) ?_ ?_ ⟨[],Θ,by simpa using M,λ _ f O=>absurd O Ω,Θ⟩)) ?_
  ·rintro i s hi ⟨ex,E,g,u,rfl⟩;unfold jV.L2;dsimp only;obtain⟨r,Q,y⟩:=L.rank hi;have c4:=uf (n:=sets.length) (r:=r) Ω Q;have c5:=rE sets.length r;have c0:i*27270901<=12*27270901:=aaA _ Ω;refine aY1 Ω (aY hi ?_);rw[y];refine aZ7 (a3 sets.length r Ω Q) λ l6 a7=> ?_;subst a7
   refine aZ7 (R:=λ t=> ∃d:LL,d.length<=(i+1)*27270901/\UH St al S fin rs (sets++d)/\(d= []->ex= []/\Dy St al S fin rs sets i)/\
    t=(al,S,fin,rs,sets++d,(sets.length:Int),al,(al.length:Int),(i:Int)))
    (aZ8 (aZ6 (kV sets.length r).length (λ j s=> ∃d:LL,d.length<=ex.length+j/\UH St al S fin rs (sets++d)/\
     (d= []->ex= []/\ ∀l,l∈(kV sets.length r).take j-> ∀to,Val (λ n=>St n (S,fin,rs,(i:Int),tZ sets l)) to->to≠[]->to∈sets)/\
     s=(al,S,fin,rs,sets++d,(sets.length:Int),(i:Int),al,(al.length:Int),(i:Int),kV sets.length r,((kV sets.length r).length:Int),(j:Int))) ?_ ?_ ⟨ex,Ω,g,λ h=>⟨h,Θ⟩,rfl⟩)) ?_
   ·rintro j s hj ⟨d,G,k,e,rfl⟩;unfold jV.L1;dsimp only;refine aY1 Ω (aZ9 (rng Ω Ω) ?_);rw[aam];refine aY6 hj λ l a8 a9=>aZ9 Δ ?_;have I:List.drop (Int.toNat 0) (List.take (Int.toNat (sets.length:Int)) (sets++d))=sets:=by simp
    rw[I];obtain⟨U,z⟩:=dN.1 a8;refine aZ7 (a4 sets l Ω z) λ qs b0=> ?_;subst b0;have W:(tZ sets l).length=l.length:=by simp[tZ]
    refine aZ7 (Tt.val (a2 i hi (tZ sets l) (by rw[W,y,U]) (MQ M.1 l))) λ to b1=> ?_;obtain⟨⟨B,_⟩,C⟩:=b1
    have v:(sets++d).length<=1000000000:=by
     rw[aaq];omega
    refine aZ7 (R:=λ t=> ∃b:Bool,((b=false->to= []\/to∈sets++d)/\(b=true->to≠[]/\to∉sets++d))/\t=(al,S,fin,rs,sets++d,(sets.length:Int),(i:Int),to,al,(al.length:Int),(i:Int),kV sets.length r,((kV sets.length r).length:Int),(j:Int),b)) ?_ ?_
    ·refine aY4 (λ h0=>aZ1 (a5 (sets++d) to v B) λ p hp=>aZ0 ⟨_,⟨λ A=> .inr ?_,λ A=>⟨?_,?_⟩⟩,rfl⟩) (λ A=>aZ0 ⟨false,⟨λ _=> .inl ?_,λ h=>(by cases h)⟩,rfl⟩)
     ·rcases hp with⟨rfl,_⟩|⟨q,Y,rfl⟩
      ·simp at A
      ·exact aai Y
     ·rintro rfl;have:=fZ h0;simp at this
     ·rcases hp with⟨_,hn⟩|⟨q,Y,rfl⟩
      ·exact hn
      ·have:=fZ A;omega
     ·have:=dec_not A;exact aav Ω
    ·rintro _ ⟨b,A,rfl⟩;dsimp only;refine aY2 (λ Z=> ?_) (λ b2=> ?_)
     ·refine aY0 (jK (by simp;simp at v;omega)) (aZ3 (aZ2 ⟨d++[to],Δ,?_,λ h=>by simp at h,?_⟩))
      ·rw[←aaD];refine k.snoc B (A.2 Z).2 (A.2 Z).1 (f:=i) (l:=l) (by rw[aac hi,y,U]) (λ q Y=>⟨(z q Y).1,by have:=(z q Y).2;rw[aaq];omega⟩) ?_;rw[IZ z];exact C
      ·rw[ak Ω,←aaD];rfl
     ·refine aZ3 (aZ2 ⟨d,Ω,k,λ h=>⟨(e h).1,λ l' a0 b3 hv m=> ?_⟩,by rw[ak Ω]⟩);rw[aat,a9]at a0;rcases aap.1 a0 with h1|h1
      ·exact(e h).2 l' h1 b3 hv m
      ·have:l'=l:=by simpa using h1
       subst this;have:=Val.uniq hv C;subst this;rcases A.1 b2 with K|K
       ·exact absurd K m
       ·rw[h,aaM]at K;exact K
   ·rintro s ⟨d,G,k,e,rfl⟩;unfold jV.L1;dsimp only;refine aY3 Ω (aZ4 ⟨d,Ω,k,λ h=>⟨(e h).1,λ _ r' b5 l hl to hv m=> ?_⟩,rfl⟩);have:r'=r:=by rw[y]at b5;omega
    subst this;exact(e h).2 l (by rw[aar];exact hl) to hv m
   ·rintro _ ⟨d,G,k,e,rfl⟩;dsimp only;refine aZ2 ⟨d,G,k,λ h f O=> ?_,by rw[ak Ω]⟩;rcases aaG f i with K|K
    ·exact u (e h).1 f K
    ·obtain rfl:f=i:=by omega
     exact(e h).2
  ·rintro s ⟨ex,E,g,u,rfl⟩;unfold jV.L2;dsimp only;refine aY3 Ω (aZ4 ⟨ex,E,g,λ h f=> ?_,rfl⟩);by_cases O:f<al.length
   ·exact u h f O
   ·intro h';exact absurd h' O
  ·rintro _ ⟨ex,E,g,u,rfl⟩;dsimp only;refine aY9 (λ _=>aZ4 ⟨_,λ h=>(by cases h),rfl⟩) (λ D=>aY9 (λ b6=> ?_) (λ m=> ?_))
   ·have h3:=dec_not D;have h4:=fZ b6;have b9:ex= []:=aav (by simp at h4;omega);subst b9;rw[aaM]at g h3 ⊢;exact aZ4 ⟨(sets,true),λ _=>⟨Ω,g,u rfl⟩,rfl⟩
   ·have h3:=dec_not D;have h4:=dec_not m;refine aZ2 ⟨⟨sets++ex,Ω,g,rfl⟩,?_⟩;dsimp only;simp only[aaq]at h3 h4 ⊢;omega
 ·rintro _ ⟨t,ht,rfl⟩;exact aZ0 ht
def F6 (al:LI) (m:Nat) (r:Rule):Prop:= ∃(f:Nat) (a:Nat),al[f]? =some (a:Int)/\r.1=(f:Int)/\r.2.1∈kV m a/\bg (m:Int) r.2.2
def af0 (St:Nat->Ag->Option LI) (al:LI) (S:Int) (fin:LI) (rs:LR) (sets:LL) (r:Rule):Prop:=
 ∃f a i:Nat,al[f]? =some (a:Int)/\r.1=(f:Int)/\r.2.1∈kV sets.length a/\r.2.2=(i:Int)/\ ∃x,x≠[]/\sets[i]? =some x/\Val (λ n=>St n (S,fin,rs,(f:Int),tZ sets r.2.1)) x
def ahX (fin:LI) (sets:LL) (fin':LI):Prop:= ∀q,q∈fin' ↔ ∃(i:Nat) (x:LI),q=(i:Int)/\sets[i]? =some x/\ ∃y∈x,y∈fin
theorem Wq {fin:LI} {sets:LL} {i:Nat} {q:Int} (l:i<sets.length) {b:Bool} (m:b=true ↔ ∃y∈sets[i],y∈fin) {P:Prop} (p:P ↔ b=true/\q=(i:Int)):
 ((∃(k:Nat) (x:LI),q=(k:Int)/\(sets.take i)[k]? =some x/\ ∃y∈x,y∈fin)\/P) ↔ ∃(k:Nat) (x:LI),q=(k:Int)/\(sets.take (i+1))[k]? =some x/\ ∃y∈x,y∈fin:=by
 rw[p];constructor
 ·rintro(⟨k,x,f,d,g⟩|⟨h,rfl⟩)
  ·have:=(aad.1 d).1;rw[aaE]at this;rw[ab3 Ω]at d;exact⟨k,x,f,by rw[ab3 Ω];exact d,g⟩
  ·exact⟨i,_,rfl,by rw[ab3 Ω,aac l],m.1 h⟩
 ·rintro⟨k,x,f,d,g⟩;have:=(aad.1 d).1;rw[aaE]at this;rw[ab3 Ω]at d;by_cases e:k=i
  ·subst e;rw[aac l]at d;cases d;exact .inr ⟨m.2 g,f⟩
  ·exact .inl ⟨k,x,f,by rw[ab3 Ω];exact d,g⟩
theorem adI {Me:Nat->Au->Option Bool} {Va:Nat->Aa->Option Bool} {Se:Nat->Aa->Option afX}
 (al:LI) (S:Int) (fin:LI) (rs:LR) (L:fin.length<=1000000000) (a6:Sp Va (al,S,fin,rs) (λ r=>r=true ↔ bW al (S,fin,rs)))
 (a7:bW al (S,fin,rs)->Sp Se (al,S,fin,rs) (λ t=>t.2=true->t.1.length<=300/\UH St al S fin rs t.1/\ ∀f,Dy St al S fin rs t.1 f))
 (a8: ∀l1 l2:LI,l1.length<=1000000->l2.length<=1000000000->Sp Me (l1,l2) (λ r=>r=true ↔ ∃y∈l1,y∈l2))
 (b1:bW al (S,fin,rs)->OG St al S fin rs) (b2: ∀N r:Nat,N<=301->r<=3->Sp Ls ((N:Int),(r:Int)) (λ l=>l=kV N r))
 (b3: ∀(sets:LL) (l:LI),l.length<=1000->(∀q∈l,bg (sets.length:Int) q)->Sp Pk (sets,l) (λ r=>r=tZ sets l))
 (b4: ∀(l:LL) (x:LI),l.length<=1000000000->x.length<=1000000->Sp Pl (l,x) (λ p=>(p= -1/\x∉l)\/ ∃i:Nat,l[i]? =some x/\p=(i:Int))):
 Sp (λ n=>gW.P (Me n) (St n) (Va n) (Ls n) (Se n) (Pk n) (Pl n) n) (al,S,fin,rs) (λ t=>t.2.2.2.2=0->bW al (S,fin,rs)/\ ∃sets:LL,sets.length<=300/\t.1=(sets.length:Int)/\t.2.1.length<=300/\ahX fin sets t.2.1/\t.2.2.1.length<=20000/\(∀r,r∈t.2.2.1 ↔ af0 St al S fin rs sets r)/\UH St al S fin rs sets/\ ∀f,Dy St al S fin rs sets f):=by
 show Tt (λ n=>gW.P (Me n) (St n) (Va n) (Ls n) (Se n) (Pk n) (Pl n) n (al,S,fin,rs)) _;unfold gW.P;dsimp only;refine aZ1 a6 λ b hb=>aY4 (λ _=>aZ0 λ h=>by simp at h) (λ G=> ?_);have hv:bW al (S,fin,rs):=hb.1 (by simpa using G);have M:=hv.1;have b5:=M.1;refine aZ1 (a7 hv) λ t ht=>aY4 (λ _=>aZ0 λ h=>by simp at h) (λ b6=> ?_);obtain⟨sets,tb⟩:=t;obtain⟨h1,O,h3⟩:=ht (by simpa using b6);simp only at h1 O h3 ⊢
 refine aZ1 (R:=λ t=> ∃fin':LI,fin'.length<=sets.length/\ahX fin sets fin'/\t=(al,S,fin,rs,(0:Int),([]:LI),([]:LR),sets,(sets.length:Int),fin',([]:LR)))
  (aZ8 (aZ6 sets.length (λ i s=> ∃fin':LI,fin'.length<=i/\ahX fin (sets.take i) fin'/\s=(al,S,fin,rs,(0:Int),([]:LI),([]:LR),sets,(sets.length:Int),fin',([]:LR),sets,(sets.length:Int),(i:Int))) ?_ ?_ ⟨[],Θ,by simp[ahX],rfl⟩)) ?_
 ·rintro i s z ⟨fin',hf,k,rfl⟩;unfold gW.L1;dsimp only;refine aY1 Ω (aY z (aZ7 (a8 _ _ (O.1 _ (aaf z)) L) λ b hb=>aY2 (λ b9=> ?_) (λ G=> ?_)))
  ·refine aY0 (jK Δ) (aZ3 (aZ2 ⟨fin'++[(i:Int)],Δ,λ q=> ?_,by rw[ak Ω];rfl⟩));rw[aap,k q,aah];exact Wq z (b:=true) (by rw[←hb,b9]) Θ
  ·exact aZ3 (aZ2 ⟨fin',Ω,λ q=>by rw[k q,←Wq z (b:=false) (P:=False) (by rw[←hb,G]) Θ,or_false],by rw[ak Ω]⟩)
 ·rintro s ⟨fin',hf,k,rfl⟩;unfold gW.L1;dsimp only;rw[aar]at k;exact aY3 Ω (aZ4 ⟨fin',hf,k,rfl⟩)
 rintro _ ⟨fin',hf,k,rfl⟩;dsimp only
 refine aZ1 (R:=λ t=> ∃out:LR,(∀r,r∈out ↔ af0 St al S fin rs sets r)/\t=((0:Int),([]:LI),([]:LR),sets,(sets.length:Int),fin',out))
  (aZ8 (aZ6 al.length (λ i s=> ∃out:LR,out.length<=i*27270901/\(∀r,r∈out ↔ r.1<(i:Int)/\af0 St al S fin rs sets r)/\s=(S,fin,rs,(0:Int),([]:LI),([]:LR),sets,(sets.length:Int),fin',out,al,(al.length:Int),(i:Int))) ?_ ?_ ⟨[],Θ,λ r=>⟨λ h=>(by cases h),λ⟨h,f,_,_,_,e,_⟩=>Ω⟩,rfl⟩)) ?_
 ·rintro i s z ⟨out,c0,A,rfl⟩;unfold gW.L3;dsimp only;obtain⟨r,Q,B⟩:=M.rank z;have d6:=uf (n:=sets.length) (r:=r) Ω Q;have d7:=rE sets.length r;have d2:i*27270901<=12*27270901:=aaA _ Ω;refine aY1 Ω (aY z ?_);rw[B];refine aZ7 (b2 sets.length r Ω Q) λ l6 c1=> ?_;subst c1
  refine aZ7 (R:=λ t=> ∃d:LR,d.length<=(i+1)*27270901/\(∀r,r∈d ↔ r.1<((i+1:Nat):Int)/\af0 St al S fin rs sets r)/\t=(S,fin,rs,(0:Int),([]:LI),([]:LR),sets,(sets.length:Int),fin',d,al,(al.length:Int),(i:Int)))
   (aZ8 (aZ6 (kV sets.length r).length (λ j s=> ∃d:LR,d.length<=out.length+j/\(∀g,g∈d ↔ (g.1<(i:Int)\/g.1=(i:Int)/\g.2.1∈(kV sets.length r).take j)/\af0 St al S fin rs sets g)/\
    s=(S,fin,rs,(0:Int),([]:LI),([]:LR),sets,(sets.length:Int),fin',d,(i:Int),al,(al.length:Int),(i:Int),kV sets.length r,((kV sets.length r).length:Int),(j:Int))) ?_ ?_ ⟨out,Ω,by simpa using A,rfl⟩)) ?_
  ·rintro j s hj ⟨d,I,v,rfl⟩;unfold gW.L2;dsimp only;refine aY1 Ω (aZ9 (rng Ω Ω) ?_);rw[aam];refine aY6 hj λ l K c2=> ?_;obtain⟨c3,c4⟩:=dN.1 K;refine aZ7 (b3 sets l Ω c4) λ qs c5=> ?_;subst c5;have U:(tZ sets l).length=l.length:=by simp[tZ]
   refine aZ7 (Tt.val (b1 hv i z (tZ sets l) (by rw[U,B,c3]) (MQ O.1 l))) λ to c6=> ?_;obtain⟨⟨W,_⟩,m⟩:=c6
   have Y: ∀g:Rule,(g.1<(i:Int)\/g.1=(i:Int)/\g.2.1∈(kV sets.length r).take (j+1)) ↔ (g.1<(i:Int)\/g.1=(i:Int)/\g.2.1∈(kV sets.length r).take j)\/g.1=(i:Int)/\g.2.1=l:=λ g=>by
    rw[aat,c2,aap,aaQ,aah,or_assoc,←and_or_left]
   refine aY2 (λ C=> ?_) (λ C=> ?_)
   ·have C:=fZ C;have E:to≠[]:=by rintro rfl;simp at C
    have Z:to∈sets:=h3 i z r B l K to m E;refine aY5 (aZ7 (b4 sets to Ω W) λ p hp=> ?_);obtain⟨q,hq,rfl⟩: ∃i:Nat,sets[i]? =some to/\p=(i:Int):=hp.resolve_left λ h=>h.2 Z;have hD:af0 St al S fin rs sets ((i:Int),l,(q:Int)):=⟨i,r,q,by rw[aac z,B],rfl,K,rfl,to,E,hq,m⟩;refine aY0 (jK Δ) (aZ3 (aZ2 ⟨d++[((i:Int),l,(q:Int))],Δ,λ g=> ?_,by rw[ak Ω];rfl⟩));rw[aap,aah,v,Y];constructor
    ·rintro(⟨h,u⟩|rfl)
     ·exact⟨.inl h,u⟩
     ·exact⟨.inr ⟨rfl,rfl⟩,hD⟩
    ·rintro⟨h|h,u⟩
     ·exact .inl ⟨h,u⟩
     ·refine .inr (ab9 h.1 (ab9 h.2 ?_));obtain⟨f,_,q',_,e1,_,e2,x,_,hx,D⟩:=u;obtain⟨e3,e4⟩:=h;have:f=i:=by omega
      subst this;rw[e4]at D;have:=Val.uniq D m;subst this;rw[e2];exact congrArg Nat.cast ((List.getElem?_inj (aad.1 hx).1 O.2.1).1 (hx.trans hq.symm))
   ·refine aZ3 (aZ2 ⟨d,Ω,λ g=> ?_,by rw[ak Ω]⟩);rw[v,Y];refine⟨λ⟨h,u⟩=>⟨.inl h,u⟩,λ⟨h,u⟩=>⟨h.resolve_right λ⟨e3,e4⟩=> ?_,u⟩⟩;obtain⟨f,_,q',_,e1,_,e2,x,x0,hx,D⟩:=u;have:f=i:=by omega
    subst this;rw[e4]at D;have:=Val.uniq D m;subst this;have:=dec_not C;exact x0 (aav Ω)
  ·rintro s ⟨d,I,v,rfl⟩;unfold gW.L2;dsimp only;refine aY3 Ω (aZ4 ⟨d,Ω,λ g=> ?_,rfl⟩);rw[v,aar];refine⟨λ⟨h,u⟩=>⟨Ω,u⟩,λ⟨h,u⟩=>⟨?_,u⟩⟩;obtain⟨f,a,q',ha,e1,hl,_⟩:=u;by_cases e:f=i
   ·subst e;rw[aac z,B]at ha;have:a=r:=by have:=aak ha;omega
    subst this;exact .inr ⟨e1,hl⟩
   ·exact .inl Ω
  ·rintro _ ⟨d,I,v,rfl⟩;dsimp only;exact aZ2 ⟨d,I,v,by rw[ak Ω]⟩
 ·rintro s ⟨out,c0,A,rfl⟩;unfold gW.L3;dsimp only;refine aY3 Ω (aZ4 ⟨out,λ g=> ?_,rfl⟩);rw[A];refine⟨λ h=>h.2,λ h=>⟨?_,h⟩⟩;obtain⟨f,a,q',ha,e1,_⟩:=h;have:=(aad.1 ha).1;omega
 rintro _ ⟨out,A,rfl⟩;dsimp only;refine aY4 (λ _=>aZ0 λ h=>by simp at h) (λ d0=>aZ0 λ _=>⟨hv,sets,h1,rfl,by simp only;omega,k,?_,A,O,h3⟩);have:=dec_not d0;simp only;omega
theorem ZN {m r:Nat} {l:LI} (h:l∈kV m r):l∈kV (m+1) r:=by
 obtain⟨d,e⟩:=dN.1 h;exact dN.2 ⟨d,λ q f=>by obtain⟨a,b⟩:=e q f;exact⟨a,Ω⟩⟩
def aft (al:LI) (m:Nat) (rs:LR) (r:Rule):Prop:=r.2.2=(m:Int)/\(∃f a:Nat,al[f]? =some (a:Int)/\r.1=(f:Int)/\r.2.1∈kV (m+1) a)/\ ∀x∈rs,¬(x.1=r.1/\x.2.1=r.2.1)
theorem adH {U:Nat->Au->Option Bool} (al:LI) (m:Nat) (fin:LI) (rs:LR) (K:ED al) (hm:m<=300) (a7:fin.length<=300) (a9:rs.length<=20000) (C: ∀r∈rs,r.2.1.length<=3) (W:lY al (m+1)<=20000)
 (Y: ∀x y:LI,x.length<=1000->Sp U (x,y) (λ r=>r=true ↔ x=y)) (Z: ∀N r:Nat,N<=301->r<=3->Sp Ls ((N:Int),(r:Int)) (λ l=>l=kV N r)):
 Sp (λ n=>gV.P (U n) (Ls n) n) (al,(m:Int),fin,rs) (λ t=>t.1=((m+1:Nat):Int)/\t.2.1=fin/\t.2.2.length<=40000/\ ∀r,r∈t.2.2 ↔ r∈rs\/aft al m rs r):=by
 have a0:=K.1;show Tt (λ n=>gV.P (U n) (Ls n) n (al,(m:Int),fin,rs)) _;unfold gV.P;dsimp only;have hw:IntKind.wrap .i64 ((m:Int)+1)=((m+1:Nat):Int):=ak Ω;refine aX (jK Δ) (aX (jK Δ) ?_);rw[hw]
 refine aZ1 (R:=λ t=> ∃out:LR,out.length<=40000/\(∀r,r∈out ↔ r∈rs\/aft al m rs r)/\t=((0:Int),([]:LI),([]:LR),((m+1:Nat):Int),fin,out))
  (aZ8 (aZ6 al.length (λ i s=> ∃out:LR,out.length<=20000+lY (al.take i) (m+1)/\(∀r,r∈out ↔ r∈rs\/r.1<(i:Int)/\aft al m rs r)/\
   s=((m:Int),fin,rs,(0:Int),([]:LI),([]:LR),((m+1:Nat):Int),fin,out,al,(al.length:Int),(i:Int))) ?_ ?_ ?_)) ?_
 ·rintro i s L ⟨out,D,v,rfl⟩;unfold gV.L3;dsimp only;obtain⟨r,M,A⟩:=K.rank L;have b0:=uf (n:=m+1) (r:=r) Ω M;have b1:=rE (m+1) r;have a1:=EM (m:=m+1) L;have b2:=Wu (al:=al) (m:=m+1) (i:=i+1);rw[A,aam]at a1;refine aY1 Ω (aY L ?_);rw[A,hw];refine aZ7 (Z (m+1) r Ω M) λ l6 a2=> ?_;subst a2
  refine aZ7 (R:=λ t=> ∃d:LR,d.length<=20000+lY (al.take (i+1)) (m+1)/\(∀r,r∈d ↔ r∈rs\/r.1<((i+1:Nat):Int)/\aft al m rs r)/\
   t=((m:Int),fin,rs,(0:Int),([]:LI),([]:LR),((m+1:Nat):Int),fin,d,al,(al.length:Int),(i:Int)))
   (aZ8 (aZ6 (kV (m+1) r).length (λ j s=> ∃d:LR,d.length<=out.length+j/\(∀g,g∈d ↔ g∈rs\/(g.1<(i:Int)\/g.1=(i:Int)/\g.2.1∈(kV (m+1) r).take j)/\aft al m rs g)/\
    s=((m:Int),fin,rs,(0:Int),([]:LI),([]:LR),((m+1:Nat):Int),fin,d,(i:Int),al,(al.length:Int),(i:Int),kV (m+1) r,((kV (m+1) r).length:Int),(j:Int))) ?_ ?_ ⟨out,Ω,by simpa using v,rfl⟩)) ?_
  ·rintro j s hj ⟨d,E,q,rfl⟩;unfold gV.L2;dsimp only;refine aY1 Ω (aZ9 (rng Ω Ω) ?_);rw[aam];refine aY6 hj λ l a3 a4=> ?_
   refine aZ7 (R:=λ t=> ∃b:Bool,(b=true ↔ ∀x∈rs,¬(x.1=(i:Int)/\x.2.1=l))/\t=((m:Int),fin,rs,(0:Int),([]:LI),([]:LR),((m+1:Nat):Int),fin,d,(i:Int),l,b,al,(al.length:Int),(i:Int),kV (m+1) r,((kV (m+1) r).length:Int),(j:Int)))
    (aZ8 (aZ6 rs.length (λ k s=> ∃b:Bool,(b=true ↔ ∀x∈rs.take k,¬(x.1=(i:Int)/\x.2.1=l))/\s=((m:Int),fin,rs,(0:Int),([]:LI),([]:LR),((m+1:Nat):Int),fin,d,(i:Int),l,b,al,(al.length:Int),(i:Int),kV (m+1) r,((kV (m+1) r).length:Int),(j:Int),rs,(rs.length:Int),(k:Int))) ?_ ?_ ⟨true,Θ,rfl⟩)) ?_
   ·rintro k s hk ⟨b,G,rfl⟩;unfold gV.L1;dsimp only
    have u: ∀{c:Bool},(c=true ↔ b=true/\ ¬(rs[k].1=(i:Int)/\rs[k].2.1=l))->(c=true ↔ ∀x∈rs.take (k+1),¬(x.1=(i:Int)/\x.2.1=l)):=λ O=>by
     rw[O,G,aat,aac hk,aaQ];exact⟨λ⟨h1,h2⟩ x hx=>(aap.1 hx).elim (h1 x) λ h=>by rw[aah.1 h];exact h2,λ h=>⟨λ x hx=>h x (aaF _ hx),h _ (aa4 _ (aah.2 rfl))⟩⟩
    refine aY1 Ω (aY hk (aY2 (λ B=>aY2 (λ z=> ?_) (λ z=> ?_)) (λ I=> ?_)))
    ·refine aY5 (aZ7 (Y _ _ (by have:=C _ (aaf hk);omega)) λ c O=>aZ3 (aZ2 ⟨!c,u ?_,by rw[ak Ω]⟩));have:=fZ z;cases c
     ·exact⟨λ _=>⟨B,λ h=>by have:=O.2 h.2;cases this⟩,λ _=>rfl⟩
     ·exact⟨λ h=>(by cases h),λ h=>absurd ⟨this,O.1 rfl⟩ h.2⟩
    ·have:=of_decide_eq_false z;exact aZ3 (aZ2 ⟨!false,u ⟨λ _=>⟨B,λ h=>this h.1⟩,λ _=>rfl⟩,by rw[ak Ω]⟩)
    ·exact aZ3 (aZ2 ⟨false,u ⟨λ h=>(by cases h),λ h=>by rw[I]at h;exact h.1⟩,by rw[ak Ω]⟩)
   ·rintro s ⟨b,G,rfl⟩;unfold gV.L1;dsimp only;rw[aar]at G;exact aY3 Ω (aZ4 ⟨b,G,rfl⟩)
   ·rintro _ ⟨b,G,rfl⟩;dsimp only
    have u: ∀g:Rule,(g.1<(i:Int)\/g.1=(i:Int)/\g.2.1∈(kV (m+1) r).take (j+1)) ↔ (g.1<(i:Int)\/g.1=(i:Int)/\g.2.1∈(kV (m+1) r).take j)\/g.1=(i:Int)/\g.2.1=l:=λ g=>by
     rw[aat,a4,aap,aaQ,aah,or_assoc,←and_or_left]
    refine aY2 (λ B=> ?_) (λ I=> ?_)
    ·refine aY0 (jK Δ) (aZ3 (aZ2 ⟨d++[((i:Int),l,(m:Int))],Δ,λ g=> ?_,by rw[ak Ω];rfl⟩));rw[aap,aah,q,u];have hM:aft al m rs ((i:Int),l,(m:Int)):=⟨rfl,⟨i,r,by rw[aac L,A],rfl,a3⟩,G.1 B⟩;constructor
     ·rintro((h|⟨h,p⟩)|rfl)
      ·exact .inl h
      ·exact .inr ⟨.inl h,p⟩
      ·exact .inr ⟨.inr ⟨rfl,rfl⟩,hM⟩
     ·rintro(h|⟨h|h,p⟩)
      ·exact .inl (.inl h)
      ·exact .inl (.inr ⟨h,p⟩)
      ·exact .inr (ab9 h.1 (ab9 h.2 p.1))
    ·refine aZ3 (aZ2 ⟨d,Ω,λ g=> ?_,by rw[ak Ω]⟩);rw[q,u];refine or_congr ab7 ⟨λ⟨h,p⟩=>⟨.inl h,p⟩,λ⟨h,p⟩=>⟨h.resolve_right λ⟨Q,e2⟩=> ?_,p⟩⟩;have:=G.2 (by have:=p.2.2;rwa [Q,e2]at this);rw[I]at this;cases this
  ·rintro s ⟨d,E,q,rfl⟩;unfold gV.L2;dsimp only;refine aY3 Ω (aZ4 ⟨d,Ω,λ g=> ?_,rfl⟩);rw[q,aar];refine or_congr ab7 ⟨λ⟨h,p⟩=>⟨Ω,p⟩,λ⟨h,p⟩=>⟨?_,p⟩⟩;obtain⟨_,⟨f,a,S,Q,hl⟩,_⟩:=p;by_cases e:f=i
   ·subst e;rw[aac L,A]at S;have:a=r:=by have:=aak S;omega
    subst this;exact .inr ⟨Q,hl⟩
   ·exact .inl Ω
  ·rintro _ ⟨d,E,q,rfl⟩;dsimp only;exact aZ2 ⟨d,E,q,by rw[ak Ω]⟩
 ·rintro s ⟨out,D,v,rfl⟩;unfold gV.L3;dsimp only;refine aY3 Ω (aZ4 ⟨out,by have:=Wu (al:=al) (m:=m+1) (i:=al.length);omega,λ r=> ?_,rfl⟩);rw[v];refine or_congr ab7 ⟨λ h=>h.2,λ h=>⟨?_,h⟩⟩;obtain⟨_,⟨f,a,S,Q,_⟩,_⟩:=h;have:=(aad.1 S).1;omega
 ·refine⟨rs,Ω,λ r=>⟨.inl,λ h=>h.resolve_right λ h=> ?_⟩,rfl⟩;obtain⟨h,_,⟨f,a,_,e,_⟩,_⟩:=h;omega
 rintro _ ⟨out,D,v,rfl⟩;exact aZ0 ⟨rfl,rfl,D,v⟩
end
def aeu (m:Nat) (n:Nat) (l:LI):Nat:=l.foldl (λ n s=>n*m+s.toNat) n
def Ir (m:Nat) (l:LI):Nat:=aeu m 0 l
theorem Zf (m:Nat): ∀(l:LI) (n:Nat),(∀q∈l,bg (m:Int) q)->aeu m n l<(n+1)*m^l.length
 | [],n,_=>by simp[aeu]
 |s::l,n,h=>by
  have d:=h s (abG ..);have e:=Zf m l (n*m+s.toNat) (λ q f=>h q (aaS _ f))
  have hs:n*m+s.toNat+1<=(n+1)*m:=by
   have:=d.1;have:=d.2;rw[abO];omega
  show aeu m (n*m+s.toNat) l<_
  calc aeu m (n*m+s.toNat) l<(n*m+s.toNat+1)*m^l.length:=e
   _<=(n+1)*m*m^l.length:=aaA _ hs
   _=(n+1)*m^(s::l).length:=by rw[aaX,acZ,Nat.mul_assoc,abW m]
theorem UZ {m:Nat} {l:LI} (h: ∀q∈l,bg (m:Int) q):Ir m l<m^l.length:=by
 have:=Zf m l 0 h;simpa [Ir]using this
theorem Zg {m:Nat} {l:LI} {i:Nat} (d:i<l.length):Ir m (l.take (i+1))=Ir m (l.take i)*m+l[i].toNat:=by
 rw[aat,aac d];simp only[Ir,aeu,List.foldl_append,aaQ,acD,acU]
theorem afg (m:Nat) (d:LL) (l:LI) (f:m<=301) (y:l.length<=3) (g: ∀q∈l,bg (m:Int) q):
 Sp jl.P ((m:Int),d,l) (λ v=>v=(Ir m l:Int)):=by
 show Tt (λ n=>jl.P n ((m:Int),d,l)) _;unfold jl.P;dsimp only
 refine aZ1 (R:=λ v=>v=(Ir m l:Int))
  (aZ8 (aZ6 l.length (λ i s=>s=((m:Int),d,(Ir m (l.take i):Int),l,(l.length:Int),(i:Int))) ?_ ?_ ?_)) ?_
 ·rintro i s e rfl;unfold jl.L1;dsimp only;refine aY1 Ω (aY e (aZ2 ?_));have z:Ir m (l.take i)<m^(l.take i).length:=UZ λ q h=>g q (abr h);have A:=uf (n:=m) (r:=(l.take i).length) f Δ;have k:=g _ (aaf e);have B:Ir m (l.take i)*m<=27270901*301:=Nat.mul_le_mul Ω f;have p:(Ir m (l.take i):Int)*(m:Int)=((Ir m (l.take i)*m:Nat):Int):=by simp
  have C:=k.1;have D:=k.2;have t:IntKind.wrap .i64 ((Ir m (l.take i)*m:Nat):Int)=((Ir m (l.take i)*m:Nat):Int):=jX _ Ω Ω;rw[p,t,jX (((Ir m (l.take i)*m:Nat):Int)+l[i]) Ω Ω,ak Ω,Zg e];have u:((Ir m (l.take i)*m:Nat):Int)+l[i]=((Ir m (l.take i)*m+l[i].toNat:Nat):Int):=by omega
  rw[u]
 ·rintro s rfl;unfold jl.L1;dsimp only;exact aY3 Ω (aZ4 (by rw[aar]))
 ·simp[Ir,aeu]
 ·rintro r rfl;exact aZ0 rfl
def af6 (m a:Nat) (row:LI):Prop:=row.length=m^a/\ ∀v∈row,v= -1\/bg (m:Int) v
def PV (al:LI) (m:Nat) (t:LL):Prop:=t.length=al.length/\ ∀(f a:Nat),al[f]? =some (a:Int)-> ∃row,t[f]? =some row/\af6 m a row
def Rq (rs:LR) (f:Int) (l:LI) (v:Int):Prop:=(v= -1/\ ∀r∈rs,¬(r.1=f/\r.2.1=l))\/ ∃r∈rs,r.1=f/\r.2.1=l/\r.2.2=v
def afw (al:LI) (m:Nat) (rs:LR) (t:LL):Prop:= ∀(f a:Nat) (l row:LI) (v:Int),al[f]? =some (a:Int)->l∈kV m a->t[f]? =some row->row[Ir m l]? =some v->Rq rs (f:Int) l v
theorem Wx (m:Nat): ∀(l d:LI) (n f:Nat),l.length=d.length->(∀q∈l,bg (m:Int) q)->(∀q∈d,bg (m:Int) q)->aeu m n l=aeu m f d->n=f/\l=d
 | [],[],n,f,_,_,_,e=>⟨e,rfl⟩
 |s::l,s'::d,n,f,u,h,k,e=>by
  obtain⟨v,y⟩:=Wx m l d (n*m+s.toNat) (f*m+s'.toNat) (by simpa using u) (λ q g=>h q (aaS _ g)) (λ q g=>k q (aaS _ g)) e;obtain⟨z,A⟩:=h s (abG ..);obtain⟨B,C⟩:=k s' (abG ..)
  have p: ∀{n s:Nat},s<m->(n*m+s) % m=s/\(n*m+s)/m=n:=λ{n s} hs=>by
   rw[abW,Nat.mul_add_mod,Nat.mod_eq_of_lt hs,Nat.mul_add_div Ω,acM hs];exact⟨rfl,rfl⟩
  have i:=p (n:=n) (s:=s.toNat) Ω;have t:=p (n:=f) (s:=s'.toNat) Ω;rw[v]at i;have D:s.toNat=s'.toNat:=i.1.symm.trans t.1;exact⟨i.2.symm.trans t.2,by rw[y,show s=s' by omega]⟩
theorem aev {m a:Nat} {l d:LI} (h:l∈kV m a) (f:d∈kV m a) (e:Ir m l=Ir m d):l=d:=by
 obtain⟨k,g⟩:=dN.1 h;obtain⟨p,i⟩:=dN.1 f;exact(Wx m l d 0 0 Ω g i e).2
theorem ada {α:Type} (t:List α) (i:Nat):rowAt? (t.map some) i=t[i]? :=by
 unfold rowAt?;rw[aau];cases t[i]? <;>rfl
theorem Gp {α:Type}: ∀(t:List α),oO (t.map some)=some t
 | []=>rfl
 |x::l=>by
  show(oO (l.map some)).map (x:: ·)=_;rw[Gp l];rfl
theorem ahH {Po:Nat->Ac->Option Int} {Ix:Nat->B3->Option Int} (al:LI) (m:Nat) (fin:LI) (rs:LR) (K:ED al) (hm:m<=301) (c5:rs.length<=1000000000) (Z: ∀r∈rs,F6 al m r)
 (b3: ∀m r:Nat,m<=1000->r<=3->Sp Po ((m:Int),(r:Int)) (λ p=>p=((m^r:Nat):Int)))
 (b4: ∀(m:Nat) (d:LL) (l:LI),m<=301->l.length<=3->(∀q∈l,bg (m:Int) q)->Sp Ix ((m:Int),d,l) (λ v=>v=(Ir m l:Int))):
 Sp (λ n=>jI.P (Po n) (Ix n) n) (al,(m:Int),fin,rs) (λ t=>t.1=(m:Int)/\PV al m t.2/\afw al m rs t.2):=by
 have b5:=K.1;show Tt (λ n=>jI.P (Po n) (Ix n) n (al,(m:Int),fin,rs)) _;unfold jI.P;dsimp only
 refine aZ1 (R:=λ t=> ∃d:LL,PV al m d/\(∀row∈d,∀v∈row,v= -1)/\t=((m:Int),fin,rs,(0:Int),([]:LL),(m:Int),d.map some))
  (aZ8 (aZ6 al.length (λ i s=> ∃d:LL,d.length=i/\(∀(f a:Nat),f<i->al[f]? =some (a:Int)-> ∃row,d[f]? =some row/\af6 m a row)/\(∀row∈d,∀v∈row,v= -1)/\
   s=((m:Int),fin,rs,(0:Int),([]:LL),(m:Int),d.map some,al,(al.length:Int),(i:Int))) ?_ ?_ ⟨[],rfl,λ f a hf=>absurd hf Ω,Θ,rfl⟩)) ?_
 ·rintro i s L ⟨d,g,y,M,rfl⟩;unfold jI.L2;dsimp only;obtain⟨r,a0,a1⟩:=K.rank L;have b6:=uf (n:=m) (r:=r) Ω a0;refine aY1 Ω (aY L ?_);rw[a1];refine aZ7 (b3 m r Ω a0) λ p hp=> ?_;subst hp;refine aZ9 (tV Ω Ω) ?_;rw[aam,abC]
  refine aZ7 (R:=λ t=> ∃row:LI,af6 m r row/\(∀v∈row,v= -1)/\t=((m:Int),fin,rs,(0:Int),([]:LL),(m:Int),d.map some,row,al,(al.length:Int),(i:Int)))
   (aZ8 (aZ6 (m^r) (λ j s=> ∃row:LI,row.length=m^r/\(∀k,k<j->row[k]? =some (-1))/\s=((m:Int),fin,rs,(0:Int),([]:LL),(m:Int),d.map some,row,al,(al.length:Int),(i:Int),((m^r:Nat):Int),(j:Int))) ?_ ?_ ⟨List.replicate (m^r) 0,Θ,λ k hk=>absurd hk Ω,rfl⟩)) ?_
  ·rintro j s hj ⟨row,hl,hv,rfl⟩;unfold jI.L1;dsimp only;refine aY1 Ω (aZ9 (rng Ω Ω) ?_);rw[aam];refine aY6 Ω λ e _ _=>aZ2 ⟨row.set j (-1),by simpa using hl,λ k hk=> ?_,by rw[ak Ω]⟩;rw[aaR];by_cases h:j=k
   ·subst h;simp[hl,hj]
   ·simp[h];exact hv k Ω
  ·rintro s ⟨row,hl,hv,rfl⟩;unfold jI.L1;dsimp only;have a2: ∀v∈row,v= -1:=λ v N=> ?_
   ·exact aY3 Ω (aZ4 ⟨row,⟨hl,λ v N=> .inl (a2 v N)⟩,a2,rfl⟩)
   obtain⟨k,hk,rfl⟩:=aay N;have:=hv k Ω;rw[aac hk]at this;exact aak this
  ·rintro _ ⟨row,A,O,rfl⟩;dsimp only;refine aZ9 (jK Δ) (aZ2 ⟨d++[row],by simp[g],λ f a hf W=> ?_,λ z h=>(aap.1 h).elim (M z) λ h=>by rw[aah.1 h];exact O,by rw[ak Ω,abt];rfl⟩);rcases aaG f i with h|h
   ·obtain⟨z,G,B⟩:=y f a h W;exact⟨z,by rw[aax Ω];exact G,B⟩
   ·obtain rfl:f=i:=by omega
    rw[aac L,a1]at W;have:a=r:=by have:=aak W;omega
    subst this;exact⟨row,by rw[aaB Ω];simp[g],A⟩
 ·rintro s ⟨d,g,y,M,rfl⟩;unfold jI.L2;dsimp only;exact aY3 Ω (aZ4 ⟨d,⟨g,λ f a W=>y f a (aad.1 W).1 W⟩,M,rfl⟩)
 rintro _ ⟨a3,Q,S,rfl⟩;dsimp only
 refine aZ1 (R:=λ t=> ∃d:LL,PV al m d/\afw al m rs d/\t=((0:Int),([]:LL),(m:Int),d.map some))
  (aZ8 (aZ6 rs.length (λ i s=> ∃d:LL,PV al m d/\afw al m (rs.take i) d/\s=((0:Int),([]:LL),(m:Int),d.map some,rs,(rs.length:Int),(i:Int))) ?_ ?_ ⟨a3,Q,λ f a l row v _ _ Z hv=> .inl ⟨S row (aai Z) v (aai hv),Θ⟩,rfl⟩)) ?_
 ·rintro i s L ⟨d,g,y,rfl⟩;unfold jI.L3;dsimp only;obtain⟨f,a,C,a4,a5,b7⟩:=Z _ (aaf L);obtain⟨b8,a6⟩:=dN.1 a5;have E:f<al.length:=(aad.1 C).1
  have b9:a<=3:=by
   obtain⟨a',G,B⟩:=K.rank E;rw[aac E,B]at C;have:=aak C;omega
  obtain⟨row,A,a7,c0⟩:=g.2 f a C;have c1:=UZ a6;have b6:=uf (n:=m) (r:=a) Ω b9;refine aY1 Ω (aY L ?_);rw[a4];refine aZ9 (rng Ω (by rw[aaH,g.1];omega)) ?_;rw[aam,Gp,ada,A];simp only[aaj];refine aZ7 (b4 m d _ hm Ω a6) λ v hv=> ?_;subst hv;rw[b8]at c1;refine aZ9 (rng Ω Ω) ?_;rw[aam];refine aY6 Ω λ e _ _=>aZ2 ⟨d.set f (row.set (Ir m rs[i].2.1) rs[i].2.2),⟨by simpa using g.1,λ I a' u=> ?_⟩,λ I a' Y z v u U D hv=> ?_,by rw[ak Ω,List.map_set]⟩
  ·by_cases h:f=I
   ·subst h;rw[C]at u;have:a'=a:=by have:=aak u;omega
    subst this;refine⟨row.set (Ir m rs[i].2.1) rs[i].2.2,?_,by simpa using a7,λ v hv=> ?_⟩
    ·rw[abe (by rw[g.1];exact E)]
    ·rcases abv hv with h|h
     ·exact c0 v h
     ·subst h;exact .inr b7
   ·obtain⟨z,G,B⟩:=g.2 I a' u;exact⟨z,by rw[aa5 h];exact G,B⟩
  ·have a8:rs.take (i+1)=rs.take i++[rs[i]]:=by rw[aat,aac L];rfl
   have old: ¬(f=I/\rs[i].2.1=Y)->Rq (rs.take i) (I:Int) Y v->Rq (rs.take (i+1)) (I:Int) Y v:=λ c2 h=>by
    rw[a8];rcases h with⟨G,B⟩|⟨r,G,B⟩
    ·refine .inl ⟨G,λ r Z=>(aap.1 Z).elim (B r) λ h=> ?_⟩;rw[aah.1 h];exact λ⟨e1,e2⟩=>c2 ⟨Ω,e2⟩
    ·exact .inr ⟨r,aaF _ G,B⟩
   by_cases h:f=I
   ·subst h;have:a'=a:=by rw[C]at u;have:=aak u;omega
    subst this;rw[abe (by rw[g.1];exact E)]at D;have D:=aak D;subst D;by_cases B:Ir m rs[i].2.1=Ir m Y
    ·rw[←B,abe Ω]at hv;exact .inr ⟨rs[i],by rw[a8];exact aa4 _ (aah.2 rfl),a4,aev a5 U B,aak hv⟩
    ·rw[aa5 B]at hv;exact old (λ⟨_,e⟩=>B (by rw[e])) (y f a' Y row v u U A hv)
   ·rw[aa5 h]at D;exact old (λ⟨e,_⟩=>h e) (y I a' Y z v u U D hv)
 ·rintro s ⟨d,g,y,rfl⟩;unfold jI.L3;dsimp only;exact aY3 Ω (aZ4 ⟨d,g,by rw[aar]at y;exact y,rfl⟩)
 rintro _ ⟨d,g,y,rfl⟩;dsimp only;rw[Gp];exact aZ0 ⟨rfl,g,y⟩
theorem ahI {t:Nat->B3->Option Int} (al:LI) (m:Nat) (d:LL) (f a:Nat) (l:LI) (u:ED al) (E:m<=301) (B:PV al m d) {rs:LR} (G:afw al m rs d) (e:al[f]? =some (a:Int)) (C:l∈kV m a)
 (y: ∀(m:Nat) (d:LL) (l:LI),m<=301->l.length<=3->(∀q∈l,bg (m:Int) q)->Sp t ((m:Int),d,l) (λ v=>v=(Ir m l:Int))):
 Sp (λ n=>qZ.P (t n) n) ((m:Int),d,(f:Int),l) (λ v=>Rq rs (f:Int) l v):=by
 show Tt (λ n=>qZ.P (t n) n ((m:Int),d,(f:Int),l)) _;unfold qZ.P;dsimp only;obtain⟨z,k⟩:=dN.1 C;have i:f<al.length:=(aad.1 e).1
 have I:a<=3:=by
  obtain⟨a',N,K⟩:=u.rank i;rw[aac i,K]at e;have:=aak e;omega
 obtain⟨row,g,D,L⟩:=B.2 f a e;have A:=UZ k;rw[z]at A;have p:f<d.length:=by rw[B.1];exact i
 rw[fE p]
 have M:d[f]=row:=by
  rw[aac p]at g;exact aak g
 rw[M];refine aY7 (aZ1 (y m d l E Ω k) λ v hv=> ?_);subst hv;refine aW5 Ω (aZ0 (G f a l row _ e C g (aac _)))
def dd:LI->LI
 | []=>[]
 |x::l=>if x∈l then dd l else x::dd l
theorem D6: ∀{l:LI} {x:Int},x∈dd l ↔ x∈l
 | [],_=>ab7
 |a::l,x=>by
  unfold dd;by_cases h:a∈l
  ·rw[if_pos h,D6,aaU];exact⟨.inr,λ d=>d.elim (λ e=>e▸h) id⟩
  ·rw[if_neg h,aaU,aaU,D6]
theorem Hl: ∀l:LI,(dd l).Nodup
 | []=>List.nodup_nil
 |a::l=>by
  unfold dd;by_cases h:a∈l
  ·rw[if_pos h];exact Hl l
  ·rw[if_neg h];exact List.nodup_cons.2 ⟨λ d=>h (D6.1 d),Hl l⟩
theorem EP {α:Type} [BEq α] [LawfulBEq α]: ∀{a b:List α},a.Nodup->(∀x∈a,x∈b)->a.length<=b.length
 | [],b,_,_=>by simp
 |x::a,b,k,hs=>by
  obtain⟨l,m⟩:=List.nodup_cons.1 k;have g:x∈b:=hs x (abG ..)
  have:=EP (b:=b.erase x) m λ y i=>by
   have d:=hs y (aaS _ i);have f:y≠x:=λ e=>l (e▸i);exact(List.mem_erase_of_ne f).2 d
  have p:=List.length_pos_of_mem g;rw[List.length_erase_of_mem g]at this;simp only[aaX];omega
theorem ajj (l:LI):(dd l).length<=l.length:=EP (Hl l) λ x h=>D6.1 h
theorem afQ {m:Nat} {num after b:LI} (z:num.length=m) (d: ∀k j,k<m->j<m->after[k]? =after[j]? ->num[k]? =num[j]?) (A:after.length=m)
 (g: ∀k,k<m-> ∃j v,j<m/\num[k]? =num[j]? /\v∈b/\after[j]? =some v):(dd num).length<=b.length:=by
 have i:=EP (Hl num) (b:=b.map λ v=>num.getD (after.idxOf v) 0) λ x l=>by
  obtain⟨k,p,rfl⟩:=aay (D6.1 l);obtain⟨j,v,q,t,u,f⟩:=g k Ω;have hv:v∈after:=aai f;have y:=List.idxOf_lt_length_of_mem hv;have e:after[after.idxOf v]? =some v:=by rw[aac y,List.getElem_idxOf]
  have:=d j (after.idxOf v) q Ω (by rw[e,f]);refine aaC.2 ⟨v,u,?_⟩;rw[abg,←this,←t,aac p,aby]
 rwa [aaH]at i
theorem aiQ {m:Nat} {num after:LI} (q:num.length=m) (d: ∀k j,k<m->j<m->after[k]? =after[j]? ->num[k]? =num[j]?) (t:after.length=m) (y:(dd after).length=(dd num).length):
 ∀k j,k<m->j<m->num[k]? =num[j]? ->after[k]? =after[j]? :=by
 intro k j u v e;apply aaT;intro g;have f:after[k]∈dd after:=D6.2 (aaf Ω)
 have:=afQ q d t (b:=(dd after).erase after[k]) λ i p=>by
  by_cases h:after[i]? =after[k]?
  ·refine⟨j,after[j],v,(d i k p u h).trans e,?_,aac Ω⟩;refine(List.mem_erase_of_ne λ l=>g ?_).2 (D6.2 (aaf Ω));rw[aac Ω,aac Ω,l]
  ·refine⟨i,after[i],p,rfl,?_,aac Ω⟩;refine(List.mem_erase_of_ne λ l=>h ?_).2 (D6.2 (aaf Ω));rw[aac Ω,aac Ω,l]
 rw[List.length_erase_of_mem f]at this;have:=List.length_pos_of_mem f;omega
theorem agp {m:Nat} {num after:LI} (e:num.length=m) (d: ∀k j,k<m->j<m->after[k]? =after[j]? ->num[k]? =num[j]?) (f:after.length=m):(dd num).length<=(dd after).length:=
 afQ e d f λ k g=>⟨k,after[k],g,rfl,D6.2 (aaf Ω),aac Ω⟩
theorem ahK {F:Nat->Af->Option LI} (hF: ∀l v,l.length+1<=ay->Sp F (l,v) (λ r=>(∀y,y∈r ↔ y=v\/y∈l)/\r.length<=l.length+1/\((l.Pairwise λ a b=>a<b)->r.Pairwise λ a b=>a<b))) (l:LI) (p:l.length<=1000000):
 Sp (λ n=>rY.P (F n) n) l (λ v=>v=((dd l).length:Int)):=by
 show Tt (λ n=>rY.P (F n) n l) _;unfold rY.P
 refine aZ1 (R:=λ out=>(out.Pairwise λ a b=>a<b)/\ ∀y,y∈out ↔ y∈l)
  (aZ8 (aZ6 l.length (λ i s=> ∃out:LI,out.length<=i/\(out.Pairwise λ a b=>a<b)/\(∀y,y∈out ↔ y∈l.take i)/\s=(out,l,(l.length:Int),(i:Int))) ?_ ?_ ⟨[],Θ,List.Pairwise.nil,Θ,rfl⟩)) ?_
 ·rintro i s k ⟨out,e,d,f,rfl⟩;unfold rY.L1;dsimp only;refine aY1 Ω (aY k (aZ7 (hF out l[i] (by rw[Ci];omega)) λ r m=>aZ2 ⟨r,Ω,m.2.2 d,λ y=> ?_,by rw[ak Ω]⟩));rw[m.1,aat,aac k,aap,f];simp only[aaQ,aah];exact⟨λ h=>h.symm,λ h=>h.symm⟩
 ·rintro s ⟨out,e,d,f,rfl⟩;unfold rY.L1;dsimp only;exact aY3 Ω (aZ4 ⟨d,λ y=>by rw[f,aar]⟩)
 ·rintro out ⟨e,d⟩;refine aZ0 ?_;have a:=EP (e.imp λ h=>Ω) (b:=dd l) λ x g=>D6.2 ((d x).1 g);have b:=EP (Hl l) (b:=out) λ x g=>(d x).2 (D6.1 g);omega
def Iu (l:LI) (i:Nat) (s:Int):LI:=l.take i++s::l.drop i
theorem Zh (l:LI) (i:Nat) (s:Int):List.append (List.append (List.append ([]:LI) (List.drop (Int.toNat 0) (List.take (Int.toNat (i:Int)) l))) ([s]:LI)) (List.drop (Int.toNat (i:Int)) (List.take (Int.toNat (l.length:Int)) l))=Iu l i s:=by
 unfold Iu;simp
theorem G8 {m r:Nat} {l:LI} {i:Nat} {s:Int} (h:l∈kV m r) (f:i<=l.length) (hs:bg (m:Int) s):Iu l i s∈kV m (r+1):=by
 obtain⟨g,d⟩:=dN.1 h;refine dN.2 ⟨by simp[Iu];omega,λ q e=> ?_⟩;have:q∈l.take i\/q=s\/q∈l.drop i:=by simpa [Iu]using e
 rcases this with h|h|h
 ·exact d q (abr h)
 ·rw[h];exact hs
 ·exact d q (abD h)
def afY (al:LI) (m:Nat) (num:LI) (δ:Int->LI->Int) (s t:Int):Prop:=
 ∀(f a i:Nat) (l:LI),al[f]? =some ((a+1:Nat):Int)->l∈kV m a->i<=a->iat num (δ (f:Int) (Iu l i s))=iat num (δ (f:Int) (Iu l i t))
theorem afn {Ls:Nat->Ac->Option (LL)} {Ne:Nat->AN->Option Int} (al:LI) (m:Nat) (d:LL) (num:LI) (s t:Int) (δ:Int->LI->Int) (D:ED al) (hm:m<=301)
 (hn:num.length=m) (hs:bg (m:Int) s) (ht:bg (m:Int) t) (Y: ∀N r:Nat,N<=301->r<=3->Sp Ls ((N:Int),(r:Int)) (λ l=>l=kV N r))
 (E: ∀(f a:Nat) (l:LI),al[f]? =some (a:Int)->l∈kV m a->bg (m:Int) (δ (f:Int) l)/\Sp Ne ((m:Int),d,(f:Int),l) (λ v=>v=δ (f:Int) l)):
 Sp (λ n=>iP.P (Ls n) (Ne n) n) (al,(m:Int),d,num,s,t) (λ b=>b=true ↔ afY al m num δ s t):=by
 have Z:=D.1;show Tt (λ n=>iP.P (Ls n) (Ne n) n (al,(m:Int),d,num,s,t)) _;unfold iP.P;dsimp only
 refine aZ1 (R:=λ q=>q=Sum.inl ()/\afY al m num δ s t\/q=Sum.inr false/\ ¬afY al m num δ s t)
  (aZ8 (aZ6 al.length (λ k x=>x=(num,s,t,(m:Int),d,al,(al.length:Int),(k:Int))/\ ∀(f a i:Nat) (l:LI),f<k->al[f]? =some ((a+1:Nat):Int)->l∈kV m a->i<=a->iat num (δ (f:Int) (Iu l i s))=iat num (δ (f:Int) (Iu l i t))) ?_ ?_ ⟨rfl,λ f _ _ _ h=>absurd h Ω⟩)) ?_
 ·rintro f x hf ⟨rfl,W⟩;unfold iP.L3;dsimp only;obtain⟨r,b3,G⟩:=D.rank hf;have I:al[f]? =some (r:Int):=by rw[aac hf,G]
  refine aY1 Ω (aY hf ?_);rw[G];refine aY9 (λ h0=> ?_) (λ K=> ?_)
  ·have h0:=fZ h0;refine aZ2 ⟨by rw[ak Ω],λ L a i l a1 p B g=> ?_⟩;by_cases e:L=f
   ·subst e;rw[I]at p;have:=aak p;omega
   ·exact W L a i l Ω p B g
  have K:=dec_not K
  have e1:IntKind.wrap .i64 ((r:Int)-1)=((r-1:Nat):Int):=by
   rw[jX _ Ω Ω];omega
  rw[e1];have u:al[f]? =some (((r-1+1:Nat):Nat):Int):=by rw[I];congr 1;omega
  have b4:=uf (n:=m) (r:=r-1) Ω Ω;have b5:=rE m (r-1);refine aZ7 (Y m (r-1) Ω Ω) λ ls a2=> ?_;subst a2
  refine aZ7 (R:=λ q=>q=Sum.inl (num,s,t,(m:Int),d,al,(al.length:Int),(f:Int))/\(∀(i:Nat) (l:LI),l∈kV m (r-1)->i<=r-1->iat num (δ (f:Int) (Iu l i s))=iat num (δ (f:Int) (Iu l i t)))\/q=Sum.inr (Sum.inr false)/\ ¬afY al m num δ s t)
   (aZ8 (aZ6 (kV m (r-1)).length (λ j x=>x=(num,s,t,(m:Int),d,(f:Int),(r:Int),al,(al.length:Int),(f:Int),kV m (r-1),((kV m (r-1)).length:Int),(j:Int))/\ ∀(i:Nat) (l:LI),l∈(kV m (r-1)).take j->i<=r-1->iat num (δ (f:Int) (Iu l i s))=iat num (δ (f:Int) (Iu l i t))) ?_ ?_ ⟨rfl,Θ⟩)) ?_
  ·rintro j x hj ⟨rfl,M⟩;unfold iP.L2;dsimp only;refine aY1 Ω (aZ9 (rng Ω Ω) ?_);rw[aam];refine aY6 hj λ l y a3=> ?_;obtain⟨b7,b8⟩:=dN.1 y
   refine aZ7 (R:=λ q=>q=Sum.inl (num,s,t,(m:Int),d,(f:Int),(r:Int),al,(al.length:Int),(f:Int),kV m (r-1),((kV m (r-1)).length:Int),(j:Int))/\(∀i:Nat,i<=r-1->iat num (δ (f:Int) (Iu l i s))=iat num (δ (f:Int) (Iu l i t)))\/q=Sum.inr (Sum.inr (Sum.inr false))/\ ¬afY al m num δ s t)
    (aZ8 (aZ6 r (λ i x=>x=(num,s,t,(m:Int),d,(f:Int),(r:Int),l,al,(al.length:Int),(f:Int),kV m (r-1),((kV m (r-1)).length:Int),(j:Int),(r:Int),(i:Int))/\ ∀C:Nat,C<i->iat num (δ (f:Int) (Iu l C s))=iat num (δ (f:Int) (Iu l C t))) ?_ ?_ ⟨rfl,λ C h=>absurd h Ω⟩)) ?_
   ·rintro i x g ⟨rfl,O⟩;unfold iP.L1;dsimp only;have Q:=G8 (i:=i) y Ω hs;have S:=G8 (i:=i) y Ω ht;refine aY1 Ω (aZ9 Δ (aZ9 (jK Δ) (aZ9 (jK Δ) (aZ9 Δ (aZ9 (jK Δ) ?_)))));refine aZ9 Δ (aZ9 (jK Δ) (aZ9 (jK Δ) (aZ9 Δ (aZ9 (jK Δ) ?_))));rw[Zh,Zh];obtain⟨n1,n2⟩:=E f _ _ u Q;obtain⟨o1,o2⟩:=E f _ _ u S;refine aZ7 n2 λ v1 a4=> ?_;subst a4;refine aW0 n1.1 (by have:=n1.2;omega) λ e1 _ z=>aZ7 o2 λ v2 a5=> ?_;subst a5;refine aW0 o1.1 (by have:=o1.2;omega) λ e2 _ A=> ?_;have z:=l7 z;have A:=l7 A;refine aY9 (λ h=>aZ4 (t:=Sum.inr (Sum.inr (Sum.inr false))) (.inr ⟨rfl,λ hA=> ?_⟩)) (λ h=>aZ2 ⟨by rw[ak Ω],λ C c2=> ?_⟩)
    ·have:=hA f (r-1) i l u y Ω;rw[z,A]at this;rw[this]at h;simp at h
    ·by_cases e:C=i
     ·subst e;rw[z,A];simpa using h
     ·exact O C Ω
   ·rintro x ⟨rfl,O⟩;unfold iP.L1;dsimp only;exact aY3 Ω (aZ4 (.inl ⟨rfl,λ i g=>O i Ω⟩))
   ·rintro q (⟨rfl,O⟩|⟨rfl,h⟩)
    ·refine aZ2 ⟨by rw[ak Ω],λ i l' U g=> ?_⟩;rw[aat,a3]at U;rcases aap.1 U with h|h
     ·exact M i l' h g
     ·have:l'=l:=by simpa using h
      subst this;exact O i g
    ·exact aZ4 (.inr ⟨rfl,h⟩)
  ·rintro x ⟨rfl,M⟩;unfold iP.L2;dsimp only;exact aY3 Ω (aZ4 (.inl ⟨rfl,λ i l B=>M i l (by rw[aar];exact B)⟩))
  ·rintro q (⟨rfl,M⟩|⟨rfl,h⟩)
   ·refine aZ2 ⟨by rw[ak Ω],λ L a i l a1 p B g=> ?_⟩;by_cases e:L=f
    ·subst e;rw[u]at p;have:a=r-1:=by have:=aak p;omega
     subst this;exact M i l B g
    ·exact W L a i l Ω p B g
   ·exact aZ4 (.inr ⟨rfl,h⟩)
 ·rintro x ⟨rfl,W⟩;unfold iP.L3;dsimp only;exact aY3 Ω (aZ4 (.inl ⟨rfl,λ f a i l p B g=>W f a i l (aad.1 p).1 p B g⟩))
 ·rintro q (⟨rfl,h⟩|⟨rfl,h⟩)
  ·exact aZ0 ⟨λ _=>h,λ _=>rfl⟩
  ·exact aZ0 ⟨λ h'=>(by cases h'),λ h'=>absurd h' h⟩
def Yu (al:LI) (m:Nat) (rs:LR) (δ:Int->LI->Int):Prop:=
 (∀(f a:Nat) (l:LI),al[f]? =some (a:Int)->l∈kV m a->bg (m:Int) (δ (f:Int) l))/\
 ∀r:Rule,r∈rs ↔ ∃f a:Nat,al[f]? =some (a:Int)/\r.1=(f:Int)/\r.2.1∈kV m a/\r.2.2=δ (f:Int) r.2.1
def EqS (al:LI) (m:Nat) (δ:Int->LI->Int) (num:LI) (s t:Int):Prop:=iat num s=iat num t/\afY al m num δ s t
section
variable {al:LI} {m:Nat} {δ:Int->LI->Int} {num first after fin:LI} {rs:LR} {s t u:Int}
theorem EqS.refl:EqS al m δ num s s:=⟨rfl,λ _ _ _ _ _ _ _=>rfl⟩
theorem EqS.symm (h:EqS al m δ num s t):EqS al m δ num t s:=⟨h.1.symm,λ f a i l d e g=>(h.2 f a i l d e g).symm⟩
theorem EqS.trans (h:EqS al m δ num s t) (d:EqS al m δ num t u):EqS al m δ num s u:=⟨h.1.trans d.1,λ f a i l e g k=>(h.2 f a i l e g k).trans (d.2 f a i l e g k)⟩
def Xm (al:LI) (m:Nat) (δ:Int->LI->Int) (num first after:LI) (k:Nat):Prop:= ∃c t:Nat,after[k]? =some (c:Int)/\first[c]? =some (t:Int)/\t<m/\EqS al m δ num (k:Int) (t:Int)
theorem Xm.app {k:Nat} (h:Xm al m δ num first after k) (x:Int):Xm al m δ num (first++[x]) after k:=by
 obtain⟨c,t,e,d,f⟩:=h;exact⟨c,t,e,by rw[aax (aad.1 d).1];exact d,f⟩
def FirstN (al:LI) (m:Nat) (δ:Int->LI->Int) (num first:LI):Prop:= ∀(c d:Nat) (t e:Int),first[c]? =some t->first[d]? =some e->EqS al m δ num t e->c=d
theorem VN {α:Type} {l:List α} {x y:α} {i:Nat} (h:(l++[x])[i]? =some y):l[i]? =some y\/i=l.length/\y=x:=by
 rcases aaG i l.length with d|d
 ·rw[aax d]at h;exact .inl h
 ·rw[aaB d]at h;have:=(aad.1 h).1;have:i=l.length:=by simp at this;omega
  subst this;exact .inr ⟨rfl,by simpa using h.symm⟩
theorem FirstN.snoc {x:Int} (h:FirstN al m δ num first) (d: ∀t∈first,¬EqS al m δ num x t):FirstN al m δ num (first++[x]):=λ c i t f k l e=>by
 rcases VN k with g|⟨rfl,rfl⟩<;>rcases VN l with g2|⟨rfl,rfl⟩
 ·exact h c i t f g g2 e
 ·exact absurd e.symm (d t (aai g))
 ·exact absurd e (d f (aai g2))
 ·rfl
theorem qY {l:LI} (d:l.length=m) {k:Nat} (e:k<m):l[k]? =some (iat l (k:Int)):=by
 rw[aac Ω,l7];rw[aam,aac Ω]
theorem NR (h:bg (m:Int) s): ∃k:Nat,k<m/\s=(k:Int):=⟨s.toNat,by have:=h.1;have:=h.2;omega,by have:=h.1;omega⟩
theorem agj (l:after.length=m) (p: ∀k,k<m->Xm al m δ num first after k) (B:FirstN al m δ num first) {s t:Int} (hs:bg (m:Int) s) (C:bg (m:Int) t):iat after s=iat after t ↔ EqS al m δ num s t:=by
 obtain⟨k,q,rfl⟩:=NR hs;obtain⟨j,v,rfl⟩:=NR C;obtain⟨c,u,f,y,D,z⟩:=p k q;obtain⟨d,w,g,i,E,A⟩:=p j v;rw[qY l q]at f;rw[qY l v]at g;have f:=aak f;have g:=aak g;rw[f,g];constructor
 ·intro e;have:c=d:=by omega
  subst this;rw[y]at i;have:u=w:=by have:=aak i;omega
  subst this;exact z.trans A.symm
 ·intro e;rw[B c d _ _ y i (z.symm.trans (e.trans A))]
def JCl (m:Nat) (fin:LI) (rs:LR) (num:LI):Prop:=(∀s t,bg (m:Int) s->bg (m:Int) t->iat num s=iat num t->(s∈fin ↔ t∈fin))/\ ∀h,Gy (m:Int) fin rs h-> ∀s t,bg (m:Int) s->bg (m:Int) t->h s=h t->iat num s=iat num t
def UD (m:Nat) (fin:LI) (rs:LR) (cl:LI):Prop:=cl.length=m/\(∀v∈cl,bg (m:Int) v)/\Gy (m:Int) fin rs (iat cl)/\ ∀h,Gy (m:Int) fin rs h-> ∀s t,bg (m:Int) s->bg (m:Int) t->h s=h t->iat cl s=iat cl t
theorem aex (h: ∀q,bg (m:Int) q->iat num q=if q∈fin then 1 else 0):JCl m fin rs num:=by
 have e: ∀s t,bg (m:Int) s->bg (m:Int) t->(iat num s=iat num t ↔ (s∈fin ↔ t∈fin)):=λ s t hs d=>by
  rw[h s hs,h t d];by_cases f:s∈fin<;>by_cases g:t∈fin<;>simp[f,g]
 exact⟨λ s t hs d=>(e s t hs d).1,λ h i s t hs d eq=>(e s t hs d).2 (i.1 s t hs d eq)⟩
theorem ain {l:LI} {i:Nat} (d:i<=l.length):(Iu l i s)[i]? =some s:=by
 unfold Iu;rw[aaB Δ,show i-(l.take i).length=0 by simp;omega];rfl
theorem Zi {l:LI} {i:Nat} (d:i<=l.length):(Iu l i s).set i t=Iu l i t:=by
 unfold Iu;rw[List.set_append_right _ _ Δ,show i-(l.take i).length=0 by simp;omega];rfl
theorem aio {l:LI} {a i:Nat} (e:l∈kV m a) (h:l[i]? =some s): ∃(b:Nat) (d:LI),a=b+1/\d∈kV m b/\i<=b/\l=Iu d i s/\i<=d.length:=by
 obtain⟨t,f⟩:=dN.1 e;have u:=(aad.1 h).1;refine⟨a-1,l.take i++l.drop (i+1),Ω,dN.2 ⟨Δ,λ q g=>f q ?_⟩,Ω,?_,Δ⟩
 ·rcases aap.1 g with h|h
  ·exact abr h
  ·exact abD h
 ·unfold Iu;obtain⟨k,p⟩:=QW h;rw[abE Ω,aaJ Ω,List.drop_append,aa3 Ω,p,acy,abB,abU];exact k
theorem WB (hF:Yu al m rs δ) (p:JCl m fin rs num) (A: ∀{s t:Int},bg (m:Int) s->bg (m:Int) t->(iat after s=iat after t ↔ EqS al m δ num s t)):JCl m fin rs after:=by
 refine⟨λ s t hs g e=>p.1 s t hs g ((A hs g).1 e).1,λ h q s t hs g e=>(A hs g).2 ⟨p.2 h q s t hs g e,λ f a i l u v G=> ?_⟩⟩;have d:i<=l.length:=by have:=(dN.1 v).1;omega
 have k:=G8 v d hs;have y:=G8 v d g;obtain⟨r,E,B,z,C⟩:=q.2 s t hs g e ((f:Int),Iu l i s,δ (f:Int) (Iu l i s)) i ⟨(hF.2 _).2 ⟨f,a+1,u,rfl,k,rfl⟩,ain d⟩;dsimp only at B z C;rw[Zi d]at z;obtain⟨I,a',K,g2,g3,D⟩:=(hF.2 r).1 E;rw[←g2,B,z]at D;refine p.2 h q _ _ (hF.1 f _ _ u k) (hF.1 f _ _ u y) ?_;rw[←C,D]
theorem YU (d:num.length=m) (f:after.length=m) (l: ∀{s t:Int},bg (m:Int) s->bg (m:Int) t->(iat after s=iat after t ↔ EqS al m δ num s t)): ∀k j,k<m->j<m->after[k]? =after[j]? ->num[k]? =num[j]? :=λ k j g i e=>by
 rw[qY f g,qY f i]at e;rw[qY d g,qY d i,((l (s:=(k:Int)) (t:=(j:Int)) ⟨Ω,Ω⟩ ⟨Ω,Ω⟩).1 (aak e)).1]
theorem aeg (hF:Yu al m rs δ) (p:num.length=m) (d:after.length=m) (K:JCl m fin rs num) (u: ∀{s t:Int},bg (m:Int) s->bg (m:Int) t->(iat after s=iat after t ↔ EqS al m δ num s t)) (L:(dd after).length=(dd num).length) (hv: ∀v∈after,bg (m:Int) v):UD m fin rs after:=by
 have g:=WB hF K u;refine⟨d,hv,⟨g.1,λ s t hs C e r i D=> ?_⟩,g.2⟩;obtain⟨f,a,q,g2,g3,M⟩:=(hF.2 r).1 D.1;obtain⟨b,l,rfl,E,N,G,I⟩:=aio g3 D.2;have k:=G8 E I C;refine⟨((f:Int),Iu l i t,δ (f:Int) (Iu l i t)),(hF.2 _).2 ⟨f,b+1,q,rfl,k,rfl⟩,g2.symm,by rw[G,Zi I],?_⟩;dsimp only;rw[M];have z:=((u hs C).1 e).2 f b i l q E N;rw[←G]at z;obtain⟨x,A,O⟩:=NR (hF.1 f _ _ q g3);obtain⟨y,B,Q⟩:=NR (hF.1 f _ _ q k);rw[O,Q]at z ⊢;have:=aiQ p (YU p d u) d L x y A B (by rw[qY p A,qY p B,z]);rw[qY d A,qY d B]at this;exact(aak this).symm
end
section
variable {Mk:Nat->Aa->Option ahR} {Ak:Nat->AP->Option Bool} {Mn:Nat->LI->Option Int}
theorem Yg (al:LI) (m:Nat) (fin:LI) (rs:LR) (hm:m<=301) (d1:fin.length<=1000000000) (L: ∀q∈fin,bg (m:Int) q)
 (δ:Int->LI->Int) (hF:Yu al m rs δ) (P:LL->Prop) (a9:Sp Mk (al,(m:Int),fin,rs) (λ t=>t.1=(m:Int)/\P t.2))
 (b0: ∀(f:LL) (num:LI) (s t:Int),P f->num.length=m->bg (m:Int) s->bg (m:Int) t->Sp Ak (al,(m:Int),f,num,s,t) (λ b=>b=true ↔ afY al m num δ s t))
 (M: ∀l:LI,l.length<=1000000->Sp Mn l (λ v=>v=((dd l).length:Int))):
 Sp (λ n=>dQ.P (Mk n) (Ak n) (Mn n) n) (al,(m:Int),fin,rs) (UD m fin rs):=by
 show Tt (λ n=>dQ.P (Mk n) (Ak n) (Mn n) n (al,(m:Int),fin,rs)) _;unfold dQ.P;dsimp only;refine aZ1 a9 λ t N=> ?_;obtain⟨t1,f⟩:=t;obtain⟨h1,hP⟩:=N;dsimp only at h1 hP ⊢;subst h1;refine aX (tV Ω Ω) ?_;rw[aam]
 refine aZ1 (R:=λ x=> ∃num:LI,num.length=m/\JCl m fin rs num/\x=(al,(m:Int),fin,rs,(m:Int),f,num))
  (aZ8 (aZ6 fin.length (λ i s=> ∃num:LI,num.length=m/\(∀q,bg (m:Int) q->iat num q=if q∈fin.take i then 1 else 0)/\s=(al,(m:Int),fin,rs,(m:Int),f,num,fin,(fin.length:Int),(i:Int))) ?_ ?_ ⟨List.replicate m 0,Θ,λ q p=>by obtain⟨q0,q1⟩:=p;rw[if_neg Θ,l7 (v:=0)];rw[abn,if_pos Ω],rfl⟩)) ?_
 ·rintro i s O ⟨num,B,y,rfl⟩;unfold dQ.L1;dsimp only;have p:=L _ (aaf O);refine aY1 Ω (aY O (aZ9 (rng p.1 (by have:=p.2;omega)) ?_));refine aY6 (by have:=p.1;have:=p.2;omega) λ e _ _=>aZ2 ⟨num.set (Int.toNat fin[i]) 1,by simpa using B,λ q Q=> ?_,by rw[ak Ω]⟩;rw[IL (by have:=p.1;have:=p.2;omega) p.1 Q.1,y q Q,aat,aac O,aaQ];by_cases e:q=fin[i]
  ·rw[if_pos e,if_pos (aa4 _ (aah.2 e))]
  ·rw[if_neg e];simp only[aap,aah,e,or_false]
 ·rintro s ⟨num,B,y,rfl⟩;unfold dQ.L1;dsimp only;rw[aar]at y;exact aY3 Ω (aZ4 ⟨num,B,aex y,rfl⟩)
 rintro _ ⟨S,b4,b5,rfl⟩;dsimp only
 refine aZ1 (R:=λ q=> ∃l:LI,UD m fin rs l/\q=Sum.inr l)
  (aZ8 (aX1 (λ s=> ∃num:LI,num.length=m/\JCl m fin rs num/\s=(al,(m:Int),fin,rs,(m:Int),f,num)) (λ s=>m-(dd s.2.2.2.2.2.2).length) ?_ ⟨S,b4,b5,rfl⟩)) ?_
 ·rintro s ⟨num,B,hj,rfl⟩;unfold dQ.L4;dsimp only;refine aZ9 (tV Ω Ω) ?_;rw[aam,abC]
  refine aZ7 (R:=λ x=> ∃first after:LI,after.length=m/\first.length<=m/\(∀k,k<m->Xm al m δ num first after k)/\FirstN al m δ num first/\x=(al,(m:Int),fin,rs,(m:Int),f,num,after))
   (aZ8 (aZ6 m (λ i s=> ∃first after:LI,after.length=m/\first.length<=i/\(∀t∈first,bg (m:Int) t)/\(∀k,k<i->Xm al m δ num first after k)/\FirstN al m δ num first/\s=(al,(m:Int),fin,rs,(m:Int),f,num,first,after,(m:Int),(i:Int))) ?_ ?_ ⟨[],List.replicate m 0,Θ,Θ,Θ,λ k E=>absurd E Ω,λ c c' t t' h=>by simp at h,rfl⟩)) ?_
  ·rintro i s O ⟨first,after,g,hf,z,G,K,rfl⟩
   unfold dQ.L3;dsimp only;refine aY1 Ω (aZ9 (rng Ω Ω) ?_);rw[aam];refine aY6 Ω λ e _ _=> ?_
   refine aZ7 (R:=λ x=> ∃c:Nat,(c=first.length/\(∀t∈first,¬EqS al m δ num (i:Int) t)\/ ∃t:Nat,first[c]? =some (t:Int)/\t<m/\EqS al m δ num (i:Int) (t:Int))/\x=(al,(m:Int),fin,rs,(m:Int),f,num,first,after.set i (c:Int),(i:Int),(m:Int),(i:Int)))
    (aZ8 (aZ6 first.length (λ k s=>s=(al,(m:Int),fin,rs,(m:Int),f,num,first,after.set i (first.length:Int),(i:Int),(m:Int),(i:Int),(first.length:Int),(k:Int))/\ ∀t∈first.take k,¬EqS al m δ num (i:Int) t) ?_ ?_ ⟨rfl,Θ⟩)) ?_
   ·rintro k s E ⟨rfl,hS⟩;unfold dQ.L2;dsimp only;refine aY1 Ω (aZ9 (rng Ω Ω) ?_);rw[aam];refine aY6 E λ t b7 U=> ?_;have d:=z t b7;refine aY0 (rng Ω Ω) (aY5 ?_);rw[aam];refine aY6 Ω λ e1 _ b8=> ?_;refine aY0 (rng d.1 (by have:=d.2;omega)) (aY5 ?_);refine aY6 (by have:=d.1;have:=d.2;omega) λ e2 _ b9=> ?_;have C:iat num (i:Int)=iat num t ↔ e1=e2:=by rw[l7 (by rw[aam];exact b8),l7 b9]
    refine aZ7 (R:=λ x=> ∃b:Bool,(b=true ↔ EqS al m δ num (i:Int) t)/\x=(al,(m:Int),fin,rs,(m:Int),f,num,first,after.set i (first.length:Int),(i:Int),(k:Int),(m:Int),(i:Int),(first.length:Int),(k:Int),b))
     (aY4 (λ h=>aZ1 (b0 f num (i:Int) t hP B ⟨Ω,Ω⟩ d) λ b hb=>aZ0 ⟨b,hb.trans ⟨λ I=>⟨C.2 (fZ h),I⟩,λ I=>I.2⟩,rfl⟩) (λ h=>aZ0 ⟨false,⟨λ h=>(by cases h),λ I=>absurd (C.1 I.1) (of_decide_eq_false h)⟩,rfl⟩)) ?_
    rintro _ ⟨b,hb,rfl⟩;dsimp only;refine aY9 (λ c0=> ?_) (λ W=>aZ2 ⟨by rw[ak Ω],λ u hu=> ?_⟩)
    rotate_left
    ·rw[aat,U]at hu;rcases aap.1 hu with h|h
     ·exact hS u h
     ·have:u=t:=by simpa using h
      subst this;exact λ I=>by rw[hb.2 I]at W;cases W
    refine aZ9 (rng Ω Δ) ?_;rw[aam];refine aY6 Δ λ e3 _ _=>aZ4 ⟨k,.inr ⟨t.toNat,?_,by have:=d.1;have:=d.2;omega,?_⟩,by rw[List.set_set]⟩
    ·rw[U];congr 1;have:=d.1;omega
    ·have:=hb.1 c0
     rwa [abI d.1]
   ·rintro s ⟨rfl,hS⟩;unfold dQ.L2;dsimp only;rw[aar]at hS;exact aY3 Ω (aZ4 ⟨first.length,.inl ⟨rfl,hS⟩,rfl⟩)
   ·rintro _ ⟨c,hc,rfl⟩;dsimp only;refine aZ9 (rng Ω Δ) ?_;rw[aam];refine aY6 Δ λ e4 _ A=> ?_;rw[abe Ω]at A;have A:=aak A;subst A;refine aY2 (λ h=> ?_) (λ h=> ?_)
    ·have Y:=fZ h;refine aY0 (jK Δ) (aZ3 (aZ2 ⟨first++[(i:Int)],after.set i (c:Int),by simpa using g,Δ,λ t N=> ?_,λ k E=> ?_,K.snoc ?_,by rw[ak Ω];rfl⟩))
     ·rcases aap.1 N with h|h
      ·exact z t h
      ·rw[aah.1 h];exact⟨Ω,Ω⟩
     ·rcases aaG k i with Z|Z
      ·have c1:=(G k Z).app (i:Int);obtain⟨c',t',D,a2⟩:=c1;exact⟨c',t',by rw[aa5 Ω];exact D,a2⟩
      ·obtain rfl:k=i:=by omega
       refine⟨c,k,by rw[abe Ω],?_,O,.refl⟩;have c2:c=first.length:=by omega
       subst c2;simp
     ·rcases hc with⟨_,h⟩|⟨t,h,_⟩
      ·exact h
      ·have:=(aad.1 h).1;omega
    ·have Y:=dec_not h
     have c3: ∃t:Nat,first[c]? =some (t:Int)/\t<m/\EqS al m δ num (i:Int) (t:Int):=by
      rcases hc with⟨h,_⟩|h
      ·exact absurd Ω Y
      ·exact h
     refine aZ3 (aZ2 ⟨first,after.set i (c:Int),by simpa using g,Ω,z,λ k E=> ?_,K,by rw[ak Ω]⟩)
     rcases aaG k i with Z|Z
     ·obtain⟨c',t',D,a2⟩:=G k Z;exact⟨c',t',by rw[aa5 Ω];exact D,a2⟩
     ·obtain rfl:k=i:=by omega
      obtain⟨t,b1,b2,b3⟩:=c3;exact⟨c,t,by rw[abe Ω],b1,b2,b3⟩
  ·rintro s ⟨first,after,g,hf,z,G,K,rfl⟩
   unfold dQ.L3;dsimp only;exact aY3 Ω (aZ4 ⟨first,after,g,hf,G,K,rfl⟩)
  ·rintro _ ⟨first,after,g,hf,G,K,rfl⟩
   dsimp only;have hR: ∀{s t:Int},bg (m:Int) s->bg (m:Int) t->(iat after s=iat after t ↔ EqS al m δ num s t):=λ hs N=>agj g G K hs N;have a4:=YU B g hR;refine aZ7 (M after Ω) λ v1 d7=>aZ7 (M num Ω) λ v2 d8=>aY9 (λ h=>aZ4 ⟨after,aeg hF B g hj hR (by have:=fZ h;omega) λ v hv=> ?_,rfl⟩) (λ h=>aZ2 ⟨⟨after,g,WB hF hj hR,rfl⟩,?_⟩)
   ·obtain⟨k,E,rfl⟩:=aay hv;obtain⟨c,t,D,a2,_⟩:=G k Ω;rw[aac E]at D;have D:=aak D;have a3:=(aad.1 a2).1;rw[D];exact⟨Ω,Ω⟩
   ·have d9:=dec_not h;have e0:=agp B a4 g;have d0:=ajj after;show m-(dd after).length<m-(dd num).length;omega
 ·rintro _ ⟨l,hl,rfl⟩;exact aZ0 hl
end
theorem MF (n:Nat): ∀r,(kV n r).Pairwise λ a b=>cmpL a b<0
 |0=>abR ..
 |r+1=>by
  have d:=MF n r;unfold kV;refine List.pairwise_flatMap.2 ⟨λ i _=>acT.2 (d.imp λ{a b} h=> ?_),List.pairwise_lt_range.imp λ{i j} h x e y f=> ?_⟩
  ·rw[vH];simpa using h
  ·obtain⟨a,_,rfl⟩:=aaC.1 e;obtain⟨b,_,rfl⟩:=aaC.1 f;rw[vH,decide_eq_false Ω];unfold GK;rw[dY Ω];show(-1:Int)<0;omega
theorem agk {f g:Int} {l k:LI} (h:f<g\/f=g/\cmpL l k<=0):vI (f,l,0) (g,k,0)<=0:=by
 unfold vI;dsimp only;rcases h with h|⟨rfl,h⟩
 ·rw[decide_eq_false Ω];unfold GK;rw[dY h];show(-1:Int)<=0;omega
 ·rw[dY rfl];by_cases e:cmpL l k=0
  ·rw[e];exact acY 0
  ·rw[decide_eq_false e];exact h
def NO (m:Nat) (num order:LI):Prop:=num.length=m/\(∀(i:Nat) (s:Int),order[i]? =some s ↔ bg (m:Int) s/\iat num s=(i:Int))/\ ∀v∈num,-1<=v
section
variable {al:LI} {m:Nat} {num num' order ex l:LI} {rs:LR} {s t:Int}
theorem NO.get (h:NO m num order) {q:Int} (d:bg (order.length:Int) q):bg (m:Int) (iat order q)/\iat num (iat order q)=q:=by
 have e:q.toNat<order.length:=by have:=d.1;have:=d.2;omega
 have:=(h.2.1 q.toNat (iat order q)).1 (by rw[aac e,tJ e]);exact⟨this.1,by rw[this.2];exact abI d.1⟩
theorem NO.lt (h:NO m num order) (hs:bg (m:Int) s) (d:0<=iat num s):bg (order.length:Int) (iat num s)/\iat order (iat num s)=s:=by
 have:=(h.2.1 (iat num s).toNat s).2 ⟨hs,Ω⟩;have e:=(aad.1 this).1;exact⟨⟨d,Ω⟩,l7 this⟩
theorem NO.inj (h:NO m num order) (hs:bg (m:Int) s) (d:bg (m:Int) t) (f:0<=iat num s) (e:iat num s=iat num t):s=t:=by
 rw[←(h.lt hs f).2,←(h.lt d Ω).2,e]
theorem NO.len (h:NO m num order):order.length<=m:=by
 have:=MG (S:=(m:Int)) (l:=order) ?_ λ q f=> ?_
 ·simpa using this
 ·refine aaN.2 λ i j d g k e=> ?_;have a:=((h.2.1 i _).1 (aac d)).2;have b:=((h.2.1 j _).1 (aac g)).2;rw[e]at a;omega
 ·obtain⟨i,d,rfl⟩:=aay f;exact((h.2.1 i _).1 (aac d)).1
theorem NO.zero:NO m (List.replicate m (-1)) []:=by
 refine⟨Θ,λ i s=>⟨λ h=>by simp at h,λ⟨h,e⟩=> ?_⟩,λ v hv=>by rw[(acN.1 hv).2];omega⟩;rw[l7 (v:= -1)]at e
 ·omega
 ·rw[abn,if_pos (by have:=h.1;have:=h.2;omega)]
theorem NO.push (h:NO m num order) (hs:bg (m:Int) s) (p:iat num s<0):NO m (num.set s.toNat (order.length:Int)) (order++[s]):=by
 have d:s.toNat<num.length:=by have:=h.1;have:=hs.1;have:=hs.2;omega
 refine⟨by simpa using h.1,λ i t=>⟨λ f=> ?_,λ⟨k,g⟩=> ?_⟩,λ v hv=>(abv hv).elim (h.2.2 v) λ e=>Ω⟩
 ·rcases VN f with f|⟨rfl,rfl⟩
  ·obtain⟨l,g2⟩:=(h.2.1 i t).1 f;refine⟨l,?_⟩;rw[IL d hs.1 l.1,if_neg (by rintro rfl;omega)];exact g2
  ·exact⟨hs,by rw[IL d hs.1 hs.1,if_pos rfl]⟩
 ·rw[IL d hs.1 k.1]at g;split at g
  ·rename_i e;subst e;have:i=order.length:=by omega
   subst this;simp
  ·have:=(h.2.1 i t).2 ⟨k,g⟩;rw[aax (aad.1 this).1];exact this
theorem NO.ext (h:NO m num order) (d:NO m num' (order++ex)):ajd (m:Int) num num' (order.length:Int):=by
 refine λ s hs=>⟨λ e=> ?_,λ f=> ?_⟩
 ·have a:=(h.2.1 (iat num s).toNat s).2 ⟨hs,Ω⟩;have b:=((d.2.1 (iat num s).toNat s).1 (by rw[aax (aad.1 a).1];exact a)).2;omega
 ·apply aaT;intro g;have a:=(d.2.1 (iat num' s).toNat s).2 ⟨hs,Ω⟩;rw[aax Ω]at a;have:=((h.2.1 _ s).1 a).2;omega
theorem NO.from (h:NO m num order) (p:NO m num' (order++ex)) {r:Nat} (i:l∈kV order.length r):l.map (iat (order++ex))∈kV m r/\(l.map (iat (order++ex))).map (iat num)=l/\ ∀x∈l.map (iat (order++ex)),0<=iat num x:=by
 obtain⟨k,f⟩:=dN.1 i
 have e: ∀q∈l,iat (order++ex) q=iat order q:=λ q d=>by
  obtain⟨q0,q1⟩:=f q d;unfold iat;rw[aax Ω]
 refine⟨dN.2 ⟨by simpa using k,λ x g=> ?_⟩,?_,λ x g=> ?_⟩
 ·obtain⟨q,d,rfl⟩:=aaC.1 g;rw[e q d];exact(h.get (f q d)).1
 ·rw[abM];exact(acj λ q d=>by show iat num (iat (order++ex) q)=id q;rw[e q d];exact(h.get (f q d)).2).trans (List.map_id l)
 ·obtain⟨q,d,rfl⟩:=aaC.1 g;rw[e q d,(h.get (f q d)).2];exact(f q d).1
theorem NO.uniq (h:NO m num order) {k d:LI} (g: ∀x∈k,bg (m:Int) x/\0<=iat num x) (i: ∀x∈d,bg (m:Int) x/\0<=iat num x) (e:k.map (iat num)=d.map (iat num)):k=d:=by
 have f: ∀k:LI,(∀x∈k,bg (m:Int) x/\0<=iat num x)->(k.map (iat num)).map (iat order)=k:=λ k g=>by
  rw[abM];exact(acj λ x l=>(h.lt (g x l).1 (g x l).2).2).trans (List.map_id k)
 rw[←f k g,e,f d i]
def Rnd (rs:LR) (m:Nat) (num order:LI) (Vis:Int->LI->Prop) (num' ex:LI):Prop:=
 NO m num' (order++ex)/\(∀r∈rs,(∀x∈r.2.1,0<=iat num x)->Vis r.1 (r.2.1.map (iat num))->0<=iat num' r.2.2)/\
 ∀j:Nat,order.length<=j->j<order.length+ex.length-> ∃r∈rs,iat num' r.2.2=(j:Int)/\(∀x∈r.2.1,0<=iat num x)/\ ∀d∈rs,(∀x∈d.2.1,0<=iat num x)->(iat num' d.2.2<0\/(j:Int)<=iat num' d.2.2)->vI (r.1,r.2.1.map (iat num),0) (d.1,d.2.1.map (iat num),0)<=0
theorem Rnd.mono {Vis d:Int->LI->Prop} (h:Rnd rs m num order Vis num' ex) (hv: ∀r∈rs,(∀x∈r.2.1,0<=iat num x)->d r.1 (r.2.1.map (iat num))->Vis r.1 (r.2.1.map (iat num))):Rnd rs m num order d num' ex:=
 ⟨h.1,λ r f g e=>h.2.1 r f g (hv r f g e),h.2.2⟩
theorem Rnd.nil (h:NO m num order):Rnd rs m num order (λ _ _=>False) num []:=⟨by rw[aaM];exact h,λ _ _ _ h=>h.elim,λ j e d=>by simp at d;omega⟩
theorem Rnd.skip {Vis:Int->LI->Prop} {f:Int} (h:Rnd rs m num order Vis num' ex) (k: ∀r∈rs,(∀x∈r.2.1,0<=iat num x)->r.1=f->r.2.1.map (iat num)=l->0<=iat num' r.2.2):
 Rnd rs m num order (λ d e=>Vis d e\/d=f/\e=l) num' ex:=
 ⟨h.1,λ r g i hv=>hv.elim (h.2.1 r g i) λ⟨p,q⟩=>k r g i p q,h.2.2⟩
theorem Rnd.add {Vis:Int->LI->Prop} {f:Int} (g: ∀r∈rs,bg (m:Int) r.2.2) (h:Rnd rs m num order Vis num' ex) (hs:bg (m:Int) s) (E:iat num' s<0) (L: ∃r∈rs,r.1=f/\r.2.1.map (iat num)=l/\r.2.2=s/\ ∀x∈r.2.1,0<=iat num x)
 (A: ∀r∈rs,(∀x∈r.2.1,0<=iat num x)->r.1=f->r.2.1.map (iat num)=l->r.2.2=s)
 (p: ∀r∈rs,(∀x∈r.2.1,0<=iat num x)-> ¬Vis r.1 (r.2.1.map (iat num))->vI (f,l,0) (r.1,r.2.1.map (iat num),0)<=0):
 Rnd rs m num order (λ G I=>Vis G I\/G=f/\I=l) (num'.set s.toNat ((order++ex).length:Int)) (ex++[s]):=by
 have M:=h.1.push hs E;have N:s.toNat<num'.length:=by have:=h.1.1;have:=hs.1;have:=hs.2;omega
 have d: ∀t,bg (m:Int) t->iat (num'.set s.toNat ((order++ex).length:Int)) t=if t=s then((order++ex).length:Int)else iat num' t:=λ t A=>IL N hs.1 A.1;refine⟨by rw[←aaD];exact M,λ r q K hv=> ?_,λ j O Q=> ?_⟩
 ·rw[d _ (g r q)];split
  ·omega
  ·rename_i e;exact hv.elim (h.2.1 r q K) λ⟨R,S⟩=>absurd (A r q K R S) e
 ·by_cases B:j<order.length+ex.length
  ·obtain⟨r,v,z,C,D⟩:=h.2.2 j O B;refine⟨r,v,?_,C,λ i k u y=>D i k u ?_⟩
   ·rw[d _ (g r v),if_neg (by rintro e;rw[e]at z;omega)];exact z
   ·rw[d _ (g i k)]at y;split at y
    ·rename_i e;rw[e];exact .inl E
    ·exact y
  ·have B:j=(order++ex).length:=by simp at Q ⊢;omega
   subst B;obtain⟨r,v,z,C,D,U⟩:=L;refine⟨r,v,by rw[d _ (g r v),if_pos D],U,λ i k u y=> ?_⟩;rw[z,C];by_cases e:i.2.2=s
   ·refine p i k u λ hv=> ?_;have:=h.2.1 i k u hv;rw[e]at this;omega
   ·rw[d _ (g i k),if_neg e]at y;refine p i k u λ hv=> ?_;have W:=h.2.1 i k u hv;have Y:=(h.1.lt (g i k) W).1.2;omega
theorem Rnd.next (d: ∀r∈rs,bg (m:Int) r.2.2/\ ∀q∈r.2.1,bg (m:Int) q) (g:NO m num order) (i:RnI rs num (order.length:Int)) (h:Rnd rs m num order (λ _ _=>True) num' ex) (e:ex≠[]):RnI rs num' ((order++ex).length:Int):=by
 have C:=List.length_pos_iff.2 e;refine Pn d Ω Δ (λ s hs=> ?_) i (g.ext h.1) (λ j k f=> ?_) λ r l k f=>h.2.1 r l f trivial
 ·rcases acs (iat num s) 0 with h|h
  ·omega
  ·exact(g.lt hs h).1.2
 ·obtain⟨r,p,t,u,v⟩:=h.2.2 j Ω (by simp at f;omega);exact⟨r,p,t,u,λ y z _ A B=>v y z A B⟩
theorem ae8:RnI rs num 0:=⟨λ _=>0,rfl,λ n d=>Ω,λ n d=>Ω⟩
end
section
variable {In:Nat->Af->Option Bool} {So:Nat->LR->Option (LR)} {Ls:Nat->Ac->Option (LL)} {Mk:Nat->Aa->Option ahR} {Ne:Nat->AN->Option Int}
def ad5 (m:Nat) (fin:LI) (rs:LR) (M:Aut):Prop:= ∃num order:LI,NO m num order/\M.1=(order.length:Int)/\(∀r∈rs,(∀s∈r.2.1,0<=iat num s)->0<=iat num r.2.2)/\RnI rs num M.1/\Img (iat num) rs M.2.2/\
 (∀q,q∈M.2.1 ↔ ∃(k:Nat) (s:Int),q=(k:Int)/\order[k]? =some s/\s∈fin)/\(M.2.1.Pairwise λ a b=>a<b)/\M.2.2.Pairwise λ a b=>vI a b<0
def Vis (al:LI) (n f j:Nat) (d:Int) (e:LI):Prop:=d<(f:Int)\/d=(f:Int)/\ ∃a:Nat,al[f]? =some (a:Int)/\e∈(kV n a).take j
theorem ahQ {al:LI} {n f j a:Nat} {l:LI} (q:al[f]? =some (a:Int)) (k:(kV n a)[j]? =some l) {g a':Nat} {m:LI} (d:al[g]? =some (a':Int)) (p:m∈kV n a') (hv: ¬Vis al n f j (g:Int) m):vI ((f:Int),l,0) ((g:Int),m,0)<=0:=by
 apply agk;rcases acg f g with h|rfl|h
 ·exact .inl Ω
 ·refine .inr ⟨rfl,?_⟩;have:a'=a:=by rw[q]at d;have:=aak d;omega
  subst this;obtain⟨i,t,rfl⟩:=aay p;rcases acg i j with h|rfl|h
  ·exact absurd (.inr ⟨rfl,a',q,List.mem_take_iff_getElem.2 ⟨i,Ω,rfl⟩⟩) hv
  ·rw[aac t]at k;rw[aak k,GL];omega
  ·obtain⟨u,e⟩:=aad.1 k;have:=aaN.1 (MF n a') j i u t h;rw[e]at this;omega
 ·exact absurd (.inl Ω) hv
theorem F6.st {al:LI} {m:Nat} {r:Rule} (h:F6 al m r):bg (m:Int) r.2.2/\ ∀q∈r.2.1,bg (m:Int) q:=by
 obtain⟨f,a,_,_,d,e⟩:=h;exact⟨e,(dN.1 d).2⟩
theorem ae7 {al:LI} {m:Nat} {rs:LR} {num order num' ex:LI} {f j a:Nat} {l:LI} (E: ∀r∈rs,F6 al m r) (G:Det rs) (B:NO m num order) (h:Rnd rs m num order (Vis al order.length f j) num' ex) (I:al[f]? =some (a:Int)) (C:(kV order.length a)[j]? =some l) {to:Int} (z:Rq rs (f:Int) (l.map (iat (order++ex))) to):
 (¬(0<=to/\iat num' to<0)->Rnd rs m num order (Vis al order.length f (j+1)) num' ex)/\(0<=to->iat num' to<0->bg (m:Int) to/\Rnd rs m num order (Vis al order.length f (j+1)) (num'.set to.toNat ((order++ex).length:Int)) (ex++[to])):=by
 obtain⟨O,K,L⟩:=B.from h.1 (aai C);have i: ∀r∈rs,bg (m:Int) r.2.2/\ ∀q∈r.2.1,bg (m:Int) q:=λ r h=>(E r h).st;have k: ∀r∈rs,(∀x∈r.2.1,0<=iat num x)->r.2.1.map (iat num)=l->r.2.1=l.map (iat (order++ex)):=λ r d p e=>B.uniq (λ x t=>⟨(i r d).2 x t,p x t⟩) (λ x t=>⟨(dN.1 O).2 x t,L x t⟩) (e.trans K.symm)
 have u: ∀r∈rs,(∀x∈r.2.1,0<=iat num x)->Vis al order.length f (j+1) r.1 (r.2.1.map (iat num))->Vis al order.length f j r.1 (r.2.1.map (iat num))\/r.1=(f:Int)/\r.2.1.map (iat num)=l:=λ r _ _ hv=>by
  rcases hv with h|⟨d,b,p,e⟩
  ·exact .inl (.inl h)
  ·have:b=a:=by rw[I]at p;have:=aak p;omega
   subst this;rw[aat,C]at e;rcases aap.1 e with e|e
   ·exact .inl (.inr ⟨d,b,p,e⟩)
   ·exact .inr ⟨d,by simpa using e⟩
 constructor
 ·intro M;refine(h.skip (f:=(f:Int)) (l:=l) λ r d p e D=> ?_).mono u;have N:=k r d p D;rcases z with⟨_,g⟩|⟨v,y,g2,g3,A⟩
  ·exact absurd ⟨e,N⟩ (g r d)
  ·have:=G r d v y (e.trans g2.symm) (N.trans g3.symm);rw[this,A];have:=(i v y).1.1;omega
 ·intro W M;rcases z with⟨g,_⟩|⟨v,y,g2,g3,A⟩
  ·omega
  ·have hs:=(i v y).1;rw[A]at hs;refine⟨hs,(h.add (λ r h=>(i r h).1) (f:=(f:Int)) (l:=l) hs M ⟨v,y,g2,by rw[g3];exact K,A,by rw[g3];exact L⟩ (λ r d p e D=> ?_) (λ r d p hv=> ?_)).mono u⟩
   ·rw[←A];exact G r d v y (e.trans g2.symm) ((k r d p D).trans g3.symm)
   ·obtain⟨Y,a',Q,R,S,_⟩:=E r d;rw[R]at hv ⊢;refine ahQ I C Q (dN.2 ⟨by simpa using(dN.1 S).1,λ q U=> ?_⟩) hv;obtain⟨x,t,rfl⟩:=aaC.1 U;exact(B.lt ((i r d).2 x t) (p x t)).1
theorem afq {al:LI} {m:Nat} {rs:LR} {num order num' ex:LI} {f a:Nat} (l: ∀r∈rs,F6 al m r) (p:NO m num order) (d:al[f]? =some (a:Int)) (h:Rnd rs m num order (Vis al order.length f (kV order.length a).length) num' ex):Rnd rs m num order (Vis al order.length (f+1) 0) num' ex:=by
 refine h.mono λ r t u hv=> ?_;rcases hv with hv|⟨_,_,_,hv⟩
 ·obtain⟨v,a',g,y,i,_⟩:=l r t;by_cases e:v=f
  ·subst e;have:a'=a:=by rw[d]at g;have:=aak g;omega
   subst this;refine .inr ⟨y,a',d,?_⟩;rw[aar];refine dN.2 ⟨by simpa using(dN.1 i).1,λ q z=> ?_⟩;obtain⟨x,k,rfl⟩:=aaC.1 z;exact(p.lt ((dN.1 i).2 x k) (u x k)).1
  ·exact .inl Ω
 ·simp at hv
theorem ahP {al:LI} {m:Nat} {rs:LR} {num order num' ex:LI} (d: ∀r∈rs,F6 al m r) (h:Rnd rs m num order (Vis al order.length al.length 0) num' ex):Rnd rs m num order (λ _ _=>True) num' ex:=by
 refine h.mono λ r e g _=> .inl ?_;obtain⟨i,a',f,k,_⟩:=d r e;have:=(aad.1 f).1;omega
theorem Ce {l:LI} {f:Int->Int} {i:Nat} (h:i<l.length):(l.take i).map f++[f l[i]]=(l.take (i+1)).map f:=by
 rw[aat,aac h,abt];rfl
theorem VX (al:LI) (m:Nat) (fin:LI) (rs:LR) (a7:ED al) (hm:m<=301) (c8:fin.length<=1000000000) (c9:rs.length<=1000000000) (Y: ∀r∈rs,F6 al m r) (hd:Det rs)
 (P:LL->Prop) (d0:Sp Mk (al,(m:Int),fin,rs) (λ t=>t.1=(m:Int)/\P t.2))
 (d1: ∀(p:LL) (f a:Nat) (l:LI),P p->al[f]? =some (a:Int)->l∈kV m a->Sp Ne ((m:Int),p,(f:Int),l) (λ v=>Rq rs (f:Int) l v))
 (d2: ∀(l:LI) (v:Int),l.length<=1000000000->Sp In (l,v) (λ b=>b=true ↔ v∈l))
 (d3: ∀x:LR,x.length<=1000000000->(∀r∈x,r.2.1.length<=1000)->(∀r∈x,∀r'∈x,r.1=r'.1->r.2.1.length=r'.2.1.length)->Sp So x (λ r:LR=>(∀y,y∈r ↔ y∈x)/\r.Pairwise λ a b=>vI a b<0))
 (d4: ∀N r:Nat,N<=301->r<=3->Sp Ls ((N:Int),(r:Int)) (λ l=>l=kV N r)):
 Sp (λ n=>aO.P (In n) (So n) (Ls n) (Mk n) (Ne n) n) (al,(m:Int),fin,rs) (ad5 m fin rs):=by
 have d5:=a7.1;show Tt (λ n=>aO.P (In n) (So n) (Ls n) (Mk n) (Ne n) n (al,(m:Int),fin,rs)) _;unfold aO.P;dsimp only;refine aZ1 d0 λ t ht=> ?_;obtain⟨t1,p⟩:=t;obtain⟨B,hP⟩:=ht;dsimp only at B hP ⊢;subst B;refine aX (tV Ω Ω) ?_;rw[aam,abC]
 refine aZ1 (R:=λ x=> ∃num:LI,num=List.replicate m (-1)/\x=(al,(m:Int),fin,rs,(0:Int),([]:LI),([]:LR),(m:Int),p,num))
  (aZ8 (aZ6 m (λ i s=> ∃num:LI,num.length=m/\(∀k,k<i->num[k]? =some (-1))/\s=(al,(m:Int),fin,rs,(0:Int),([]:LI),([]:LR),(m:Int),p,num,(m:Int),(i:Int))) ?_ ?_ ⟨List.replicate m 0,Θ,λ k hk=>absurd hk Ω,rfl⟩)) ?_
 ·rintro i s O ⟨num,hn,hv,rfl⟩;unfold aO.L1;dsimp only;refine aY1 Ω (aZ9 (rng Ω Ω) ?_);rw[aam];refine aY6 Ω λ e _ _=>aZ2 ⟨num.set i (-1),by simpa using hn,λ k hk=> ?_,by rw[ak Ω]⟩;rw[aaR];by_cases h:i=k
  ·subst h;simp[hn,O]
  ·simp[h];exact hv k Ω
 ·rintro s ⟨num,hn,hv,rfl⟩;unfold aO.L1;dsimp only;refine aY3 Ω (aZ4 ⟨num,aaZ λ k=> ?_,rfl⟩);rw[abn];split
  ·exact hv k (by assumption)
  ·exact aal Ω
 rintro _ ⟨_,rfl,rfl⟩;dsimp only
 refine aZ1 (R:=λ x=> ∃num order:LI,NO m num order/\(∀r∈rs,(∀s∈r.2.1,0<=iat num s)->0<=iat num r.2.2)/\RnI rs num (order.length:Int)/\x=((m:Int),fin,rs,(0:Int),([]:LI),([]:LR),num,order))
  (aZ8 (aX1 (λ s=> ∃num order:LI,NO m num order/\RnI rs num (order.length:Int)/\s=(al,(m:Int),fin,rs,(0:Int),([]:LI),([]:LR),(m:Int),p,num,order)) (λ s=>m-s.2.2.2.2.2.2.2.2.2.2.length) ?_ ⟨_,[],.zero,ae8,rfl⟩)) ?_
 ·rintro s ⟨num,order,G,a4,rfl⟩;unfold aO.L5;dsimp only
  have d7: ∀r∈rs,Vis al order.length 0 0 r.1 (r.2.1.map (iat num))->False:=λ r B hv=>by
   rcases hv with hv|⟨_,_,_,hv⟩
   ·obtain⟨f',_,_,b2,_⟩:=Y r B;omega
   ·simp at hv
  have d8:order.length<=m:=G.len
  refine aZ7 (R:=λ x=> ∃num' ex:LI,Rnd rs m num order (λ _ _=>True) num' ex/\x=(al,(m:Int),fin,rs,(0:Int),([]:LI),([]:LR),(m:Int),p,num',order++ex,(order.length:Int)))
   (aZ8 (aZ6 al.length (λ f s=> ∃num' ex:LI,Rnd rs m num order (Vis al order.length f 0) num' ex/\s=(al,(m:Int),fin,rs,(0:Int),([]:LI),([]:LR),(m:Int),p,num',order++ex,(order.length:Int),al,(al.length:Int),(f:Int))) ?_ ?_ ⟨num,[],(Rnd.nil G).mono (λ r B d hv=>d7 r B hv),by rw[aaM];rfl⟩)) ?_
  ·rintro f s Z ⟨u,K,D,rfl⟩;unfold aO.L4;dsimp only;obtain⟨r,b6,b7⟩:=a7.rank Z;have a8:al[f]? =some (r:Int):=by rw[aac Z,b7]
   have b8:=uf (n:=order.length) (r:=r) Ω b6;have f6:=rE order.length r;refine aY1 Ω (aY Z ?_);rw[b7];refine aZ7 (d4 order.length r Ω b6) λ ls d9=> ?_;subst d9
   refine aZ7 (R:=λ x=> ∃num' ex:LI,Rnd rs m num order (Vis al order.length f (kV order.length r).length) num' ex/\x=(al,(m:Int),fin,rs,(0:Int),([]:LI),([]:LR),(m:Int),p,num',order++ex,(order.length:Int),al,(al.length:Int),(f:Int)))
    (aZ8 (aZ6 (kV order.length r).length (λ j s=> ∃num' ex:LI,Rnd rs m num order (Vis al order.length f j) num' ex/\s=(al,(m:Int),fin,rs,(0:Int),([]:LI),([]:LR),(m:Int),p,num',order++ex,(order.length:Int),(f:Int),al,(al.length:Int),(f:Int),kV order.length r,((kV order.length r).length:Int),(j:Int))) ?_ ?_ ⟨u,K,D,rfl⟩)) ?_
   ·rintro j s hj ⟨z,A,E,rfl⟩;unfold aO.L3;dsimp only;have c0:(order++A).length<=m:=E.1.len;have f7:order.length<=(order++A).length:=by simp
    refine aY1 Ω (aZ9 (rng Ω Ω) ?_);rw[aam];refine aY6 hj λ l c1 e0=> ?_;obtain⟨f8,e1⟩:=dN.1 c1
    refine aZ7 (R:=λ x=> ∃C:LI,C=l.map (iat (order++A))/\x=(al,(m:Int),fin,rs,(0:Int),([]:LI),([]:LR),(m:Int),p,z,order++A,(order.length:Int),(f:Int),C,al,(al.length:Int),(f:Int),kV order.length r,((kV order.length r).length:Int),(j:Int)))
     (aZ8 (aZ6 l.length (λ i s=> ∃C:LI,C=(l.take i).map (iat (order++A))/\s=(al,(m:Int),fin,rs,(0:Int),([]:LI),([]:LR),(m:Int),p,z,order++A,(order.length:Int),(f:Int),C,al,(al.length:Int),(f:Int),kV order.length r,((kV order.length r).length:Int),(j:Int),l,(l.length:Int),(i:Int))) ?_ ?_ ⟨[],Θ,rfl⟩)) ?_
    ·rintro i s O ⟨_,rfl,rfl⟩;unfold aO.L2;dsimp only;have hq:=e1 _ (aaf O);refine aY1 Ω (aY O (aZ9 (rng hq.1 (by have:=hq.2;omega)) ?_));refine aY6 (by have:=hq.1;have:=hq.2;omega) λ e f9 Q=>aZ9 (jK Δ) (aZ2 ⟨_,Ce O,by rw[ak Ω,l7 Q];rfl⟩)
    ·rintro s ⟨_,rfl,rfl⟩;unfold aO.L2;dsimp only;rw[aar];exact aY3 Ω (aZ4 ⟨_,rfl,rfl⟩)
    rintro _ ⟨_,rfl,rfl⟩;dsimp only;refine aZ7 (d1 p f r _ hP a8 (G.from E.1 c1).1) λ to c2=> ?_;obtain⟨c3,c4⟩:=ae7 Y hd G E a8 e0 c2;refine aZ7 (R:=λ x=> ∃b:Bool,(b=true ↔ 0<=to/\iat z to<0)/\x=(al,(m:Int),fin,rs,(0:Int),([]:LI),([]:LR),(m:Int),p,z,order++A,(order.length:Int),(f:Int),to,al,(al.length:Int),(f:Int),kV order.length r,((kV order.length r).length:Int),(j:Int),b)) ?_ ?_
    ·refine aY4 (λ h=> ?_) (λ h=>aZ0 ⟨false,⟨λ h=>(by cases h),λ h'=>absurd h'.1 (of_decide_eq_false h)⟩,rfl⟩);have h0:=fZ h
     have I:bg (m:Int) to:=by
      rcases c2 with⟨h,_⟩|⟨r0,g1,_,_,g4⟩
      ·omega
      ·rw[←g4];exact(Y r0 g1).st.1
     have c5:=E.1.1;refine aX (rng h0 (by have:=I.2;omega)) (aX8 (by have:=I.2;omega) λ e _ Q=>aZ0 ⟨_,⟨λ hb=>⟨h0,by rw[l7 Q];exact fZ hb⟩,λ hb=> ?_⟩,rfl⟩);rw[l7 Q]at hb;exact dY hb.2
    rintro _ ⟨b,hb,rfl⟩;dsimp only;refine aY2 (λ b0=> ?_) (λ S=>aZ3 (aZ2 ⟨z,A,c3 λ h=>(by rw[hb.2 h]at S;cases S),by rw[ak Ω]⟩));obtain⟨e3,e4⟩:=hb.1 b0;obtain⟨I,a6⟩:=c4 e3 e4;have c5:=E.1.1;refine aY0 (rng I.1 (by have:=I.2;omega)) (aY5 (aY6 (by have:=I.1;have:=I.2;omega) λ e _ _=> ?_));refine aY0 (jK (by simp at c0 ⊢;omega)) (aZ3 (aZ2 ⟨_,_,a6,by rw[ak Ω,←aaD];rfl⟩))
   ·rintro s ⟨z,A,E,rfl⟩;unfold aO.L3;dsimp only;exact aY3 Ω (aZ4 ⟨z,A,E,rfl⟩)
   ·rintro _ ⟨z,A,E,rfl⟩;dsimp only;exact aZ2 ⟨z,A,afq Y G a8 E,by rw[ak Ω]⟩
  ·rintro s ⟨u,K,D,rfl⟩;unfold aO.L4;dsimp only;exact aY3 Ω (aZ4 ⟨u,K,ahP Y D,rfl⟩)
  ·rintro _ ⟨u,K,D,rfl⟩;dsimp only;refine aY9 (λ h=> ?_) (λ h=>aZ2 ⟨⟨u,order++K,D.1,D.next (λ r h=>(Y r h).st) G a4 ?_,rfl⟩,?_⟩)
   ·have h:=fZ h;have Q:K= []:=aav (by simp at h;omega);subst Q;have U:=D.1;have hE:=G.ext D.1;rw[aaM]at U
    have e6: ∀s,bg (m:Int) s->iat u s<0\/iat u s=iat num s/\0<=iat num s:=λ s hs=>by
     rcases acs (iat num s) 0 with h|h
     ·rcases(hE s hs).2 h with d|d
      ·exact .inl d
      ·have:=(U.lt hs Ω).1.2;omega
     ·exact .inr ⟨(hE s hs).1 h,h⟩
    have b8:u=num:=by
     refine acK (by rw[U.1,G.1]) λ i B d=> ?_;have a6:bg (m:Int) (i:Int):=⟨Ω,by have:=G.1;omega⟩;have a1:=qY U.1 (k:=i) (by have:=G.1;omega);have a2:=qY G.1 (k:=i) (by have:=G.1;omega);rw[aac B]at a1;rw[aac d]at a2;have a1:=aak a1;have a2:=aak a2;have b1:=U.2.2 _ (aaf B);have b2:=G.2.2 _ (aaf d);rcases e6 (i:Int) a6 with h|h
     ·rcases acs (iat num (i:Int)) 0 with L|L
      ·omega
      ·have:=(hE _ a6).1 L;omega
     ·omega
    subst b8;rw[aaM];exact aZ4 ⟨u,order,G,λ r M hx=>D.2.1 r M hx trivial,a4,rfl⟩
   ·rintro rfl;have h:=dec_not h;simp at h
   ·have h:=dec_not h;have d:=D.1.len;dsimp only;simp only[aaq]at h d ⊢;omega
 rintro _ ⟨num,order,G,e9,a4,rfl⟩;dsimp only;have d8:order.length<=m:=G.len;have c5:=G.1
 refine aZ1 (R:=λ x=> ∃fin':LI,((∀q,q∈fin' ↔ ∃(k:Nat) (s:Int),q=(k:Int)/\order[k]? =some s/\s∈fin)/\fin'.Pairwise λ a b=>a<b)/\x=((m:Int),fin,rs,(0:Int),([]:LI),([]:LR),num,(order.length:Int),fin',([]:LR)))
  (aZ8 (aZ6 order.length (λ i s=> ∃fin':LI,(fin'.length<=i/\(∀q,q∈fin' ↔ ∃(k:Nat) (s:Int),k<i/\q=(k:Int)/\order[k]? =some s/\s∈fin)/\fin'.Pairwise λ a b=>a<b)/\s=((m:Int),fin,rs,(0:Int),([]:LI),([]:LR),num,order,(order.length:Int),fin',([]:LR),(order.length:Int),(i:Int))) ?_ ?_ ⟨[],⟨Θ,λ q=>⟨λ h=>(by cases h),λ⟨k,_,h,_⟩=>absurd h Ω⟩,.nil⟩,rfl⟩)) ?_
 ·rintro i s O ⟨fin',⟨Z,hm,hp⟩,rfl⟩;unfold aO.L6;dsimp only;refine aY1 Ω (aZ9 (rng Ω Ω) ?_);rw[aam];refine aY6 O λ e _ Q=>aZ7 (d2 fin e c8) λ b hb=>aY2 (λ b0=> ?_) (λ S=> ?_)
  ·refine aY0 (jK Δ) (aZ3 (aZ2 ⟨fin'++[(i:Int)],⟨Δ,λ q=> ?_,abY.2 ⟨hp,abR ..,λ a ha b f0=> ?_⟩⟩,by rw[ak Ω];rfl⟩))
   ·rw[aap,hm q,aah];constructor
    ·rintro(⟨k,s,B,d⟩|rfl)
     ·exact⟨k,s,Ω,d⟩
     ·exact⟨i,e,Ω,rfl,Q,hb.1 b0⟩
    ·rintro⟨k,s,B,d,L,h4⟩;by_cases hk:k=i
     ·subst hk;exact .inr d
     ·exact .inl ⟨k,s,Ω,d,L,h4⟩
   ·rw[aah.1 f0];obtain⟨k,_,B,d,_⟩:=(hm a).1 ha;omega
  ·refine aZ3 (aZ2 ⟨fin',⟨Ω,λ q=> ?_,hp⟩,by rw[ak Ω]⟩);rw[hm q];refine⟨λ⟨k,s,B,d⟩=>⟨k,s,Ω,d⟩,λ⟨k,s,B,d,L,h4⟩=>⟨k,s,?_,d,L,h4⟩⟩;apply aaT;intro hk;have:k=i:=by omega
   subst this;rw[Q]at L;have:=aak L;subst this;rw[hb.2 h4]at S;cases S
 ·rintro s ⟨fin',⟨Z,hm,hp⟩,rfl⟩;unfold aO.L6;dsimp only;refine aY3 Ω (aZ4 ⟨fin',⟨λ q=> ?_,hp⟩,rfl⟩);rw[hm q];exact⟨λ⟨k,s,_,d⟩=>⟨k,s,d⟩,λ⟨k,s,B,d,L⟩=>⟨k,s,(aad.1 d).1,B,d,L⟩⟩
 rintro _ ⟨fin',Z,rfl⟩;dsimp only
 have W: ∀r∈rs,r.2.1.length<=3:=λ r M=>by
  obtain⟨f,a,B,_,d,_⟩:=Y r M;obtain⟨L,h4⟩:=dN.1 d;obtain⟨Z,Q⟩:=aad.1 B;obtain⟨a',g7,e'⟩:=a7.rank Z;omega
 refine aZ1 (R:=λ x=>x=((0:Int),([]:LI),([]:LR),(order.length:Int),fin',rs.map λ r=>(r.1,r.2.1.map (iat num),iat num r.2.2)))
  (aZ8 (aZ6 rs.length (λ i s=>s=((0:Int),([]:LI),([]:LR),num,(order.length:Int),fin',(rs.take i).map (λ r=>(r.1,r.2.1.map (iat num),iat num r.2.2)),rs,(rs.length:Int),(i:Int))) ?_ ?_ Θ)) ?_
 ·rintro i s O rfl;unfold aO.L8;dsimp only;obtain⟨f,a,B,d,L,h4⟩:=Y _ (aaf O);obtain⟨h5,h6⟩:=dN.1 L;have h7:=W _ (aaf O);refine aY1 Ω (aY O (aZ9 (rng h4.1 (by have:=h4.2;omega)) (aY6 (by have:=h4.1;have:=h4.2;omega) λ e _ Q=> ?_)))
  refine aZ7 (R:=λ x=>x=((0:Int),([]:LI),([]:LR),num,(order.length:Int),fin',(rs.take i).map (λ r=>(r.1,r.2.1.map (iat num),iat num r.2.2)),rs[i].1,rs[i].2.1.map (iat num),e,rs,(rs.length:Int),(i:Int)))
   (aZ8 (aZ6 rs[i].2.1.length (λ j s=>s=((0:Int),([]:LI),([]:LR),num,(order.length:Int),fin',(rs.take i).map (λ r=>(r.1,r.2.1.map (iat num),iat num r.2.2)),rs[i].1,(rs[i].2.1.take j).map (iat num),e,rs,(rs.length:Int),(i:Int),rs[i].2.1,((rs[i].2.1.length:Nat):Int),(j:Int))) ?_ ?_ Θ)) ?_
  ·rintro j s hj rfl;unfold aO.L7;dsimp only;have hq:=h6 _ (aaf hj);refine aY1 Ω (aY hj (aZ9 (rng hq.1 (by have:=hq.2;omega)) (aY6 (by have:=hq.1;have:=hq.2;omega) λ e' _ f1=> ?_)));exact aZ9 (jK Δ) (aZ2 (by rw[ak Ω,←l7 f1,←Ce hj];rfl))
  ·rintro s rfl;unfold aO.L7;dsimp only;rw[aar];exact aY3 Ω (aZ4 rfl)
  ·rintro _ rfl;dsimp only;refine aZ9 (jK Δ) (aZ2 ?_);rw[ak Ω,aat,aac O,abt,←l7 Q];rfl
 ·rintro s rfl;unfold aO.L8;dsimp only;rw[aar];exact aY3 Ω (aZ4 rfl)
 rintro _ rfl;dsimp only;refine aZ1 (d3 _ (by simpa using c9) (λ r h=> ?_) λ r h r' h' e=> ?_) λ r M=>aZ0 ⟨num,order,G,rfl,e9,a4,λ r'=> ?_,Z.1,Z.2,M.2⟩
 ·obtain⟨r0,h0,rfl⟩:=aaC.1 h;have:=W r0 h0;simpa using by omega
 ·obtain⟨x,x1,rfl⟩:=aaC.1 h;obtain⟨y,y1,rfl⟩:=aaC.1 h';obtain⟨f,a,p1,p2,p3,_⟩:=Y x x1;obtain⟨g,c,q1,q2,q3,_⟩:=Y y y1;have e:x.1=y.1:=e;have:g=f:=by omega
  subst this;rw[p1]at q1;have:=aak q1;have:=(dN.1 p3).1;have:=(dN.1 q3).1;simp only[aaH];omega
 ·rw[M.1 r',aaC];exact⟨λ⟨r0,B,d⟩=>⟨r0,B,d.symm⟩,λ⟨r0,B,d⟩=>⟨r0,B,d.symm⟩⟩
end
end Go.Bk
end
