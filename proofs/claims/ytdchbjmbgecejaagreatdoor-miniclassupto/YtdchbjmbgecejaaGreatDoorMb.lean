import Derived.Test.YtdchbjmbgecejaaGreatDoorMa
import Derived.MapKept
import Derived.Laws.MakeOwn
import Derived.Great.BuildSlice
import Derived.Deep.AppendSrc
import Derived.Laws.BytesArg
set_option linter.unusedVariables false
section
namespace Go.AM
open Go
section
variable {P:Program} {E:Env} {C:Ctx} {s s':St} {a a':Act} {w w':World} {g g':Gh} {o:Oper} {Q:Exit->Act->World->Prop}
def sF (P:Program) (E:Env) (C:Ctx) (o:Oper):Prop:=
 ∀{s:St} {a:Act} {w:World} {g:Gh} {us:List Upd} {d:Nat} {Q:Exit->Act->World->Prop},Rel E C s a w g->o.dst=some d->DOk E d->(plan E o s).run=some us->
  o.wp P a w (λ a' w'=> ∃g',Rel E C (s.dW us) a' w' g') Q
theorem au {α:Type} {x y:α} (h:(Dyn.ret x).run=some y):x=y:=aak h
theorem aj {α:Type} {y:α} (h:(Dyn.fail:Dyn α).run=some y):False:=by cases h
theorem lH {α:Type} {c:Bool} {k:Dyn α} {y:α} (h:(Dyn.chk c k).run=some y):c=true/\k.run=some y:=by
 cases c with
 |false=>cases h
 |true=>exact⟨rfl,h⟩
theorem zY {α β:Type} {x:Option β} {k:β->Dyn α} {y:α} (h:(Dyn.idx x k).run=some y): ∃b,x=some b/\(k b).run=some y:=aa6.1 h
theorem bf {α:Type} {c:Bool} {k:Dyn α} {y:α} (h:(bif c then k else .fail).run=some y):c=true/\k.run=some y:=by
 cases c with
 |false=>cases h
 |true=>exact⟨rfl,h⟩
theorem agU {x:Operand} (O:o.op= .move x):sF P E C o:=by
 intro s a w g us d Q h u G I;have A:(execOp a.eval o).run P w= .ok (.value (a.eval x)) w:=by simp only[execOp,O];rfl
 simp only[plan,O,u]at I;cases l:Oh E s x (ig E o.type)with
 |some t=>
  rw[l]at I;obtain rfl:=au I;unfold Oh at l
  cases y:at_ E s x with
  |val ag cs=>
   have hv:=aJ h y Θ;rw[y]at l;simp only[]at l
   cases K:bI cs with
   |true=>
    rw[K]at l;simp only[cond_true,aag]at l;subst l;exact bT h u G A K hv
   |false=>
    rw[K]at l;simp only[cond_false]at l
    cases x with
    |tmp n=>
     simp only[aag]at l;subst l;have U:(s.tm n).1= .val ag cs:=y;have e:s.tm n=(.val ag cs,(s.tm n).2):=by rw[←U]
     refine bT (mk:= .hand) h u G A rfl ⟨⟨?_,λ k b e=>by cases e⟩,Θ,rfl,λ a4 hc=> ?_⟩
     ·simp[rP]
     ·obtain⟨R,S⟩:=h.pl hc;refine⟨hv.1,?_⟩;simp only[aB,abB];rw[aaJ (by rw[hv.2.length];exact aaw _)]
    |const v=>simp at l
    |global gl=>simp at l
    |func f=>simp at l
  |nilc=>
   rw[y]at l
   match a2:ig E o.type,l with
   | [],l=>simp at l
   |_::_::_,l=>simp at l
   | [sh],l=>
     simp only[cond_eq_ite]at l;split at l
     ·rename_i W;simp only[aag]at l;subst l;rcases h.at_ x with⟨_,L⟩|M
      ·unfold Oper.wp;rw[A,Oper.upon_value,u];refine⟨g,h.VL G (Fr.refl _ _ _) h.base rfl ?_⟩;rw[L];exact⟨rfl,_,[],rfl,Jd W,rfl⟩
      ·rw[y]at M;exact M.elim
     ·cases l
  |ref p ag m=>
   have hv:=aJ h y Θ;rw[y]at l;simp only[aag]at l;subst l;exact bT h u G A rfl hv
  |rsub p z lo hi=>
   have hv:=aJ h y Θ;rw[y]at l;simp only[aag]at l;subst l;exact bT h u G A rfl hv
  |addr p=>
   have hv:=aJ h y Θ;rw[y]at l;simp only[aag]at l;subst l;exact bT h u G A rfl hv
  |rowr p ag n=>
   have hv:=aJ h y Θ;rw[y]at l;simp only[aag]at l;subst l;exact bT h u G A rfl hv
  |addr2 p k q=>
   have hv:=aJ h y Θ;rw[y]at l;simp only[aag]at l;subst l;exact bT h u G A rfl hv
  |paddr cs off=>
   have hv:=aJ h y Θ;rw[y]at l;simp only[aag]at l;subst l;exact bT h u G A rfl hv
  |fn f=>
   have hv:=aJ h y Θ;rw[y]at l;simp only[aag]at l;subst l;exact bT h u G A rfl hv
  |clo f ts=>
   have hv:=aJ h y Θ;rw[y]at l;simp only[aag]at l;subst l;exact bT h u G A rfl hv
  |tup ts=>rw[y]at l;simp at l
  |ext p q c=>rw[y]at l;simp at l
  |dead=>rw[y]at l;simp at l
  |undef=>rw[y]at l;simp at l
 |none=>
  rw[l]at I
  cases y:at_ E s x with
  |tup ts=>
   have hv:=aJ h y Θ;rw[y]at I
   cases x with
   |tmp n=>
    obtain rfl:=au I
    let ρ:aF->aF:=λ o=>match o with| .tm m i=>if m=n then .hand i else o|o=>o
    have hk:Rel E C (s.dW [.keep n .dead]) a w (g.ren ρ):=by
     refine h.LW (Fr.ren w g λ o O=> ?_) (h.base.ren ρ) rfl (λ _ _ e=>by cases e) trivial;simp only[ρ];cases o<;>simp_all
    obtain⟨B,e,Y⟩:=hv
    have N:mD w (g.ren ρ) .hand 0 ts B:=by
     have gen: ∀(ts:List (Bool×LC)) (i:Nat) (B:LV),mD w g (.tm n) i ts B->mD w (g.ren ρ) .hand i ts B:=by
      intro ts
      induction ts with
      |nil=>intro i B h;exact h
      |cons t ts Z=>
       intro i B h;obtain⟨v,ws,e,⟨R,S⟩,h3⟩:=h;exact⟨v,ws,e,⟨R,aC.ren _ i i _ (λ k _=>by simp[ρ]) S⟩,Z _ _ h3⟩
     exact gen ts 0 B Y
    let D:aF->aF:=λ o=>match o with| .hand i=> .tm d i|o=>o
    unfold Oper.wp;rw[A,Oper.upon_value,u];refine⟨(g.ren ρ).ren D,?_⟩;have:=hk.VL (t:= .tup ts) (v:=a.eval (.tmp n)) G (Fr.ren w (g.ren ρ) (ρ:=D) λ o O=> ?_) (hk.base.ren D) rfl ?_
    ·exact this
    ·simp only[D];cases o<;>simp_all
    ·refine⟨B,e,?_⟩
     have gen: ∀(ts:List (Bool×LC)) (i:Nat) (B:LV),mD w (g.ren ρ) .hand i ts B->mD w ((g.ren ρ).ren D) (.tm d) i ts B:=by
      intro ts
      induction ts with
      |nil=>intro i B h;exact h
      |cons t ts Z=>
       intro i B h;obtain⟨v,ws,e,⟨R,S⟩,h3⟩:=h;exact⟨v,ws,e,⟨R,aC.ren _ i i _ (λ k _=>by simp[D]) S⟩,Z _ _ h3⟩
     exact gen ts 0 B N
   |const v=>exact(aj I).elim
   |global gl=>exact(aj I).elim
   |func f=>exact(aj I).elim
  |_=>rw[y]at I;exact(aj I).elim
theorem ZY {x:Operand} (q:o.op= .assign x):sF P E C o:=by
 intro s a w g us d Q h e m i;have k:(execOp a.eval o).run P w= .ok (.value (a.eval x)) w:=by simp only[execOp,q];rfl
 simp only[plan,q,e]at i
 have take:((Ez E s x (ig E o.type)).bind λ(ag,cs,us)=> .ret (us++[.tm d (.val ag cs)])).run=some us->o.wp P a w (λ a' w'=> ∃g',Rel E C (s.dW us) a' w' g') Q:=by
  intro i;obtain⟨⟨ag,cs,t⟩,u,i⟩:=aS i;obtain rfl:=au i;exact Ye h e m u k
 cases l:at_ E s x with
 |addr p=>
  have hv:=aJ h l Θ;rw[l]at i;obtain rfl:=au i;exact bT h e m k rfl hv
 |paddr cs off=>
  have hv:=aJ h l Θ;rw[l]at i;obtain rfl:=au i;exact bT h e m k rfl hv
 |fn f=>
  have hv:=aJ h l Θ;rw[l]at i;obtain rfl:=au i;exact bT h e m k rfl hv
 |clo f ts=>
  have hv:=aJ h l Θ;rw[l]at i;obtain rfl:=au i;exact bT h e m k rfl hv
 |rsub p z lo v=>
  have hv:=aJ h l Θ;rw[l]at i;simp only[cond_eq_ite]at i;split at i
  ·obtain rfl:=au i;exact bT h e m k rfl hv
  ·exact take i
 |rowr p ag n=>
  have hv:=aJ h l Θ;rw[l]at i;simp only[cond_eq_ite]at i;split at i
  ·obtain rfl:=au i;exact bT h e m k rfl hv
  ·exact take i
 |_=>rw[l]at i;exact take i
theorem agV {c x y:Operand} (p:o.op= .pick c x y):sF P E C o:=by
 intro s a w g us d Q h f u e;simp only[plan,p,f]at e
 cases k:wR E s c with
 |none=>rw[k]at e;exact(aj e).elim
 |some v=>
  rw[k]at e;have l:=MO h k
  have q: ∀z,a.eval z=(if v then a.eval x else a.eval y)-> ∀t,at_ E s z=t->(match t with
   | .val ag cs=>bif bI cs then Dyn.ret [Upd.tm d (.val ag cs)]else .fail
   |_=> .fail).run=some us->o.wp P a w (λ a' w'=> ∃g',Rel E C (s.dW us) a' w' g') Q:=by
   intro z A t B e
   have m:(execOp a.eval o).run P w= .ok (.value (a.eval z)) w:=by
    simp only[execOp,p,l,asBool,A];cases v<;>rfl
   cases t with
   |val ag cs=>
    simp only[]at e
    cases i:bI cs with
    |false=>rw[i]at e;exact(aj e).elim
    |true=>
     rw[i]at e;obtain rfl:=au e;exact bT h f u m i (aJ h B Θ)
   |_=>exact(aj e).elim
  cases v with
  |true=>exact q x rfl _ rfl e
  |false=>exact q y rfl _ rfl e
theorem JW (u:yu P E.ty) {t:TypeId} {x:Operand} (q:o.op= .makeInterface t x):sF P E C o:=by
 intro s a w g us d Q h e l f;simp only[plan,q,e]at f
 cases m:E.ty t with
 |none=>rw[m]at f;exact(aj f).elim
 |some i=>
  rw[m]at f;obtain rfl:=au f;obtain⟨info,v,z,k⟩:=u.at_ m
  have p:(execOp a.eval o).run P w= .ok (.value (.iface t (a.eval x))) w:=by
   have l:=k.desc;simp only[execOp,q,Instr.makeInterface,Sem.run_bind,run_underlying k.und,Result.andThen_ok];cases v<;>first|rfl|simp[qN]at l
  exact bT (mk:= .hand) h e l p rfl trivial
theorem wQ {cs:LC} (h:cs.length=1): ∃c,cs= [c]:=by
 match cs,h with
 | [c],_=>exact⟨c,rfl⟩
theorem aeM {mk:Nat->aF} {p:Pl} {v:Value} (hv:TV s a w g mk (.addr p) v) (d:Di s p=true): ∃ad,v= .pointer (some ad):=by
 obtain⟨_,hv⟩:=hv;unfold Di at d
 cases hs:p.sub with
 |none=>
  rw[hs]at d hv;obtain⟨n,t,hv⟩:=hv;rw[t]at d;simp only[aA]at d
  cases q:s.bx n with
  |none=>rw[q]at d;cases d
  |some b=>rw[q]at d;exact⟨_,hv b q (aao d)⟩
 |some u=>
  obtain⟨i,j⟩:=u;rw[hs]at d hv;obtain⟨_,hv⟩:=hv
  cases m:aV s p 1 with
  |none=>rw[m]at d;cases d
  |some cs=>
   have f:cs.length=1:=by
    rw[bM]at m;obtain⟨cells,_,y,_,rfl⟩:=m;simp;omega
   obtain⟨c,rfl⟩:=wQ f;obtain⟨b,l,k,_,_,e⟩:=hv c m;exact⟨_,e⟩
theorem Vo {x:Operand} (m:o.op= .nilCheck x):sF P E C o:=by
 intro s a w g us d Q h i q k;simp only[plan,m,i]at k
 cases l:at_ E s x with
 |addr p=>
  have hv:=aJ h l Θ;rw[l]at k;obtain⟨t,k⟩:=bf k;obtain rfl:=au k;obtain⟨ad,e⟩:=aeM hv t;refine bT h i q ?_ rfl hv;simp only[execOp,m,e];rfl
 |paddr cs off=>
  have hv:=aJ h l Θ;rw[l]at k;obtain rfl:=au k;obtain⟨ad,u,e,_⟩:=id hv;refine bT h i q ?_ rfl hv;simp only[execOp,m,e];rfl
 |fn f=>
  have hv:=aJ h l Θ;rw[l]at k;obtain rfl:=au k;have e:a.eval x= .func (.func f) #[] #[]:=hv;refine bT h i q ?_ rfl hv;simp only[execOp,m,e];rfl
 |clo f ts=>
  have hv:=aJ h l Θ;rw[l]at k;obtain rfl:=au k;obtain⟨u,e,_⟩:=id hv;refine bT h i q ?_ rfl hv;simp only[execOp,m,e];rfl
 |_=>rw[l]at k;exact(aj k).elim
theorem Q9 (h:Rel E C s a w g) {x:Operand} {k:IntKind} {n:Int} (d:at_ E s x= .val false [⟨.int k,.pure,n⟩]):a.eval x= .int k n:=by
 obtain⟨u,e,f,i⟩:=Fg.one (aJ h d Θ);rw[←i rfl];exact f
theorem Q8 (h:Rel E C s a w g) {x:Operand} {b:Bool} (d:at_ E s x= .val false [⟨.bool,.pure,b⟩]):a.eval x= .bool b:=by
 obtain⟨u,e,f,i⟩:=Fg.one (aJ h d Θ);rw[←i rfl];exact f
theorem adP (h:Rel E C s a w g) {x:Operand} {b:ByteArray} (d:at_ E s x= .val false [⟨.str,.pure,b⟩]):a.eval x= .string b:=by
 obtain⟨u,e,f,i⟩:=Fg.one (aJ h d Θ);rw[←i rfl];exact f
theorem ah6 (t:TypeId) (x y:Operand) (i:BinOp) (k p:IntKind) (m n:Int) (r:T)
 (d:(bif Gj i then ah7 i k m n else bif decide (k=p)then ajh i k m n else .fail).run=some r):
 ∃v,(do eqGuard i t x y (.int k m) (.int p n);binOp i t (.int k m) (.int p n):Sem Value).run P w= .ok v w/\r.EI=true/\ ∀s a g,TV s a w g .hand r v:=by
 have u:eqGuard i t x y (.int k m) (.int p n)=pure ():=by cases i<;>rfl
 rw[u];by_cases hs:Gj i=true
 ·rw[hs]at d;simp only[cond_true]at d;cases i<;>simp[Gj]at hs
  ·obtain⟨f,d⟩:=lH d;obtain rfl:=au d;simp only[aae,decide_eq_true_eq]at f;refine⟨.int k (k.wrap (m*2^n.toNat)),?_,rfl,λ s a g=>qo k _⟩;simp[binOp_shl,shift_shl k p m n f.1 f.2]
  ·obtain⟨f,d⟩:=lH d;obtain rfl:=au d;simp only[aae,decide_eq_true_eq]at f;refine⟨.int k (m/2^n.toNat),?_,rfl,λ s a g=>qo k _⟩;simp[binOp_shr,shift_shr k p m n f.1 f.2]
 ·have l:Gj i=false:=by simpa using hs
  rw[l]at d;simp only[cond_false]at d;have q:=(bf d).1
  replace d:=(bf d).2
  simp only[decide_eq_true_eq]at q;subst q;cases i
  case shl=>simp[Gj]at l
  case shr=>simp[Gj]at l
  case add=>obtain rfl:=au d;exact⟨_,by simp[binOp_add,Op.intArith],rfl,λ s a g=>qo k _⟩
  case sub=>obtain rfl:=au d;exact⟨_,by simp[binOp_sub,Op.intArith],rfl,λ s a g=>qo k _⟩
  case mul=>obtain rfl:=au d;exact⟨_,by simp[binOp_mul,Op.intArith],rfl,λ s a g=>qo k _⟩
  case quo=>
   have f:=(lH d).1
   replace d:=(lH d).2
   obtain rfl:=au d;simp only[abw,decide_eq_false_iff_not]at f;exact⟨_,by simp[binOp_quo,Op.intDiv,f],rfl,λ s a g=>qo k _⟩
  case rem=>
   have f:=(lH d).1
   replace d:=(lH d).2
   obtain rfl:=au d;simp only[abw,decide_eq_false_iff_not]at f;exact⟨_,by simp[binOp_rem,Op.intDiv,f],rfl,λ s a g=>qo k _⟩
  case and=>obtain rfl:=au d;exact⟨_,by simp[binOp_and,intBits_and],rfl,λ s a g=>qo k _⟩
  case or=>obtain rfl:=au d;exact⟨_,by simp[binOp_or,intBits_or],rfl,λ s a g=>qo k _⟩
  case xor=>obtain rfl:=au d;exact⟨_,by simp[binOp_xor,intBits_xor],rfl,λ s a g=>qo k _⟩
  case andNot=>obtain rfl:=au d;exact⟨_,by simp[binOp_andNot,intBits_andNot],rfl,λ s a g=>qo k _⟩
  case eql=>obtain rfl:=au d;exact⟨.bool (decide (m=n)),by simp[binOp_eql];by_cases e:m=n<;>simp[e],rfl,λ s a g=>vF _⟩
  case neq=>obtain rfl:=au d;exact⟨.bool (!decide (m=n)),by simp[binOp_neq];by_cases e:m=n<;>simp[e],rfl,λ s a g=>vF _⟩
  case lss=>obtain rfl:=au d;exact⟨_,by simp[binOp_lss],rfl,λ s a g=>vF _⟩
  case leq=>obtain rfl:=au d;exact⟨_,by simp[binOp_leq],rfl,λ s a g=>vF _⟩
  case gtr=>obtain rfl:=au d;exact⟨_,by simp[binOp_gtr],rfl,λ s a g=>vF _⟩
  case geq=>obtain rfl:=au d;exact⟨_,by simp[binOp_geq],rfl,λ s a g=>vF _⟩
theorem run_equal_bool (w:World) {t:TypeId} (d:P.underlying t=some .bool) (m n:Bool):(Op.equal t (.bool m) (.bool n)).run P w= .ok (m==n) w:=by
 unfold Op.equal Op.maxDepth;rw[show(10000:Nat)=9999+1 from rfl,Op.equalIn];simp only[Sem.run_bind,run_underlying d,Result.andThen_ok,Sem.run_pure]
theorem Z4 (L:yu P E.ty) {p:BinOp} {t M:TypeId} {x y:Operand} (I:o.op= .binOp p t x y M) (u:Wy y=false):sF P E C o:=by
 intro s a w g us d Q h l N D;simp only[plan,I,l,u,cond_false]at D;obtain⟨r,f,D⟩:=aS D;obtain rfl:=au D
 have key: ∃v,(do eqGuard p t x y (a.eval x) (a.eval y);binOp p t (a.eval x) (a.eval y):Sem Value).run P w= .ok v w/\r.EI=true/\ ∀s a g,TV s a w g .hand r v:=by
  unfold akr at f;split at f
  ·rename_i k m O n G u;rw[Q9 h G,Q9 h u];exact ah6 t x y p k O m n r f
  ·rename_i m n G u;rw[Q8 h G,Q8 h u];have q:=(bf f).1
   replace f:=(bf f).2
   have R:P.underlying t=some .bool:=by
    unfold boolTy at q;split at q
    ·rename_i i S;simp only[aae,abw]at q;obtain⟨info,Y,z,A⟩:=L.at_ S;rw[A.und,A.bool (jR q.2) q.1]
    ·cases q
   have B:=run_equal_bool (P:=P) w R m n;unfold akq at f;have U:eqGuard p t x y (.bool m) (.bool n)=pure ():=by cases p<;>rfl
   rw[U];split at f
   ·obtain rfl:=au f;exact⟨_,by simp only[Sem.run_bind,Sem.run_pure,Result.andThen_ok,binOp];rw[B];rfl,rfl,λ s a g=>vF _⟩
   ·obtain rfl:=au f;exact⟨_,by simp only[Sem.run_bind,Sem.run_pure,Result.andThen_ok,binOp];rw[B];rfl,rfl,λ s a g=>vF _⟩
   ·exact(aj f).elim
  ·exact(aj f).elim
 obtain⟨v,e,W,hv⟩:=key;refine bT (mk:= .hand) h l N ?_ W (hv _ _ _);have K:=congrArg (λ r=>r.andThen λ v w=>Result.ok (Next.value v) w) e;simp only[Result.andThen_ok]at K;rw[←K];simp only[execOp,I,Sem.run_bind,Sem.run_pure]
theorem agW {p:UnOp} {t:TypeId} {x:Operand} (i:o.op= .unOp p t x):sF P E C o:=by
 intro s a w g us d Q h e m f;simp only[plan,i,e]at f;split at f
 ·rename_i b l;obtain rfl:=au f;refine bT (mk:= .hand) h e m ?_ rfl (vF _);simp only[execOp,i,Q8 h l,Op.unary];rfl
 ·rename_i k n l;obtain⟨r,q,f⟩:=aS f;obtain rfl:=au f;obtain rfl:=au q;refine bT (mk:= .hand) h e m ?_ rfl (qo _ _);simp only[execOp,i,Q9 h l,Op.unary,Op.intArith];rfl
 ·exact(aj f).elim
theorem Ql (e:yu P E.ty) {t:TypeId} {k:IntKind} (h:intTy E t=some k):P.underlying t=some (.int k):=by
 unfold intTy at h;split at h
 ·rename_i f;cases h;obtain⟨info,g,z,d⟩:=e.at_ f;rw[d.und,d.int rfl rfl]
 ·cases h
theorem KD (e:yu P E.ty) {t:TypeId} (h:Oz E t=true):P.underlying t=some .string:=by
 unfold Oz at h;split at h
 ·rename_i f;obtain⟨info,g,z,d⟩:=e.at_ f;rw[d.und,d.str rfl rfl]
 ·cases h
theorem Vl (i:yu P E.ty) {t l:TypeId} {x:Operand} (m:o.op= .convert l t x) (p:(aed E l&&Oz E t)=false):sF P E C o:=by
 intro s a w g us d Q h e q f;simp only[plan,m,e,p,cond_false]at f;split at f
 ·rename_i z n A k u v y;obtain rfl:=au f;refine bT (mk:= .hand) h e q ?_ rfl (qo _ _);simp only[execOp,m,Q9 h u,convert,Sem.run_bind,run_underlying (Ql i v),run_underlying (Ql i y),Result.andThen_ok,Conv.intToInt,Sem.run_pure]
 ·exact(aj f).elim
theorem aeX (v:yu P E.ty) {t:TypeId} {x i:Operand} (q:o.op= .index t x i):sF P E C o:=by
 intro s a w g us d Q h e y f;simp only[plan,q,e]at f;split at f
 ·rename_i b k G z A m;obtain⟨c,l,f⟩:=zY f;obtain rfl:=au f;obtain⟨_,p⟩:=uS h A;refine bT (mk:= .hand) h e y ?_ rfl (qo _ _);unfold YN at l;simp only[cond_eq_ite,decide_eq_true_eq]at l;split at l
  ·rename_i B;obtain⟨u,D,rfl⟩:=aaK.1 l;simp only[execOp,q,adP h z,p,Instr.index,asIntOf,Sem.run_bind,Sem.run_pure,Result.andThen_ok,run_underlying (KD v m),if_pos B,D]
  ·cases l
 ·exact(aj f).elim
theorem mD.get {mk:Nat->aF}: ∀(ts:List (Bool×LC)) (i:Nat) (m:LV),mD w g mk i ts m-> ∀(j:Nat) (ag:Bool) (cs:LC),ts[j]? =some (ag,cs)-> ∃v k,m[j]? =some v/\Fg w g mk k ag cs v
 | [],_,_,_,j,ag,cs,d=>by simp at d
 |(f,l)::ts,i,_,⟨v,p,e,q,t⟩,0,ag,cs,d=>by
  simp at d;obtain⟨rfl,rfl⟩:=d;exact⟨v,i,by simp[e],q⟩
 |(f,l)::ts,i,_,⟨v,p,e,q,t⟩,j+1,ag,cs,d=>by
  obtain⟨u,k,y,z⟩:=mD.get ts _ p t j ag cs (by simpa using d);exact⟨u,k,by simpa [e]using y,z⟩
theorem jM.plain {F:Fz} {sh:Sh} {x:El sh} {v:Value} (h:jM w F sh x v):isAgg v=false/\v.oneCell'=true:=by
 cases sh with
 |int k=>have e:v= .int k x:=h;subst e;exact⟨rfl,rfl⟩
 |bool=>have e:v= .bool x:=h;subst e;exact⟨rfl,rfl⟩
 |str=>have e:v= .string x:=h;subst e;exact⟨rfl,rfl⟩
 |dl _=>exact(show False from h).elim
 |mp _ _=>exact(show False from h).elim
 |sl es=>obtain⟨A,c,e,_⟩:=(show Ip _ _ _ _ v from h);subst e;exact⟨rfl,rfl⟩
 |rsl ss=>obtain⟨A,c,e,_⟩:=(show Ip _ _ _ _ v from h);subst e;exact⟨rfl,rfl⟩
theorem jZ.plain {ow:aF} {c:CV} {v:Value} (d:c.tg≠ .dead) (h:jZ w g ow c v):isAgg v=false/\v.oneCell'=true:=by
 by_cases hs:c.sh.qR=true
 ·rcases qF hs d h with⟨A,k,e,_⟩|⟨ad,k,cs,e,_⟩<;>subst e<;>exact⟨rfl,rfl⟩
 ·by_cases f:c.sh.Kr=true
  ·have i:c.tg= .own:=by
    obtain⟨sh,tg,x⟩:=c;cases sh<;>simp[Sh.Kr]at f;cases tg<;>first|rfl|exact absurd rfl d|exact(show False from h).elim
   have l:UC w g ow c.sh c.x v:=by unfold jZ at h;rw[i]at h;simpa [hs,f]using h
   obtain⟨_,_,m,p⟩:=l.mp;refine⟨?_,p⟩;cases v<;>first|rfl|cases m
  ·exact(CJ (by simpa using hs) (by simpa using f) d h).plain
theorem I4: ∀(e:List Field) (l:List (Nat×Nat)),places P e=some l-> ∀(f:Nat) (off n:Nat),l[f]? =some (off,n)-> ∃fd info,e[f]? =some fd/\fd.offset=off/\P.info? fd.type=some info/\info.size=n
 | [],l,h,f,off,n,d=>by simp[places]at h;subst h;simp at d
 |fd::e,l,h,f,off,n,d=>by
  simp only[places,List.mapM_cons,Option.bind_eq_bind,Option.pure_def]at h
  cases g:P.info? fd.type with
  |none=>simp[g]at h
  |some i=>
   cases k:e.mapM (λ f=>(P.info? f.type).map λ i=>(f.offset,i.size))with
   |none=>simp[g,k]at h
   |some rest=>
    simp[g,k]at h;subst h
    cases f with
    |zero=>simp at d;exact⟨fd,i,rfl,d.1,g,d.2⟩
    |succ f=>
     obtain⟨m,p,q,t⟩:=I4 e rest k f off n (by simpa using d);exact⟨m,p,by simpa using q,t⟩
theorem aeW (hT:yu P E.ty) {t:TypeId} {x:Operand} {f:Nat} (U:o.op= .field t x f):sF P E C o:=by
 intro s a w g us d Q h q hd A;simp only[plan,U,q]at A;split at A
 ·rename_i i hi;split at A
  ·rename_i off n ft cs hf W hx;split at A
   ·rename_i j hj;obtain⟨hc,A⟩:=bf A;obtain rfl:=au A;simp only[aae]at hc;obtain⟨⟨⟨Y,u⟩,Z⟩,M⟩:=hc;have Z:=aao Z;have M:=abl M;have hv:=aJ h hx Θ;obtain⟨info,de,z,D⟩:=hT.at_ hi;obtain⟨fs,rfl,B,a0,_⟩:=D.struct Y;obtain⟨fd,fi,h1,h2,h3,h4⟩:=I4 fs.toList i.fields B f off n hf
    have N:fd.type=ft:=by
     have:=congrArg (λ l=>l[f]?) a0;simp only[aau,h1,aaL,W,aag]at this;exact this
    subst N;obtain⟨a1,a2,fz,G⟩:=hT.at_ hj
    have y: ∃k,a.eval x= .agg k:=by
     have:=hv.1;cases he:a.eval x<;>rw[he]at this<;>simp[isAgg]at this;exact⟨_,rfl⟩
    obtain⟨k,y⟩:=y;have O:aC w g (WU x) 0 cs k.toList:=by have:=hv.2;rw[y]at this;exact this
    have m:=O.sub off n;have b2:=O.length;have R:fs[f]? =some fd:=by simpa using h1
    have p:(Go.isAgg fd.type).run P w= .ok j.ag w:=by
     unfold Go.isAgg;rw[Sem.run_bind,run_underlying G.und w,Result.andThen_ok,←G.isRow];cases a2<;>rfl
    cases I:j.ag with
    |true=>
     rw[I]at p
     have K:(execOp a.eval o).run P w= .ok (.value (.agg (k.extract off (off+n)))) w:=by
      simp only[execOp,U,y,Instr.field,Sem.run_bind,run_underlying D.und,Result.andThen_ok,R,asAgg,Sem.run_pure,part,p,if_true,sizeOf,typeInfo,run_program,h3,h2,h4]
     refine bT (mk:=WU x) h q hd K u ⟨rfl,?_⟩
     have:(Value.agg (k.extract off (off+n))).cells.toList=(k.toList.drop off).take n:=by
      simp[Value.cells]
     rw[this];exact aC.vY (Keeps.refl _ _) _ (0+off) 0 _ u m
    |false=>
     rw[I]at p;obtain⟨sh,a3⟩:=G.one I;have a4:n=1:=by rw[←Z,a3];rfl
     subst a4;have S:off<k.toList.length:=by omega
     have K:(execOp a.eval o).run P w= .ok (.value (k.toList[off])) w:=by
      have:k[off]? =some (k.toList[off]):=by simp at S ⊢
      simp only[execOp,U,y,Instr.field,Sem.run_bind,run_underlying D.und,Result.andThen_ok,R,asAgg,Sem.run_pure,part,p,abf,if_false,h2,this]
     have e1:(k.toList.drop off).take 1= [k.toList[off]]:=by
      rw[aaI S,acI,acA]
     rw[e1]at m;obtain⟨c,a5⟩:=wQ (cs:=(cs.drop off).take 1) Δ;rw[a5]at m u ⊢;obtain⟨v,ws,e,hr,hw⟩:=m;simp only[aC]at hw;subst hw;simp only[abk,and_true]at e;subst e;have L:c.tg= .pure:=uJ u c Θ;have B:=((sS L).1 hr).plain;refine bT (mk:= .hand) h q hd K u ⟨B.1,?_⟩;rw[aH B.1];exact⟨_,[],rfl,(sS L).2 ((sS L).1 hr),rfl⟩
   ·exact(aj A).elim
  ·exact(aj A).elim
 ·exact(aj A).elim
def OA (ts:List (Bool×LC)):Nat->Nat
 |0=>0
 |i+1=>match ts with| []=>0|(_,cs)::ts=>cs.length+OA ts i
theorem mD.ren {ρ:aF->aF} {mk mk':Nat->aF}: ∀(ts:List (Bool×LC)) (i j:Nat) (d:LV),(∀k,ρ (mk (i+k))=mk' (j+k))->mD w g mk i ts d->mD w (g.ren ρ) mk' j ts d
 | [],_,_,_,_,h=>h
 |(ag,cs)::ts,i,j,_,f,⟨v,l,e,⟨m,p⟩,h⟩=>⟨v,l,e,⟨m,aC.ren cs i j _ (λ k _=>f k) p⟩,
  mD.ren ts _ _ l (λ k=>by have:=f (cs.length+k);rwa [←abK,←abK]at this) h⟩
theorem mD.take {ρ:aF->aF} {mk:Nat->aF}: ∀(ts:List (Bool×LC)) (f:Nat) (t:LV) (i:Nat) (ag:Bool) (cs:LC),mD w g mk f ts t->ts[i]? =some (ag,cs)->
 (∀j,¬(f+OA ts i<=j/\j<f+OA ts i+cs.length)->ρ (mk j)=mk j)->
 ∃v,t[i]? =some v/\Fg w g mk (f+OA ts i) ag cs v/\mD w (g.ren ρ) mk f (ts.set i (ag,cs.map CV.left)) t
 | [],_,_,i,_,_,_,m,_=>by simp at m
 |(y,l)::ts,f,_,0,ag,cs,⟨v,q,e,p,z⟩,m,d=>by
  simp at m;obtain⟨rfl,rfl⟩:=m;simp only[OA,aa0]at d ⊢;refine⟨v,by simp[e],p,v,q,e,⟨p.1,?_⟩,?_⟩
  ·exact aC.left (g':=g.ren ρ) (show Keeps w w g.F (g.ren ρ).F from Keeps.refl w g.F) l f _ p.2
  ·rw[aaH];refine mD.ren ts _ _ q (λ k=>d _ Ω) z
 |(y,l)::ts,f,_,i+1,ag,cs,⟨v,q,e,p,z⟩,m,d=>by
  simp only[OA]at d ⊢;obtain⟨u,A,B,hs⟩:=mD.take ts (f+l.length) q i ag cs z (by simpa using m) (λ j C=>d j Ω);refine⟨u,by simpa [e]using A,by rw[←abK];exact B,v,q,e,⟨p.1,?_⟩,hs⟩;exact aC.ren l f f _ (λ k D=>d _ Ω) p.2
theorem XQ {x:Operand} {i:Nat} (D:o.op= .extract x i):sF P E C o:=by
 intro s a w g us d Q h q G p;simp only[plan,D,q]at p;split at p
 ·rename_i ts L;have hv:=aJ h L Θ;obtain⟨y,e,z⟩:=id hv;split at p
  ·rename_i ag cs I
   have A: ∀v,y[i]? =some v->(execOp a.eval o).run P w= .ok (.value v) w:=by
    intro v t;have:(y.toArray)[i]? =some v:=by simpa using t
    simp only[execOp,D,e,Instr.extract,this];rfl
   simp only[cond_eq_ite]at p;split at p
   ·rename_i B;obtain rfl:=au p;obtain⟨v,k,t,l⟩:=z.get ts 0 y i ag cs I;exact bT (mk:= .hand) h q G (A v t) B ⟨l.1,aC.vY (Keeps.refl _ _) cs k 0 _ B l.2⟩
   ·cases x with
    |tmp n=>
     obtain rfl:=au p
     let ρ:aF->aF:=λ o=>match o with
      | .tm m j=>if m=n/\OA ts i<=j/\j<OA ts i+cs.length then .hand (j-OA ts i)else o
      |o=>o
     obtain⟨v,t,l,u⟩:=mD.take (ρ:=ρ) ts 0 y i ag cs z I (λ j O=>by
      simp only[ρ,WU];rw[if_neg Ω])
     rw[aa2]at l
     have K:Rel E C (s.dW [.keep n (.tup (ts.set i (ag,cs.map CV.left)))]) a w (g.ren ρ):=by
      refine h.LW (Fr.ren w g λ o D=> ?_) (h.base.ren ρ) rfl (λ _ _ e=>by cases e) ⟨y,e,u⟩;simp only[ρ];cases o<;>simp_all
     have M:aC w (g.ren ρ) .hand 0 cs v.cells.toList:=aC.ren cs (OA ts i) 0 _ (λ k K=>by
      simp only[ρ,WU];rw[if_pos ⟨trivial,Ω,Ω⟩];congr 1;omega) l.2
     obtain⟨g2,N,_,_⟩:=K.y9 G l.1 M;unfold Oper.wp;rw[A v t,Oper.upon_value,q];exact⟨g2,N⟩
    |const v=>exact(aj p).elim
    |global R=>exact(aj p).elim
    |func f=>exact(aj p).elim
  ·exact(aj p).elim
 ·exact(aj p).elim
theorem Hu {p:Pl} {cs:LC} (h:aV s p 1=some cs): ∃c,cs= [c]:=by
 refine wQ ?_;rw[bM]at h;obtain⟨cells,_,d,_,rfl⟩:=h;simp;omega
theorem YA {mk:Nat->aF} {p:Pl} {off:Nat} {v:Value} (hv:TV s a w g mk (.addr p) v) (d:Di s p=true):
 ∃ad:Addr,v= .pointer (some ad)/\ad.spot=none/\TV s a w g mk (.addr (OH p off)) (.pointer (some ⟨ad.block,ad.off+off,none⟩)):=by
 obtain⟨q,hv⟩:=hv;unfold Di at d
 cases hs:p.sub with
 |none=>
  rw[hs]at d hv;obtain⟨n,z,hv⟩:=hv;rw[z]at d;simp only[aA]at d
  cases t:s.bx n with
  |none=>rw[t]at d;cases d
  |some b=>
   rw[t]at d;have A:=aao d;refine⟨_,hv b t A,rfl,?_⟩;have e:OH p off= {p with cell:=p.cell+off,vers:=[]}:=by simp only[OH,hs]
   rw[e];refine⟨⟨q.inst,λ k L _ _ _ i x c v B=>by simp at B⟩,?_⟩;simp only[hs];exact⟨n,z,λ M C D=>rfl⟩
 |some E=>
  obtain⟨i,j⟩:=E;rw[hs]at d hv;obtain⟨u,hv⟩:=hv
  cases m:aV s p 1 with
  |none=>rw[m]at d;cases d
  |some cs=>
   obtain⟨c,rfl⟩:=Hu m;obtain⟨b,l,k,G,I,rfl⟩:=hv c m;refine⟨_,rfl,rfl,?_⟩;have e:OH p off= {p with sub:=some (i,j+off)}:=by simp only[OH,hs]
   rw[e];refine⟨⟨q.inst,q.vers⟩,u,λ K y=> ?_⟩;have f:aV s p 1=some [K]:=y;rw[m]at f;simp only[aag,abk,and_true]at f;subst f;exact⟨b,l,k,G,I,by rw[abK]⟩
theorem SY (Y:yu P E.ty) {t:TypeId} {x:Operand} {f:Nat} (R:o.op= .fieldAddr t x f):sF P E C o:=by
 intro s a w g us d Q h l S m;simp only[plan,R,l]at m;split at m
 ·rename_i i Z
  have U: ∀(off n:Nat),i.fields[f]? =some (off,n)->i.ag=true-> ∀ad:Addr,ad.spot=none->a.eval x= .pointer (some ad)->(execOp a.eval o).run P w= .ok (.value (.pointer (some ⟨ad.block,ad.off+off,none⟩))) w:=by
   intro off n u D ad q v;obtain⟨info,de,z,y⟩:=Y.at_ Z;obtain⟨W,rfl,G,_,I⟩:=y.struct D;obtain⟨fd,fi,K,L,M,h4⟩:=I4 W.toList i.fields G f off n u;have N:W[f]? =some fd:=by simpa using K
   have hn:=(I (off,n) (aai u)).1
   have A:ad.add fd.offset=⟨ad.block,ad.off+off,none⟩:=by
    obtain⟨b,o,sp⟩:=ad;simp only at q;subst q;rw[L,Addr.add_mid]
   simp only[execOp,R,v,Instr.fieldAt,Sem.run_bind,run_underlying y.und,Result.andThen_ok,N,Instr.sureAddr,Sem.run_pure,fieldPlace,sizeOf,typeInfo,run_program,M,h4,if_neg hn,A]
  split at m
  ·rename_i off n p u v;obtain⟨B,m⟩:=bf m;simp only[aae]at B;obtain rfl:=au m;have hv:=aJ h v Θ;obtain⟨ad,e,q,O⟩:=YA (off:=off) hv B.2;exact bT h l S (U off n u B.1 ad q e) rfl O
  ·rename_i off n cs k u v;obtain⟨B,m⟩:=bf m;obtain rfl:=au m;have hv:=aJ h v Θ;obtain⟨ad,vs,e,K,L,M⟩:=id hv;exact bT h l S (U off n u B _ rfl e) rfl ⟨ad,vs,by rw[abK],K,L,M⟩
  ·exact(aj m).elim
 ·exact(aj m).elim
theorem agc (sh:Sh):sh.base.qR=sh.qR:=by cases sh<;>rfl
theorem Xr (sh:Sh):xY sh.base=xY sh:=by cases sh<;>rfl
theorem ah4 (sh:Sh):sh.base.n=sh.n:=by cases sh<;>rfl
theorem Eu (m:yu P E.ty) {t:TypeId} {c:CV} (h:Gx E t c=true):c.sh.qR=true/\ ∃e j info z p,P.underlying t=some (.slice e)/\((j.cells.all λ s=> !s.Kr)=true/\j.cells.length<=8)/\E.ty e=some j/\j.cells=xY c.sh/\JO P E.ty e j info p z/\info.size=c.sh.n:=by
 unfold Gx at h;split at h
 ·rename_i sh B C e v;simp only[aae]at h;have g:=aY8 h.2;obtain⟨info,p,z,d⟩:=m.at_ v;obtain⟨y,j,rfl,q,k,u⟩:=d.slice (sh:=sh) rfl h.1 rfl;obtain⟨i,l,A,f⟩:=m.at_ k;refine⟨by rw[←agc,←g];exact h.1,y,j,i,A,l,d.und,⟨d.akv q k,d.short q k⟩,k,by rw[u,g,Xr],f,?_⟩;rw[f.size,u,kX,g,ah4]
 ·cases h
theorem Nl {t:TypeId} {i:TypeInfo} (w:World) (h:P.info? t=some i):(sizeOf t).run P w= .ok i.size w:=by simp[sizeOf,typeInfo,h]
theorem xR (w:World) {t e:TypeId} {info:TypeInfo} (m:P.underlying t=some (.slice e)) (p:P.info? e=some info) (ad:Addr) (d:ad.spot=none) (l k:Nat) (kd:IntKind) (i:Int) (q:0<=i) (u:i.toNat<l):
 (Instr.indexAt t (.slice (some ad) l k) (.int kd i)).run P w= .ok (.pointer (some ⟨ad.block,ad.off+i.toNat*info.size,none⟩)) w:=by
 have f:ad.add (i.toNat*info.size)=⟨ad.block,ad.off+i.toNat*info.size,none⟩:=by
  obtain⟨b,o,v⟩:=ad;simp only at d;subst d;rw[Addr.add_mid]
 have g:0<=i/\i<(l:Int):=⟨q,Ω⟩;simp only[Instr.indexAt,asIntOf,Sem.run_bind,Sem.run_pure,Result.andThen_ok,run_underlying m,if_pos g,Nl w p,f]
theorem Xy {c:CV} {i:Int} {ds:LC} (h:(elemAt c i).run=some ds):0<=i/\(zk c i.toNat).run=some ds:=by
 obtain⟨sh,g,x⟩:=c
 have key: ∀{α:Type} (l:List α) (f:α->LC),(nth? l i).bind (λ e=>some (f e))=some ds->0<=i/\(at? l i.toNat).bind (λ e=>some (f e))=some ds:=by
  intro α l f h;unfold nth? at h;by_cases d:0<=i
  ·simp only[d,decide_true,cond_true]at h;exact⟨d,h⟩
  ·simp only[d,decide_false,cond_false,Option.bind_none]at h;cases h
 cases sh with
 |sl es=>cases g<;>first|exact(aN h rfl).elim|exact key (α:=ElA es) x _ h
 |rsl ss=>cases g<;>first|exact(aN h rfl).elim|exact key (α:=RT (ElA ss)) x _ h
 |int k=>exact(aN h rfl).elim
 |bool=>exact(aN h rfl).elim
 |str=>exact(aN h rfl).elim
 |dl _=>exact(aN h rfl).elim
 |mp _ _=>exact(aN h rfl).elim
theorem Cb {c:CV} {l:Nat} (hs:c.sh.qR=true) (h:lenOf c=some l):l=aP c.sh c.x/\c.tg≠ .dead:=by
 obtain⟨sh,d,x⟩:=c
 cases sh with
 |sl es=>cases d<;>first|exact(aN h rfl).elim|exact⟨(aak h).symm,Θ⟩
 |rsl ss=>cases d<;>first|exact(aN h rfl).elim|exact⟨(aak h).symm,Θ⟩
 |dl es=>cases d<;>first|exact(aN h rfl).elim|exact⟨(aak h).symm,Θ⟩
 |_=>simp[Sh.qR]at hs
theorem V7 {ad:Addr} (d:ad.off=0) (hs:ad.spot=none):ad=⟨ad.block,0,none⟩:=by
 obtain⟨b,o,e⟩:=ad;simp only at d hs;subst d hs;rfl
theorem OZ (B:yu P E.ty) {t:TypeId} {c:CV} {v:Value} {ow:aF} {kd:IntKind} {i:Int} {cs:LC} (f:Gx E t c=true) (l:c.tg≠ .own) (C:jZ w g ow c v) (m:(elemAt c i).run=some cs):
 ∃ad,(Instr.indexAt t v (.int kd i)).run P w= .ok (.pointer (some ad)) w/\TV s a w g .hand (.paddr cs 0) (.pointer (some ad)):=by
 obtain⟨M,e,j,info,z,N,D,_,_,_,p,q⟩:=Eu B f;obtain⟨G,m⟩:=Xy m;obtain⟨_,_,I,_,u,ad,k,K,rfl,y,L,A,_,d,_⟩:=GV C m;refine⟨_,xR w D p.inf ad y _ _ kd i G u,⟨ad.block,ad.off+i.toNat*info.size,none⟩,K,rfl,?_,I,A _ 0⟩;rw[q];exact d l
theorem LP (C:yu P E.ty) {t:TypeId} {c:CV} {v:Value} {ow:aF} {kd:IntKind} {i:Int} {l:Nat} (m:Gx E t c=true) (y:c.tg= .own) (D:jZ w g ow c v) (G:lenOf c=some l) (I:0<=i) (M:i<l):
 ∃b k,v= .slice (some ⟨b,0,none⟩) (aP c.sh c.x) k/\i.toNat<aP c.sh c.x/\(Instr.indexAt t v (.int kd i)).run P w= .ok (.pointer (some ⟨b,i.toNat*c.sh.n+0,none⟩)) w:=by
 obtain⟨B,e,j,info,z,N,K,_,_,_,p,q⟩:=Eu C m;obtain⟨rfl,u⟩:=Cb B G;rcases qF B u D with⟨A,k,_,O⟩|⟨ad,k,cs,rfl,_,f,_,_,_,d⟩
 ·omega
 ·have L:=V7 (d (by rw[y];simp)) f;refine⟨ad.block,k,by rw[←L],Ω,?_⟩;rw[xR w K p.inf ad f _ _ kd i I Ω,d (by rw[y];simp),q,aa2,aa0]
theorem qC (h:Rel E C s a w g) {p:Pl} {c:CV} (k:aV s p 1=some [c]): ∃u,(aB a w g p.root)[p.cell]? =some u/\jZ w g (dO p.root p.cell) c u/\((aB a w g p.root).drop p.cell).take 1= [u]:=by
 obtain⟨d,_⟩:=h.pl k;obtain⟨u,m,e,f,i⟩:=d;simp only[aC]at i;subst i;have:=congrArg (λ l=>l[0]?) e;simp only[aan,aas,aa0]at this;exact⟨u,by simpa using this,f,e⟩
theorem addr_add {ad:Addr} (hs:ad.spot=none) (m:Nat):ad.add m=⟨ad.block,ad.off+m,none⟩:=by
 obtain⟨b,o,d⟩:=ad;simp only at hs;subst hs;unfold Addr.add;split
 ·rename_i h;subst h;rfl
 ·rfl
theorem S9 (hT:yu P E.ty) {t:TypeId} {x i:Operand} (ho:o.op= .indexAddr t x i):sF P E C o:=by
 intro s a w g us d Q h B hd hp;simp only[plan,ho,B]at hp;split at hp
 ·rename_i kd i' hi;obtain⟨_,d3⟩:=uS h hi;obtain⟨r,f,hp⟩:=aS hp;obtain rfl:=au hp
  have fin: ∀v:Value,(Instr.indexAt t (a.eval x) (.int kd i')).run P w= .ok v w->(execOp a.eval o).run P w= .ok (.value v) w:=by
   intro v hv;simp only[execOp,ho,d3,Sem.run_bind,hv,Result.andThen_ok,Sem.run_pure]
  unfold Sr at f;split at f
  ·rename_i c hx;have hv:=aJ h hx Θ;obtain⟨u,e,L,hu⟩:=Fg.one hv;have hu:=hu rfl;subst hu
   have q:Gx E t c=true:=by
    cases hb:Gx E t c with
    |true=>rfl
    |false=>rw[hb]at f;exact(aj f).elim
   rw[q]at f;simp only[abm,cond_false]at f
   have R:c.tg≠ .own->((elemAt c i').bind λ cs=> .ret (.paddr cs 0)).run=some r->o.wp P a w (λ a' w'=> ∃g',Rel E C (s.dW [.tm d r]) a' w' g') Q:=by
    intro d4 f;obtain⟨cs,he,f⟩:=aS f;obtain rfl:=au f;obtain⟨ad,m,b0⟩:=OZ (s:=s) (a:=a) (kd:=kd) hT q d4 L he;exact bT h B hd (fin _ m) rfl b0
   split at f
   ·rename_i S;split at f
    ·rename_i n;split at f
     ·rename_i l hl;obtain⟨M,f⟩:=lH f;obtain rfl:=au f;simp only[aae,decide_eq_true_eq]at M;obtain⟨b,k,U,W,m⟩:=LP (kd:=kd) hT q S L hl M.1 M.2;refine bT (mk:= .hand) h B hd (fin _ m) rfl ⟨⟨by simp[rP],λ k b e=>by cases e⟩,rfl,λ c' K=> ?_⟩;have d6:(s.tm n).1= .val false [c]:=hx
      have y:c'=c:=by
       rw[bM]at K;obtain⟨cells,h1,_,_,h2⟩:=K;have e2:s.tm n=(.val false [c],(s.tm n).2):=by rw[←d6]
       simp only[aA]at h1;rw[e2]at h1;cases h1;simpa using h2
      subst y;refine⟨b,aP c'.sh c'.x,k,?_,W,rfl⟩;simp only[aB];rw[e];simp only[aaO];rw[U]
     ·exact(aj f).elim
    ·exact(aj f).elim
   ·exact(aj f).elim
   ·rename_i Y d8;exact R (λ e=>Y e) f
  ·rename_i p n hx;have hv:=aJ h hx Θ;obtain⟨D,Z,G,hv⟩:=hv;obtain⟨cs,a0,b3⟩:=aS f;have M:=iD G a0;clear f
   have c7: ∃c,cs= [c]:=by
    match cs,b3 with
    | [],h=>exact(aj h).elim
    | [c],_=>exact⟨c,rfl⟩
    |_::_::_,h=>exact(aj h).elim
   obtain⟨c,rfl⟩:=c7;have f:=b3;clear b3;simp only[]at f
   ·obtain⟨b4,N⟩:=hv _ M;obtain⟨a1,a2⟩:=h.pl M;have Y:n=1:=by simpa using a2.symm
    subst Y;rw[aH b4]at N;rw[←N]at a1;obtain⟨u,ws,e,L,_⟩:=a1;have hu:u=a.eval x:=by simp at e;exact e.1.symm
    subst hu
    have q:Gx E t c=true:=by
     cases hb:Gx E t c with
     |true=>rfl
     |false=>rw[hb]at f;exact(aj f).elim
    rw[q]at f;simp only[abm,cond_false]at f;split at f
    ·rename_i S;split at f
     ·rename_i l g5 hl;obtain⟨y,f⟩:=lH f;obtain rfl:=au f;simp only[aae,decide_eq_true_eq]at y;obtain⟨b,k,U,W,m⟩:=LP (kd:=kd) hT q S L hl y.1 y.2;refine bT (mk:= .hand) h B hd (fin _ m) rfl ⟨⟨D.inst,D.vers⟩,Z,λ c' K=> ?_⟩;have I:aV s p 1=some [c']:=K;rw[M]at I;simp only[aag,abk,and_true]at I;subst I;refine⟨b,aP c.sh c.x,k,?_,W,rfl⟩;have:=congrArg (λ l=>l[0]?) N;simp only[aan,aas,aa0]at this;rw[←U];simpa using this.symm
     ·exact(aj f).elim
    ·exact(aj f).elim
    ·rename_i Y d8;obtain⟨cs,he,f⟩:=aS f;obtain rfl:=au f;obtain⟨ad,m,b0⟩:=OZ (s:=s) (a:=a) (kd:=kd) hT q (λ e=>Y e) L he;exact bT h B hd (fin _ m) rfl b0
  ·rename_i p z lo hi hx;obtain⟨D,Z,G,_,hv⟩:=aJ h hx Θ;obtain⟨cs,a0,f⟩:=aS f;have M:=iD G a0;obtain⟨c,rfl⟩:=Hu M;simp only[]at f;obtain⟨A,l,k,e1,k1,k2,k3,k4⟩:=hv c M;obtain⟨u,e2,L,_⟩:=qC h M;rw[e1]at e2;cases e2
   have q:Gx E t c=true:=by
    cases hb:Gx E t c with
    |true=>rfl
    |false=>rw[hb]at f;exact(aj f).elim
   rw[q]at f;simp only[abm,cond_false]at f;split at f
   ·rename_i S;rw[G]at f;obtain⟨y,f⟩:=lH f;obtain rfl:=au f;simp only[aae,decide_eq_true_eq]at y;obtain⟨c9,f6⟩:=y;obtain⟨d9,e,j,info,z',de,hu,_,_,_,e3,e4⟩:=Eu hT q;rcases qF d9 (by rw[S];simp) L with⟨A',k',ev,hz⟩|⟨ad,k',cs,ev,_,d0,_,_,_,O⟩
    ·cases ev;omega
    ·cases ev;have O:=O (by rw[S];simp);have e6:k≠lo:=by omega
     have e7:a.eval x= .slice (some ⟨ad.block,ad.off+lo*c.sh.n,none⟩) (hi-lo) (k-lo):=by rw[k4,←addr_add d0];simp only[Dw,if_neg e6];rfl
     have m:=xR w hu e3.inf ⟨ad.block,ad.off+lo*c.sh.n,none⟩ rfl (hi-lo) (k-lo) kd i' c9 Ω;rw[←e7]at m;refine bT (mk:= .hand) h B hd (fin _ m) rfl ⟨⟨D.inst,D.vers⟩,Z,λ c' K=> ?_⟩;have I:aV s p 1=some [c']:=K;rw[M]at I;simp only[aag,abk,and_true]at I;subst I;have e8:=V7 O d0;refine⟨ad.block,_,k,by rw[←e8];exact e1,Ω,?_⟩;have:ad.off+lo*c.sh.n+i'.toNat*info.size=(lo+i'.toNat)*c.sh.n+0:=by rw[O,e4,abO];omega
     show Value.pointer (some ⟨ad.block,ad.off+lo*c.sh.n+i'.toNat*info.size,none⟩)=_;rw[this]
   ·exact(aj f).elim
  ·rename_i p n hx;obtain⟨D,Z,i0,j0,G,d1⟩:=aJ h hx Θ
   cases b5:N9 s p with
   |none=>rw[b5]at f;exact(aj f).elim
   |some f0=>
    obtain⟨c,i,j⟩:=f0;rw[b5]at f;obtain⟨a3,es,l,rfl,M⟩:=zi b5;rw[G]at a3;cases a3;obtain⟨cs,f1,f⟩:=aS f;obtain⟨e,he,f3,rfl⟩:=Eh f1;split at f
    ·rename_i e0 b6;obtain⟨a4,f⟩:=bf f;simp only[aae]at a4;obtain⟨q,a8⟩:=a4;have a8:e0.tg= .own:=by cases ht:e0.tg<;>simp_all [Tg.G9]
     split at f
     ·rename_i len a2;obtain⟨y,f⟩:=lH f;obtain rfl:=au f;simp only[aae,decide_eq_true_eq]at y
      have hn:n=1:=by
       have:=congrArg List.length b6;simp only[aaE,abh,qm,aaY]at this;omega
      subst hn;obtain⟨b,k,cur,et,e1,hi,a5,a9,f4⟩:=h.Y2 M he f3;obtain⟨b2,f7,k2,f8,h5,f2,m1,_,m3,b4,b7⟩:=d1 es l M;rw[e1]at m1;cases m1;rw[a5]at m3;cases m3;rw[aH b4]at b7;rw[←b7,b6]at a9;obtain⟨u,ws,eu,L,_⟩:=a9;have hu:u=a.eval x:=by simp at eu;exact eu.1.symm
      subst hu;obtain⟨b',k',U,W,m⟩:=LP (kd:=kd) hT q a8 L a2 y.1 y.2;refine bT (mk:= .hand) h B hd (fin _ m) rfl ⟨D,Z,i0,j0,G,λ h7 l' K=> ?_⟩;rw[M]at K;simp only[aag,abk,and_true]at K;obtain⟨rfl,_⟩:=K;refine⟨b,_,k,cur,et,(0,0),e1,hi,a5,b',aP e0.sh e0.x,k',e0.sh,?_,?_,W,rfl⟩
      ·have h0:(((nS es e).drop j0).take 1)[0]? =some e0:=by rw[b6];rfl
       simp only[aan,aas,aa0,Nat.zero_lt_one,if_true]at h0;obtain⟨c0,a0,rfl⟩:=yT h0;have:=congrArg (λ l=>l[j0]?) (uY es e);simp only[aau,a0]at this;exact this.symm
      ·have:=congrArg (λ l=>l[0]?) b7;simp only[aan,aas,aa0,Nat.zero_lt_one,if_true]at this;rw[←this,←U];rfl
     ·exact(aj f).elim
    ·exact(aj f).elim
  ·exact(aj f).elim
 ·exact(aj hp).elim
theorem qW (A:yu P E.ty) {t:TypeId} {i:TyI} (B:E.ty t=some i) (b off:Nat) (k:LV) (m:k.length=i.cells.length) (C: ∀j,j<k.length->w.cell? ⟨b,off+j,none⟩=k[j]?):
 ∃v,(Instr.loadAt t (.pointer (some ⟨b,off,none⟩))).run P w= .ok v w/\(i.ag=true->v= .agg k.toArray)/\(i.ag=false->k= [v]):=by
 obtain⟨info,u,z,g⟩:=A.at_ B;have f:=g.isRow
 have d:w.rangeAt b off k:=λ j v hv=>by
  have D:j<k.length:=by
   rcases aaG j k.length with h|h
   ·exact h
   ·simp[aal h]at hv
  rw[C j D,hv]
 cases p:i.ag with
 |true=>
  rw[p]at f;exact⟨_,run_loadAt_mid w b off t k u d g.und f (by rw[g.inf];simp[g.size,m]),λ _=>rfl,λ e=>by cases e⟩
 |false=>
  rw[p]at f;obtain⟨sh,q⟩:=g.one p;rw[q]at m
  match k,m,d with
  | [v],_,d=>
    refine⟨v,?_,(λ e=>by cases e),λ _=>rfl⟩
    have l:(Go.isAgg t).run P w= .ok false w:=by
     unfold Go.isAgg;rw[Sem.run_bind,run_underlying g.und w,Result.andThen_ok];cases u<;>simp[TypeDesc.isRow]at f<;>rfl
    have y:=d 0 v rfl;simp only[aa0]at y;simp only[Instr.loadAt,Instr.sureAddr,Sem.run_bind,Sem.run_pure,Result.andThen_ok,loadVar,l,abf,if_false,run_load,y]
theorem qG {mk:Nat->aF} {i:TyI} {v:Value} {cs:LC} {k:LV} (q:i.ag=false->FC cs=true) (t:i.ag=true->v= .agg k.toArray) (y:i.ag=false->k= [v]) (d:aC w g mk 0 cs k):
 Fg w g mk 0 i.ag cs v:=by
 cases l:i.ag with
 |true=>rw[t l];exact⟨rfl,by simpa [Value.cells]using d⟩
 |false=>
  have e:=y l;subst e;have z:=d.length;obtain⟨c,rfl⟩:=wQ (cs:=cs) (by simpa using z.symm);obtain⟨u,A,e,p,B⟩:=d;simp only[abk]at e;obtain⟨rfl,rfl⟩:=e
  have m:c.tg≠ .dead:=by
   have:=q l;intro e;simp[FC,e]at this
  have f:=p.plain m;refine⟨f.1,?_⟩;rw[aH f.1];exact⟨v,[],rfl,p,rfl⟩
theorem kE {cs:LC} (h:bI cs=true):FC cs=true:=by
 unfold FC;rw[aaV];intro c d;rw[uJ h c d]
theorem agT (hT:yu P E.ty) {t:TypeId} {x:Operand} (ho:o.op= .load t x):sF P E C o:=by
 intro s a w g us d Q h z hd f;simp only[plan,ho,z]at f
 have fin: ∀v:Value,(Instr.loadAt t (a.eval x)).run P w= .ok v w->(execOp a.eval o).run P w= .ok (.value v) w:=by
  intro v hv;simp only[execOp,ho,Sem.run_bind,hv,Result.andThen_ok,Sem.run_pure]
 split at f
 ·rename_i p i hx hi;have hv:=aJ h hx Θ;obtain⟨a0,hv⟩:=hv;split at f
  ·rename_i c r j a6;obtain⟨K,es,l,rfl,B⟩:=zi a6;rw[K]at hv;obtain⟨O,hv⟩:=hv;obtain⟨cs,b1,f⟩:=aS f;obtain⟨e,he,c9,rfl⟩:=Eh b1;obtain⟨b,k,cur,et,e1,b3,D,b4,R⟩:=h.Y2 B he c9;obtain⟨b2,e6,k2,m1,_,W⟩:=hv _ B;rw[e1]at m1;cases m1
   obtain⟨v,m,h1,h2⟩:=qW (w:=w) hT hi b (r*es.length+j) _ R (λ q hq=>by
    rw[R]at hq;rw[cell_of_heap D,aan,if_pos hq,aas,aaW])
   rw[W]at fin;have L:=qG (i:=i) (v:=v) (λ _=>XL es e j i.cells.length) h1 h2 b4;cases A:bI (((nS es e).drop j).take i.cells.length)with
   |true=>
    rw[A]at f;obtain rfl:=au f;exact bT (mk:= .hand) h z hd (fin _ m) A ⟨L.1,aC.vY (Keeps.refl _ _) _ 0 0 _ A L.2⟩
   |false=>
    rw[A]at f
    have M:TV0 s a w g .hand (.rowr p i.ag i.cells.length) v:=by
     refine⟨a0,O,r,j,K,λ f5 l' S=> ?_⟩;rw[B]at S;simp only[aag,abk,and_true]at S;obtain⟨rfl,_⟩:=S;refine⟨b,_,k,cur,et,(0,0),e1,b3,D,L.1,?_⟩
     cases Y:i.ag with
     |true=>rw[h1 Y];simp[Value.cells]
     |false=>
      have:=L.1;rw[Y]at this;rw[aH this,h2 Y]
    cases b5:uq E d with
    |false=>
     rw[b5]at f;obtain rfl:=au f;exact bT (mk:= .hand) h z hd (fin _ m) rfl M
    |true=>
     rw[b5]at f;simp only[cond_false,cond_true]at f;split at f
     ·rename_i c' hm;split at f
      ·rename_i f7 hu;obtain rfl:=au f;obtain⟨g',r1,b7,k1,_,_,_⟩:=Q5 h (hs:=[]) (hv:=[]) rfl M a6 b1 hm hu;simp only[abU]at k1;obtain⟨g2,r2,_,_⟩:=r1.y9 hd b7 k1;unfold Oper.wp;rw[fin _ m,Oper.upon_value,z,eP];exact⟨g2,r2⟩
      ·exact(aj f).elim
     ·exact(aj f).elim
  obtain⟨cs,B,f⟩:=aS f
  cases hs:p.sub with
  |none=>
   rw[hs]at hv f;have B:=iD hs B;obtain⟨n,hn,hv⟩:=hv;obtain⟨y,a3⟩:=h.pl B
   have Z: ∃b,s.bx n=some b/\b.inst=p.inst:=by
    have:=B;rw[bM]at this;obtain⟨cells,e,_⟩:=this;rw[hn]at e;simp only[aA]at e
    cases Z:s.bx n with
    |none=>rw[Z]at e;simp at e
    |some b=>rw[Z]at e;simp only[aag,aaz]at e;exact⟨b,rfl,e.1⟩
   obtain⟨b,Z,d0⟩:=Z;obtain⟨cur,et,D,_⟩:=h.bx n b Z;have d1:aB a w g p.root=cur.toList:=by rw[hn];simp only[aB,D]
   have O:(((aB a w g p.root).drop p.cell).take i.cells.length).length=i.cells.length:=by rw[y.length,a3]
   obtain⟨v,m,h1,h2⟩:=qW (w:=w) hT hi (g.at_ n) p.cell _ O (λ j hj=>by
    rw[O]at hj;rw[cell_of_heap D,d1,aan,if_pos hj,aas];simp)
   rw[hv b Z d0]at fin;simp only[cond_eq_ite]at f;split at f
   ·rename_i A;obtain rfl:=au f;have N:aC w g .hand 0 cs _:=aC.vY (Keeps.refl _ _) cs p.cell 0 _ A y;exact bT (mk:= .hand) h z hd (fin _ m) A (qG (λ _=>kE A) h1 h2 N)
   ·split at f
    ·rename_i a8;obtain rfl:=au f;simp only[abT]at a8
     have d2:(D9 s p i.cells.length).length=i.cells.length:=by
      have:=B;rw[bM]at this;obtain⟨cells,e,h3,_⟩:=this;unfold D9;rw[e];simp;omega
     refine bT (mk:= .hand) h z hd (fin _ m) rfl ⟨⟨a0.inst,λ k b' e b8 b3 j x c v hj d3=> ?_⟩,d2,rfl,λ d4 S=> ?_⟩
     ·have e':p.root= .box k:=e;rw[hn]at e';cases e';rw[Z]at b8;cases b8;have:(D9 s p i.cells.length)[j]? =some x:=hj;unfold D9 at this;rw[hn]at this;simp only[aA,Z]at this;simp only[aau,aan,aas]at this;split at this
      ·have b9:b.cells[p.cell+j]? =some (c,v):=d3;rw[b9]at this;simp at this;omega
      ·simp at this
     ·have a4:aV s p i.cells.length=some d4:=by
       have:=S;rw[bM]at this ⊢;obtain⟨cells,e,h3,_,h5⟩:=this;have c0:=B;rw[bM]at c0;obtain⟨c7,e2,_,h6,_⟩:=c0;have e3:aA s p.root=some (p.inst,cells):=e;rw[e3]at e2;cases e2;exact⟨cells,e3,h3,h6,h5⟩
      rw[B]at a4;cases a4
      have L:=qG (mk:=λ k=>dO p.root (p.cell+k)) (i:=i) (v:=v) (cs:=cs) (λ Y=>by
       rcases a8 with h|h
       ·rw[Y]at h;cases h
       ·exact h) h1 h2 (aC.of _ _ _ y.length λ k c v hk hv=>by
         obtain⟨u,hu,hr⟩:=y.get cs p.cell _ k c hk;rw[hu]at hv;cases hv;simpa using hr)
      refine⟨L.1,?_⟩
      cases Y:i.ag with
      |true=>rw[h1 Y];simp[Value.cells]
      |false=>
       have:=L.1;rw[Y]at this;rw[aH this,h2 Y]
    ·exact(aj f).elim
  |some ij=>
   obtain⟨k,j⟩:=ij;rw[hs]at hv f;obtain⟨O,hv⟩:=hv;unfold content at B;rw[hs]at B;simp only[]at B;split at B
   ·rename_i c c1;obtain⟨ds,d5,B⟩:=aS B;obtain⟨U,B⟩:=bf B;obtain rfl:=au B;have U:=abl U;obtain⟨b,l,d6,h1,h2,h3⟩:=hv c c1;obtain⟨y,_⟩:=h.pl c1;obtain⟨u,ws,e,d7,_⟩:=y
    have hu:u= .slice (some ⟨b,0,none⟩) l d6:=by
     have:=congrArg (λ l=>l[0]?) e;simp only[aan,aas,aa0]at this;simp at this;rw[h1]at this;exact(aak this).symm
    subst hu;obtain⟨f1,a8,A,a6,g7,ad,k2,vs,W,g8,f2,N,c2,_,_⟩:=GV d7 d5;simp only[Value.slice.injEq,aag]at W;obtain⟨rfl,rfl,rfl⟩:=W;simp only[cond_eq_ite]at f;split at f
    ·rename_i G;obtain rfl:=au f;have K:=(N .hand 0).sub j i.cells.length;have I:((vs.drop j).take i.cells.length).length=i.cells.length:=by simp;omega
     obtain⟨v,m,k1,k3⟩:=qW (w:=w) hT hi b (k*c.sh.n+j) _ I (λ q hq=>by
      rw[I]at hq;have:=c2 (j+q) Ω;simp only[aa2]at this;rw[aan,if_pos hq,aas,←this,abK])
     rw[h3]at fin;exact bT (mk:= .hand) h z hd (fin _ m) G (qG (λ _=>kE G) k1 k3 (aC.vY (Keeps.refl _ _) _ _ 0 _ G K))
    ·exact(aj f).elim
   ·exact(aj B).elim
 ·rename_i cs off i hx hi;have hv:=aJ h hx Θ;obtain⟨ad,vs,e,M,A,N⟩:=hv;obtain⟨U,f⟩:=bf f;obtain rfl:=au f;have U:=abl U;have a3:=N.length;have K:=N.sub off i.cells.length
  have G:bI ((cs.drop off).take i.cells.length)=true:=by
   rw[bI,aaV]at A ⊢;intro c B;exact A c (abD (abr B))
  have I:((vs.drop off).take i.cells.length).length=i.cells.length:=by simp;omega
  obtain⟨v,m,k1,k3⟩:=qW (w:=w) hT hi ad.block (ad.off+off) _ I (λ q hq=>by
   rw[I]at hq;have:=(M (off+q) Ω).1;rw[aan,if_pos hq,aas,←this,abK])
  rw[e]at fin;exact bT (mk:= .hand) h z hd (fin _ m) G (qG (λ _=>kE G) k1 k3 (aC.vY (Keeps.refl _ _) _ _ 0 _ G K))
 ·exact(aj f).elim
def Rd (w:World) (g:Gh) (c:CV) (v:Value):Prop:=
 if c.sh.qR then c.tg≠ .dead->(∃A k,v= .slice A 0 k/\aP c.sh c.x=0)\/
  ∃(ad:Addr) (k:Nat) (cs:LV),v= .slice (some ad) (aP c.sh c.x) k/\aP c.sh c.x<=k/\ad.spot=none/\(c.sh.qK=true->wM w g.F c.sh c.x cs)/\(∀j,j<cs.length->w.cell? ⟨ad.block,ad.off+j,none⟩=cs[j]?)
 else if c.sh.Kr then c.tg= .own-> ∃ow,UC w g ow c.sh c.x v
 else c.tg≠ .dead->jM w g.F c.sh c.x v
theorem Rd.of {ow:aF} {c:CV} {v:Value} (h:jZ w g ow c v):Rd w g c v:=by
 unfold Rd;split
 ·rename_i hs;intro d;rcases qF hs d h with h|⟨ad,k,cs,f,i,l,m,p,_⟩
  ·exact .inl h
  ·exact .inr ⟨ad,k,cs,f,i,l,m,p⟩
 ·rename_i hs;split
  ·rename_i e;intro q;unfold jZ at h;rw[q]at h;exact⟨ow,by simpa [hs,e]using h⟩
  ·rename_i e;intro d;exact CJ (by simpa using hs) (by simpa using e) d h
theorem Rd.sub {c:CV} (m:c.sh.qK=true) {A:Option Addr} {l k:Nat} (h:Rd w g c (.slice A l k)) {lo i:Nat} (y:lo<=i) (u:i<=l):Rd w g ⟨c.sh,c.tg,Jb c.sh c.x lo i⟩ (Dw A k lo i c.sh.n):=by
 have hs:=gu m;unfold Rd at h ⊢;rw[if_pos hs]at h ⊢;intro z;rcases h z with⟨G,B,e,I⟩|⟨ad,B,cs,e,K,q,p,C⟩
 ·cases e;have:lo=0:=by omega
  have:i=0:=by omega
  subst lo i;exact .inl ⟨_,_,rfl,Ew m c.x Ω⟩
 ·cases e;have d:=Ew m c.x (lo:=lo) u;by_cases v:i-lo=0
  ·left;exact⟨if k=lo then some ad else(some ad).map (·.add (lo*c.sh.n)),k-lo,by unfold Dw;rw[v],by rw[d,v]⟩
  ·right;have p:=p m;have t:=p.length;have L:i*c.sh.n<=cs.length:=by rw[t];exact aaA _ u
   have D:lo*c.sh.n<=i*c.sh.n:=aaA _ y
   have f:(ad.add (lo*c.sh.n)).block=ad.block/\(ad.add (lo*c.sh.n)).off=ad.off+lo*c.sh.n/\(ad.add (lo*c.sh.n)).spot=none:=by
    unfold Addr.add;split
    ·rename_i e;rw[e];exact⟨rfl,rfl,q⟩
    ·exact⟨rfl,rfl,rfl⟩
   refine⟨ad.add (lo*c.sh.n),k-lo,_,?_,by rw[d];omega,f.2.2,λ _=>p.sub lo i,?_⟩
   ·unfold Dw;rw[d,if_neg Ω];rfl
   ·intro j E;simp only[abh,aaE]at E;rw[f.1,f.2.1,abK,C _ Ω,aas,aan,if_pos Ω]
theorem QA (h:Rel E C s a w g) {x:Operand} {c:CV} (m:(JX E s x).run=some [c]):Rd w g c (a.eval x):=by
 unfold JX at m;split at m
 ·rename_i cs q;obtain rfl:=au m;obtain⟨u,_,t,G⟩:=Fg.one (aJ h q Θ);rw[←G rfl];exact Rd.of t
 ·rename_i p n q;obtain⟨_,_,f,hv⟩:=aJ h q Θ;have i:=iD f m;obtain⟨y,v⟩:=hv _ i;have I:n=1:=by have:=(h.pl i).2;simpa using this.symm
  subst I;obtain⟨u,_,t,e⟩:=qC h i;rw[aH y,e]at v;have:a.eval x=u:=by simpa using v
  rw[this];exact Rd.of t
 ·rename_i p z lo Q q;obtain⟨_,_,f,_,hv⟩:=aJ h q Θ;obtain⟨cs,i,m⟩:=aS m;have i:=iD f i;obtain⟨K,rfl⟩:=Hu i;have B:=GU m;obtain⟨d,L,e⟩:=aaK.1 B;simp only[abk,and_true]at e;subst e;obtain⟨hs,M,rfl⟩:=um L;obtain⟨A,l,k,N,y,v,R,O⟩:=hv K i;obtain⟨u,D,t,_⟩:=qC h i;rw[N]at D;cases D;rw[O];exact Rd.sub hs (Rd.of t) y v
 ·exact(aj m).elim
theorem Rd.len {c:CV} {v:Value} (hs:c.sh.qR=true) (d:c.tg≠ .dead) (h:Rd w g c v): ∃A k,v= .slice A (aP c.sh c.x) k/\aP c.sh c.x<=k\/aP c.sh c.x=0/\v= .slice A 0 k:=by
 unfold Rd at h;rw[if_pos hs]at h;rcases h d with⟨A,k,e,f⟩|⟨ad,k,cs,e,i,_⟩
 ·exact⟨A,k,.inr ⟨f,e⟩⟩
 ·exact⟨_,k,.inl ⟨e,i⟩⟩
theorem WI (g:yu P E.ty) {t:TypeId} (h:aeO E t=true): ∃e f,P.underlying t=some (.map e f):=by
 unfold aeO at h;split at h
 ·rename_i i;obtain⟨info,l,z,d⟩:=g.at_ i;obtain⟨e,f,_,_,k,_⟩:=d.mp rfl rfl;exact⟨e,f,by rw[d.und,k]⟩
 ·cases h
theorem af4.len {b:Nat} {k e:Sh} {l:List (El k×El e)} (h:af4 w b k e l): ∃es d,w.heap[b]? =some (.map es d)/\es.size=l.length:=by
 obtain⟨es,c,f,g⟩:=h;have:=congrArg List.length g;simp at this;exact⟨es,c,f,this⟩
theorem aiN (M:yu P E.ty) {cl:Call} {x:Operand} (K:o.op= .call cl) (S:cl.callee= .builtin .len) (U:cl.args.toList= [x]):sF P E C o:=by
 intro s a w g us d Q h m Y i;simp only[plan,K,m,S,U]at i;obtain⟨cs,N,i⟩:=aS i
 have B: ∃c t,cs= [c]/\cl.argTypes.toList= [t]:=by
  match cs,cl.argTypes.toList,i with
  | [],_,h=>exact(aj h).elim
  |_::_::_,_,h=>exact(aj h).elim
  | [c],[],h=>exact(aj h).elim
  | [c],[t],_=>exact⟨c,t,rfl,rfl⟩
  | [c],_::_::_,h=>exact(aj h).elim
 obtain⟨c,t,rfl,W⟩:=B;rw[W]at i;simp only[]at i;obtain⟨f,i⟩:=bf i;split at i
 ·rename_i l y;obtain rfl:=au i;have p:=QA h N
  have q:cl.args.map a.eval= #[a.eval x]:=by
   apply abu.1;simp[U]
  have D:cl.argTypes= #[t]:=by apply abu.1;simp[W]
  have fin:(Builtin.len_ #[t] o.type #[a.eval x]).run P w= .ok (goInt l) w->(execOp a.eval o).run P w= .ok (.value (.int .i64 l)) w:=by
   intro Z;simp only[execOp,K,resolve,S,Sem.run_bind,Sem.run_pure,Result.andThen_ok,invoke,builtin,q,D,Z];rfl
  refine bT (mk:= .hand) h m Y (fin ?_) rfl (qo _ _);simp only[abT,aae]at f;rcases f with(f|⟨f,u⟩)|⟨f,u⟩
  rotate_right
  ·obtain⟨kt,et,v⟩:=WI M f;obtain⟨G,L,O⟩:=c;cases G<;>simp[Sh.Kr]at u;cases L<;>first|exact(aN y rfl).elim|skip
   obtain rfl:=aak y;obtain⟨ow,K⟩:=p rfl;rcases K with⟨hv,rfl⟩|⟨b,l,rfl,hv,_,hm,_⟩
   ·rw[hv];simp[Builtin.len_,run_underlying v];rfl
   ·obtain⟨es,c,h1,h2⟩:=hm.len;rw[hv];simp[Builtin.len_,run_underlying v,MapKept.run_getObj_map h1,h2,Result.andThen,WO]
  ·obtain⟨hs,e,j,info,z,de,v,_⟩:=Eu M f;obtain⟨rfl,R⟩:=Cb hs y;obtain⟨A,k,I⟩:=p.len hs R;rcases I with⟨I,_⟩|⟨hz,I⟩
   ·rw[I];simp[Builtin.len_,run_underlying v]
   ·rw[I,hz];simp[Builtin.len_,run_underlying v]
  ·have v:=KD M f;obtain⟨G,L,O⟩:=c;have:=aY8 u;simp only at this;subst this
   have:L= .pure/\l=ByteArray.size O:=by
    unfold lenOf at y;cases L<;>first|exact(aN y rfl).elim|exact⟨rfl,(aak y).symm⟩
   obtain⟨rfl,rfl⟩:=this;have hv:a.eval x= .string O:=p Θ;rw[hv];simp[Builtin.len_,run_underlying v]
 ·exact(aj i).elim
theorem Z7 {cl:Call} {x y:Operand} {b:Builtin} (q:o.op= .call cl) (t:cl.callee= .builtin b) (p:b= .min\/b= .max) (v:cl.args.toList= [x,y]):sF P E C o:=by
 intro s a w g us d Q h i I u
 have f:cl.args.map a.eval= #[a.eval x,a.eval y]:=by
  apply abu.1;simp[v]
 have e:(match tY E s x,tY E s y with
  |some (k,x),some (A,y)=>match WM b x y with
   |some z=>bif decide (k=A)then Dyn.ret [Upd.tm d (OB k z)]else .fail
   |none=> .fail
  |_,_=> .fail).run=some us:=by
  rcases p with rfl|rfl<;>(simp only[plan,q,i,t,v]at u;exact u)
 clear u;split at e
 ·rename_i k m A n K L;obtain⟨_,em⟩:=uS h K;obtain⟨_,B⟩:=uS h L;split at e
  ·rename_i z D;obtain⟨G,e⟩:=bf e;obtain rfl:=au e;simp only[decide_eq_true_eq]at G;subst G;refine bT (mk:= .hand) h i I ?_ rfl (qo _ _);rcases p with rfl|rfl
   ·have:z=min m n:=(aak D).symm;have l:(if n<m then n else m)=z:=by rw[this];omega
    simp only[execOp,q,resolve,t,Sem.run_bind,Sem.run_pure,Result.andThen_ok,invoke,builtin,f,Builtin.min_,List.foldlM_cons,List.foldlM_nil,em,B,Builtin.min2,l]
   ·have:z=max m n:=(aak D).symm;have l:(if n>m then n else m)=z:=by rw[this];omega
    simp only[execOp,q,resolve,t,Sem.run_bind,Sem.run_pure,Result.andThen_ok,invoke,builtin,f,Builtin.max_,List.foldlM_cons,List.foldlM_nil,em,B,Builtin.max2,l]
  ·exact(aj e).elim
 ·exact(aj e).elim
theorem Tf (h:Rel E C s a w g) {x:Option Operand} {n:Option Int} (d:ML E s x=some n): ∃k,x.map a.eval=n.map (Value.int k):=by
 cases x with
 |none=>cases d;exact⟨.i64,rfl⟩
 |some x=>
  simp only[ML]at d;split at d
  ·rename_i k m f;cases d;obtain⟨_,e⟩:=uS h f;exact⟨k,by simp[e]⟩
  ·cases d
theorem xU (k:IntKind) (i:Int) (y:Nat) (d:BoundsCode) (e:0<=i) (f:i<=y):(Instr.sliceBound (.int k i) y d).run P w= .ok i.toNat w:=by
 have g:0<=i/\i<=(y:Int):=⟨e,f⟩;simp only[Instr.sliceBound,asIntOf,Sem.run_bind,Sem.run_pure,Result.andThen_ok,if_pos g]
theorem Ej (b:Bool) (len e:Nat) (lo f:Option Int) (g p:IntKind) (i:0<=lo.getD 0) (k:lo.getD 0<=f.getD len) (m:f.getD len<=len) (u:len<=e):
 (Instr.sliceBounds b len e (lo.map (Value.int g)) (f.map (Value.int p)) none).run P w= .ok ((lo.getD 0).toNat,(f.getD len).toNat,e) w:=by
 have t: ∀(h:Int) (d:BoundsCode),0<=h->h<=len->(Instr.sliceBound (.int p h) e d).run P w= .ok h.toNat w:=λ h d a b=>xU p h e d a Ω
 cases lo with
 |none=>
  cases f with
  |none=>simp[Instr.sliceBounds]
  |some h=>
   simp only[aby,Option.getD_none]at k m i;simp[Instr.sliceBounds,t h _ k m]
 |some l=>
  cases f with
  |none=>
   simp only[aby,Option.getD_none]at k m i;have q: ∀d,(Instr.sliceBound (.int g l) len d).run P w= .ok l.toNat w:=λ d=>xU g l len d i k;simp[Instr.sliceBounds,q]
  |some h=>
   simp only[aby]at k m i;have q: ∀d,(Instr.sliceBound (.int g l) h.toNat d).run P w= .ok l.toNat w:=λ d=>xU g l h.toNat d i Ω;simp[Instr.sliceBounds,t h _ Ω m,q]
theorem Ic (w:World) {t e:TypeId} {info:TypeInfo} (l:P.underlying t=some (.slice e)) (g:P.info? e=some info) (A:Option Addr) (len d:Nat) (lo f:Option Int) (i k:IntKind)
 (m:0<=lo.getD 0) (p:lo.getD 0<=f.getD len) (q:f.getD len<=len) (u:len<=d):
 (Instr.sliceAt t (.slice A len d) (lo.map (Value.int i)) (f.map (Value.int k)) none).run P w= .ok (Dw A d (lo.getD 0).toNat (f.getD len).toNat info.size) w:=by
 have v:=Ej (P:=P) (w:=w) true len d lo f i k m p q u;simp only[Instr.sliceAt,Sem.run_bind,run_underlying l,Result.andThen_ok,Instr.slice,v,Nl w g,Sem.run_pure];rfl
theorem QE (w:World) {t:TypeId} (g:P.underlying t=some .string) (b:ByteArray) (lo d:Option Int) (e f:IntKind)
 (i:0<=lo.getD 0) (k:lo.getD 0<=d.getD b.size) (l:d.getD b.size<=b.size):
 (Instr.sliceAt t (.string b) (lo.map (Value.int e)) (d.map (Value.int f)) none).run P w= .ok (.string (b.extract (lo.getD 0).toNat (d.getD b.size).toNat)) w:=by
 have m:=Ej (P:=P) (w:=w) false b.size b.size lo d e f i k l (aaw _);simp only[Instr.sliceAt,Sem.run_bind,run_underlying g,Result.andThen_ok,Instr.slice,Option.isSome_none,abf,if_false,m,Sem.run_pure]
theorem aeY (hT:yu P E.ty) {t:TypeId} {x:Operand} {lo hi mx:Option Operand} (ho:o.op= .slice t x lo hi mx):sF P E C o:=by
 intro s a w g us d Q h y hd hp;simp only[plan,ho,y]at hp;split at hp
 ·rename_i m i b9 c3;obtain⟨r,f,hp⟩:=aS hp;obtain rfl:=au hp;obtain⟨k1,e1⟩:=Tf h b9;obtain⟨k2,e2⟩:=Tf h c3
  have fin: ∀v:Value,(Instr.sliceAt t (a.eval x) (m.map (Value.int k1)) (i.map (Value.int k2)) none).run P w= .ok v w->(execOp a.eval o).run P w= .ok (.value v) w:=by
   intro v hv;simp only[execOp,ho,Sem.run_bind,e1,e2,Option.map_none,hv,Result.andThen_ok,Sem.run_pure]
  have q: ∀(c:CV) (ow:aF),jZ w g ow c (a.eval x)->c.tg≠ .own->
   ((bif !Gx E t c then Dyn.fail else match lenOf c with
     |some l=>Dyn.chk (decide (0<=m.getD 0)&&decide (m.getD 0<=i.getD l)&&decide (i.getD l<=l))
      (match yS c (m.getD 0).toNat (i.getD l).toNat with|some d=>Dyn.ret (T.val false [d.to .pure])|none=> .fail)
     |none=> .fail:Dyn T)).run=some r->o.wp P a w (λ a' w'=> ∃g',Rel E C (s.dW [.tm d r]) a' w' g') Q:=by
   intro c ow B c4 f
   have G:Gx E t c=true:=by
    cases hb:Gx E t c with
    |true=>rfl
    |false=>rw[hb]at f;exact(aj f).elim
   rw[G]at f;simp only[abm,cond_false]at f;obtain⟨hs,e,j,info,z,de,L,_,_,_,R,S⟩:=Eu hT G;split at f
   ·rename_i l hl;obtain⟨rfl,U⟩:=Cb hs hl;obtain⟨K,f⟩:=lH f;simp only[aae,decide_eq_true_eq]at K;obtain⟨⟨c0,c1⟩,c2⟩:=K;split at f
    ·rename_i dd c6;obtain rfl:=au f;obtain⟨M,_,rfl⟩:=um c6
     have W: ∃A k,a.eval x= .slice A (aP c.sh c.x) k/\aP c.sh c.x<=k/\jM w g.F c.sh c.x (a.eval x):=by
      rcases qF hs U B with⟨A,k,D,Y⟩|⟨ad,k,cs,D,N,c7,c8,_,a7,_⟩
      ·refine⟨A,k,by rw[D,Y],Ω,?_⟩;rw[yI M];exact⟨A,k,by rw[D,Y],Ω,.inl Y⟩
      ·refine⟨_,k,D,N,?_⟩;rw[yI M];exact⟨_,k,D,N,.inr ⟨ad,cs,rfl,c7,a7 c4,c8 M⟩⟩
     obtain⟨A,k,D,N,a8⟩:=W;rw[D]at fin a8;have Z:(m.getD 0).toNat<=(i.getD (aP c.sh c.x)).toNat:=by omega
     have a0:(i.getD (aP c.sh c.x)).toNat<=aP c.sh c.x:=by omega
     refine bT (mk:= .hand) h y hd (fin _ (Ic w L R.inf A _ k m i k1 k2 c0 c1 c2 N)) rfl ⟨rfl,_,[],rfl,?_,rfl⟩;rw[S];exact jM.sub M a8 Z a0
    ·exact(aj f).elim
   ·exact(aj f).elim
  unfold sliceT at f;simp only[]at f;split at f
  ·rename_i b hx
   have b0:Oz E t=true:=by
    cases hb:Oz E t with
    |true=>rfl
    |false=>rw[hb]at f;exact(aj f).elim
   rw[b0]at f;simp only[abm,cond_false]at f;obtain⟨K,f⟩:=lH f;obtain rfl:=au f;simp only[aae,decide_eq_true_eq]at K;obtain⟨⟨c0,c1⟩,c2⟩:=K;rw[adP h hx]at fin;exact bT (mk:= .hand) h y hd (fin _ (QE w (KD hT b0) b m i k1 k2 c0 c1 c2)) rfl (adO _)
  ·rename_i c e0 hx;obtain⟨u,_,B,L⟩:=Fg.one (aJ h hx Θ);have L:=L rfl;subst L;split at f
   ·rename_i b1;exact q c _ B (by rw[b1];simp) f
   ·exact(aj f).elim
  ·rename_i p hx;obtain⟨b2,c9,O,hv⟩:=aJ h hx Θ;obtain⟨cs,d0,f⟩:=aS f;have K:=iD O d0;obtain⟨c,rfl⟩:=Hu K;obtain⟨d1,I⟩:=hv _ K;obtain⟨u,e4,B,e5⟩:=qC h K;rw[aH d1,e5]at I;have L:u=a.eval x:=by simpa using I.symm
   subst L;simp only[]at f;split at f
   ·exact(aj f).elim
   ·rename_i b1
    have G:Gx E t c=true:=by
     cases hb:Gx E t c with
     |true=>rfl
     |false=>rw[hb]at f;exact(aj f).elim
    rw[G]at f;simp only[abm,cond_false]at f;obtain⟨hs,e,j,info,z,de,L,_,_,_,R,S⟩:=Eu hT G;split at f
    ·rename_i l hl;obtain⟨rfl,U⟩:=Cb hs hl;obtain⟨b3,f⟩:=lH f;obtain rfl:=au f;simp only[aae,decide_eq_true_eq]at b3;obtain⟨⟨c0,c1⟩,c2⟩:=b3
     have b4: ∃A k,a.eval x= .slice A (aP c.sh c.x) k/\aP c.sh c.x<=k:=by
      rcases qF hs U B with⟨A,k,D,Y⟩|⟨ad,k,cs,D,N,_⟩
      ·exact⟨A,k,by rw[D,Y],Ω⟩
      ·exact⟨_,k,D,N⟩
     obtain⟨A,k,D,N⟩:=b4;rw[D]at fin e4;have Z:(m.getD 0).toNat<=(i.getD (aP c.sh c.x)).toNat:=by omega
     have a0:(i.getD (aP c.sh c.x)).toNat<=aP c.sh c.x:=by omega
     refine bT (mk:= .hand) h y hd (fin _ (Ic w L R.inf A _ k m i k1 k2 c0 c1 c2 N)) rfl ⟨b2,c9,O,λ Y=> ?_,λ c' a1=> ?_⟩
     ·cases m with
      |none=>rfl
      |some _=>simp at Y
     ·rw[K]at a1;simp only[aag,abk,and_true]at a1;subst a1;exact⟨A,_,k,e4,Z,a0,N,by rw[S]⟩
    ·exact(aj f).elim
   ·rename_i e7 d2;exact q c _ B (λ e=>d2 e) f
  ·exact(aj f).elim
 ·exact(aj hp).elim
theorem UM (h:Rel E C s a w g): ∀(i:List Operand) (ts:List T),aee E s i=some ts->oJ s a w g .hand ts (i.map a.eval)
 | [],ts,d=>by simp only[aee,aag]at d;subst d;rfl
 |x::i,ts,d=>by
  simp only[aee]at d;split at d
  ·rename_i p e k f;cases d;have hv:=aJ h k Θ;exact⟨_,_,rfl,trivial,TV0.copy (s:=s) (a:=a) (mk:=WU x) (t:= .addr p) rfl hv,UM h i e f⟩
  ·rename_i cs off e k f;cases d;have hv:=aJ h k Θ;exact⟨_,_,rfl,trivial,TV0.copy (s:=s) (a:=a) (t:= .paddr cs off) rfl hv,UM h i e f⟩
  ·cases d
theorem Vm {f:Fn} {first k:Array Operand} (q:o.op= .makeFunc f first k):sF P E C o:=by
 intro s a w g us d Q h e z i
 cases f with
 |func f=>
  simp only[plan,q,e]at i
  cases m:aee E s k.toList with
  |none=>
   rw[m]at i;cases u:first.toList<;>rw[u]at i<;>exact(aj i).elim
  |some ts=>
   rw[m]at i
   cases u:first.toList with
   |cons y D=>rw[u]at i;exact(aj i).elim
   |nil=>
    rw[u]at i;obtain rfl:=au i;have A:=UM h k.toList ts m;have B:first.map a.eval= #[]:=by apply abu.1;simp[u]
    refine bT (v:= .func (.func f) #[] (k.map a.eval)) (mk:= .hand) h e z ?_ rfl ⟨_,?_,A⟩
    ·simp only[execOp,q,Instr.makeFunc,B];rfl
    ·congr 1;apply abu.1;simp
 |method n=>simp only[plan,q,e]at i;exact(aj i).elim
 |methodOf t n=>simp only[plan,q,e]at i;exact(aj i).elim
 |via t p f b=>simp only[plan,q,e]at i;exact(aj i).elim
 |yield l=>simp only[plan,q,e]at i;exact(aj i).elim
def Gh.new (g:Gh) (ρ:aF->aF) (b:Nat) (ow:aF):Gh:={g with own:=λ x=>if x=b then some ow else(g.own x).map ρ}
theorem nM {w:World} {d:Obj} {b:Nat} (h:b<w.heap.size):(w.alloc d).heap[b]? =w.heap[b]? :=by
 show(w.heap.push d)[b]? =_;rw[Array.getElem?_push,if_neg Ω]
theorem nK {w:World} {d:Obj}:(w.alloc d).heap[w.heap.size]? =some d:=by
 show(w.heap.push d)[w.heap.size]? =_;rw[Array.getElem?_push,if_pos rfl]
theorem LX {F:Fz} (hF: ∀b o,F b o->b<w.heap.size) (d:Obj):Keeps w (w.alloc d) F F:=
 ⟨λ _ _ h=>h,λ b o h=>by
  have:=hF b o h;exact World.cell?_alloc_lt w d ⟨b,o,none⟩ this⟩
theorem Fr.new {K:aF->Prop} (l: ∀b ow,g.own b=some ow->b<w.heap.size) (hF: ∀b o,g.F b o->b<w.heap.size) {ρ:aF->aF} (d: ∀o,K o->ρ o=o) (i:Obj) (ow:aF):
 Fr K w (w.alloc i) g (g.new ρ w.heap.size ow):=
 ⟨LX hF i,λ b ow' k e=>by
  have f:=l b ow' e;exact⟨by simp only[Gh.new];rw[if_neg Ω,e];simp[d ow' k],nM f,λ _ h=>h⟩⟩
theorem Base.new {w0:World} {F0:Fz} {X:Nat->Prop} (h:Base w0 F0 X w g) (ρ:aF->aF) (l:Obj) (m: ∀cs t f,l= .cells cs t f->f=(0,0)) (ow:aF):Base w0 F0 X (w.alloc l) (g.new ρ w.heap.size ow):=
 ⟨h.os,h.tape,h.output,by simp only[World.size_alloc];have:=h.size;omega,λ b y k=>by
  rw[nM (by have:=h.size;omega)];exact h.blk b y k,λ b ow' e=>by
  simp only[Gh.new]at e;simp only[World.size_alloc];split at e
  ·rename_i d;subst d;exact⟨.inr h.size,Ω⟩
  ·obtain⟨o',p,_⟩:=aaK.1 e;obtain⟨q,z⟩:=h.own b o' p;exact⟨q,Ω⟩,h.keeps.trans (LX (λ b o u=>(h.fz b o u).2) l),λ b o u=>by
  obtain⟨q,z⟩:=h.fz b o u;exact⟨q,by simp only[World.size_alloc];omega⟩,λ b ow' cs t f k i=>by
  by_cases v:b<w.heap.size
  ·rw[nM v]at i;simp only[Gh.new]at k;rw[if_neg Ω]at k;obtain⟨o',p,_⟩:=aaK.1 k;exact h.frz b o' cs t f p i
  ·by_cases d:b=w.heap.size
   ·subst d;rw[nK]at i;exact m cs t f (aak i)
   ·rw[acn (by simp only[World.size_alloc];omega)]at i;cases i⟩
theorem Base.ad9 {w0:World} {F0:Fz} {X:Nat->Prop} (h:Base w0 F0 X w g) (f:Nat->Nat):Base w0 F0 X w {g with at_:=f}:=⟨h.os,h.tape,h.output,h.size,h.blk,h.own,h.keeps,h.fz,h.frz⟩
theorem Base.drew {w0:World} {F0:Fz} {X:Nat->Prop} (h:Base w0 F0 X w g):Base w0 F0 X w.drew g:=⟨h.os,h.tape,h.output,h.size,h.blk,h.own,⟨h.keeps.sub,h.keeps.cell⟩,h.fz,h.frz⟩
theorem Fr.drew (K:aF->Prop):Fr K w w.drew g g:=⟨⟨λ _ _ h=>h,λ _ _ _=>rfl⟩,λ b ow k e=>⟨e,rfl,λ _ h=>h⟩⟩
theorem YK (h:Rel E C s a w g) {d:Nat} (I:DOk E d) {cs:LC} {l:LV} (K:aC w g .hand 0 cs l) (e:TypeId):
 ∃g',Rel E C (s.dW (Vg s d cs)) (a.put (some d) (.pointer (some ⟨w.heap.size,0,none⟩))) (w.alloc (.cells l.toArray e)) g':=by
 let ρ:aF->aF:=λ o=>match o with| .hand i=> .cell d i|o=>o
 let f:Gh:={g.new ρ w.heap.size (.box d)with at_:=put g.at_ d w.heap.size}
 let q:=w.alloc (.cells l.toArray e)
 let inst:=(match s.bx d with|some b=>b.inst|none=>0)+1
 let p:Bx:=⟨inst,cs.map λ c=>(c,0)⟩
 have t: ∀b ow,g.own b=some ow->b<w.heap.size:=λ b ow e=>(h.base.own b ow e).2;have hF: ∀b o,g.F b o->b<w.heap.size:=λ b o e=>(h.base.fz b o e).2
 have A:Fr (λ o=>(∀i,o≠ .cell d i)/\o≠ .box d/\ ∀i,o≠ .hand i) w q g (g.new ρ w.heap.size (.box d)):=Fr.new t hF (λ o B=>by
  simp only[ρ];cases o<;>simp_all) _ _
 have D:Fr (λ o=>(∀i,o≠ .cell d i)/\o≠ .box d/\ ∀i,o≠ .hand i) w q g f:=⟨A.keeps,A.own⟩;have u:Base C.w0 C.F0 C.X q f:=(h.base.new ρ _ (λ _ _ _ e=>by cases e;rfl) _).ad9 _
 have y:Fa q f d p:=by
  refine⟨l.toArray,e,?_,?_,?_,?_⟩
  ·simp only[f,bF];exact nK
  ·simp only[f,bF,Gh.new,if_true]
  ·simp only[f,bF];intro o B;have:=hF _ _ B;omega
  ·simp only[p,nN];have L:Keeps w q g.F f.F:=D.keeps
   have step: ∀(cs:LC) (i:Nat) (l:LV),aC w g .hand i cs l->aC q f (.cell d) i cs l:=by
    intro cs
    induction cs with
    |nil=>intro i l h;exact h
    |cons c cs M=>
     intro i l N;obtain⟨v,O,e,Q,R⟩:=N;refine⟨v,O,e,?_,M _ _ R⟩;have S:=(Q.ren (ρ:=ρ))
     have U:Fr (λ o=>o= .cell d i) w q (g.ren ρ) f:=⟨L,λ b ow k e=>by
      simp only[Gh.ren,aaK]at e;obtain⟨o',G,_⟩:=e;have z:=t b o' G;exact⟨by simp only[f,Gh.new];rw[if_neg Ω,G];simpa using by assumption,nM z,λ _ h=>h⟩⟩
     exact S.fr U rfl
   exact step cs 0 l K
 have W:Rel E C (s.dW [.bx d p]) a q f:=by
  refine h.ahe D u (λ m Y=>by simp only[f,bJ _ _ _ Y]) (.inl ?_) y;simp only[rP,p,inst];cases s.bx d<;>simp
 have hs:(Vg s d cs)= [.bx d p,.tm d (.addr ⟨.box d,inst,[],0,none⟩)]:=rfl;refine⟨f,?_⟩;rw[hs,show([Upd.bx d p,.tm d (.addr ⟨.box d,inst,[],0,none⟩)]:List Upd)= [.bx d p]++[.tm d (.addr ⟨.box d,inst,[],0,none⟩)]from rfl,eP];refine W.QT (mk:= .hand) I rfl ⟨⟨?_,λ n b _ _ _ i x c v Z=>by simp at Z⟩,d,rfl,λ b hb hi=> ?_⟩
 ·have:(s.dW [.bx d p]).bx d=some p:=by simp[St.dW,Upd.on,bF]
  simp only[rP,this];exact aaw _
 ·simp only[f,bF]
theorem Jc (mk:Nat->aF): ∀(ss:List Sh) (i:Nat),aC w g mk i (ss.map J7) (ss.map zeroV)
 | [],_=>rfl
 |sh::ss,i=>⟨_,_,rfl,by
  cases sh with
  |sl es=>exact Jd rfl
  |rsl ss=>exact Jd rfl
  |dl ss=>exact Jd rfl
  |mp k e=>exact .inl ⟨rfl,rfl⟩
  |int k=>exact(rfl:(Value.int k 0)= .int k 0)
  |bool=>exact(rfl:Value.bool false=_)
  |str=>exact(rfl:Value.string ByteArray.empty=_),Jc mk ss (i+1)⟩
theorem RQ (ss:List Sh):(ss.map aX5).map zeroV=ss.map zeroV:=by
 rw[abM];refine acj λ s _=> ?_
 cases s with
 |sl es=>simp only[Function.comp,aX5];cases es.any Sh.qR<;>rfl
 |_=>rfl
theorem aeS (u:yu P E.ty) {t:TypeId} (q:o.op= .alloc t):sF P E C o:=by
 intro s a w g us d Q h e v k;simp only[plan,q,e]at k
 cases l:E.ty t with
 |none=>rw[l]at k;exact(aj k).elim
 |some i=>
  rw[l]at k;obtain rfl:=au k;obtain⟨info,A,z,f⟩:=u.at_ l;obtain⟨g',r⟩:=YK h v (Jc (w:=w) (g:=g) .hand (bif uq E d then i.cells.map aX5 else i.cells) 0) t
  have m:(bif uq E d then i.cells.map aX5 else i.cells).map zeroV=i.cells.map zeroV:=by
   cases uq E d with
   |true=>exact RQ _
   |false=>rfl
  rw[m]at r;have y:z.cells=(i.cells.map zeroV).toArray:=by apply abu.1;simp[f.cells]
  have p:(execOp a.eval o).run P w= .ok (.value (.pointer (some ⟨w.heap.size,0,none⟩))) (w.alloc (.cells (i.cells.map zeroV).toArray t)):=by
   simp[execOp,q,Instr.alloc,zeroValue,typeInfo,f.inf,f.zero,newVar,newRow,y]
  unfold Oper.wp;rw[p,Oper.upon_value,e];exact⟨g',r⟩
theorem aiM (y:yu P E.ty) {t:TypeId} {x:Operand} (k:o.op= .box t x):sF P E C o:=by
 intro s a w g us d Q h e l f;simp only[plan,k,e]at f;obtain⟨⟨ag,cs,m⟩,p,f⟩:=aS f;obtain⟨q,f⟩:=bf f;obtain rfl:=au f;obtain⟨z,u,A,v,_,_⟩:=Gw h (hs:=[]) (hv:=[]) rfl p;obtain⟨g',r⟩:=YK u l (by simpa using v) t
 have i:(execOp a.eval o).run P w= .ok (.value (.pointer (some ⟨w.heap.size,0,none⟩))) (w.alloc (.cells (a.eval x).cells.toList.toArray t)):=by
  simp[execOp,k,Instr.box,newVar,newRow]
 unfold Oper.wp;rw[i,Oper.upon_value,e,eP];exact⟨g',r⟩
theorem Uc: ∀{cs ds:LC},Ik cs ds=true->cs.map CV.sh=ds.map CV.sh
 | [],[],_=>rfl
 | [],_::_,h=>by simp[Ik]at h
 |_::_,[],h=>by simp[Ik]at h
 |c::cs,d::ds,h=>by
  simp only[Ik,aae]at h;rw[abo,abo,aY8 h.1,Uc h.2]
theorem splice (off:Nat) (l:LV) (cells:Array Value) (h:off+l.length<=cells.size):
 (l.toArray.zipIdx.foldl (λ cs (x:Value×Nat)=>cs.setIfInBounds (off+x.2) x.1) cells)=(cells.toList.take off++l++cells.toList.drop (off+l.length)).toArray:=by
 have gen: ∀(l:LV) (k:Nat) (cells:Array Value),off+k+l.length<=cells.size->
  ((l.zipIdx k).foldl (λ cs (x:Value×Nat)=>cs.setIfInBounds (off+x.2) x.1) cells).toList=cells.toList.take (off+k)++l++cells.toList.drop (off+k+l.length):=by
  intro l
  induction l with
  |nil=>intro k cells _;simp
  |cons v l e=>
   intro k cells f;simp only[aaX]at f;rw[List.zipIdx_cons,acD,e (k+1) _ Δ];simp only[Array.toList_setIfInBounds];have g:off+(k+1)=off+k+1:=by omega
   rw[g];have d:off+k<cells.toList.length:=by simp;omega
   have m:(cells.toList.set (off+k) v).take (off+k+1)=cells.toList.take (off+k)++[v]:=by
    rw[List.take_succ_eq_append_getElem (by simpa using d),List.take_set_of_le (aaw _)];simp
   have p:(cells.toList.set (off+k) v).drop (off+k+1+l.length)=cells.toList.drop (off+k+1+l.length):=by
    apply aaZ;intro i;simp only[aas];rw[aa5 Ω]
   rw[m,p];simp[abK,acQ 1]
 apply abu.1;have:=gen l 0 cells (by simpa using h);simp only[aa0]at this;rw[←Array.foldl_toList];simpa using this
theorem Jg (fields:List (Nat×Nat)) (cells:List Sh): ∀(ps:List (Nat×Operand)) (s:St) (g:Gh) (cs:LC) (f:LV) (m:List Upd) (d:LC) (p:List Upd),
 Rel E C s a w g->aC w g .hand 0 cs f->(vN E fields cells ps s cs m).run=some (d,p)->
 (∀x,x∈fields->x.1+x.2<=cs.length)->
 ∃q g' t,p=m++q/\Rel E C (s.dW q) a w g'/\aC w g' .hand 0 d t/\d.length=cs.length/\
  Instr.fill (fields.toArray[·]?) f.toArray (ps.map λ x=>(x.1,a.eval x.2))=some t.toArray
 | [],s,g,cs,f,m,d,p,h,L,l,_=>by
   simp only[vN]at l;have:=au l;simp only[aaz]at this;obtain⟨rfl,rfl⟩:=this;exact⟨[],g,f,Θ,h,L,rfl,rfl⟩
 |(i,x)::ps,s,g,cs,f,m,d,p,h,L,l,Y=>by
  simp only[vN]at l;split at l
  ·exact(aj l).elim
  ·rename_i off n A;obtain⟨⟨ag,ds,u⟩,ht,l⟩:=aS l;simp only[]at l;obtain⟨Z,l⟩:=bf l;simp only[aae]at Z;have hn:=aao Z.1;obtain⟨v,r1,_,y,_,_⟩:=Gw h L ht;have M:=Y (off,n) (aai A);simp only at M;have B:=L.length
   have N:(a.eval x).cells.toList.length=n:=by
    have:=y.length;simp only[aaq]at this;omega
   let ρ:aF->aF:=λ o=>match o with
    | .hand k=>if cs.length<=k/\k<cs.length+n then .hand (off+(k-cs.length))else o
    |o=>o
   have r2:Rel E C (s.dW u) a w (v.ren ρ):=r1.world (Fr.ren w v λ o ho=>by
    cases o<;>simp_all [ρ]) (r1.base.ren ρ) rfl
   have D:aC w v .hand 0 cs f:=by
    have:=y.sub 0 cs.length;simp only[abB,aa0]at this;have O:(cs++ds).take cs.length=cs:=by simp
    have Q:(f++(a.eval x).cells.toList).take cs.length=f:=by rw[←B];simp
    rwa [O,Q]at this
   have G:aC w v .hand (0+cs.length) ds (a.eval x).cells.toList:=by
    have:=y.sub cs.length n;have O:((cs++ds).drop cs.length).take n=ds:=by simp[←hn]
    have Q:((f++(a.eval x).cells.toList).drop cs.length).take n=(a.eval x).cells.toList:=by rw[←B,abQ,aaJ Ω]
    rwa [O,Q]at this
   have I:aC w (v.ren ρ) .hand 0 (setCells cs off ds) (f.take off++(a.eval x).cells.toList++f.drop (off+(a.eval x).cells.toList.length)):=by
    refine aC.setCells Ω Ω D (λ o=> ∃k,k<cs.length/\o= .hand k) (Fr.ren w v λ o ho=> ?_) (λ k hk _=>⟨0+k,Ω,rfl⟩) ?_
    ·obtain⟨k,hk,rfl⟩:=ho;simp only[ρ];rw[if_neg Ω]
    ·refine aC.ren ds (0+cs.length) (0+off) _ (λ k hk=> ?_) G;simp only[ρ];rw[if_pos Ω];congr 1;omega
   obtain⟨q,g',t,e,r3,R,S,z⟩:=Jg fields cells ps (s.dW u) (v.ren ρ) _ _ (m++u) d p r2 I l (λ x hx=>by
    rw[uj Ω];exact Y x hx)
   refine⟨u++q,g',t,by rw[e,aaD],by rw[eP];exact r3,R,by rw[S,uj Ω],?_⟩;simp only[abo,Instr.fill];have K:fields.toArray[i]? =some (off,n):=by simpa using A
   rw[K];simp only[];have U:(a.eval x).cells.size=n:=by simpa using N
   rw[if_neg (by simp[U];omega)];have W:=splice off (a.eval x).cells.toList f.toArray Δ;simp only[Array.toArray_toList]at W;rw[←z];congr 1
theorem aeU (M:yu P E.ty) {t:TypeId} {ps:Array (Nat×Operand)} (L:o.op= .build t ps):sF P E C o:=by
 intro s a w g us d Q h l N m;simp only[plan,L,l]at m;split at m
 ·rename_i i O;obtain⟨⟨cs,A⟩,R,m⟩:=aS m;obtain⟨B,m⟩:=bf m;obtain rfl:=au m;obtain⟨info,de,z,k⟩:=M.at_ O;obtain⟨S,rfl,D,_,G⟩:=k.struct B
  have u:(bif uq E d then i.cells.map aX5 else i.cells).map zeroV=i.cells.map zeroV:=by
   cases uq E d with
   |true=>exact RQ _
   |false=>rfl
  have I:(bif uq E d then i.cells.map aX5 else i.cells).length=i.cells.length:=by
   have:=congrArg List.length u;simpa using this
  obtain⟨U,g1,p,e,W,Y,hl,q⟩:=Jg i.fields i.cells ps.toList s g ((bif uq E d then i.cells.map aX5 else i.cells).map J7) (i.cells.map zeroV) [] cs A h (by
   rw[←u];exact Jc .hand _ 0) R (λ x Z=>by
   have:=(G x Z).2;rw[aaH,I];exact this)
  simp only[abU]at e;subst e;obtain⟨g2,r2,_,_⟩:=W.y9 (v:= .agg p.toArray) N rfl (by simpa [Value.cells]using Y)
  have hb:P.built t (ps.map λ(i,x)=>(i,a.eval x)).toList=some p.toArray:=by
   unfold Program.built;simp only[k.inf,k.und,k.zero];have y:S.toList.mapM (λ f=>(P.info? f.type).map λ i=>(f.offset,i.size))=some i.fields:=D;rw[y];simp only[];have hz:z.cells=(i.cells.map zeroV).toArray:=by apply abu.1;simp[k.cells]
   rw[hz,←q];simp
  have K:(execOp a.eval o).run P w= .ok (.value (.agg p.toArray)) w:=by
   simp only[execOp,L,Sem.run_bind,run_build w t _ _ hb,Result.andThen_ok,Sem.run_pure]
  unfold Oper.wp;rw[K,Oper.upon_value,l,eP];exact⟨g2,r2⟩
 ·exact(aj m).elim
theorem ac1 (h:Rel E C s a w g) {sh:Sh} (d:sh.qK=true) {x:El sh} {cells:Array Value} {c:Nat} (e:TypeId) (m:wM w g.F sh x (cells.toList.take (aP sh x*sh.n))) (p:aP sh x<=c) (q:c<=maxLen) (k:cells.size=c*sh.n):
 ∃g',Rel E C s a (w.alloc (.cells cells e)) g'/\jZ (w.alloc (.cells cells e)) g' (.hand 0) ⟨sh,.own,x⟩ (.slice (some ⟨w.heap.size,0,none⟩) (aP sh x) c)/\Keeps w (w.alloc (.cells cells e)) g.F g'.F/\g'.at_=g.at_/\Fr (λ _=>True) w (w.alloc (.cells cells e)) g g':=by
 have i: ∀b ow,g.own b=some ow->b<w.heap.size:=λ b ow e=>(h.base.own b ow e).2;have hF: ∀b o,g.F b o->b<w.heap.size:=λ b o e=>(h.base.fz b o e).2;have f:=Fr.new (K:=λ _=>True) i hF (ρ:=id) (λ _ _=>rfl) (.cells cells e) (.hand 0);refine⟨g.new id w.heap.size (.hand 0),h.world (f.mono λ _ _=>trivial) (h.base.new _ _ (λ _ _ _ e=>by cases e;rfl) _) rfl,?_,f.keeps,rfl,f⟩;simp only[jZ,if_pos (gu d)];refine .inr ⟨w.heap.size,c,cells,e,rfl,p,q,by simp[Gh.new],nK,k,(rC d).2 (m.keeps f.keeps),λ o=> ?_⟩;constructor
 ·intro l;have:=hF _ _ l;omega
 ·intro l;cases l.1
theorem Wv (h:Rel E C s a w g) {d:Nat} (i:DOk E d) {sh:Sh} (hs:sh.qK=true) {x:El sh} {cells:Array Value} {c:Nat} (e:TypeId) (k:wM w g.F sh x (cells.toList.take (aP sh x*sh.n))) (l:aP sh x<=c) (m:c<=maxLen) (f:cells.size=c*sh.n):
 ∃g',Rel E C (s.dW [.tm d (.val false [⟨sh,.own,x⟩])]) (a.put (some d) (.slice (some ⟨w.heap.size,0,none⟩) (aP sh x) c)) (w.alloc (.cells cells e)) g':=by
 obtain⟨u,p,q,_,_⟩:=ac1 h hs e k l m f;obtain⟨g2,t,_,_⟩:=p.y9 i (v:= .slice (some ⟨w.heap.size,0,none⟩) (aP sh x) c) (ag:=false) (cs:=[⟨sh,.own,x⟩]) rfl ⟨_,[],rfl,q,rfl⟩;exact⟨g2,t⟩
def kF {α:Type} (f:LC->Option α):List (LC)->Option (List α)
 | []=>some []
 |r::rs=>bif Fh r then match f r,kF f rs with
  |some e,some l=>some (e::l)
  |_,_=>none else none
theorem SS (es:List Sh): ∀rows,MK es rows=kF (iq es) rows
 | []=>rfl
 |r::rs=>by
  simp only[MK,kF,SS es rs];cases Fh r<;>cases iq es r<;>cases kF (iq es) rs<;>rfl
theorem O8 (ss:List Sh): ∀rows,Qw ss rows=kF (xO ss) rows
 | []=>rfl
 |r::rs=>by
  simp only[Qw,kF,O8 ss rs];cases Fh r<;>cases xO ss r<;>cases kF (xO ss) rs<;>rfl
theorem qE {α:Type} {f:LC->Option α} {r:LC} {rs:List (LC)} {l:List α} (h:kF f (r::rs)=some l):
 ∃e d,Fh r=true/\f r=some e/\kF f rs=some d/\l=e::d:=by
 simp only[kF]at h
 cases i:Fh r with
 |false=>rw[i]at h;cases h
 |true=>
  rw[i]at h
  cases g:f r with
  |none=>rw[g]at h;cases h
  |some e=>
   cases k:kF f rs with
   |none=>rw[g,k]at h;cases h
   |some d=>rw[g,k]at h;cases h;exact⟨e,d,rfl,rfl,rfl,rfl⟩
theorem uh {α:Type} {f:LC->Option α}: ∀{rows:List (LC)} {l:List α},kF f rows=some l->Fh rows.flatten=true/\l.length=rows.length
 | [],l,h=>by simp[kF]at h;subst h;exact⟨rfl,rfl⟩
 |r::rs,l,h=>by
  obtain⟨e,m,d,_,i,rfl⟩:=qE h;obtain⟨g,k⟩:=uh i;refine⟨?_,by simp[k]⟩;simp only[Fh,ace,acO,aae]at d g ⊢;exact⟨d,g⟩
theorem Gq {α:Type} {n:Nat} {R:α->LV->Prop} {L:List α->LV->Prop} (q:KH n R L) {f:LC->Option α}
 (t: ∀r e i d,f r=some e->aC w g .hand i (r.map (·.to .pure)) d->R e d): ∀(rows:List (LC)) (l:List α) (i:Nat) (d:LV),kF f rows=some l->aC w g .hand i (rows.flatten.map (·.to .pure)) d->L l d
 | [],l,i,d,h,hv=>by
   simp[kF]at h;subst h;exact(q.nil _).2 hv
 |r::rs,l,i,d,h,hv=>by
  obtain⟨e,u,_,v,y,rfl⟩:=qE h;rw[ace,abt]at hv
  have key: ∀k:LC,aC w g .hand i (r.map (·.to .pure)++k) d->aC w g .hand i (r.map (·.to .pure)) (d.take r.length)/\aC w g .hand (i+r.length) k (d.drop r.length):=by
   intro k hv;have B:d.length=r.length+k.length:=by have:=hv.length;simpa using this
   have m:=hv.sub 0 r.length;have p:=hv.sub r.length k.length;have z:(((r.map (·.to .pure))++k).drop 0).take r.length=r.map (·.to .pure):=by simp
   have A:(((r.map (·.to .pure))++k).drop r.length).take k.length=k:=by
    rw[List.drop_append_of_le_length Θ,aa3 Θ];simp
   rw[z]at m;rw[A,aaJ (l:=d.drop r.length) Δ]at p;exact⟨m,p⟩
  obtain⟨m,p⟩:=key _ hv;exact(q.cons _ _ _).2 ⟨_,_,(abb r.length d).symm,t _ _ _ _ v m,Gq q t rs u _ _ y p⟩
theorem XB {s n:Nat} (hs:0<s) (ps:List (Nat×Value)) (m:ps.map (·.1)=List.range' 0 ps.length) (cells:Array Value) (p: ∀v∈ps,v.2.cells.size=s) (q:ps.length*s=cells.size):
 Instr.fill (λ i=>some (i*s,s)) cells ps=some (ps.flatMap λ v=>v.2.cells.toList).toArray:=by
 have e:ps=((ps.map (·.2)).zipIdx 0).map λ x=>(x.2,x.1):=by
  apply aaZ;intro i;have:=congrArg (λ l=>l[i]?) m;simp only[aau,List.getElem?_zipIdx]at this ⊢;rcases aaG i ps.length with d|f
  ·rw[aac d]at this ⊢;simp only[aaL,List.getElem?_range' d]at this ⊢;have g:=aak this;simp only[aa2]at g ⊢;congr 1;apply ab9
   ·simpa using g
   ·rfl
  ·rw[aal f];rfl
 have k:=Go.Great.fill_whole hs (ps.map (·.2)) cells (λ v hv=>by
  obtain⟨x,t,rfl⟩:=aaC.1 hv;exact p x t) (by simpa using q)
 rw[←e]at k;rw[k,List.flatMap_map]
theorem KN (w:World) (t e:TypeId) (f:TypeInfo) (g:P.underlying t=some (.slice e)) (d:P.info? e=some f):
 (Instr.buildSlice t 0 #[]).run P w= .ok (.slice (some ⟨w.heap.size,0,none⟩) 0 0) (w.alloc (.cells #[] e)):=by
 simp[Instr.buildSlice,run_underlying g,sizeOf,typeInfo,d,newRow,Instr.fill,Array.range_zero']
theorem Uf {sh:Sh} (hs:sh.qK=true) {F:Fz} {x:El sh} (h:aP sh x=0):wM w F sh x []:=by
 cases sh with
 |sl es=>have:x= []:=aav h;subst this;exact rfl
 |rsl ss=>have:x= []:=aav h;subst this;show jH w F (dX w F ss) [] [];unfold jH;rfl
 |_=>cases hs
theorem Yo (w:World) (F:Fz) (sh:Sh) (d:sh.aew=false) (f:sh.Kr=false):jM w F sh (lG sh) (zeroV sh):=by
 cases sh with
 |int k=>exact rfl
 |bool=>exact rfl
 |str=>exact rfl
 |sl es=>exact⟨none,0,rfl,aaw _,.inl rfl⟩
 |rsl ss=>exact⟨none,0,rfl,aaw _,.inl rfl⟩
 |dl ss=>cases d
 |mp k e=>cases f
theorem ES (mk:Nat->aF): ∀(ss:List Sh) (i:Nat),(ss.all λ s=> !s.aew)=true->(ss.all λ s=> !s.Kr)=true->aC w g mk i (ss.map λ s=>⟨s,.pure,lG s⟩) (ss.map zeroV)
 | [],_,_,_=>rfl
 |sh::ss,i,h,k=>by
  simp only[acS,aae,abw]at h k;exact⟨_,_,rfl,Yo w g.F sh h.1 k.1,ES mk ss (i+1) h.2 k.2⟩
theorem KH.replicate {α:Type} {n:Nat} {R:α->LV->Prop} {L:List α->LV->Prop} (d:KH n R L) {e:α}: ∀(l:Nat) (cs:LV),cs.length=l*n->(∀i,i<l->R e ((cs.drop (i*n)).take n))->L (List.replicate l e) cs
 |0,cs,f,_=>(d.nil cs).2 (aav (by simpa using f))
 |l+1,cs,f,h=>by
  rw[List.replicate_succ];rw[abx]at f;refine(d.cons _ _ _).2 ⟨cs.take n,cs.drop n,(abb n cs).symm,by have:=h 0 Ω;simpa using this,d.replicate l _ Δ λ i g=> ?_⟩;have:=h (i+1) Ω;rw[abx]at this;rw[List.drop_drop,acQ n];exact this
theorem SG {z:Array Value} {c n i:Nat} (g:z.size=n) (k:i<c):((madeCells z (c*n)).toList.drop (i*n)).take n=z.toList:=by
 apply aaZ;intro j;rw[aan];split
 ·rename_i f
  have e:i*n+j<c*n:=by
   have:i*n+n<=c*n:=by rw[←abx];exact aaA _ k
   omega
  rw[aas,aaW];simp only[madeCells,Array.getElem?_map,Array.getElem?_range,if_pos e,aaL];have l:(i*n+j) % n=j:=by rw[abW,Nat.mul_add_mod,Nat.mod_eq_of_lt f]
  have d:j<z.size:=by omega
  simp only[g,l,aaW,aa8 d,getElem!_pos z j d]
 ·rename_i f;rw[aal Δ]
theorem jm.ajA {ow:aF} {B:Option Nat} {sh:Sh} (f:sh.qK=true) {y:El sh} {cs:LV} {k:Nat} {v:Value} (hv:cs[k]? =some v) (h:wZ w g ow false sh y v) (l:blk v=B):
 Yr w g ow (λ _=>B) [sh] y ((cs.drop (k* [sh].length)).take [sh].length):=by
 have i:(cs.drop (k* [sh].length)).take [sh].length= [v]:=by
  obtain⟨m,p⟩:=aad.1 hv;simp only[aaY,abX];rw[aaI m,p];rfl
 rw[i];refine⟨rfl,λ q t u d e=> ?_⟩
 match q,d,e with
 |0,d,e=>
  cases d;cases e;show sG w g ow _ sh y v;unfold sG;rw[if_pos (gu f)];exact⟨f,h,l⟩
theorem jm.zero {ow:aF} {b n:Nat} {sh:Sh} (d:sh.qK=true) {cs:LV} (m:cs.length=n) (p: ∀i,i<n->cs[i]? =some (.slice none 0 0)):jm w g ow b [sh] (List.replicate n (some (lG sh)):List (Option (ElA [sh]))) cs:=by
 refine⟨by simp[m],λ _=>none,λ k=>Θ,λ i j x e _=>(by cases e),λ i x l=> ?_⟩;have f:i<n:=by have:=(aad.1 l).1;simpa using this
 rw[abn,if_pos f]at l;cases l;exact jm.ajA (B:=none) d (p i f) (.inl ⟨rfl,by cases sh<;>first|rfl|cases d⟩) rfl
theorem Tc (hT:yu P E.ty) {t:TypeId} {x y:Operand} (ho:o.op= .makeSlice t x y):sF P E C o:=by
 intro s a w g us d Q h L hd p;simp only[plan,ho,L]at p;split at p
 ·rename_i ag sh fl ft e kl l kc c M hl hc;obtain⟨N,p⟩:=lH p;simp only[aae,decide_eq_true_eq]at N;obtain⟨⟨h0,b3⟩,b4⟩:=N;obtain⟨info,de,z,R⟩:=hT.at_ M;obtain⟨d1,j,rfl,_,a3,b5,hj,A⟩:=R.elem rfl;simp only[abk,and_true]at a3;subst a3;obtain⟨ie,d2,G,q⟩:=hT.at_ hj;have S:=R.akv rfl hj;have a4:ie.size=sh.n:=by rw[q.size,A,kX]
  have b8:G.cells.size=sh.n:=by
   have:=congrArg List.length q.cells;rw[A]at this;simpa [kX]using this
  have hm:ay=1099511627776:=by decide
  rw[hm]at b4;obtain⟨_,ex⟩:=uS h hl;obtain⟨_,ey⟩:=uS h hc
  have W:=run_make (P:=P) w t e ie G R.und q.inf q.zero kl kc l c h0 b3 (by
   have:=q.bytes (R.short rfl hj);have h1:(ie.bytes:Int)*c<=128*1099511627776:=Int.mul_le_mul Ω Ω Ω Ω;omega) Ω
  rw[a4]at W
  have a5:(execOp a.eval o).run P w= .ok (.value (.slice (some ⟨w.heap.size,0,none⟩) l.toNat c.toNat)) (w.alloc (.cells (madeCells G.cells (c.toNat*sh.n)) e)):=by
   simp only[execOp,ho,ex,ey,Sem.run_bind,W,Result.andThen_ok,Sem.run_pure]
  have main: ∀x:El sh,aP sh x=l.toNat->wM w g.F sh x ((madeCells G.cells (c.toNat*sh.n)).toList.take (l.toNat*sh.n))->us= [.tm d (.val false [⟨sh,.own,x⟩])]->o.wp P a w (λ a' w'=> ∃g',Rel E C (s.dW us) a' w' g') Q:=by
   intro x a6 a7 b9
   obtain⟨g2,r2⟩:=Wv h hd b5 (x:=x) (cells:=madeCells G.cells (c.toNat*sh.n)) (c:=c.toNat) e (by rw[a6];exact a7) Ω (by
    have:c.toNat<=1099511627776:=by omega
    exact aaP this Ξ) (by simp[madeCells])
   unfold Oper.wp;rw[a5,Oper.upon_value,L,b9];rw[a6]at r2;exact⟨g2,r2⟩
  have Y:l.toNat<=c.toNat:=by omega
  have B: ∀i,i<l.toNat->((((madeCells G.cells (c.toNat*sh.n)).toList.take (l.toNat*sh.n)).drop (i*sh.n)).take sh.n)=(xY sh).map zeroV:=by
   intro i M;have h1:i*sh.n+sh.n<=l.toNat*sh.n:=by rw[←abx];exact aaA _ M
   have e1:((((madeCells G.cells (c.toNat*sh.n)).toList.take (l.toNat*sh.n)).drop (i*sh.n)).take sh.n)=(((madeCells G.cells (c.toNat*sh.n)).toList.drop (i*sh.n)).take sh.n):=by
    rw[List.drop_take,ab2,abP Ω]
   rw[e1,SG b8 Ω,q.cells,A]
  have D:((madeCells G.cells (c.toNat*sh.n)).toList.take (l.toNat*sh.n)).length=l.toNat*sh.n:=by
   have:l.toNat*sh.n<=c.toNat*sh.n:=aaA _ Y;rw[aaE,abd,size_madeCells];omega
  cases a8:uq E d with
  |true=>
   rw[a8,cond_true]at p
   obtain⟨es,rfl,I,rfl⟩: ∃es,sh= .sl [es]/\es.qK=true/\us= [.tm d (.val false [⟨.dl [es],.own,List.replicate l.toNat (some (lG es))⟩])]:=by
    cases sh with
    |sl c0=>
     match c0,p with
     | [es],p=>
       simp only[aiF]at p
       cases I:es.qK with
       |false=>rw[I]at p;exact(aj p).elim
       |true=>rw[I]at p;exact⟨es,rfl,I,(au p).symm⟩
     | [],p=>exact(aj p).elim
     |_::_::_,p=>exact(aj p).elim
    |_=>exact(aj p).elim
   have a9: ∀b ow,g.own b=some ow->b<w.heap.size:=λ b ow e=>(h.base.own b ow e).2;have hF: ∀b o,g.F b o->b<w.heap.size:=λ b o e=>(h.base.fz b o e).2
   let ob:Obj:= .cells (madeCells G.cells (c.toNat*(Sh.sl [es]).n)) e
   have f:=Fr.new (K:=λ o=> ∀i,o≠ .hand i) a9 hF (ρ:=id) (λ _ _=>rfl) ob (.hand 0);have r1:=h.world f (h.base.new _ ob (λ _ _ _ e=>by simp only[ob,Obj.cells.injEq]at e;exact e.2.2.symm) _) rfl;have Z:(Sh.sl [es]).n=1:=rfl
   have O: ∀i,i<l.toNat->((madeCells G.cells (c.toNat*(Sh.sl [es]).n)).toList.take (l.toNat*(Sh.dl [es]).n))[i]? =some (.slice none 0 0):=λ i c2=>by
    have h1:=B i c2;rw[Z]at h1;simp only[abX]at h1;have h2:(xY (Sh.sl [es])).map zeroV= [.slice none 0 0]:=by cases es<;>first|rfl|cases I
    rw[h2]at h1;have:=congrArg (λ l=>l[0]?) h1;simpa [aas,aan,Sh.n]using this
   obtain⟨g2,r2,_,_⟩:=r1.y9 hd (v:= .slice (some ⟨w.heap.size,0,none⟩) l.toNat c.toNat) (ag:=false) (cs:=[⟨.dl [es],.own,List.replicate l.toNat (some (lG es))⟩]) rfl ⟨_,[],rfl,by
    simp only[jZ,Sh.qR,if_true];have U:aP (.dl [es]) (List.replicate l.toNat (some (lG es)))=l.toNat:=abC;refine .inr ⟨w.heap.size,c.toNat,madeCells G.cells (c.toNat*(Sh.sl [es]).n),e,by rw[U],by rw[U];exact Y,?_,by simp[Gh.new],nK,by rw[Z];simp[madeCells,Sh.n],⟨⟨rfl,?_⟩,?_⟩,λ o=>⟨λ hf=>(by have:=hF _ _ hf;omega),λ hf=>by cases hf.1⟩⟩
    ·have:c.toNat<=1099511627776:=by omega
     exact aaP this Ξ
    ·rw[U];intro u hu;obtain⟨i,M,rfl⟩:=aay hu
     have hz:=O i (by
      have e: ∀k m:Nat,List.length (List.take (k*m) (madeCells G.cells (c.toNat*(Sh.sl [es]).n)).toList)<=k*m:=λ k m=>List.length_take_le ..;have:=e l.toNat (Sh.dl [es]).n;simp only[Sh.n,aaY,abX]at this M ⊢;exact abp M this)
     rw[aac (by simpa [Sh.n]using M)]at hz;have hz:=aak hz;exact(congrArg Value.oneCell' hz).trans rfl
    ·rw[U];rw[Z]at D;exact jm.zero I (by simpa [Sh.n]using D) O,rfl⟩
   unfold Oper.wp;rw[a5,Oper.upon_value,L];exact⟨g2,r2⟩
  |false=>
  rw[a8,cond_false]at p
  cases sh with
  |sl es=>
   simp only[agJ]at p;cases he:iq es (es.map λ s=>⟨s,.pure,lG s⟩)with
   |none=>rw[he]at p;exact(aj p).elim
   |some el=>
    rw[he]at p;obtain rfl:=au p;refine main (List.replicate l.toNat el) (by show List.length _=_;simp) ?_ rfl;refine(jW es).replicate l.toNat _ D λ i M=> ?_;rw[show es.length=(Sh.sl es).n from rfl,B i M];exact E5 .hand es _ el 0 _ he (λ c hc=>by obtain⟨_,_,rfl⟩:=aaC.1 hc;rfl) (ES .hand es 0 (by have:=q.noDl;rw[A]at this;exact this) (by rw[A]at S;exact S))
  |rsl ss=>
   simp only[agJ]at p;cases he:xO ss ((ss++[Sh.rsl ss]).map λ s=>⟨s,.pure,lG s⟩)with
   |none=>rw[he]at p;exact(aj p).elim
   |some el=>
    rw[he]at p;obtain rfl:=au p;refine main (List.replicate l.toNat el) (by show List.length _=_;simp) ?_ rfl;refine(kL ss).replicate l.toNat _ D λ i M=> ?_;rw[show ss.length+1=(Sh.rsl ss).n from rfl,B i M];exact VW .hand ss _ el 0 _ he (λ c hc=>by obtain⟨_,_,rfl⟩:=aaC.1 hc;rfl) (ES .hand (ss++[Sh.rsl ss]) 0 (by have:=q.noDl;rw[A]at this;exact this) (by rw[A]at S;exact S))
  |int k=>exact(aj p).elim
  |bool=>exact(aj p).elim
  |str=>exact(aj p).elim
  |dl _=>exact(aj p).elim
  |mp _ _=>exact(aj p).elim
 ·exact(aj p).elim
theorem ql {b:Nat} {cur new:Array Value} {f:TypeId} (g:w.heap[b]? =some (.cells cur f (0,0))) {F F':Fz} (hs: ∀b o,F b o->F' b o) (hF: ∀o,F b o->new[o]? =cur[o]?):Keeps w (w.setRow b new) F F':=
 ⟨hs,λ e o i=>by
  by_cases d:e=b
  ·subst d;rw[cell_setRow_same w e o cur new f _ g,hF o i,cell_of_heap g]
  ·exact cell_setRow_other w b new ⟨e,o,none⟩ d⟩
theorem Fr.setRow {K:aF->Prop} {b:Nat} {cur new:Array Value} {d:TypeId} (f:w.heap[b]? =some (.cells cur d (0,0))) (hF: ∀o,g.F b o->new[o]? =cur[o]?) (i: ∀ow,K ow->g.own b≠some ow):Fr K w (w.setRow b new) g g:=
 ⟨ql f (λ _ _ h=>h) hF,λ l ow k e=>⟨e,setRow_other w b l new (by rintro rfl;exact i ow k e),λ _ h=>h⟩⟩
theorem Base.setRow {w0:World} {F0:Fz} {X:Nat->Prop} (h:Base w0 F0 X w g) {b:Nat} {ow:aF} (v:g.own b=some ow) {cur new:Array Value} {q:TypeId} (u:w.heap[b]? =some (.cells cur q (0,0))) (hF: ∀o,g.F b o->new[o]? =cur[o]?):Base w0 F0 X (w.setRow b new) g:=
 ⟨h.os,h.tape,h.output,by simpa using h.size,λ d p l=>by
  have:d≠b:=by
   rintro rfl;rcases(h.own d ow v).1 with k|k
   ·exact l k
   ·omega
  rw[setRow_other w b d new this];exact h.blk d p l,λ d ow' e=>by simpa using h.own d ow' e,
  h.keeps.trans (ql u (λ _ _ h=>h) hF),λ d o y=>by simpa using h.fz d o y,λ d ow' cs t f l m=>by
  by_cases i:d=b
  ·subst i;rw[setRow_heap w d cur new q _ u]at m;cases m;rfl
  ·rw[setRow_other w b d new i]at m;exact h.frz d ow' cs t f l m⟩
theorem yN {n:Nat} {cur:Array Value} {d:TypeId} {f:Nat×Nat} (h:w.heap[g.at_ n]? =some (.cells cur d f)):aB a w g (.box n)=cur.toList:=by simp only[aB,h]
theorem Vr (h:Rel E C s a w g) {p:Pl} {ds old:LC} {d:LV} {us:List Upd} (hh:aC w g .hand 0 ds d) (hc:aV s p ds.length=some old) (a0:ds.map CV.sh=old.map CV.sh) (q:jT s p ds true=some us):
 ∃n cur L g',p.root= .box n/\(∃b,s.bx n=some b/\b.inst=p.inst)/\w.heap[g.at_ n]? =some (.cells cur L (0,0))/\p.cell+d.length<=cur.size/\
  Rel E C (s.dW us) a (w.setRow (g.at_ n) (cur.toList.take p.cell++d++cur.toList.drop (p.cell+d.length)).toArray) g':=by
 unfold jT at q
 cases hr:p.root with
 |tmp n=>
  rw[hr]at q;simp only[]at q;split at q
  ·simp at q
  ·cases q
 |box n=>
  rw[hr]at q;simp only[]at q;split at q
  ·rename_i b M;simp only[cond_eq_ite]at q;split at q
   ·rename_i t;simp only[aae]at t;have y:=aao t.1;have a2:=abl t.2;simp only[if_true,aag]at q;subst q;obtain⟨cur,L,z,N,h3,h4⟩:=h.bx n b M;have a3:=hh.length;have a4:=h4.length;simp only[aaH,abd]at a4;rw[bM]at hc;obtain⟨cells,ec,_,_,rfl⟩:=hc;rw[hr]at ec;simp only[aA,M,aag,aaz]at ec;obtain⟨_,rfl⟩:=ec
    let new:=(cur.toList.take p.cell++d++cur.toList.drop (p.cell+d.length)).toArray
    let ρ:aF->aF:=λ o=>match o with| .hand k=> .cell n (p.cell+k)|o=>o
    let O:=w.setRow (g.at_ n) new
    have hF: ∀o,g.F (g.at_ n) o->new[o]? =cur[o]? :=λ o Y=>absurd Y (h3 o)
    have f: ∀{K:aF->Prop},(∀ow,K ow->ow≠ .box n)->(∀ow,K ow-> ∀i,ow≠ .hand i)->Fr K w O g (g.ren ρ):=by
     intro K k1 k2;refine(Fr.setRow z hF λ ow k e=> ?_).trans (Fr.ren _ g λ ow k=> ?_)
     ·rw[N]at e;cases e;exact k1 _ k rfl
     ·have:=k2 ow k
      cases ow with
      |hand i=>exact absurd rfl (this i)
      |_=>rfl
    have A:(g.ren ρ).own (g.at_ n)=some (.box n):=by simp[Gh.ren,N,ρ]
    have Q:(b.cells.take p.cell++(ds.zip (b.cells.drop p.cell)).map (λ x=>((x.1,x.2.2+1):CV×Nat))++b.cells.drop (p.cell+ds.length)).map (·.1)=setCells (b.cells.map (·.1)) p.cell ds:=by
     simp only[setCells,abt,acw,acv,abM];congr 2;have:((λ x=>x.1)∘λ(x:CV×CV×Nat)=>((x.1,x.2.2+1):CV×Nat))=Prod.fst:=rfl;rw[this,List.map_fst_zip];simp;omega
    have R:Fa O (g.ren ρ) n ⟨b.inst,b.cells.take p.cell++(ds.zip (b.cells.drop p.cell)).map (λ x=>((x.1,x.2.2+1):CV×Nat))++b.cells.drop (p.cell+ds.length)⟩:=by
     refine⟨new,L,setRow_heap w _ cur new L _ z,A,h3,?_⟩;simp only[Q];refine aC.setCells (by simpa using a2) a3 h4 (λ o=> ∃k,o= .cell n k) (f (λ ow ⟨k,e⟩=>by subst e;simp) (λ ow ⟨k,e⟩=>by subst e;simp)) (λ k _ _=>⟨0+k,rfl⟩) ?_;have B:aC O g .hand 0 ds d:=aC.fr (K:=λ o=> ∃i,o= .hand i) (Fr.setRow z hF λ ow ⟨k,e⟩ e2=>by subst e;rw[N]at e2;cases e2) ds 0 d (λ j=>⟨j,rfl⟩) hh;exact aC.ren ds 0 (0+p.cell) d (λ k _=>by simp[ρ]) B
    refine⟨n,cur,L,g.ren ρ,rfl,⟨b,M,y⟩,z,Ω,?_⟩;refine h.ahe (f (λ ow k=>k.2.1) (λ ow k=>k.2.2)) ((h.base.setRow N z hF).ren ρ) (λ m _=>rfl) (.inr ⟨b,M,rfl,?_,rfl,λ i c v D=> ?_⟩) R
    ·simp;omega
    ·have G:i<b.cells.length:=by
      rcases aaG i b.cells.length with h|h
      ·exact h
      ·simp[aal h]at D
     have S:aB a O (g.ren ρ) (.box n)=cur.toList.take p.cell++d++cur.toList.drop (p.cell+d.length):=by
      exact yN (a:=a) (g:=g.ren ρ) (n:=n) (setRow_heap w _ cur new L _ z)
     have U:aB a w g (.box n)=cur.toList:=yN z
     have u: ∀es Z,c=⟨.dl es,.own,Z⟩-> ∃l,c=⟨.dl es,.own,l⟩/\ ∀W len k,(aB a w g (.box n))[i]? =some (.slice (some ⟨W,0,none⟩) len k)->O.heap[W]? =w.heap[W]? :=by
      intro es Z e;refine⟨Z,e,λ W len k hv=> ?_⟩
      have a6:aV s ⟨.box n,b.inst,[],i,none⟩ 1=some [⟨.dl es,.own,Z⟩]:=by
       rw[bM];refine⟨b.cells,by simp only[aA,M],G,λ j x hx=>by simp at hx,?_⟩;rw[aaI G];rw[aac G]at D;simp[aak D,e]
      have Y:=h.afE a6 hv;refine setRow_other w _ W new ?_;rintro rfl;rw[N]at Y;cases Y
     show∃c' v',(b.cells.take p.cell++(ds.zip (b.cells.drop p.cell)).map (λ x=>((x.1,x.2.2+1):CV×Nat))++b.cells.drop (p.cell+ds.length))[i]? =some (c',v')/\_;by_cases h5:i<p.cell
     ·refine⟨c,v,?_,rfl,aaw _,λ _=>⟨?_,u⟩⟩
      ·rw[aaD,aax Δ,aan,if_pos h5,D]
      ·rw[S,U,aaD,aax Δ,aan,if_pos h5]
     ·by_cases h6:i<p.cell+ds.length
      ·have I:i-p.cell<ds.length:=by omega
       refine⟨ds[i-p.cell],v+1,?_,?_,Ω,λ e=>Ω⟩
       ·rw[aax Δ,aaB Δ];have e1:i-(b.cells.take p.cell).length=i-p.cell:=by simp;omega
        have hz:(ds.zip (b.cells.drop p.cell))[i-p.cell]? =some (ds[i-p.cell],(c,v)):=
         acz.2 ⟨aac I,(by rw[aas,show p.cell+(i-p.cell)=i by omega];exact D)⟩
        rw[e1,aau,hz];rfl
       ·have:=congrArg (λ l=>l[i-p.cell]?) a0;simp only[abM,aau,aan,aas]at this;rw[if_pos I,show p.cell+(i-p.cell)=i by omega,D,aac I]at this;simpa using this
      ·refine⟨c,v,?_,rfl,aaw _,λ _=>⟨?_,u⟩⟩
       ·rw[aaB Δ,aas];have e1:p.cell+ds.length+(i-(b.cells.take p.cell++(ds.zip (b.cells.drop p.cell)).map (λ x=>((x.1,x.2.2+1):CV×Nat))).length)=i:=by simp;omega
        rw[e1,D]
       ·rw[S,U,aaB Δ,aas];congr 1;simp;omega
   ·cases q
  ·cases q
theorem ade (cur ds:LV) (x n j T:Nat) (l:j+ds.length<=n) (m:x+n<=T) (p:T<=cur.length):
 (cur.take (x+j)++ds++cur.drop (x+j+ds.length)).take T=(cur.take T).take x++(((cur.drop x).take n).take j++ds++((cur.drop x).take n).drop (j+ds.length))++(cur.take T).drop (x+n):=by
 apply aaZ;intro k;simp only[aan,List.getElem?_append,aas,aaE,aaq,abh];have d:min (x+j) cur.length=x+j:=by omega
 have e:min T cur.length=T:=by omega
 have f:min x T=x:=by omega
 have g:min n (cur.length-x)=n:=by omega
 have i:min j n=j:=by omega
 rw[d,e,f,g,i]
 repeat' split
 all_goals first|rfl|omega|(congr 1;omega)
theorem Pz {c m:CV} {i:Nat} {row:LC} {all d:LV} (hs:Gu c i row=some m) (p:wM w g.F c.sh c.x all) (q:i<aP c.sh c.x) (t:aC w g .hand 0 (row.map (·.to .pure)) d):
 c.tg= .own/\ ∃l:El c.sh,m=⟨c.sh,.own,l⟩/\aP c.sh l=aP c.sh c.x/\wM w g.F c.sh l (all.take (i*c.sh.n)++d++all.drop ((i+1)*c.sh.n)):=by
 obtain⟨sh,u,x⟩:=c;have v: ∀c,c∈row.map (λ c:CV=>c.to .pure)->c.tg= .pure:=λ c y=>by obtain⟨_,_,rfl⟩:=aaC.1 y;rfl
 cases sh with
 |sl es=>
  cases u with
  |own=>
   simp only[Gu]at hs
   cases f:iq es row with
   |none=>rw[f]at hs;cases hs
   |some e=>
    rw[f]at hs;cases hs;refine⟨rfl,List.set x i e,rfl,aa7,?_⟩;exact(jW es).set x all p i q e d (E5 .hand es _ e 0 _ (by rw[ER];exact f) v t)
  |_=>cases hs
 |rsl ss=>
  cases u with
  |own=>
   simp only[Gu]at hs
   cases f:xO ss row with
   |none=>rw[f]at hs;cases hs
   |some e=>
    rw[f]at hs;cases hs;refine⟨rfl,List.set x i e,rfl,aa7,?_⟩;exact(kL ss).set x all p i q e d (VW .hand ss _ e 0 _ (by rw[SV];exact f) v t)
  |_=>cases hs
 |int k=>cases hs
 |bool=>cases hs
 |str=>cases hs
 |dl _=>cases hs
 |mp _ _=>cases hs
theorem PD {c d:CV} {i:Nat} {row:LC} (hs:Gu c i row=some d):c.sh.qK=true:=by
 obtain⟨sh,e,x⟩:=c;cases sh<;>first|rfl|cases hs
theorem to_pure {cs:LC} (h:bI cs=true):cs.map (·.to .pure)=cs:=by
 have: ∀c,c∈cs->c.to .pure=c:=λ c d=>by
  have:=uJ h c d;obtain⟨sh,e,x⟩:=c;simp only at this;subst this;rfl
 rw[acj this];simp
theorem Uy (h:Rel E C s a w g) {p:Pl} {i j:Nat} (N:p.sub=some (i,j)) {ds cs:LC} {m:LV} {c c':CV} {us:List Upd} {v:Value} (hh:aC w g .hand 0 ds m) (a6:Fh ds=true)
 (B:aV s p 1=some [c]) (he:(zk c i).run=some cs) (hj:j+ds.length<=cs.length) (D:Gu c i (setCells cs j ds)=some c') (hu:jT s p [c'] false=some us)
 {mk:Nat->aF} (hv:TV s a w g mk (.addr p) v):
 ∃b cur O g',v= .pointer (some ⟨b,i*c.sh.n+j,none⟩)/\w.heap[b]? =some (.cells cur O (0,0))/\i*c.sh.n+j+m.length<=cur.size/\
  Rel E C (s.dW us) a (w.setRow b (cur.toList.take (i*c.sh.n+j)++m++cur.toList.drop (i*c.sh.n+j+m.length)).toArray) g':=by
 obtain⟨_,hv⟩:=hv;rw[N]at hv;obtain⟨_,hv⟩:=hv;obtain⟨b,l,k,h1,h2,h3⟩:=hv c B;obtain⟨g2,f2,b2,o2,a2,a7⟩:=OX (by intro i j e;cases e;rfl) h.base a6 hh;have r2:Rel E C s a w g2:=h.world (f2.mono λ o G j _ _=>G j) b2 a2;obtain⟨u,Q,R,a8⟩:=qC r2 B
 have a9:aB a w g2 p.root=aB a w g p.root:=by
  cases p.root with
  |tmp n=>rfl
  |box n=>simp only[aB,a2]
 rw[a9,h1]at Q;cases Q;obtain⟨S,d2,b0,d3,U,ad,k',W,t,d4,d5,Y,Z,_,_⟩:=GV R he;simp only[Value.slice.injEq,aag]at t;obtain⟨rfl,rfl,rfl⟩:=t;have I:=hh.length
 have a0:aC w g2 .hand 0 ((setCells cs j ds).map (·.to .pure)) (W.take j++m++W.drop (j+m.length)):=by
  have e1:(setCells cs j ds).map (·.to .pure)=setCells cs j (ds.map (·.to .pure)):=by
   simp only[setCells,abt,acw,acv,aaH,to_pure b0]
  rw[e1];refine aC.setCells (by simpa using hj) (by simpa using I) (Y .hand 0) (λ o=> ∃i,o= .hand i) (Fr.refl _ _ _) (λ k _ _=>⟨0+k,rfl⟩) ?_
  exact aC.vY (Keeps.refl _ _) _ 0 _ _ (by
   rw[bI,aaV];intro c hc;obtain⟨_,_,rfl⟩:=aaC.1 hc;rfl) a7
 obtain⟨f,ct,K⟩:=c;simp only at *;have a1:ct= .own:=by cases f<;>cases ct<;>first|rfl|(exfalso;cases D)
 subst a1;have A:=R;simp only[jZ,if_pos S]at A;rcases A with⟨t,_⟩|⟨b',k2,cur,O,t,hl,hc,G,M,a3,a4,hf⟩
 ·cases t
 ·simp only[Value.slice.injEq,aag,Addr.mk.injEq,and_true,true_and]at t;obtain⟨rfl,rfl⟩:=t;have hT:aP f K*f.n<=cur.toList.length:=by simp only[abd,a3];exact aaA _ hl
  have b4:i*f.n+f.n<=aP f K*f.n:=by rw[←abx];exact aaA _ U
  have b5:W=(cur.toList.drop (i*f.n)).take f.n:=by
   apply aaZ;intro q;by_cases hq:q<f.n
   ·have:=Z q hq;rw[aan,if_pos hq,aas,←this];simp only[aa2];rw[cell_of_heap M,aaW]
   ·rw[aal Ω,aal Δ]
  have z:f.qK=true:=PD D;obtain⟨_,x',rfl,y,L⟩:=Pz D ((rC z).1 a4) U a0
  let new:=(cur.toList.take (i*f.n+j)++m++cur.toList.drop (i*f.n+j+m.length)).toArray
  have a5:new.toList.take (aP f K*f.n)=(cur.toList.take (aP f K*f.n)).take (i*f.n)++(W.take j++m++W.drop (j+m.length))++(cur.toList.take (aP f K*f.n)).drop ((i+1)*f.n):=by
   have:=ade cur.toList m (i*f.n) f.n j (aP f K*f.n) Ω b4 hT;rw[b5,abx];exact this
  have hF: ∀o,g2.F b o->new[o]? =cur[o]? :=λ o G=>by
   have:=(hf o).1 G;simp at this
  have hk:=ql (F:=g2.F) (F':=g2.F) M (new:=new) (λ _ _ h=>h) hF;refine⟨b,cur,O,g2,h3,M,by simp at hT;omega,?_⟩;refine kK r2 (ds:=[⟨f,.own,x'⟩]) B hu rfl (Fr.setRow M hF λ ow k e=> ?_) (b2.setRow G M hF) rfl ?_ (Dh.of λ d hd _=> .inl (by rw[aah.1 hd];exact z))
  ·rw[G]at e;cases e;exact k.1 p.cell (aaw _) Θ rfl
  ·show aC (w.setRow b new) g2 (dO p.root) p.cell [⟨f,.own,x'⟩] _;have e2:((aB a w g2 p.root).drop p.cell).take [(⟨f,.own,x'⟩:CV)].length= [.slice (some ⟨b,0,none⟩) (aP f K) k]:=a8;rw[e2];refine⟨_,[],rfl,?_,rfl⟩;simp only[jZ,if_pos S];refine .inr ⟨b,k,new,O,by rw[y],by rw[y];exact hl,hc,G,setRow_heap w b cur new O _ M,?_,?_,λ o=>by simpa using hf o⟩
   ·rw[←a3];simp[new];simp at hT;omega
   ·rw[y,a5];exact(rC z).2 (L.keeps hk)
theorem CB: ∀(es:List Sh) (cs:LC) (x:ElA es),iq es cs=some x->cs.map (·.to .pure)=cellsOf es x
 | [],[],_,_=>rfl
 | [],_::_,_,d=>(aN d rfl).elim
 | [s],[],_,d=>(aN d rfl).elim
 | [s],[c],x,d=>by
   obtain⟨e,rfl⟩:=lg d;obtain⟨f,g,i⟩:=c;cases e;rfl
 | [s],_::_::_,_,d=>(aN d rfl).elim
 |s::t::ss,[],_,d=>(aN d rfl).elim
 |s::t::ss,c::cs,x,d=>by
  obtain⟨y,z,k,l,rfl⟩:=qA d;obtain⟨e,rfl⟩:=lg k;obtain⟨f,g,i⟩:=c;cases e;rw[abo,CB (t::ss) cs z l];rfl
theorem wZ.same {ow:aF} {d:Bool} {sh:Sh} {x:El sh} {v:Value} (e:Keeps w w' g.F g.F) (f: ∀b,blk v=some b->w'.heap[b]? =w.heap[b]?) (h:wZ w g ow d sh x v):wZ w' g ow d sh x v:=by
 rcases h with h|⟨b,c,cur,i,hv,k,l,m,p,hs,q,t⟩
 ·exact .inl h
 ·exact .inr ⟨b,c,cur,i,hv,k,l,m,(f b (by rw[hv];rfl)).trans p,hs,q.keeps e,t⟩
theorem adT (h:Rel E C s a w g) {p:Pl} {k q:Nat} {ds:LC} {f:LV} {us:List Upd} {v:Value} {f4 mk:Nat->aF} (hh:aC w g f4 0 ds f) (D:(PO s p k q ds).run=some us)
 (hv:TV s a w g mk (.addr2 p k q) v):
 ∃b off cur et g',v= .pointer (some ⟨b,off,none⟩)/\w.heap[b]? =some (.cells cur et (0,0))/\off+f.length<=cur.size/\bI ds=true/\
  Rel E C (s.dW us) a (w.setRow b (cur.toList.take off++f++cur.toList.drop (off+f.length)).toArray) g':=by
 obtain⟨i6,j6,i0,j0,L,c6⟩:=hv;unfold PO at D;split at D
 ·rename_i c i j f6;obtain⟨c7,es,l,rfl,hc⟩:=zi f6;rw[c7]at L;obtain⟨ei,ej⟩:i=i0/\j=j0:=by simpa using L
  subst ei;subst ej;simp only[]at D;obtain⟨x0,f8,D⟩:=zY D;have he:=Pq f8;split at D
  ·rename_i e g0;obtain⟨rs,g1,D⟩:=aS D;obtain⟨M,D⟩:=bf D;simp only[aae]at M;obtain⟨a6,a7⟩:=M;have a6:=abl a6;split at D
   ·rename_i e' c8;split at D
    ·rename_i c' N;have hu:=GU D;obtain⟨c0,c9,rfl⟩:=yT g0
     have hi:i<l.length:=by
      rcases aaG i l.length with h|h
      ·exact h
      ·simp[aal h]at he
     obtain⟨b,kk,cur,et,e1,e2,g4,hk,ho,O,g7,⟨g8,B,d0,d1,a8⟩,hF,d2⟩:=h.KZ hc hi;obtain⟨u,d3,W,d4⟩:=jm.row a8 he c9;obtain⟨b2,i7,k2,i8,k6,f2,m1,_,m3,Q,l',k',sh,m4,m5,m6,m7⟩:=c6 es l hc;rw[e1]at m1;cases m1;rw[O]at m3;cases m3;have hN:i*es.length+es.length<=l.length*es.length:=by rw[←abx];exact aaA _ hi
     have a3:=d3;rw[aan,if_pos Ω,m5]at a3;cases a3
     have d5:sh=c0.sh:=by
      have:=congrArg (λ l=>l[j]?) (uY es x0);simp only[aau,c9]at this;rw[m4]at this;exact(aak this).symm
     subst d5;have d6:c0.sh.qK=true:=PD (c:=⟨c0.sh,c0.sh.top,c0.x⟩) c8;have d7:=gu d6;have g9:=W.top;unfold sG at W;rw[if_pos d7]at W;obtain⟨_,d8,R⟩:=W;obtain⟨_,_,h0,j2,d9,ad,k3,vs,G,l2,j3,e3,e4,_,_⟩:=GV g9 g1;simp only[Value.slice.injEq,aag]at G;obtain⟨rfl,rfl,rfl⟩:=G;obtain⟨d,ct,cx⟩:=c0;simp only at *;rcases d8 with⟨G,_⟩|⟨b3,cc,m,a9,G,hl,h1,b0,K,a4,e5,e6⟩
     ·cases G
     ·simp only[Value.slice.injEq,aag,Addr.mk.injEq,and_true,true_and]at G;obtain⟨rfl,rfl⟩:=G;have b1:=hh.length
      have b4:aC w g .hand 0 ((setCells rs q ds).map (·.to .pure)) (vs.take q++f++vs.drop (q+f.length)):=by
       have e1:(setCells rs q ds).map (·.to .pure)=setCells rs q ds:=by
        simp only[setCells,abt,acw,acv,to_pure h0,to_pure a7]
       rw[e1];exact aC.setCells a6 (by simpa using b1) (e3 .hand 0) (λ o=> ∃i,o= .hand i) (Fr.refl _ _ _) (λ k _ _=>⟨0+k,rfl⟩) (aC.vY (Keeps.refl _ _) _ 0 _ _ a7 hh)
      have hT:aP d cx*d.n<=m.toList.length:=by simp only[abd,a4];exact aaA _ hl
      have h4:k*d.n+d.n<=aP d cx*d.n:=by rw[←abx];exact aaA _ d9
      have h5:vs=(m.toList.drop (k*d.n)).take d.n:=by
       apply aaZ;intro r;by_cases hq:r<d.n
       ·have:=e4 r hq;rw[aan,if_pos hq,aas,←this];simp only[aa2];rw[cell_of_heap K,aaW]
       ·rw[aal Ω,aal Δ]
      obtain⟨_,x',rfl,I,b6⟩:=Pz c8 e5 d9 b4
      let new:=(m.toList.take (k*d.n+q)++f++m.toList.drop (k*d.n+q+f.length)).toArray
      have e7:new.toList.take (aP d cx*d.n)=(m.toList.take (aP d cx*d.n)).take (k*d.n)++(vs.take q++f++vs.drop (q+f.length))++(m.toList.take (aP d cx*d.n)).drop ((k+1)*d.n):=by
       have:=ade m.toList f (k*d.n) d.n q (aP d cx*d.n) Ω h4 hT;rw[h5,abx];exact this
      have b7: ∀o,g.F Q o->new[o]? =m[o]? :=λ o ho=>by
       have:=(e6 o).1 ho;simp at this
      have Y:=ql (F:=g.F) (F':=g.F) K (new:=new) (λ _ _ h=>h) b7
      have a5:b≠Q:=by
       rintro rfl;exact d0 _ R.symm
      have A: ∀y,y≠Q->(w.setRow Q new).heap[y]? =w.heap[y]? :=λ y Z=>setRow_other w Q y new Z;simp only[aiV]at N;cases b8:iq es (setCells (nS es x0) j [⟨d,.own,x'⟩])with
      |none=>rw[b8]at N;cases N
      |some x1=>
       rw[b8]at N;cases N;have a0:=CB es _ x1 b8;have l3:=qm es x0;refine⟨Q,k*d.n+q,m,a9,g,m7,K,by simp at hT;omega,a7,?_⟩;refine kK h (ds:=[⟨.dl es,.own,List.set l i (some x1)⟩]) hc hu rfl (Fr.setRow K b7 λ ow kk e=> ?_) (h.base.setRow b0 K b7) rfl ?_ ?_
       ·rw[b0]at e;cases e;exact kk.1 p.cell (aaw _) Θ rfl
       ·show aC (w.setRow Q new) g _ _ _ (((aB a w g p.root).drop p.cell).take 1);rw[e2];refine⟨_,[],rfl,?_,rfl⟩;simp only[jZ,Sh.qR,if_true];have S:(List.set l i (some x1)).length=l.length:=aa7;refine .inr ⟨b,kk,cur,et,by simp only[aP];rw[S],by simp only[aP];rw[S];exact g4,hk,ho,(A b a5).trans O,g7,⟨⟨rfl,by simp only[aP,Sh.n];rw[S];exact d2⟩,?_⟩,λ o=>⟨λ hf=>(hF o hf).elim,λ hf=>by cases hf.1⟩⟩;simp only[aP,Sh.n];rw[S];refine⟨by rw[S];exact g8,B,d0,d1,λ i' y Z=> ?_⟩
        have U: ∀(r:Nat) (sh:Sh) (vv:Value) (z:El sh),r≠i*es.length+j->B r=blk vv->wZ w g (dO p.root p.cell) false sh z vv->wZ (w.setRow Q new) g (dO p.root p.cell) false sh z vv:=by
         intro r sh vv z hr hB hz;refine hz.same Y λ y Z=>A y ?_;rintro rfl;exact hr (d1 _ _ _ (hB.trans Z) (R.symm.trans rfl))
        by_cases b9:i'=i
        ·subst b9;rw[abe hi]at Z;simp only[aag]at Z;subst Z;obtain⟨r1,r2⟩:=a8 i' x0 he;refine⟨r1,λ r cr vr t c2=> ?_⟩;rw[←a0,aau,kY Δ]at t;by_cases i2:r=j
         ·subst i2;rw[if_pos Θ]at t;simp only[acy,aaO,aaL,aag]at t;subst t;rw[aan,if_pos d4,aas,d3]at c2;cases c2;show sG (w.setRow Q new) g _ _ d x' _;unfold sG;rw[if_pos d7];refine⟨d6,.inr ⟨Q,k',new,a9,by rw[I],by rw[I];exact hl,h1,b0,setRow_heap w Q m new a9 _ K,?_,?_,λ o=>by simpa using e6 o⟩,R⟩
          ·rw[←a4];simp[new];simp at hT;omega
          ·rw[I,e7];exact b6.keeps Y
         ·rw[if_neg Δ]at t;simp only[nS,aau,Option.map_map,aaK]at t;obtain⟨c1,i3,rfl⟩:=t;exact(r2 r c1 vr i3 c2).imp Y λ e z=>U _ _ _ z Ω e
        ·rw[aa5 (Ne.symm b9)]at Z;refine Yr.imp (g:=g) (g':=g) Y (λ r sh vv hr hB z hz=>U _ sh vv z ?_ hB hz) (a8 i' y Z);intro h3;have e9:0<es.length:=by omega
         have a1:(i*es.length+j)/es.length=i:=by rw[abW,Nat.mul_add_div e9,acM d4,aa0]
         have a2:(i'*es.length+r)/es.length=i':=by rw[abW,Nat.mul_add_div e9,acM hr,aa0]
         exact b9 (by rw[←a1,←a2];exact congrArg (· /es.length) h3)
       ·intro r m0 l' hq
        have i4:r=0:=by
         rcases ab5 r with h|h
         ·exact h
         ·rw[aal Δ]at hq;cases hq
        subst i4;simp only[aaO,aag]at hq;obtain⟨rfl,_,_⟩:=hq;refine⟨l,rfl,λ bl len kx f0=> ?_⟩;rw[aa0,e1]at f0;cases f0;exact A b a5
    ·exact(aj D).elim
   ·exact(aj D).elim
  ·exact(aj D).elim
 ·exact(aj D).elim
theorem wZ.move {ow ow':aF} {sh:Sh} {x:El sh} {v:Value} (d:Keeps w w' g.F g'.F) (e: ∀z,blk v=some z->g'.own z=some ow'/\w'.heap[z]? =w.heap[z]? /\ ∀o,g'.F z o ↔ g.F z o) (h:wZ w g ow false sh x v):wZ w' g' ow' false sh x v:=by
 rcases h with h|⟨b,c,cur,f,hv,i,k,y,l,hs,m,p⟩
 ·exact .inl h
 ·obtain⟨q,t,u⟩:=e b (by rw[hv];rfl);exact .inr ⟨b,c,cur,f,hv,i,k,q,t.trans l,hs,m.keeps d,λ o=>(u o).trans (p o)⟩
theorem jm.aks {ow:aF} {B:Nat->Option Nat} {sh:Sh} (e:sh.qR=true) {l:List (Option (ElA [sh]))} {cs:LV}
 (h: ∀(i:Nat) (x:ElA [sh]),l[i]? =some (some x)->Yr w g ow (λ j=>B (i* [sh].length+j)) [sh] x ((cs.drop (i* [sh].length)).take [sh].length)) {k:Nat} {y:El sh} (q:l[k]? =some (some y)):
 ∃v,cs[k]? =some v/\wZ w g ow false sh y v/\blk v=B k:=by
 obtain⟨f,p⟩:=h k y q;simp only[aaY,abX]at f p
 cases m:cs.drop k with
 |nil=>rw[m]at f;simp at f
 |cons v t=>
  have d:=p 0 ⟨sh,.pure,y⟩ v rfl (by rw[m];rfl);unfold sG at d;rw[if_pos e]at d;refine⟨v,?_,d.2.1,by simpa using d.2.2⟩;have:=congrArg (λ l=>l[0]?) m;simpa [aas]using this
theorem jm.set1 {ow I:aF} {b:Nat} {sh:Sh} (E:sh.qK=true) {l:List (Option (ElA [sh]))} {cs:LV} (h:jm w g ow b [sh] l cs) {i:Nat} (hi:i<l.length) {x:El sh} {u:Value}
 (S:wZ w g I false sh x u) (K:ow≠I) (U:blk u≠some b) (hk:Keeps w w' g.F g'.F)
 (mv: ∀z,blk u=some z->g'.own z=some ow/\w'.heap[z]? =w.heap[z]? /\ ∀o,g'.F z o ↔ g.F z o)
 (kp: ∀z,z≠b->g.own z=some ow->g'.own z=some ow/\w'.heap[z]? =w.heap[z]? /\ ∀o,g'.F z o ↔ g.F z o):jm w' g' ow b [sh] (l.set i (some x)) (cs.set i u):=by
 have L:=gu E;obtain⟨t,B,M,W,N⟩:=h;have hl:cs.length=l.length:=by simpa using t
 refine⟨by simp only[aa7];exact t,λ k=>if k=i then blk u else match l[k]? with|some (some _)=>B k|_=>none,λ k=> ?_,λ k O z t G=> ?_,λ k y D=> ?_⟩
 ·by_cases d:k=i
  ·simp only[if_pos d];exact U
  ·simp only[if_neg d];split
   ·exact M k
   ·simp
 ·have p: ∀q,(match l[q]? with|some (some _)=>B q|_=>none)=some z->B q=some z/\g.own z=some ow:=by
   intro q Q;split at Q
   ·rename_i y D;obtain⟨v,_,A,C⟩:=jm.aks L N D;exact⟨Q,A.nC (C.trans Q)⟩
   ·cases Q
  by_cases Y:k=i
  ·by_cases R:O=i
   ·omega
   ·simp only[if_pos Y]at t;simp only[if_neg R]at G;have:=(p O G).2;rw[S.nC t]at this;exact(K (aak this).symm).elim
  ·by_cases R:O=i
   ·simp only[if_neg Y]at t;simp only[if_pos R]at G;have:=(p k t).2;rw[S.nC G]at this;exact(K (aak this).symm).elim
   ·simp only[if_neg Y]at t;simp only[if_neg R]at G;exact W k O z (p k t).1 (p O G).1
 ·have a8:k<l.length:=by have:=(aad.1 D).1;simpa using this
  by_cases d:k=i
  ·subst d;rw[abe hi]at D;cases D;refine(show Yr w' g' ow _ [sh] x _ from ?_);obtain⟨t1,Z⟩:=jm.ajA (w:=w') (g:=g') (ow:=ow) (B:=blk u) E (y:=x) (cs:=cs.set k u) (k:=k) (v:=u) (by rw[abe Ω]) (S.move hk mv) rfl;refine⟨t1,λ q c0 v0 f m=> ?_⟩
   match q,f,m with
   |0,f,m=>
    have:=Z 0 c0 v0 f m;simpa using this
  ·rw[aa5 (λ e=>d e.symm)]at D;obtain⟨v,a2,A,C⟩:=jm.aks L N D;have:=jm.ajA (w:=w') (g:=g') (ow:=ow) (B:=B k) E (y:=y) (cs:=cs.set i u) (k:=k) (v:=v) (by rw[aa5 (λ e=>d e.symm)];exact a2) (A.move hk λ z hz=>kp z (λ e=>M k (by rw[←C,hz,e])) (A.nC hz)) C;refine(show Yr w' g' ow (λ j=>(λ k=>if k=i then blk u else match l[k]? with|some (some _)=>B k|_=>none) (k* [sh].length+j)) [sh] y _ from ?_)
   obtain⟨t1,Z⟩:=this;refine⟨t1,λ q c0 v0 f m=> ?_⟩
   match q,f,m with
   |0,f,m=>
    have:=Z 0 c0 v0 f m;simpa [d,D]using this
theorem adb (h:Rel E C s a w g) {p:Pl} {c:CV} {i j:Nat} {ds:LC} {G:LV} {us:List Upd} {v:Value} {mk:Nat->aF} (hh:aC w g .hand 0 ds G) (hd:N9 s p=some (c,i,j))
 (I:(Pv s p c i j ds).run=some us) (hv:TV s a w g mk (.addr p) v):
 ∃b off cur et g',v= .pointer (some ⟨b,off,none⟩)/\w.heap[b]? =some (.cells cur et (0,0))/\off+G.length<=cur.size/\
  Rel E C (s.dW us) a (w.setRow b (cur.toList.take off++G++cur.toList.drop (off+G.length)).toArray) g':=by
 obtain⟨a3,es,e7,rfl,Q⟩:=zi hd;unfold Pv at I;split at I
 ·rename_i sh l c5 x c6;cases c6;have L:=(bf I).1
  replace I:=(bf I).2
  simp only[aae]at L;obtain⟨hj,S⟩:=L;obtain rfl:=aao hj;split at I
  ·rename_i y hy
   obtain⟨n,D,M,⟨c1,a4⟩,rfl⟩: ∃n,p.root= .tmp n/\p.cell=0/\(∃c1,(s.tm n).1= .val false [c1])/\us= [.tm n (.val false [⟨.dl [sh],.own,List.set l i (some y)⟩])]:=by
    split at I
    ·rename_i n hr;split at I
     ·rename_i c1 U;exact⟨n,hr,aao (bf I).1,⟨c1,U⟩,(au (bf I).2).symm⟩
     ·exact(aj I).elim
    ·exact(aj I).elim
   obtain⟨e,rfl⟩:=lg hy;simp only at e;subst e;have c7:=gu S;obtain⟨_,hv⟩:=hv;rw[a3]at hv;obtain⟨_,hv⟩:=hv;obtain⟨b,d7,kk,q1,hi,q3⟩:=hv _ Q;obtain⟨c8,_⟩:=h.pl Q
   have hi:i<l.length:=by
    obtain⟨v1,ws,e1,U,a6⟩:=c8;simp only[aC]at a6;subst a6
    have e2:(aB a w g p.root)[p.cell]? =some v1:=by
     have:=congrArg (λ l=>l[0]?) e1;simp only[aan,aas,aa0]at this;simpa using this
    rw[q1]at e2;cases e2;simp only[jZ,Sh.qR,if_true]at U;rcases U with⟨e,_⟩|⟨_,_,_,_,e,_⟩
    ·cases e
    ·simp only[Value.slice.injEq]at e;obtain⟨_,e,_⟩:=e;rw[e]at hi;exact hi
   obtain⟨b1,k1,cur,et,e1,e2,d0,hk,ho,k,d1,⟨a7,B,d2,d3,a8⟩,hF,a9⟩:=h.KZ Q hi;rw[q1]at e1;cases e1;obtain⟨u,ws,rfl,b0,b2⟩:=hh;simp only[aC]at b2;subst b2;simp only[jZ,c7,if_true]at b0;have W:=(qg S).1 b0;simp only[aaY,abX]at a7 d1 a8;have K:i<cur.toList.length:=by simp only[abd];omega
   let new:=(cur.toList.take i++[u]++cur.toList.drop (i+1)).toArray
   have b3: ∀q,new[q]? =if q=i then some u else cur[q]? :=by
    intro q;simp only[new,List.getElem?_toArray];rw[aaD,List.getElem?_append];simp only[aaE,abP (Nat.le_of_lt K)];split
    ·rw[if_neg Ω,aan,if_pos Ω];simp
    ·split
     ·subst_vars;simp
     ·rw[aaB Δ];simp only[aaY,aas,aaW];congr 1;omega
   have b4: ∀o,g.F b o->new[o]? =cur[o]? :=λ o ho=>(hF o ho).elim;have b5:=ql (F:=g.F) (F':=g.F) k (new:=new) (λ _ _ h=>h) b4;have m: ∀z,z≠b->(w.setRow b new).heap[z]? =w.heap[z]? :=λ z A=>setRow_other w b z new A;have N: ∀z,blk u=some z->g.own z=some (.hand 0):=λ z A=>W.nC A;have Y:dO p.root p.cell≠ .hand 0:=jF _ _ _
   let b6:Nat->Option aF:=λ z=>if blk u=some z then some (dO p.root p.cell)else g.own z
   let g':Gh:={g with own:=b6}
   have f:Fr (λ o=>(∀j,o≠ .tm n j)/\ ∀j,o≠ .hand j) w (w.setRow b new) g g':=⟨b5,λ z ow b7 A=>by
    refine⟨?_,m z ?_,λ o h=>h⟩
    ·show(if blk u=some z then _ else _)=_;rw[if_neg];exact A;intro e;rw[N z e]at A;cases A;exact b7.2 0 rfl
    ·rintro rfl;rw[ho]at A;cases A;exact b7.1 p.cell (by rw[D];rfl)⟩
   have d:=h.base.setRow ho k b4 (new:=new)
   have d4:Base C.w0 C.F0 C.X (w.setRow b new) g':=⟨d.os,d.tape,d.output,d.size,d.blk,λ z ow A=>by
    by_cases hm:blk u=some z
    ·exact d.own z _ (N z hm)
    ·exact d.own z ow (by have:(if blk u=some z then _ else _)=some ow:=A;rwa [if_neg hm]at this),d.keeps,d.fz,λ z ow cs t f A Q=>by
    by_cases hm:blk u=some z
    ·exact d.frz z _ cs t f (N z hm) Q
    ·exact d.frz z ow cs t f (by have:(if blk u=some z then _ else _)=some ow:=A;rwa [if_neg hm]at this) Q⟩
   refine⟨b,i,cur,et,g',by rw[q3];simp[Sh.n],k,by simp at K ⊢;omega,?_⟩;refine h.afz f d4 rfl ⟨?_,?_⟩
   ·have:=h.tm n;rw[a4]at this;exact this.1
   ·have b9:(a.eval (.tmp n)).cells.toList= [.slice (some ⟨b,0,none⟩) l.length kk]:=by
     have U:=h.tm n;rw[a4]at U;obtain⟨_,v1,ws,h2,_,h3⟩:=U;simp only[aC]at h3;subst h3;rw[h2];rw[D,M]at q1;have:(a.eval (.tmp n)).cells.toList[0]? =_:=q1;rw[h2]at this;rw[aak this]
    rw[b9];refine⟨_,[],rfl,?_,rfl⟩;show jZ (w.setRow b new) g' (.tm n 0) ⟨.dl [c5],.own,List.set l i (some x)⟩ _;have d5:dO p.root p.cell= .tm n 0:=by rw[D,M];rfl
    rw[←d5];simp only[jZ,Sh.qR,if_true];have O:(List.set l i (some x)).length=l.length:=aa7;have Z:blk u≠some b:=λ e=>Y (aak (ho.symm.trans (N b e)))
    have R:new.toList.take (List.length l)=(cur.toList.take (List.length l)).set i u:=by
     apply aaZ;intro q;rw[aan,aaR,aaW,b3 q,aan,aaE,aaW];by_cases hq:q<List.length l
     ·rw[if_pos hq,if_pos hq];by_cases a0:q=i
      ·subst a0;rw[if_pos rfl,if_pos rfl,if_pos (by simp only[abd]at K ⊢;omega)]
      ·rw[if_neg a0,if_neg (λ e=>a0 e.symm)]
     ·rw[if_neg hq,if_neg hq];split
      ·rw[if_neg];simp only[abd];omega
      ·rfl
    refine .inr ⟨b,kk,new,et,by simp only[aP];rw[O],by simp only[aP];rw[O];exact d0,hk,?_,setRow_heap w b cur new et _ k,?_,⟨⟨rfl,?_⟩,?_⟩,λ o=>⟨λ hf=>(hF o hf).elim,λ hf=>by cases hf.1⟩⟩
    ·show(if blk u=some b then _ else _)=_;rw[if_neg Z];exact ho
    ·simp only[Sh.n,aaY,abX,new,acf,aaq,aaE,abh,abd];simp only[abd]at K;omega
    ·simp only[aP,Sh.n];rw[O];simp only[aaY,abX];rw[R];intro c Q;rcases abv Q with h|rfl
     ·exact a9 c (by simpa using h)
     ·exact W.one
    ·simp only[aP,Sh.n];rw[O];simp only[aaY,abX];rw[R];refine jm.set1 (g:=g) S (l:=l) ⟨by simpa using a7,B,d2,d3,by simpa using a8⟩ hi W Y Z b5 (λ z A=>⟨?_,m z (λ e=>Z (by rw[A,e])),λ o=>ab7⟩) (λ z A c0=>⟨?_,m z A,λ o=>ab7⟩)
     ·show(if blk u=some z then _ else _)=_;rw[if_pos A]
     ·show(if blk u=some z then _ else _)=_;rw[if_neg (λ e=>by have:=N z e;rw[c0]at this;exact Y (aak this))];exact c0
  ·exact(aj I).elim
 ·exact(aj I).elim
theorem Jy {α:Type}: ∀{l:List (Option α)} {d:List α},oO l=some d->l=d.map some
 | [],d,h=>by simp[oO]at h;subst h;rfl
 |none::l,d,h=>by simp[oO]at h
 |some x::l,d,h=>by
  simp only[oO,aaK]at h;obtain⟨m,e,rfl⟩:=h;rw[Jy e];rfl
theorem KH.MK {α:Type} {n:Nat} {R:α->LV->Prop} {L:List α->LV->Prop} (d:KH n R L): ∀(l:List α) (cs:LV),cs.length=l.length*n->(∀i x,l[i]? =some x->R x ((cs.drop (i*n)).take n))->L l cs
 | [],cs,e,_=>(d.nil cs).2 (aav (by simpa using e))
 |x::l,cs,e,h=>by
  refine(d.cons x l cs).2 ⟨cs.take n,cs.drop n,(abb n cs).symm,by simpa using h 0 x rfl,KH.MK d l _ ?_ λ i y f=> ?_⟩
  ·rw[abh,e,aaX,abx,Nat.add_sub_cancel]
  ·have:=h (i+1) y (by simpa using f);rw[List.drop_drop]
   rwa [abx,acQ (i*n) n]at this
theorem WW {F:Fz}: ∀(es:List Sh) (x:ElA es) (cs:LV),cs.length=es.length->(∀(k:Nat) (c:CV) (v:Value),(cellsOf es x)[k]? =some c->cs[k]? =some v->jM w F c.sh c.x v)->dX w F es x cs
 | [],_,cs,d,_=>aav d
 | [s],x,[v],d,h=>⟨v,rfl,h 0 ⟨s,.pure,x⟩ v rfl rfl⟩
 | [s],x,[],d,_=>by cases d
 | [s],x,_::_::_,d,_=>by simp at d
 |s::t::ss,x,[],d,_=>by cases d
 |s::t::ss,x,v::cs,d,h=>⟨v,cs,rfl,h 0 ⟨s,.pure,x.1⟩ v rfl rfl,WW (t::ss) x.2 cs (by simpa using d) λ k c v e hv=>h (k+1) c v (by simpa [cellsOf]using e) (by simpa using hv)⟩
theorem Xl {w0:World} {F0:Fz} {X:Nat->Prop} (f:Base w0 F0 X w g) {ow:aF} {es:List Sh} {l:List (Option (ElA es))} {z:List (ElA es)} {v:Value} (D:oO l=some z) (h:jZ w g ow ⟨.dl es,.own,l⟩ v):
 ∃g',Fr (λ o=>o≠ow) w w g g'/\Base w0 F0 X w g'/\g'.own=g.own/\g'.at_=g.at_/\jZ w g' ow ⟨.sl es,.own,z⟩ v:=by
 have D:=Jy D;simp only[jZ,Sh.qR,if_true]at h ⊢;rcases h with⟨hv,R⟩|⟨b,k,cur,et,hv,Y,hk,E,A,Z,⟨_,G,B,a0,b9,C⟩,hF⟩
 ·refine⟨g,Fr.refl _ _ _,f,rfl,rfl,.inl ⟨hv,?_⟩⟩;have R:l.length=0:=R;rw[D,aaH]at R;exact R
 ·have m:aP (.dl es) l=aP (.sl es) z:=by simp only[aP];rw[D,aaH]
  simp only[Sh.n]at G C
  let N:=es.length
  let I:Nat->Nat->Prop:=λ x o=> ∃i e q p u,l[i]? =some (some e)/\(cellsOf es e)[q]? =some p/\p.sh.qR=true/\(cur.toList.take (aP (.dl es) l*N))[i*N+q]? =some u/\blk u=some x/\o<aP p.sh p.x*p.sh.n
  have hI: ∀x o,I x o->g.own x=some ow/\x≠b:=by
   rintro x o ⟨i,e,q,p,u,h1,h2,h3,h4,h5,_⟩;obtain⟨u',h6,S,_⟩:=jm.row C h1 h2;have K:(cur.toList.take (aP (.dl es) l*N))[i*N+q]? =some u':=h6;rw[h4]at K;cases K;unfold sG at S;rw[if_pos h3]at S;refine⟨S.2.1.nC h5,?_⟩;rintro rfl;exact a0 _ (S.2.2.symm.trans h5)
  let g':Gh:={g with F:=λ x o=>g.F x o\/I x o}
  have t:Keeps w w g.F g'.F:=⟨λ _ _ h=> .inl h,λ _ _ _=>rfl⟩
  have a4:Base w0 F0 X w g':=⟨f.os,f.tape,f.output,f.size,f.blk,f.own,f.keeps.trans t,λ x o d=>by
   rcases d with d|d
   ·exact f.fz x o d
   ·obtain⟨h1,h2⟩:=f.own _ _ (hI x o d).1;exact⟨.inr h1,h2⟩,f.frz⟩
  refine⟨g',⟨t,λ x ow' a5 e=>⟨e,rfl,λ o d=> ?_⟩⟩,a4,rfl,rfl,.inr ⟨b,k,cur,et,by rw[hv,m],m▸Y,hk,E,A,Z,?_,λ o=> ?_⟩⟩
  ·rcases d with d|d
   ·exact d
   ·rw[(hI x o d).1]at e;cases e;exact absurd rfl a5
  ·show fH (dX w g'.F es) z (cur.toList.take (aP (.sl es) z*N));rw[←m];refine(jW (w:=w) (F:=g'.F) es).MK z _ (G.trans (by rw[show l.length=aP (.sl es) z from m];rfl)) λ i e he=> ?_;have a6:l[i]? =some (some e):=by rw[D,aau,he];rfl
   obtain⟨r1,r2⟩:=C i e a6;refine WW es e _ r1 λ q p u L U=> ?_;have W:=r2 q p u L U
   have hq:q<es.length:=by
    rw[←r1];rcases aaG q ((cur.toList.take (aP (.dl es) l*es.length)).drop (i*es.length) |>.take es.length).length with h|h
    ·exact h
    ·rw[aal h]at U;cases U
   have a7:(cur.toList.take (aP (.dl es) l*N))[i*N+q]? =some u:=by
    have h9:=U;rw[aan,if_pos hq,aas]at h9;exact h9
   unfold sG at W;split at W
   ·rename_i hs;obtain⟨a8,M,_⟩:=W;rw[yI a8];rcases M with⟨a9,O⟩|⟨b',c',b5,c9,Q,b0,d0,d1,b1,d2,y,b6⟩
    ·exact⟨none,0,by rw[a9,O],Ω,.inl O⟩
    ·refine⟨_,c',Q,b0,.inr ⟨_,_,rfl,rfl,λ o E=> ?_,y.keeps t⟩⟩;rw[y.length]at E;refine⟨?_,.inr ⟨i,e,q,p,u,by assumption,L,hs,a7,by rw[Q];rfl,by simpa using E⟩⟩;rw[cell_of_heap b1,aan,if_pos E];simp
   ·exact jM.keeps t _ _ _ W
  ·constructor
   ·rintro(d|d)
    ·have:=((hF o).1 d).1;cases this
    ·exact absurd rfl (hI b o d).2
   ·intro d;cases d.1
theorem VU {w0:World} {F0:Fz} {X:Nat->Prop} {mk:Nat->aF} (f: ∀i j,mk i=mk j->i=j): ∀(cs:LC) (k:List Sh) (ds:LC) (i:Nat) (q:LV) (g:Gh),
 Base w0 F0 X w g->(thaw cs k).run=some ds->aC w g mk i cs q->
 ∃g',Fr (λ o=> ∀j,i<=j->j<i+cs.length->o≠mk j) w w g g'/\Base w0 F0 X w g'/\g'.own=g.own/\g'.at_=g.at_/\aC w g' mk i ds q/\ds.length=cs.length
 | [],k,ds,i,q,g,p,l,h=>by
   have:ds= []:=by cases k<;>exact(au l).symm
   subst this;exact⟨g,Fr.refl _ _ _,p,rfl,rfl,h,rfl⟩
 |c::cs,[],ds,i,q,g,p,l,h=>by
  obtain rfl:=au l;exact⟨g,Fr.refl _ _ _,p,rfl,rfl,h,rfl⟩
 |c::cs,sh::k,ds,i,q,g,p,l,⟨v,t,e,y,h⟩=>by
  simp only[thaw]at l;obtain⟨d,m,l⟩:=aS l;obtain⟨z,A,l⟩:=aS l;obtain rfl:=au l
  have one: ∃g',Fr (λ o=>o≠mk i) w w g g'/\Base w0 F0 X w g'/\g'.own=g.own/\g'.at_=g.at_/\jZ w g' (mk i) d v:=by
   unfold ahD at m;split at m
   ·split at m
    ·obtain⟨l',B,m⟩:=zY m;obtain rfl:=au m;exact Xl p B y
    ·obtain rfl:=au m;exact⟨g,Fr.refl _ _ _,p,rfl,rfl,y⟩
   ·obtain rfl:=au m;exact⟨g,Fr.refl _ _ _,p,rfl,rfl,y⟩
  obtain⟨E,G,K,L,M,p1⟩:=one;have C: ∀j,mk (i+1+j)≠mk i:=λ j e=>by have:=f _ _ e;omega
  have N:aC w E mk (i+1) cs t:=by
   refine aC.of cs (i+1) t h.length λ j c v O hv=> ?_;obtain⟨u,Q,R⟩:=h.get cs (i+1) t j c O;rw[Q]at hv;cases hv;exact R.fr G (C j)
  obtain⟨g2,I,S,U,W,p2,Y⟩:=VU f cs k z (i+1) t E K A N;have Z: ∀j,i+1<=j->j<i+1+cs.length->mk i≠mk j:=λ j hj _ e=>by have:=f _ _ e;omega
  exact⟨g2,(G.mono λ o D=>by simpa using D i (aaw _) Θ).trans (I.mono λ o D j hj a3=>D j Ω Δ),S,U.trans L,W.trans M,⟨v,t,e,p1.fr I Z,p2⟩,by simp[Y]⟩
theorem afl (h:Rel E C s a w g) {m:Nat} {us:List Upd} (d:(ahE s m).run=some us): ∃g',Rel E C (s.dW us) a w g':=by
 unfold ahE at d;split at d
 ·rename_i es l i;obtain⟨A,q,d⟩:=zY d;obtain rfl:=au d;have hv:=h.tm m;rw[i]at hv;obtain⟨k,t,B,u,p,e⟩:=hv;simp only[aC]at e;subst e;obtain⟨g',f,v,_,a',y⟩:=Xl h.base q p;refine⟨g',h.afz (f.mono λ o z=>z.1 0) v a' ⟨k,?_⟩⟩;rw[u];exact⟨t,[],rfl,y,rfl⟩
 ·exact(aj d).elim
theorem wY (w:World) {t:TypeId} {info:TypeInfo} (f:P.info? t=some info) (b off:Nat) (v:Value) (hs:v.cells.size=info.size) {cur:Array Value} {e:TypeId} (g:w.heap[b]? =some (.cells cur e (0,0)))
 (d:off+v.cells.toList.length<=cur.size) (i: ∀u,u∈v.cells.toList->u.oneCell'=true):
 (Instr.storeAt t (.pointer (some ⟨b,off,none⟩)) v).run P w= .ok () (w.setRow b (cur.toList.take off++v.cells.toList++cur.toList.drop (off+v.cells.toList.length)).toArray):=by
 have:=run_storeCells_at P b off e v.cells.toList 0 cur w g (by simpa using d) i;simp only[aa0]at this;simp only[Instr.storeAt,Instr.sureAddr,storeVar,sizeOf,typeInfo,Sem.run_bind,Sem.run_pure,Result.andThen_ok];simp[f,hs,this]
def ad3 (P:Program) (E:Env) (C:Ctx) (o:Oper):Prop:=
 ∀{s:St} {a:Act} {w:World} {g:Gh} {us:List Upd} {Q:Exit->Act->World->Prop},Rel E C s a w g->La E o=true->(plan E o s).run=some us->
  o.wp P a w (λ a' w'=> ∃g',Rel E C (s.dW us) a' w' g') Q
theorem uQ {cs:LC} {f:LV} {mk:Nat->aF} {i:Nat} (k:FC cs=true) (h:aC w g mk i cs f): ∀u,u∈f->u.oneCell'=true:=by
 intro u l;obtain⟨j,m,rfl⟩:=aay l;have q:=h.length;have d:j<cs.length:=by omega
 obtain⟨v,hv,p⟩:=h.get cs i f j cs[j] (aac d);rw[aac m]at hv;cases hv;refine(p.plain ?_).2;have:=aaV.1 k cs[j] (aaf d);intro e;simp[e]at this
theorem aeZ (hT:yu P E.ty) {t:TypeId} {x y:Operand} (W:o.op= .store t x y):ad3 P E C o:=by
 intro s a w g us Q h c3 l;simp only[plan,W]at l;split at l
 ·rename_i hd;obtain⟨⟨ag,cs,S⟩,ht,l⟩:=aS l;simp only[]at l;obtain⟨g1,M,_,D,_,_⟩:=Gw h (hs:=[]) (hv:=[]) rfl ht;simp only[abU]at D;split at l
  ·rename_i p hx;obtain⟨Y,l⟩:=bf l;simp only[aae]at Y;obtain⟨⟨m,a6⟩,G⟩:=Y;have m:=aao m;have U:=D.length;have Z:=uQ a6 D
   have N: ∃i,E.ty t=some i:=by
    cases h:E.ty t with
    |none=>rw[h]at G;cases G
    |some i=>exact⟨i,rfl⟩
   obtain⟨i,N⟩:=N;obtain⟨info,de,z,v⟩:=hT.at_ N
   have I:(a.eval y).cells.size=info.size:=by
    rw[v.size];have:ig E t=i.cells:=by simp only[ig,N]
    rw[this]at m;simp only[abd]at U;omega
   split at l
   ·rename_i c0 i0 j0 a7;obtain⟨O,f,l⟩:=aS l;obtain rfl:=au l;obtain⟨b,off,cur,et,g',K,d,A,R⟩:=adb M D a7 f (aJ M hx Θ);have u:=wY w v.inf b off (a.eval y) I d A Z
    have L:(execOp a.eval o).run P w= .ok .skip (w.setRow b (cur.toList.take off++(a.eval y).cells.toList++cur.toList.drop (off+(a.eval y).cells.toList.length)).toArray):=by
     simp only[execOp,W,K,Sem.run_bind,u,Result.andThen_ok,Sem.run_pure]
    unfold Oper.wp;rw[L,Oper.upon_skip,hd,eP];exact⟨g',R⟩
   obtain⟨a9,b0,l⟩:=aS l;obtain⟨O,f,l⟩:=aS l;obtain rfl:=au l;obtain⟨b1,b2,b3,_,b4,b5,c7⟩:=VU (by intro i j e;cases e;rfl) cs _ a9 0 _ g1 M.base b0 D
   replace M:Rel E C (s.dW S) a w b1:=M.world (b2.mono λ o W j _ _=>W j) b3 b4
   replace D:=b5
   have hv:=aJ M hx Θ
   have fin: ∀w',(Instr.storeAt t (a.eval x) (a.eval y)).run P w= .ok () w'->(∃g',Rel E C ((s.dW S).dW O) a w' g')->o.wp P a w (λ a' w'=> ∃g',Rel E C (s.dW (S++O)) a' w' g') Q:=by
    intro w' u a0
    have L:(execOp a.eval o).run P w= .ok .skip w':=by
     simp only[execOp,W,Sem.run_bind,u,Result.andThen_ok,Sem.run_pure]
    unfold Oper.wp;rw[L,Oper.upon_skip,hd,eP];exact a0
   unfold NY at f
   cases hs:p.sub with
   |none=>
    rw[hs]at f;simp only[]at f;split at f
    ·rename_i old a1;obtain⟨b6,f⟩:=bf f;have f:=GU f;obtain⟨c8,a2,rfl⟩:=aaK.1 f;obtain⟨n,cur,et,g',hn,⟨b,hb,b7⟩,d,A,R⟩:=Vr M D a1 (Uc b6) a2;rw[←Qc a2]at R;obtain⟨_,hv⟩:=hv;rw[hs]at hv;obtain⟨n',a3,hv⟩:=hv;rw[hn]at a3;cases a3;refine fin _ ?_ ⟨g',R⟩;rw[hv b hb b7];exact wY w v.inf _ _ _ I d A Z
    ·exact(aj f).elim
   |some ij=>
    obtain⟨k,j⟩:=ij;rw[hs]at f;simp only[]at f;split at f
    ·rename_i c b8;obtain⟨ds,he,f⟩:=aS f;obtain⟨B,f⟩:=bf f;simp only[aae]at B;split at f
     ·rename_i c' b9;have f:=GU f;obtain⟨b,cur,et,g',K,d,A,R⟩:=Uy M hs D B.2 b8 he (abl B.1) b9 f hv;refine fin _ ?_ ⟨g',R⟩;rw[K];exact wY w v.inf _ _ _ I d A Z
     ·exact(aj f).elim
    ·exact(aj f).elim
  ·rename_i p k q hx;obtain⟨Y,l⟩:=bf l;obtain⟨O,f,l⟩:=aS l;obtain rfl:=au l;simp only[aae]at Y;obtain⟨m,G⟩:=Y;have m:=aao m
   have N: ∃i,E.ty t=some i:=by
    cases h:E.ty t with
    |none=>rw[h]at G;cases G
    |some i=>exact⟨i,rfl⟩
   obtain⟨i,N⟩:=N;obtain⟨info,de,z,v⟩:=hT.at_ N;have U:=D.length
   have I:(a.eval y).cells.size=info.size:=by
    rw[v.size];have:ig E t=i.cells:=by simp only[ig,N]
    rw[this]at m;simp only[abd]at U;omega
   have hv:=aJ M hx Θ;obtain⟨b,off,cur,et,g',K,d,A,c1,R⟩:=adT M D f hv;have Z:=uQ (kE c1) D;have u:=wY w v.inf b off (a.eval y) I d A Z
   have L:(execOp a.eval o).run P w= .ok .skip (w.setRow b (cur.toList.take off++(a.eval y).cells.toList++cur.toList.drop (off+(a.eval y).cells.toList.length)).toArray):=by
    simp only[execOp,W,K,Sem.run_bind,u,Result.andThen_ok,Sem.run_pure]
   unfold Oper.wp;rw[L,Oper.upon_skip,hd,eP];exact⟨g',R⟩
  ·exact(aj l).elim
 ·exact(aj l).elim
theorem FQ (w:World) (t m ty e:TypeId) (i:TypeInfo) (u:P.underlying t=some (.slice e)) (v:P.info? e=some i) (b d f:Nat) (x:Value) (n:Nat) (news:LV) (hs:Src P i.size m x n news w)
 {cur:Array Value} {p:TypeId} (y:w.heap[b]? =some (.cells cur p (0,0))) (g:d+n<=f) (k:d*i.size+news.length<=cur.size):
 (Builtin.append_ #[t,m] ty #[.slice (some ⟨b,0,none⟩) d f,x]).run P w=
  .ok (.slice (some ⟨b,0,none⟩) (d+n) f) (w.setRow b (cur.toList.take (d*i.size)++news++cur.toList.drop (d*i.size+news.length)).toArray):=by
 have l:=run_storeCells_at P b (d*i.size) p news 0 cur w y (by simpa using k) hs.one;simp only[aa0]at l;rcases hs.kind with⟨z,q⟩|q<;>simp[Builtin.append_,run_underlying u,run_underlying q,sizeOf,typeInfo,v,hs.len,g,hs.cells,Addr.add_lit,l]
theorem Ei (w:World) (t d ty e:TypeId) (i:TypeInfo) (g:P.underlying t=some (.slice e)) (k:P.info? e=some i) (x:Value) (news:LV) (hs:Src P i.size d x 0 news w):
 (Builtin.append_ #[t,d] ty #[.slice none 0 0,x]).run P w= .ok (.slice none 0 0) w:=by
 rcases hs.kind with⟨l,f⟩|f<;>simp[Builtin.append_,run_underlying g,run_underlying f,sizeOf,typeInfo,k,hs.len,hs.cells]
structure Behind (sh:Sh) (x y xy:El sh):Prop where
 len:aP sh xy=aP sh x+aP sh y
 els: ∀(w:World) (F:Fz) (cs ds:LV),wM w F sh x cs->wM w F sh y ds->wM w F sh xy (cs++ds)
theorem YD {c d r:CV} (h:(ai6 c d).run=some r):c.sh.qK=true/\(c.tg= .own\/c.tg= .tip)/\d.tg≠ .dead/\
 ∃(y:El c.sh) (t:El c.sh),jY d c.sh=some y/\r=⟨c.sh,c.tg,t⟩/\Behind c.sh c.x y t/\aP c.sh t<=ay:=by
 obtain⟨sh,A,x⟩:=c;obtain⟨m,i,l⟩:=d
 cases sh with
 |sl es=>
  cases m with
  |sl f=>
   simp only[ai6]at h;obtain⟨p,h⟩:=bf h;simp only[aae]at p;have g:jY ⟨.sl f,.pure,l⟩ (.sl es)=jY ⟨.sl f,i,l⟩ (.sl es):=rfl;rw[g]at h;cases q:jY ⟨.sl f,i,l⟩ (.sl es)with
   |none=>rw[q]at h;exact(aj h).elim
   |some y=>
    rw[q]at h;obtain⟨u,h⟩:=lH h;obtain rfl:=au h;refine⟨rfl,?_,?_,y,_,rfl,rfl,⟨aaq,λ w F cs ds v z=>(jW es).append x y cs ds v z⟩,?_⟩
    ·cases A<;>simp_all
    ·rintro rfl;simp[Tg.le]at p
    ·have:=of_decide_eq_true u;show List.length (List.append x y)<=ay;have e:List.length (List.append x y)=List.length x+List.length y:=aaq;rw[e];exact this
  |rsl _=>exact(aj h).elim
  |int k=>exact(aj h).elim
  |bool=>exact(aj h).elim
  |str=>exact(aj h).elim
  |dl _=>exact(aj h).elim
  |mp _ _=>exact(aj h).elim
 |rsl ss=>
  cases m with
  |rsl f=>
   simp only[ai6]at h;obtain⟨p,h⟩:=bf h;simp only[aae]at p;have g:jY ⟨.rsl f,.pure,l⟩ (.rsl ss)=jY ⟨.rsl f,i,l⟩ (.rsl ss):=rfl;rw[g]at h;cases q:jY ⟨.rsl f,i,l⟩ (.rsl ss)with
   |none=>rw[q]at h;exact(aj h).elim
   |some y=>
    rw[q]at h;obtain⟨u,h⟩:=lH h;obtain rfl:=au h;refine⟨rfl,?_,?_,y,_,rfl,rfl,⟨aaq,λ w F cs ds v z=>(kL ss).append x y cs ds v z⟩,?_⟩
    ·cases A<;>simp_all
    ·rintro rfl;simp[Tg.le]at p
    ·have:=of_decide_eq_true u;show List.length (List.append x y)<=ay;have e:List.length (List.append x y)=List.length x+List.length y:=aaq;rw[e];exact this
  |sl _=>exact(aj h).elim
  |int k=>exact(aj h).elim
  |bool=>exact(aj h).elim
  |str=>exact(aj h).elim
  |dl _=>exact(aj h).elim
  |mp _ _=>exact(aj h).elim
 |int k=>exact(aj h).elim
 |bool=>exact(aj h).elim
 |str=>exact(aj h).elim
 |dl _=>exact(aj h).elim
 |mp _ _=>exact(aj h).elim
theorem src_of {c:CV} {v:Value} {sh:Sh} {y:El sh} {q M:TypeId} (t:P.underlying q=some (.slice M)) (m:sh.qK=true) (N:c.tg≠ .dead) (O:jY c sh=some y) (h:Rd w g c v):
 ∃news,Src P sh.n q v (aP sh y) news w/\wM w g.F sh y news:=by
 obtain⟨e,rfl⟩:=lg O;obtain⟨p,W,L⟩:=c;simp only at e;subst e;show∃news,Src P p.n q v (aP p L) news w/\wM w g.F p L news;unfold Rd at h;rw[if_pos (gu m)]at h;rcases h N with⟨A,k,rfl,z⟩|⟨ad,k,cs,rfl,B,Q,f,i⟩
 ·simp only at z;rw[z];refine⟨[],?_,Uf m z⟩
  cases A with
  |none=>exact Src.ofNil w t k
  |some ad=>exact Src.ofSlice w t ad 0 k [] Θ (λ j u h=>by simp at h) (λ u d=>by cases d)
 ·replace f:=f m
  simp only at f i B;have R:=f.length;refine⟨cs,Src.ofSlice w t ad _ k cs R (λ j u d=> ?_) (λ u d=> ?_),f⟩
  ·have S:j<cs.length:=by
    rcases aaG j cs.length with h|h
    ·exact h
    ·simp[aal h]at d
   have:=i j S;rw[d]at this
   have e:ad.add j=⟨ad.block,ad.off+j,none⟩:=by
    unfold Addr.add;split
    ·rename_i e;rw[e];cases ad;simp_all
    ·rfl
   rw[e];exact this
  ·
   have key: ∀(sh:Sh) (x:El sh) (cs:LV),wM w g.F sh x cs-> ∀u∈cs,u.oneCell'=true:=by
    have U: ∀(es:List Sh) (x:ElA es) (cs:LV),dX w g.F es x cs-> ∀u∈cs,u.oneCell'=true:=λ es x cs h=>
     uQ (kE (uK es x)) (cells_ok (g:=g) .hand es x 0 cs h)
    intro sh x cs C
    cases sh with
    |sl es=>
     have gen: ∀(l:List (ElA es)) cs,fH (dX w g.F es) l cs-> ∀u∈cs,u.oneCell'=true:=by
      intro l
      induction l with
      |nil=>intro cs h u d;rw[show cs= []from h]at d;cases d
      |cons e l D=>
       rintro cs ⟨E,G,rfl,I,K⟩ u d;rcases aap.1 d with d|d
       ·exact U es e E I u d
       ·exact D G K u d
     exact gen x cs C
    |rsl ss=>
     have gen: ∀(l:List (RT (ElA ss))) cs,jH w g.F (dX w g.F ss) l cs-> ∀u∈cs,u.oneCell'=true:=by
      intro l
      induction l with
      |nil=>intro cs h u d;rw[(kL ss).nil cs |>.1 h]at d;cases d
      |cons e l D=>
       intro cs h u d;obtain⟨E,G,rfl,I,K⟩:=((kL ss).cons e l cs).1 h;rcases aap.1 d with d|d
       ·exact uQ (kE (yh ss e)) (Dc (g:=g) .hand ss e 0 E I) u d
       ·exact D G K u d
     exact gen x cs C
    |_=>exact C.elim
   exact key _ _ _ f u d
def Ahead (w:World) (g:Gh) (sh:Sh) (x:El sh) (v d:Value):Prop:=
 (∃b k l,v= .slice (some ⟨b,0,none⟩) (aP sh x) k/\d= .slice (some ⟨b,0,none⟩) l k)\/(wZ w g (.hand 0) false sh x v/\ ∀b,blk v=some b->blk d≠some b)
theorem OJ (h:Rel E C s a w g) {sh:Sh} (q:sh.qK=true) {x y I:El sh} (Q:Behind sh x y I) {G:Bool} {v u:Value} (ho:zK w g (.hand 0) G sh x v) {t W e:TypeId} {ty:TypeId} {i:TypeInfo} {z:Value}
 (ht:P.underlying t=some (.slice e)) (hi:P.info? e=some i) (hz:i.zero=some z) (K:i.size=sh.n) (b7:z.cells.size=sh.n) (b8:i.bytes<=128) (a3:aP sh I<=ay) {news:LV} (hs:Src P sh.n W u (aP sh y) news w) (hn:wM w g.F sh y news):
 ∃N w' g',(Builtin.append_ #[t,W] ty #[v,u]).run P w= .ok N w'/\Rel E C s a w' g'/\zK w' g' (.hand 0) G sh I N/\isAgg N=false/\(G=false->Ahead w' g' sh x v N):=by
 have hm:ay=1099511627776:=by decide
 rw[hm]at a3;have A:=Q.len;have a4:=hs.newsLen;have O:Src P i.size W u (aP sh y) news w:=by rw[K];exact hs
 have grow: ∀(base:Option Addr) (d:Nat) (l:LV),(Builtin.firstCells i.size (aP sh x) (.slice base (aP sh x) d)).run P w.drew= .ok l.toArray w.drew->wM w g.F sh x l->d<aP sh x+aP sh y->
  v= .slice base (aP sh x) d-> ∃N w' g',(Builtin.append_ #[t,W] ty #[v,u]).run P w= .ok N w'/\Rel E C s a w' g'/\zK w' g' (.hand 0) G sh I N/\isAgg N=false/\(G=false->Ahead w' g' sh x v N):=by
  intro base d l a5 hx hg hv
  have L:Builtin.nextslicecap (aP sh x+aP sh y) d*i.bytes<=281474976710656:=growslice_fits hg (by
   have:(aP sh x+aP sh y)*i.bytes<=1099511627776*128:=Nat.mul_le_mul Ω b8;omega)
  have m:=run_append_grow_src (P:=P) w t W ty e i z ht hi hz base (aP sh x) d l a5 u (aP sh y) news O hg Ω L;have d2:=grownCap_ge w (aP sh x+aP sh y) d e
  have b9:grownCap w (aP sh x+aP sh y) d e<=maxLen:=grownCap_le_maxLen w _ _ e (by
   have:aP sh x+aP sh y<=1099511627776:=by omega
   exact aaP this Ξ)
  have rd:Rel E C s a w.drew g:=h.world (Fr.drew _) h.base.drew rfl;have a6:=hx.length;have B:wM w.drew g.F sh I (l++news):=Q.els w.drew g.F l news (hx.keeps (show Keeps w w.drew g.F g.F from⟨λ _ _ h=>h,λ _ _ _=>rfl⟩)) (hn.keeps (show Keeps w w.drew g.F g.F from⟨λ _ _ h=>h,λ _ _ _=>rfl⟩));have a7:=B.length
  obtain⟨g1,Y,c1,_,_,c0⟩:=ac1 rd q (x:=I) (cells:=(l++news).toArray++Builtin.zeroCells z.cells (grownCap w (aP sh x+aP sh y) d e-(aP sh x+aP sh y))) (c:=grownCap w (aP sh x+aP sh y) d e) e (by
   rw[Array.toList_append,List.take_left' (by simpa using a7)];exact B) Ω b9 (by
   simp only[Array.size_append,acf,size_zeroCells,b7,a7,A,←abO];congr 1;omega)
  rw[A]at c1;simp only[jZ,if_pos (gu q)]at c1
  cases G with
  |false=>
   refine⟨_,_,g1,by rw[hv];exact m,Y,c1,rfl,λ _=> .inr ⟨?_,λ b Q=> ?_⟩⟩
   ·exact((qg q).1 ho).fr ((Fr.drew (λ _=>True)).trans c0) trivial
   ·have d4:b<w.heap.size:=by
     have:=((qg q).1 ho).nC Q;exact(h.base.own b _ this).2
    have K:w.drew.heap.size=w.heap.size:=rfl;simp only[blk,ne_eq,aag];omega
  |true=>
   obtain⟨g2,f2,b2,o2,a2,_,ot⟩:=c1.freeze Y.base q;exact⟨_,_,g2,by rw[hv];exact m,Y.world (f2.mono λ o ho=>ho 0) b2 a2,ot,rfl,λ e=>by cases e⟩
 rcases ho with⟨hv,Z⟩|⟨b,k,cur,et,hv,d8,hk,p,f,R,D,hF⟩
 ·by_cases c3:aP sh y=0
  ·rw[c3]at O;refine⟨.slice none 0 0,w,g,by rw[hv];exact Ei w t W ty e i ht hi u news O,h,.inl ⟨rfl,Ω⟩,rfl,λ _=> .inr ⟨.inl ⟨hv,Z⟩,λ b Q=>by rw[hv]at Q;cases Q⟩⟩
  ·refine grow none 0 [] (run_firstCells_none w.drew _ _ _ _) (Uf q Z) Ω (by rw[hv,Z])
 ·replace D:=(rC q).1 D
  have a6:=D.length;by_cases M:aP sh x+aP sh y<=k
  ·have L:aP sh x*sh.n+news.length<=cur.size:=by
    rw[a4,←abO,R];exact aaA _ M
   have m:=FQ (P:=P) w t W ty e i ht hi b (aP sh x) k u (aP sh y) news O f M (by rw[K];exact L);rw[K]at m
   let new:=(cur.toList.take (aP sh x*sh.n)++news++cur.toList.drop (aP sh x*sh.n+news.length)).toArray
   have a8:aP sh x*sh.n<=cur.toList.length:=by simp;omega
   have a9: ∀o,g.F b o->new[o]? =cur[o]? :=by
    intro o hf;have:=((hF o).1 hf).2;simp only[new,List.getElem?_toArray];rw[aaD,aax Δ,aan,if_pos this,aaW]
   have f1:Fr (λ o=> ∀i,o≠ .hand i) w (w.setRow b new) g g:=Fr.setRow f a9 λ ow k e=>by
    rw[p]at e;cases e;exact k 0 rfl
   have Y:Rel E C s a (w.setRow b new) g:=h.world f1 (h.base.setRow p f a9) rfl;have B:wM (w.setRow b new) g.F sh I (cur.toList.take (aP sh x*sh.n)++news):=Q.els _ _ _ _ (D.keeps f1.keeps) (hn.keeps f1.keeps)
   have S:new.toList.take (aP sh I*sh.n)=cur.toList.take (aP sh x*sh.n)++news:=by
    have e1:new.toList=(cur.toList.take (aP sh x*sh.n)++news)++cur.toList.drop (aP sh x*sh.n+news.length):=rfl;rw[e1,List.take_left'];rw[aaq,aaE,abP a8,a4,A,abO]
   have U:new.size=k*sh.n:=by
    rw[←R];simp[new];simp at a8;omega
   refine⟨.slice (some ⟨b,0,none⟩) (aP sh x+aP sh y) k,w.setRow b new,?_⟩
   cases G with
   |false=>
    refine⟨g,by rw[hv];exact m,Y,.inr ⟨b,k,new,et,by rw[A],Ω,hk,p,setRow_heap w b cur new et _ f,U,by rw[S];exact(rC q).2 B,λ o=> ?_⟩,rfl,λ _=> .inl ⟨b,k,aP sh x+aP sh y,hv,rfl⟩⟩;have:=hF o;simpa using this
   |true=>
    have b0:Keeps (w.setRow b new) (w.setRow b new) g.F (g.freeze b (aP sh I*sh.n)).F:=⟨λ _ _ hf=> .inl hf,λ _ _ _=>rfl⟩
    have f2:Fr (λ o=> ∀i,o≠ .hand i) (w.setRow b new) (w.setRow b new) g (g.freeze b (aP sh I*sh.n)):=⟨b0,λ b' ow k e=>⟨e,rfl,λ o hf=>by
     rcases hf with hf|⟨rfl,_⟩
     ·exact hf
     ·rw[p]at e;cases e;exact absurd rfl (k 0)⟩⟩
    refine⟨g.freeze b (aP sh I*sh.n),by rw[hv];exact m,Y.world f2 (Y.base.freeze p _) rfl,.inr ⟨b,k,new,et,by rw[A],Ω,hk,p,setRow_heap w b cur new et _ f,U,by rw[S];exact(rC q).2 (B.keeps b0),λ o=> ?_⟩,rfl,λ e=>by cases e⟩;simp only[Gh.freeze,hF o,true_and];constructor
    ·rintro(h|h)
     ·have:aP sh x*sh.n<=aP sh I*sh.n:=aaA _ Ω;omega
     ·exact h
    ·intro h;exact .inr h
  ·refine grow (some ⟨b,0,none⟩) k (cur.toList.take (aP sh x*sh.n)) ?_ D Ω hv;rw[K];refine run_firstCells_some w.drew sh.n (aP sh x) ⟨b,0,none⟩ _ k _ a6 λ j u hu=> ?_;have e1:(⟨b,0,none⟩:Addr).add j=⟨b,j,none⟩:=by unfold Addr.add;split<;>simp_all
   rw[e1];show w.cell? _=_;rw[cell_of_heap f];rw[aan]at hu;split at hu
   ·simpa using hu
   ·cases hu
theorem sG.move {ow ow':aF} {B f:Option Nat} {sh:Sh} {x:El sh} {v:Value} (k:Keeps w w' g.F g'.F) (l: ∀z,B=some z->g.own z=some ow->g'.own z=some ow'/\w'.heap[z]? =w.heap[z]? /\ ∀o,g'.F z o ↔ g.F z o)
 (m: ∀z,B=some z->g.own z=some ow->f=some z) (p:B=none->f=none) (h:sG w g ow B sh x v):sG w' g' ow' f sh x v:=by
 unfold sG at h ⊢;split
 ·rename_i hs;rw[if_pos hs]at h;obtain⟨q,i,e⟩:=h;refine⟨q,i.move k λ z d=>l z (e▸d) (i.nC d),?_⟩
  cases d:blk v with
  |none=>rw[d]at e;rw[p e.symm]
  |some z=>rw[m z (e▸d) (i.nC d)]
 ·rename_i hs;rw[if_neg hs]at h;exact jM.keeps k _ _ _ h
theorem jm.append {ow:aF} {bx b1 N:Nat} {es:List Sh} {x y:List (Option (ElA es))} {C G:LV} (hx:jm w g (.hand 0) bx es x C) (hy:jm w g (.hand 1) b1 es y G) (hk:Keeps w w' g.F g'.F)
 (I:g.own bx≠some (.hand 1)) (O: ∀z,g.own z=some (.hand 0)\/g.own z=some (.hand 1)->z≠bx->z≠N/\g'.own z=some ow/\w'.heap[z]? =w.heap[z]? /\ ∀o,g'.F z o ↔ g.F z o):
 jm w' g' ow N es (x++y) (C++G):=by
 obtain⟨U,Bx,K,W,Y⟩:=hx;obtain⟨Z,Q,b4,a0,a3⟩:=hy
 let pr:(Nat->Option Nat)->aF->Nat->Option Nat:=λ B o k=>(B k).filter λ z=>decide (g.own z=some o)
 have f: ∀B o k z,pr B o k=some z->B k=some z/\g.own z=some o:=by
  intro B o k z h;simp only[pr,acB,decide_eq_true_eq]at h;exact h
 have q: ∀B o k z,B k=some z->g.own z=some o->pr B o k=some z:=by
  intro B o k z h1 h2;simp only[pr,acB,decide_eq_true_eq];exact⟨h1,h2⟩
 have t: ∀B o k,B k=none->pr B o k=none:=by
  intro B o k h;simp only[pr,h,Option.filter_none]
 let B:Nat->Option Nat:=λ k=>if k<x.length*es.length then pr Bx (.hand 0) k else pr Q (.hand 1) (k-x.length*es.length)
 have l: ∀k z,pr Bx (.hand 0) k=some z->g.own z=some (.hand 0)/\z≠bx/\Bx k=some z:=λ k z h=>⟨(f _ _ _ _ h).2,λ e=>K k (e▸(f _ _ _ _ h).1),(f _ _ _ _ h).1⟩;have m: ∀k z,pr Q (.hand 1) k=some z->g.own z=some (.hand 1)/\z≠bx/\Q k=some z:=λ k z h=>⟨(f _ _ _ _ h).2,λ e=>I (e▸(f _ _ _ _ h).2),(f _ _ _ _ h).1⟩;refine⟨by simp[U,Z,abO],B,λ k d=> ?_,λ i j z D E=> ?_,λ i e R=> ?_⟩
 ·simp only[B]at d;split at d
  ·obtain⟨A,p,_⟩:=l _ _ d;exact(O N (.inl A) p).1 rfl
  ·obtain⟨A,p,_⟩:=m _ _ d;exact(O N (.inr A) p).1 rfl
 ·simp only[B]at D E;split at D<;>split at E
  ·exact W i j z (l _ _ D).2.2 (l _ _ E).2.2
  ·have A:=(l _ _ D).1;have p:=(m _ _ E).1;rw[A]at p;cases p
  ·have A:=(m _ _ D).1;have p:=(l _ _ E).1;rw[A]at p;cases p
  ·have:=a0 _ _ z (m _ _ D).2.2 (m _ _ E).2.2;omega
 ·rcases aaG i x.length with L|M
  ·rw[aax L]at R;obtain⟨S,r2⟩:=Y i e R;have b7:i*es.length+es.length<=x.length*es.length:=by rw[←abx];exact aaA _ L
   have ec:((C++G).drop (i*es.length)).take es.length=(C.drop (i*es.length)).take es.length:=by
    rw[List.drop_append_of_le_length Ω,abE (by rw[abh];omega)]
   rw[ec];refine⟨S,λ k c v hc hv=> ?_⟩
   have b8:k<es.length:=by
    rw[←S];rcases aaG k ((C.drop (i*es.length)).take es.length).length with h|h
    ·exact h
    ·rw[aal h]at hv;cases hv
   have eB:B (i*es.length+k)=pr Bx (.hand 0) (i*es.length+k):=if_pos Ω;show sG w' g' ow (B (i*es.length+k)) _ _ _;rw[eB];exact(r2 k c v hc hv).move hk (λ z d u=>(O z (.inl u) (λ e=>K _ (e▸d))).2) (λ z d u=>q _ _ _ _ d u) (λ d=>t _ _ _ d)
  ·rw[aaB M]at R;obtain⟨S,r2⟩:=a3 _ e R;have a9:x.length*es.length<=i*es.length:=aaA _ M
   have ei:i*es.length=x.length*es.length+(i-x.length)*es.length:=by
    rw[←abO];congr 1;omega
   have ec:((C++G).drop (i*es.length)).take es.length=(G.drop ((i-x.length)*es.length)).take es.length:=by
    rw[List.drop_append,aa3 Ω,abU];congr 2;omega
   rw[ec];refine⟨S,λ k c v hc hv=> ?_⟩
   have eB:B (i*es.length+k)=pr Q (.hand 1) ((i-x.length)*es.length+k):=by
    have e1:i*es.length+k-x.length*es.length=(i-x.length)*es.length+k:=by omega
    rw[←e1];exact if_neg Ω
   show sG w' g' ow (B (i*es.length+k)) _ _ _;rw[eB];exact(r2 k c v hc hv).move hk (λ z d u=>(O z (.inr u) (λ e=>I (e▸u))).2) (λ z d u=>q _ _ _ _ d u) (λ d=>t _ _ _ d)
theorem jm.one {ow:aF} {b:Nat} {es:List Sh} {y:List (ElA es)} {cs:LV} (h:jm w g ow b es (y.map some) cs): ∀u,u∈cs->u.oneCell'=true:=by
 obtain⟨i,B,D,E,l⟩:=h;intro u m;obtain⟨k,d,rfl⟩:=aay m;rw[i,aaH]at d
 have p:0<es.length:=by
  rcases ab5 es.length with e|e
  ·rw[e,Nat.mul_zero]at d;omega
  ·exact e
 have q:k/es.length<y.length:=Nat.div_lt_of_lt_mul (by rw[abW];exact d);have t:=Nat.mod_lt k p;have z:k/es.length*es.length+k % es.length=k:=by rw[abW];exact Nat.div_add_mod k es.length
 have A:(y.map some)[k/es.length]? =some (some y[k/es.length]):=by rw[aau,aac q];rfl
 have f:k % es.length<(cellsOf es y[k/es.length]).length:=by
  have:=congrArg List.length (uY es y[k/es.length]);simp only[aaH]at this;rw[this];exact t
 obtain⟨v,hv,C,_⟩:=jm.row l A (aac f);rw[z]at hv;rw[aac (by rw[i,aaH];exact d)]at hv;rw[aak hv];refine(C.top.plain ?_).2;show(cellsOf es y[k/es.length])[k % es.length].sh.top≠ .dead;cases(cellsOf es y[k/es.length])[k % es.length].sh<;>simp[Sh.top]
theorem YE (h:Rel E C s a w g) {es:List Sh} {x y:List (Option (ElA es))} {v u:Value} (ho:zK w g (.hand 0) false (.dl es) x v) (hu:zK w g (.hand 1) false (.dl es) y u) {t tx e e':TypeId} {ty:TypeId} {i:TypeInfo} {z:Value}
 (ht:P.underlying t=some (.slice e)) (b0:P.underlying tx=some (.slice e')) (hi:P.info? e=some i) (hz:i.zero=some z) (U:i.size=es.length) (c7:z.cells.size=es.length) (c8:i.bytes<=128) (b2:x.length+y.length<=ay):
 ∃v' w' g',(Builtin.append_ #[t,tx] ty #[v,u]).run P w= .ok v' w'/\Rel E C s a w' g'/\jZ w' g' (.hand 0) ⟨.dl es,.own,List.append x y⟩ v'/\isAgg v'=false:=by
 have hm:ay=1099511627776:=by decide
 rw[hm]at b2;have N: ∀b ow,g.own b=some ow->b<w.heap.size:=λ b ow e=>(h.base.own b ow e).2;have b3: ∀b o,g.F b o->b<w.heap.size:=λ b o e=>(h.base.fz b o e).2
 have c9: ∃news b1,Src P es.length tx u y.length news w/\news.length=y.length*es.length/\(∀c,c∈news->c.oneCell'=true)/\jm w g (.hand 1) b1 es y news:=by
  rcases hu with⟨hv,hl⟩|⟨b1,k,cur,et,hv,W,hk,d2,l,D,⟨⟨_,A⟩,m⟩,hF⟩
  ·have hl:y.length=0:=by simpa [aP]using hl
   have:y= []:=aav hl;subst this;exact⟨[],0,by rw[hv];exact Src.ofNil w b0 0,Θ,Θ,Θ,λ _=>none,λ _=>Θ,λ _ _ _ h=>by simp at h,λ i x h=>by simp at h⟩
  ·simp only[aP,Sh.n]at m hv W A;have O:(cur.toList.take (y.length*es.length)).length=y.length*es.length:=m.1;refine⟨cur.toList.take (y.length*es.length),b1,?_,O,A,m⟩;rw[hv];refine Src.ofSlice w b0 ⟨b1,0,none⟩ _ k _ O (λ j c S=> ?_) (λ c S=>A c S);have e1:(⟨b1,0,none⟩:Addr).add j=⟨b1,j,none⟩:=by unfold Addr.add;split<;>simp_all
   rw[e1,cell_of_heap l];rw[aan]at S;split at S
   ·simpa using S
   ·cases S
 obtain⟨news,b1,hs,O,b5,b6⟩:=c9;have Y:Src P i.size tx u y.length news w:=by rw[U];exact hs
 have p:(List.append x y).length=x.length+y.length:=aaq
 let ρ:aF->aF:=λ o=>if o= .hand 1 then .hand 0 else o
 have b7: ∀o,(∀i,o≠ .hand i)->ρ o=o:=λ o ho=>if_neg (ho 1);have e3: ∀o,o= .hand 0\/o= .hand 1->ρ o= .hand 0:=by rintro o (rfl|rfl)<;>rfl
 have grow: ∀(base:Option Addr) (d:Nat) (q:LV) (bx:Nat),(Builtin.firstCells i.size x.length (.slice base x.length d)).run P w.drew= .ok q.toArray w.drew->(∀c,c∈q->c.oneCell'=true)->jm w g (.hand 0) bx es x q->g.own bx≠some (.hand 1)->d<x.length+y.length->
  v= .slice base x.length d-> ∃v' w' g',(Builtin.append_ #[t,tx] ty #[v,u]).run P w= .ok v' w'/\Rel E C s a w' g'/\jZ w' g' (.hand 0) ⟨.dl es,.own,List.append x y⟩ v'/\isAgg v'=false:=by
  intro base d q bx b8 d3 hx d5 hg hv
  have Q:Builtin.nextslicecap (x.length+y.length) d*i.bytes<=281474976710656:=growslice_fits hg (by
   have:(x.length+y.length)*i.bytes<=1099511627776*128:=Nat.mul_le_mul Ω c8;omega)
  have L:=run_append_grow_src (P:=P) w t tx ty e i z ht hi hz base x.length d q b8 u y.length news Y hg Ω Q;have d6:=grownCap_ge w (x.length+y.length) d e
  have d7:grownCap w (x.length+y.length) d e<=maxLen:=grownCap_le_maxLen w _ _ e (by
   have:x.length+y.length<=1099511627776:=by omega
   exact aaP this Ξ)
  have rd:Rel E C s a w.drew g:=h.world (Fr.drew _) h.base.drew rfl
  let cells:Array Value:=(q++news).toArray++Builtin.zeroCells z.cells (grownCap w (x.length+y.length) d e-(x.length+y.length))
  have f:=Fr.new (w:=w.drew) (K:=λ o=> ∀i,o≠ .hand i) N b3 (ρ:=ρ) (λ o ho=>b7 o ho) (.cells cells e) (.hand 0)
  have M:jm (w.drew.alloc (.cells cells e)) (g.new ρ w.drew.heap.size (.hand 0)) (.hand 0) w.drew.heap.size es (x++y) (q++news):=by
   refine hx.append b6 (Keeps.trans (b:=w.drew) (G:=g.F) ⟨λ _ _ h=>h,λ _ _ _=>rfl⟩ f.keeps) d5 λ zz Z a6=> ?_;have d8:zz<w.heap.size:=by rcases Z with h|h<;>exact N _ _ h
   have b9:zz<w.drew.heap.size:=d8;refine⟨Ω,?_,nM b9,λ o=>ab7⟩;simp only[Gh.new];rw[if_neg Ω];rcases Z with h|h<;>rw[h]<;>rfl
  have a7:(q++news).length=(x.length+y.length)*es.length:=M.1.trans (by rw[aaq]);refine⟨_,_,g.new ρ w.drew.heap.size (.hand 0),by rw[hv];exact L,rd.world f (rd.base.new _ _ (λ _ _ _ e=>by cases e;rfl) _) rfl,?_,rfl⟩;simp only[jZ,Sh.qR,if_true];refine .inr ⟨w.drew.heap.size,grownCap w (x.length+y.length) d e,cells,e,?_,?_,d7,by simp[Gh.new],nK,?_,⟨⟨rfl,?_⟩,?_⟩,λ o=>⟨λ R=> ?_,λ R=>by cases R.1⟩⟩
  ·simp only[aP,p];rfl
  ·simp only[aP,p];exact d6
  ·simp only[cells,Array.size_append,acf,size_zeroCells,c7,a7,Sh.n,←abO];congr 1;omega
  ·simp only[aP,p,Sh.n,cells];rw[Array.toList_append,List.take_left' (by simpa using a7)];intro c S;rcases aap.1 S with h|h
   ·exact d3 c h
   ·exact b5 c h
  ·simp only[aP,p,Sh.n,cells];rw[Array.toList_append,List.take_left' (by simpa using a7)];exact M
  ·have R:g.F w.heap.size o:=R;have:=b3 _ _ R;omega
 rcases ho with⟨hv,a8⟩|⟨b,k,cur,et,hv,W,hk,B,l,D,⟨⟨_,A⟩,m⟩,hF⟩
 ·have a8:x.length=0:=a8;have d9:x= []:=aav a8;subst d9;have hx:jm w g (.hand 0) w.heap.size es [] []:=⟨Θ,λ _=>none,λ _=>Θ,λ _ _ _ h=>by simp at h,λ i x h=>by simp at h⟩;by_cases c0:y.length=0
  ·rw[c0]at Y;have hy:y= []:=aav c0;subst hy;refine⟨.slice none 0 0,w,g,by rw[hv];exact Ei w t tx ty e i ht hi u news Y,h,?_,rfl⟩;simp only[jZ,Sh.qR,if_true];exact .inl ⟨rfl,rfl⟩
  ·refine grow none 0 [] w.heap.size (run_firstCells_none w.drew _ _ _ _) Θ hx (λ e=>by have:=N _ _ e;omega) Ω (by rw[hv];rfl)
 ·simp only[aP,Sh.n]at m hv W D hF A;have e0:=m.1;have c1:x.length*es.length<=cur.toList.length:=by rw[show cur.toList.length=cur.size from abd,D];exact aaA _ W
  have a1:g.own b≠some (.hand 1):=by rw[B];simp
  by_cases I:x.length+y.length<=k
  ·have Q:x.length*es.length+news.length<=cur.size:=by
    rw[O,←abO,D];exact aaA _ I
   have L:=FQ (P:=P) w t tx ty e i ht hi b x.length k u y.length news Y l I (by rw[U];exact Q);rw[U]at L
   let new:=(cur.toList.take (x.length*es.length)++news++cur.toList.drop (x.length*es.length+news.length)).toArray
   have c2: ∀o,g.F b o->new[o]? =cur[o]? :=by
    intro o R;have:=((hF o).1 R).1;cases this
   have f1:Fr (λ o=> ∀i,o≠ .hand i) w (w.setRow b new) g g:=Fr.setRow l c2 λ ow k e=>by
    rw[B]at e;cases e;exact k 0 rfl
   have r1:Rel E C s a (w.setRow b new) g:=h.world f1 (h.base.setRow B l c2) rfl;have r2:Rel E C s a (w.setRow b new) (g.ren ρ):=r1.world (Fr.ren _ g λ o ho=>b7 o ho) (r1.base.ren ρ) rfl
   have M:jm (w.setRow b new) (g.ren ρ) (.hand 0) b es (x++y) (cur.toList.take (x.length*es.length)++news):=by
    refine m.append b6 (show Keeps w (w.setRow b new) g.F g.F from f1.keeps) a1 λ zz Z a6=> ?_;refine⟨a6,?_,setRow_other w b zz new a6,λ o=>ab7⟩;simp only[Gh.ren];rcases Z with h|h<;>rw[h]<;>rfl
   have a2:new.toList.take ((x.length+y.length)*es.length)=cur.toList.take (x.length*es.length)++news:=by
    have e1:new.toList=(cur.toList.take (x.length*es.length)++news)++cur.toList.drop (x.length*es.length+news.length):=rfl;rw[e1,List.take_left'];rw[aaq,aaE,abP c1,O,abO]
   have c3:new.size=k*es.length:=by
    rw[←D];simp[new];simp at c1;omega
   refine⟨.slice (some ⟨b,0,none⟩) (x.length+y.length) k,w.setRow b new,g.ren ρ,by rw[hv];exact L,r2,?_,rfl⟩;simp only[jZ,Sh.qR,if_true];refine .inr ⟨b,k,new,et,?_,?_,hk,by simp only[Gh.ren,B];rfl,setRow_heap w b cur new et _ l,c3,⟨⟨rfl,?_⟩,?_⟩,λ o=>⟨λ R=> ?_,λ R=>by cases R.1⟩⟩
   ·simp only[aP,p]
   ·simp only[aP,p];exact I
   ·simp only[aP,p,Sh.n];rw[a2];intro c S;rcases aap.1 S with h|h
    ·exact A c h
    ·exact b5 c h
   ·simp only[aP,p,Sh.n];rw[a2];exact M
   ·have:=((hF o).1 R).1;cases this
  ·refine grow (some ⟨b,0,none⟩) k (cur.toList.take (x.length*es.length)) b ?_ A m a1 Ω hv;rw[U];refine run_firstCells_some w.drew es.length x.length ⟨b,0,none⟩ _ k _ e0 λ j u hu=> ?_;have e1:(⟨b,0,none⟩:Addr).add j=⟨b,j,none⟩:=by unfold Addr.add;split<;>simp_all
   rw[e1];show w.cell? _=_;rw[cell_of_heap l];rw[aan]at hu;split at hu
   ·simpa using hu
   ·cases hu
theorem zG (k:yu P E.ty) {t:TypeId} {c:CV} (h:Gx E t c=true):c.sh.qR=true/\ ∃e info z,P.underlying t=some (.slice e)/\P.info? e=some info/\info.zero=some z/\info.size=c.sh.n/\z.cells.size=c.sh.n/\info.bytes<=128:=by
 obtain⟨hs,e,j,info,z,m,l,f,p,g,d,i⟩:=Eu k h;refine⟨hs,e,info,z,l,d.inf,d.zero,i,?_,d.bytes f.2⟩;have:=congrArg List.length d.cells;rw[g]at this;simpa [kX]using this
theorem Qb {sh:Sh} (h:Y8 sh=true):sh.qK=true:=by cases sh<;>simp_all [Y8,Sh.qK]
theorem Rel.aiU (h:Rel E C s a w g) {d:Nat} (S:DOk E d) {x:Operand} {p:Pl} {q:CV} {y:El q.sh} {v:Value} (I:Go.AM.at_ E s x= .ref p false 1) (Q:Y8 q.sh=true) (z:q.tg= .own)
 (R:wZ w g (.hand 0) false q.sh y v) (L:isAgg v=false) (u:Ahead w g q.sh q.x (a.eval x) v):
 ∃g',Rel E C (s.dW [.tm d (.ext p q ⟨q.sh,q.tg,y⟩)]) (a.put (some d) v) w g':=by
 have A:=Qb Q
 let g3:Gh:=⟨g.at_,λ b=>match g.own b with
  |some (.hand i)=>if blk v=some b then some (.tm d 0)else some (.tm d 1)
  |o=>o,g.F⟩
 have U:Fr (λ o=> ∀i,o≠ .hand i) w w g g3:=⟨Keeps.refl _ _,λ b ow k e=>⟨by
  simp only[g3,e];cases ow<;>first|rfl|exact absurd rfl (k _),rfl,λ _ h=>h⟩⟩
 have m: ∀b ow,g3.own b=some ow-> ∃ow',g.own b=some ow':=by
  intro b ow e
  cases W:g.own b with
  |none=>simp only[g3,W]at e;cases e
  |some ow'=>exact⟨ow',rfl⟩
 have Y:Base C.w0 C.F0 C.X w g3:=⟨h.base.os,h.base.tape,h.base.output,h.base.size,h.base.blk,λ b ow e=>by
  obtain⟨ow',M⟩:=m b ow e;exact h.base.own b ow' M,h.base.keeps,h.base.fz,λ b ow cs t f e Z=>by
  obtain⟨ow',M⟩:=m b ow e;exact h.base.frz b ow' cs t f M Z⟩
 have D:Rel E C s a w g3:=h.world U Y rfl;obtain⟨k1,k2,k3,k4⟩:=aJ D I Θ
 have N:wZ w g3 (.tm d 0) false q.sh y v:=R.owner (g':=g3) (show g3.F=g.F from rfl) λ b G=>by
  have:=R.nC G;simp only[g3,this,if_pos G]
 have O:ahW w g3 (.tm d 1) q v (a.eval x):=by
  rcases u with u|⟨u,G⟩
  ·exact .inl u
  ·exact .inr (u.owner (g':=g3) (show g3.F=g.F from rfl) λ b B=>by
    have:=u.nC B;simp only[g3,this,if_neg (G b B)])
 refine⟨g3,D.VL S (Fr.refl _ _ _) D.base rfl ?_⟩;refine TV.step (K:=λ _=>True) (Fr.refl _ _ _) (λ i=>trivial) (D.QC d _ v (Fr.refl _ _ _) rfl) (t:= .ext p q ⟨q.sh,q.tg,y⟩) ?_;refine⟨k1,k2,k3,L,?_,Q,z,rfl,λ e he=>⟨a.eval x,?_,O⟩⟩
 ·unfold jZ;simp only[z,if_pos (gu A)];exact(qg A).2 N
 ·obtain⟨q1,q2⟩:=k4 _ he;rw[aH q1]at q2;have:=congrArg (λ l=>l[0]?) q2;simp only[aan,aas,aa0]at this;simpa using this.symm
theorem ZX (hT:yu P E.ty) {cl:Call} {x y:Operand} (ho:o.op= .call cl) (hb:cl.callee= .builtin .append) (hx:cl.args.toList= [x,y]):sF P E C o:=by
 intro s a w g us d Q h K hd f;simp only[plan,ho,K,hb,hx]at f;obtain⟨⟨ag,cs,e6⟩,ht,f⟩:=aS f;simp only[]at f;split at f
 ·rename_i es l;obtain⟨⟨e7,ds,e8⟩,c3,f⟩:=aS f;simp only[]at f;split at f
  ·rename_i a9 m t u L _;obtain⟨B,f⟩:=bf f;simp only[aae]at B;split at f
   ·rename_i m1 c4;obtain⟨k,f⟩:=lH f;obtain rfl:=au f;have k:=of_decide_eq_true k;obtain⟨a1,em⟩:=lg c4;have a1:a9=es:=by simpa using a1
    subst a1;have em:m1=m:=em;subst em;obtain⟨g1,r1,k1,k2,_,_⟩:=Gw h (hs:=[]) (hv:=[]) rfl ht;obtain⟨g2,r2,k3,k4,_,_⟩:=Gw r1 k2 c3;simp only[abU]at k4;rw[aH k1,aH k3]at k4;obtain⟨v1,ws,ev,Z,v2,c8,c9,D,O⟩:=k4;have O:c8= []:=O;subst O c9;have d0:a.eval x=v1/\a.eval y=v2:=by simpa using ev
    obtain⟨rfl,rfl⟩:=d0;simp only[jZ,Sh.qR,if_true]at Z D;obtain⟨_,el,info,z,hu,M,hz,a2,a3,a4⟩:=zG hT B.1;obtain⟨_,d3,_,_,a5,_⟩:=zG hT B.2;obtain⟨v',w',g',N,r3,d5,G⟩:=YE (ty:=o.type) r2 Z D hu a5 M hz a2 a3 a4 k
    obtain⟨g3,r4,_,_⟩:=r3.y9 hd (v:=v') (ag:=false) (cs:=[⟨.dl a9,.own,List.append l m1⟩]) G (by
     rw[aH G];exact⟨v',[],rfl,d5,rfl⟩)
    have a6:(execOp a.eval o).run P w= .ok (.value v') w':=by
     have i:cl.args= #[x,y]:=by apply abu.1;simpa using hx
     have A:cl.argTypes= #[t,u]:=by apply abu.1;simpa using L
     obtain⟨callee,args,argTypes⟩:=cl;simp only at hb i A;subst hb i A;simp only[execOp,ho,resolve,invoke,builtin,acW,abo,acP,Sem.run_bind,Sem.run_pure,Result.andThen_ok];simp[N]
    unfold Oper.wp;rw[a6,Oper.upon_value,K,eP,eP];exact⟨g3,r4⟩
   ·exact(aj f).elim
  ·exact(aj f).elim
 obtain⟨ds,I,f⟩:=aS f;split at f
 ·rename_i q e t u L _ _;obtain⟨B,f⟩:=bf f;simp only[aae]at B;obtain⟨r,hr,f⟩:=aS f;obtain⟨g1,r1,k1,k2,_,_⟩:=Gw h (hs:=[]) (hv:=[]) rfl ht;simp only[abU]at k2;rw[aH k1]at k2;obtain⟨v,ws,ev,R,O⟩:=k2;have d6:v=a.eval x:=by simpa using(abJ ev).1.symm
  subst d6;obtain⟨S,b1,d7,yy,xy,hc,rfl,d8,k⟩:=YD hr;obtain⟨_,el,info,z,hu,M,hz,a2,a3,a4⟩:=zG hT B.1;obtain⟨e4,d3,_,_,a5,_⟩:=zG hT B.2
  have d9:Rd w g1 e (a.eval y):=by
   unfold Tj at I;split at I
   ·rename_i sh hy _;obtain⟨U,I⟩:=bf I;have:=au I;simp only[abk,and_true]at this;subst this
    have b2:a.eval y= .slice none 0 0:=by
     rcases h.at_ y with⟨_,e⟩|e
     ·exact e
     ·rw[hy]at e;exact e.elim
    rw[b2];exact Rd.of (ow:= .hand 0) (Jd U)
   ·exact QA r1 I
  have U:=gu S;obtain⟨news,b3,e0⟩:=src_of (P:=P) a5 S d7 hc d9
  have b4:zK w g1 (.hand 0) (match q.tg with| .tip=>true|_=>false) q.sh q.x (a.eval x):=by
   unfold jZ at R;rcases b1 with e|e<;>rw[e]at R<;>simp only[if_pos U]at R<;>simpa [e]using R
  obtain⟨v',w',g',N,r2,W,G,Y⟩:=OJ (ty:=o.type) r1 S d8 b4 hu M hz a2 a3 a4 k b3 e0
  have D:jZ w' g' (.hand 0) ⟨q.sh,q.tg,xy⟩ v':=by
   unfold jZ;rcases b1 with e|e<;>rw[e]at W ⊢ <;>simp only[if_pos U]<;>simpa using W
  have a6:(execOp a.eval o).run P w= .ok (.value v') w':=by
   have i:cl.args= #[x,y]:=by apply abu.1;simpa using hx
   have A:cl.argTypes= #[t,u]:=by apply abu.1;simpa using L
   obtain⟨callee,args,argTypes⟩:=cl;simp only at hb i A;subst hb i A;simp only[execOp,ho,resolve,invoke,builtin,acW,abo,acP,Sem.run_bind,Sem.run_pure,Result.andThen_ok];simp[N]
  unfold Oper.wp;rw[a6,Oper.upon_value,K];simp only[cond_eq_ite]at f;split at f
  ·obtain⟨vs,hv,f⟩:=aS f;obtain rfl:=au f;rw[eP];unfold aia at hv;split at hv
   ·rename_i p L;split at hv
    ·rename_i e5;obtain⟨a7,hv⟩:=bf hv;obtain rfl:=au hv;simp only[aae]at a7
     have b5:q.tg= .own:=by
      have:=a7.1;unfold Tg.G9 at this;split at this<;>simp_all
     have b6:(match q.tg with| .tip=>true|_=>false)=false:=by rw[b5]
     rw[b6]at W;exact r2.aiU hd L a7.2 b5 ((qg S).1 W) G (Y b6)
    ·exact(aj hv).elim
   ·exact(aj hv).elim
  ·obtain rfl:=au f;rw[eP]
   obtain⟨g3,r3,_,_⟩:=r2.y9 hd (v:=v') (ag:=false) (cs:=[⟨q.sh,q.tg,xy⟩]) G (by
    rw[aH G];exact⟨v',[],rfl,D,rfl⟩)
   exact⟨g3,r3⟩
 ·exact(aj f).elim
def nR:(sh:Sh)->El sh->El sh->Nat->Nat->El sh
 | .sl _,l,m,lo,n=>List.append (List.append (List.take lo l) (List.take n m)) (List.drop (lo+n) l)
 | .rsl _,l,m,lo,n=>List.append (List.append (List.take lo l) (List.take n m)) (List.drop (lo+n) l)
 |_,x,_,_,_=>x
theorem O5 {α:Type} (l m:List α) {lo n:Nat} (d:lo+n<=l.length) (e:n<=m.length):(List.append (List.append (List.take lo l) (List.take n m)) (List.drop (lo+n) l)).length=l.length:=by
 show((List.take lo l++List.take n m)++List.drop (lo+n) l).length=l.length;simp;omega
theorem JK {sh:Sh} (x y:El sh) {lo n:Nat} (d:lo+n<=aP sh x) (e:n<=aP sh y):aP sh (nR sh x y lo n)=aP sh x:=by
 cases sh with
 |sl es=>exact O5 x y d e
 |rsl ss=>exact O5 x y d e
 |_=>rfl
theorem NQ {α:Type} {n:Nat} {R:α->LV->Prop} {L:List α->LV->Prop} (d:KH n R L) (x y:List α) (cs ds:LV) (e:L x cs) (f:L y ds) (lo k:Nat):
 L (List.append (List.append (List.take lo x) (List.take k y)) (List.drop (lo+k) x)) (cs.take (lo*n)++ds.take (k*n)++cs.drop ((lo+k)*n)):=
 d.append _ _ _ _ (d.append _ _ _ _ (d.take x cs lo e) (d.take y ds k f)) (d.drop x cs (lo+k) e)
theorem JJ {F:Fz} {sh:Sh} {x y:El sh} {cs ds:LV} (d:wM w F sh x cs) (e:wM w F sh y ds) (lo k:Nat):
 wM w F sh (nR sh x y lo k) (cs.take (lo*sh.n)++ds.take (k*sh.n)++cs.drop ((lo+k)*sh.n)):=by
 cases sh with
 |sl es=>exact NQ (jW es) x y cs ds d e lo k
 |rsl ss=>exact NQ (kL ss) x y cs ds d e lo k
 |_=>exact d.elim
theorem Il {sh:Sh} (x y:El sh) (lo:Nat):nR sh x y lo 0=x:=by
 cases sh with
 |sl es=>
  show(List.take lo x++List.take 0 y)++List.drop (lo+0) x=x;rw[show List.take 0 y= []from rfl,aaM,aa0];exact abb lo x
 |rsl ss=>
  show(List.take lo x++List.take 0 y)++List.drop (lo+0) x=x;rw[show List.take 0 y= []from rfl,aaM,aa0];exact abb lo x
 |_=>rfl
theorem Ut {c d r:CV} {lo n:Nat} (h:uU c d lo n=some r):c.sh.qK=true/\c.tg= .own/\d.tg≠ .dead/\ ∃y:El c.sh,jY d c.sh=some y/\r=⟨c.sh,.own,nR c.sh c.x y lo n⟩:=by
 obtain⟨sh,q,x⟩:=c;obtain⟨e,i,l⟩:=d
 cases sh with
 |sl es=>
  cases q with
  |own=>
   cases e with
   |sl f=>
    simp only[uU,cond_eq_ite]at h;split at h
    ·rename_i p;have g:jY ⟨.sl f,.pure,l⟩ (.sl es)=jY ⟨.sl f,i,l⟩ (.sl es):=rfl;rw[g]at h;cases m:jY ⟨.sl f,i,l⟩ (.sl es)with
     |none=>rw[m]at h;cases h
     |some y=>
      rw[m]at h;cases h;exact⟨rfl,rfl,by rintro rfl;simp[Tg.le]at p,y,rfl,rfl⟩
    ·cases h
   |_=>simp[uU]at h
  |_=>cases e<;>simp[uU]at h
 |rsl ss=>
  cases q with
  |own=>
   cases e with
   |rsl f=>
    simp only[uU,cond_eq_ite]at h;split at h
    ·rename_i p;have g:jY ⟨.rsl f,.pure,l⟩ (.rsl ss)=jY ⟨.rsl f,i,l⟩ (.rsl ss):=rfl;rw[g]at h;cases m:jY ⟨.rsl f,i,l⟩ (.rsl ss)with
     |none=>rw[m]at h;cases h
     |some y=>
      rw[m]at h;cases h;exact⟨rfl,rfl,by rintro rfl;simp[Tg.le]at p,y,rfl,rfl⟩
    ·cases h
   |_=>simp[uU]at h
  |_=>cases e<;>simp[uU]at h
 |int k=>cases e<;>simp[uU]at h
 |bool=>cases e<;>simp[uU]at h
 |str=>cases e<;>simp[uU]at h
 |dl _=>cases e<;>simp[uU]at h
 |mp _ _=>cases e<;>simp[uU]at h
theorem YZ {ow:aF} {q:CV} {v:Value} {l:Nat} (hs:q.sh.qR=true) (h:jZ w g ow q v) (d:lenOf q=some l): ∃A k,v= .slice A l k/\l<=k:=by
 have f:q.tg≠ .dead:=by
  obtain⟨sh,p,x⟩:=q;rintro rfl;cases sh<;>simp[lenOf]at d<;>simp[Sh.qR]at hs
 have e:=(Cb hs d).1;rcases qF hs f h with⟨A,k,hv,i⟩|⟨ad,k,cs,hv,m,_⟩
 ·exact⟨A,k,by rw[hv,e,i],Ω⟩
 ·exact⟨some ad,k,by rw[hv,e],Ω⟩
theorem run_copy_none' (w:World) {t u e:TypeId} {ty:TypeId} {i:TypeInfo} (d:P.underlying t=some (.slice e)) (f:P.info? e=some i) {A B:Option Addr} {dl dk sl sk:Nat} (g:Nat.min sl dl=0):
 (Builtin.copy_ #[t,u] ty #[.slice A dl dk,.slice B sl sk]).run P w= .ok (goInt 0) w:=by
 have k:(Builtin.firstCells i.size 0 (.slice B sl sk)).run P w= .ok #[] w:=by
  cases B with
  |none=>exact run_firstCells_none w _ _ _ _
  |some ad=>
   have:=run_firstCells_some (P:=P) w i.size 0 ad sl sk [] Θ (λ j v h=>by simp at h);simpa using this
 cases A with
 |none=>simp[Builtin.copy_,run_underlying d,Builtin.lenOf,sizeOf,typeInfo,f,g,k]
 |some ad=>simp[Builtin.copy_,run_underlying d,Builtin.lenOf,sizeOf,typeInfo,f,g,k,storeCells]
theorem QD (w:World) {t u e:TypeId} {ty:TypeId} {i:TypeInfo} (k:P.underlying t=some (.slice e)) (l:P.info? e=some i) {b off dl dk sl sk:Nat} {ad:Addr} {news:LV} {n:Nat} (m:Nat.min sl dl=n)
 (p:news.length=n*i.size) (q:ad.spot=none) (y: ∀j,j<news.length->w.cell? ⟨ad.block,ad.off+j,none⟩=news[j]?) {cur:Array Value} {g:TypeId} (z:w.heap[b]? =some (.cells cur g (0,0)))
 (d:off+news.length<=cur.size) (A: ∀v,v∈news->v.oneCell'=true):
 (Builtin.copy_ #[t,u] ty #[.slice (some ⟨b,off,none⟩) dl dk,.slice (some ad) sl sk]).run P w=
  .ok (goInt n) (w.setRow b (cur.toList.take off++news++cur.toList.drop (off+news.length)).toArray):=by
 have B:(Builtin.firstCells i.size n (.slice (some ad) sl sk)).run P w= .ok news.toArray w:=run_firstCells_some w i.size n ad sl sk news p λ j v hv=>by
  have C:j<news.length:=by
   rcases aaG j news.length with h|h
   ·exact h
   ·simp[aal h]at hv
  have e:ad.add j=⟨ad.block,ad.off+j,none⟩:=by
   unfold Addr.add;split
   ·rename_i e;rw[e];cases ad;simp_all
   ·rfl
  rw[e,y j C,hv]
 have f:=run_storeCells_at P b off g news 0 cur w z (by simpa using d) A;simp only[aa0]at f;simp[Builtin.copy_,run_underlying k,Builtin.lenOf,sizeOf,typeInfo,l,m,B,f]
theorem Y4 {F:Fz} {sh:Sh} {x:El sh} {cs:LV} (h:wM w F sh x cs): ∀u,u∈cs->u.oneCell'=true:=by
 let g:Gh:=⟨λ _=>0,λ _=>none,F⟩
 have q: ∀(es:List Sh) (x:ElA es) (cs:LV),dX w g.F es x cs-> ∀u∈cs,u.oneCell'=true:=λ es x cs h=>
  uQ (kE (uK es x)) (cells_ok (g:=g) .hand es x 0 cs h)
 cases sh with
 |sl es=>
  have gen: ∀(l:List (ElA es)) cs,fH (dX w g.F es) l cs-> ∀u∈cs,u.oneCell'=true:=by
   intro l
   induction l with
   |nil=>intro cs h u d;rw[show cs= []from h]at d;cases d
   |cons e l f=>
    rintro cs ⟨i,k,rfl,m,p⟩ u d;rcases aap.1 d with d|d
    ·exact q es e i m u d
    ·exact f k p u d
  exact gen x cs h
 |rsl ss=>
  have gen: ∀(l:List (RT (ElA ss))) cs,jH w g.F (dX w g.F ss) l cs-> ∀u∈cs,u.oneCell'=true:=by
   intro l
   induction l with
   |nil=>intro cs h u d;rw[(kL ss).nil cs |>.1 h]at d;cases d
   |cons e l f=>
    intro cs h u d;obtain⟨i,k,rfl,m,p⟩:=((kL ss).cons e l cs).1 h;rcases aap.1 d with d|d
    ·exact uQ (kE (yh ss e)) (Dc (g:=g) .hand ss e 0 i m) u d
    ·exact f k p u d
  exact gen x cs h
 |_=>exact h.elim
theorem YX (hT:yu P E.ty) (h:Rel E C s a w g) {d:Nat} {t u:TypeId} {e:CV} {p:Pl} {lo:Nat} {M:Option Nat} {us:List Upd} {ty:TypeId} {x y:Value}
 (hy:Rd w g e y) (I:(yA E s d t u e p lo M).run=some us)
 (hx: ∀q l,aV s p 1=some [q]->q.sh.qR=true->lenOf q=some l-> ∃A k,(aB a w g p.root)[p.cell]? =some (.slice A l k)/\lo<=M.getD l/\M.getD l<=l/\l<=k/\x=Dw A k lo (M.getD l) q.sh.n):
 ∃(n:Nat) (w':World) (g':Gh) (L:List Upd),(Builtin.copy_ #[t,u] ty #[x,y]).run P w= .ok (goInt n) w'/\Rel E C (s.dW L) a w' g'/\us=L++[.tm d (OB .i64 (n:Nat))]:=by
 unfold yA at I;split at I
 ·exact(aj I).elim
 ·rename_i b0;obtain⟨cs,G,I⟩:=aS I;have G:=iD b0 G;obtain⟨q,rfl⟩:=Hu G;simp only[]at I;obtain⟨a1,I⟩:=bf I;simp only[aae]at a1;split at I
  ·rename_i l m hl hm;split at I
   ·rename_i r c8;split at I
    ·rename_i L hu;obtain rfl:=au I;obtain⟨i,b1,c9,yy,a2,rfl⟩:=Ut c8;have S:=gu i;obtain⟨_,el,info,z,b2,Y,hz,d0,g1,g2⟩:=zG hT a1.1;obtain⟨Z,g3,_,_,f0,_⟩:=zG hT a1.2;obtain⟨A,k,a3,k1,k2,k3,k4⟩:=hx q l G S hl;have b3:=(Cb S hl).1;have U:=(Cb Z hm).1;obtain⟨e1,rfl⟩:=lg a2;obtain⟨g4,g5,ex⟩:=e;simp only at e1;subst e1;simp only at *;obtain⟨v0,b4,b5,d1⟩:=qC h G;rw[a3]at b4;cases b4;obtain⟨f,qt,qx⟩:=q;simp only at *;subst b1
     let n:=Nat.min m (M.getD l-lo)
     have O:n=0->(∃B sk,y= .slice B m sk)-> ∃(n':Nat) (w':World) (g':Gh) (b6:List Upd),(Builtin.copy_ #[t,u] ty #[x,y]).run P w= .ok (goInt n') w'/\Rel E C (s.dW b6) a w' g'/\L++[.tm d (OB .i64 (Nat.min m (M.getD l-lo):Nat))]=b6++[.tm d (OB .i64 (n':Nat))]:=by
      intro hn ⟨B,sk,d3⟩;have a4:Nat.min m (M.getD l-lo)=0:=hn;refine⟨0,w,g,L,?_,?_,by rw[a4]⟩
      ·rw[k4,d3];unfold Dw;exact run_copy_none' w b2 Y a4
      ·refine kK h (ds:=[⟨f,.own,nR f qx _ lo (Nat.min m (M.getD l-lo))⟩]) G hu rfl (Fr.refl _ _ _) h.base rfl ?_ (Dh.of λ d hd _=> .inl (by rw[aah.1 hd];exact i));rw[a4,Il];exact(h.pl G).1
     unfold Rd at hy;simp only[if_pos Z]at hy;rcases hy c9 with⟨B,sk,rfl,b7⟩|⟨ad,sk,ds,rfl,g7,a5,D,a6⟩
     ·refine O ?_ ⟨B,sk,by rw[U,b7]⟩;show Nat.min m (M.getD l-lo)=0;rw[U,b7];exact Nat.zero_min _
     ·by_cases hn:n=0
      ·exact O hn ⟨_,_,by rw[U]⟩
      ·have g8:n<=m:=Nat.min_le_left _ _;have g9:n<=M.getD l-lo:=Nat.min_le_right _ _;have b8:k≠lo:=by omega
       simp only[jZ,if_pos S]at b5;rcases b5 with⟨W,_⟩|⟨b,k',cur,et,W,f5,d5,ho,hb,c0,Q,hf⟩
       ·exfalso;simp only[Value.slice.injEq]at W;omega
       ·simp only[Value.slice.injEq]at W;obtain⟨rfl,_,rfl⟩:=W
        replace D:=D i
        replace Q:=(rC i).1 Q
        have a7:=D.length
        let N:=f.n
        have d7:info.size=N:=d0
        have R:(ds.take (n*N)).length=n*N:=by
         rw[aaE,a7];exact abP (aaA _ Ω)
        have c1:(⟨b,0,none⟩:Addr).add (lo*N)=⟨b,lo*N,none⟩:=by unfold Addr.add;split<;>simp_all
        have d8:x= .slice (some ⟨b,lo*N,none⟩) (M.getD l-lo) (k-lo):=by
         rw[k4];unfold Dw;rw[if_neg b8];show Value.slice (some ((⟨b,0,none⟩:Addr).add (lo*N))) _ _=_;rw[c1]
        have f7:lo*N+n*N<=l*N:=by rw[←abO];exact aaA _ Ω
        have f8:l*N<=k*N:=aaA _ k3;have a0:cur.size=k*N:=c0
        let new:=(cur.toList.take (lo*N)++ds.take (n*N)++cur.toList.drop (lo*N+(ds.take (n*N)).length)).toArray
        have c2:=QD (P:=P) (ty:=ty) (u:=u) w b2 Y (b:=b) (off:=lo*N) (dl:=M.getD l-lo) (dk:=k-lo) (sl:=aP f ex) (sk:=sk) (ad:=ad) (news:=ds.take (n*N)) (n:=n) (by rw[←U])
         (by rw[d7];exact R) a5 (λ j hj=>by
          rw[R]at hj;rw[a6 j (by rw[a7];exact abp hj (aaA _ Ω)),aan,if_pos hj]) hb (by rw[R];omega)
         (λ v hv=>Y4 D v (abr hv))
        have hF: ∀o,g.F b o->new[o]? =cur[o]? :=λ o e0=>by
         have:=(hf o).1 e0;simp at this
        have hk:=ql (F:=g.F) (F':=g.F) hb (new:=new) (λ _ _ h=>h) hF
        have c3:new.size=k*N:=by
         simp only[new,acf,aaq,aaE,abh,abd,a0,a7];have hh:n*N<=aP f ex*N:=aaA _ Ω;have e5:min (n*N) (aP f ex*f.n)=n*N:=abP hh;rw[e5];omega
        have hL:(cur.toList.take (l*N)).length=l*N:=by simp;omega
        have a8:wM w g.F f qx (cur.toList.take (l*N)):=by rw[b3];exact Q
        have c4:=JJ a8 D lo n
        have c5:new.toList.take (l*N)=(cur.toList.take (l*N)).take (lo*N)++ds.take (n*N)++(cur.toList.take (l*N)).drop ((lo+n)*N):=by
         simp only[new,R];rw[acX,acX,ab2,ab2];have e1:min (l*N) (lo*N)=lo*N:=by omega
         have e2:(cur.toList.take (l*N)).take (lo*N)=cur.toList.take (lo*N):=by rw[ab2];congr 1;omega
         have e3:(cur.toList.take (lo*N)).length=lo*N:=by rw[aaE,abd,a0];omega
         rw[e1,e2,aaq,e3,R];have e4:min (l*N-lo*N) (n*N)=n*N:=by omega
         rw[e4,abO,List.drop_take]
        have K:aP f (nR f qx ex lo n)=l:=by
         rw[b3];exact JK qx ex Ω Ω
        refine⟨n,w.setRow b new,g,L,?_,?_,rfl⟩
        ·rw[d8];exact c2
        ·refine kK h (ds:=[⟨f,.own,nR f qx ex lo n⟩]) G hu rfl (Fr.setRow hb hF λ ow kk e=> ?_) (h.base.setRow ho hb hF) rfl ?_ (Dh.of λ d hd _=> .inl (by rw[aah.1 hd];exact i))
         ·rw[ho]at e;cases e;exact kk.1 p.cell (aaw _) Θ rfl
         ·have e2:((aB a w g p.root).drop p.cell).take [(⟨f,.own,nR f qx ex lo n⟩:CV)].length= [.slice (some ⟨b,0,none⟩) l k]:=d1;rw[e2];refine⟨_,[],rfl,?_,rfl⟩;simp only[jZ,if_pos S];refine .inr ⟨b,k,new,et,by rw[K],by rw[K];exact k3,d5,ho,setRow_heap w b cur new et _ hb,c3,?_,λ o=>by simpa using hf o⟩;rw[K];refine(rC i).2 ?_;show wM _ _ _ _ (new.toList.take (l*N));rw[c5];exact c4.keeps hk
    ·exact(aj I).elim
   ·exact(aj I).elim
  ·exact(aj I).elim
theorem agS (hT:yu P E.ty) {cl:Call} {x y:Operand} (ho:o.op= .call cl) (W:cl.callee= .builtin .copy) (hx:cl.args.toList= [x,y]):sF P E C o:=by
 intro s a w g us d Q h B hd G;simp only[plan,ho,B,W,hx]at G;obtain⟨ds,Y,G⟩:=aS G
 have fin: ∀{e:CV} {t u:TypeId} {p:Pl} {lo:Nat} {M:Option Nat},ds= [e]->cl.argTypes.toList= [t,u]->(yA E s d t u e p lo M).run=some us->
  (∀q l,aV s p 1=some [q]->q.sh.qR=true->lenOf q=some l-> ∃A k,(aB a w g p.root)[p.cell]? =some (.slice A l k)/\lo<=M.getD l/\M.getD l<=l/\l<=k/\a.eval x=Dw A k lo (M.getD l) q.sh.n)->
  o.wp P a w (λ a' w'=> ∃g',Rel E C (s.dW us) a' w' g') Q:=by
  intro e t u p lo M Z f hc a0;subst Z;obtain⟨n,w',g',b4,N,r2,rfl⟩:=YX (ty:=o.type) hT h (QA h Y) hc a0
  have a1:(execOp a.eval o).run P w= .ok (.value (goInt n)) w':=by
   have i:cl.args= #[x,y]:=by apply abu.1;simpa using hx
   have D:cl.argTypes= #[t,u]:=by apply abu.1;simpa using f
   obtain⟨callee,args,argTypes⟩:=cl;simp only at W i D;subst W i D;simp only[execOp,ho,resolve,invoke,builtin,acW,abo,acP,Sem.run_bind,Sem.run_pure,Result.andThen_ok];simp[N]
  unfold Oper.wp;rw[a1,Oper.upon_value,B,eP];exact⟨g',r2.QT (mk:= .hand) hd rfl (qo .i64 (n:Nat))⟩
 split at G
 ·rename_i e t u p z lo M f I;have hv:=aJ h I Θ;obtain⟨_,_,O,_,hv⟩:=hv;refine fin rfl f G λ q l R K hl=> ?_;obtain⟨A,l',k,e1,k1,S,k3,k4⟩:=hv q R;obtain⟨v0,m,L,_⟩:=qC h R;rw[e1]at m;cases m;obtain⟨A',k',v,_⟩:=YZ K L hl;have a4:l'=l:=by cases v;rfl
  subst a4;exact⟨A,k,e1,k1,S,k3,k4⟩
 ·rename_i e t u p f I;have hv:=aJ h I Θ;obtain⟨_,_,O,hv⟩:=hv;refine fin rfl f G λ q l R K hl=> ?_;obtain⟨k1,S⟩:=hv _ R;obtain⟨v0,m,L,a5⟩:=qC h R
  have U:a.eval x=v0:=by
   rw[aH k1]at S;rw[a5]at S;simpa using S
  obtain⟨A,k,v,a6⟩:=YZ K L hl;refine⟨A,k,by rw[m,v],abH _,aaw _,a6,?_⟩;rw[U,v];unfold Dw;simp only[Option.getD_none,Nat.sub_zero,Nat.zero_mul];split
  ·rfl
  ·cases A with
   |none=>rfl
   |some ad=>
    have e:ad.add 0=ad:=by
     simp[Addr.add]
    show Value.slice (some ad) l k=Value.slice (some (ad.add 0)) l k;rw[e]
 ·exact(aj G).elim
theorem JM {z:Array Value} {n m:Nat} (d:z.size=m):Builtin.zeroCells z n=madeCells z (n*m):=by
 unfold Builtin.zeroCells madeCells;rw[d]
theorem Oj (w:World) {t e ty:TypeId} (d:P.underlying t=some (.slice e)) {A:Option Addr} {k:Nat}:(Builtin.clear_ #[t] ty #[.slice A 0 k]).run P w= .ok (.tuple #[]) w:=by
 cases A<;>simp[Builtin.clear_,run_underlying d]
theorem Ol (w:World) {t e ty:TypeId} {i:TypeInfo} {z:Value} (p:P.underlying t=some (.slice e)) (q:P.info? e=some i) (u:i.zero=some z) {b off n k:Nat} (B:n≠0) {news:LV}
 (g:news=(Builtin.zeroCells z.cells n).toList) {cur:Array Value} {l:TypeId} (y:w.heap[b]? =some (.cells cur l (0,0))) (d:off+news.length<=cur.size) (A: ∀v,v∈news->v.oneCell'=true):
 (Builtin.clear_ #[t] ty #[.slice (some ⟨b,off,none⟩) n k]).run P w= .ok (.tuple #[]) (w.setRow b (cur.toList.take off++news++cur.toList.drop (off+news.length)).toArray):=by
 have f:=run_storeCells_at P b off l news 0 cur w y (by simpa using d) A;simp only[aa0]at f;subst g;obtain⟨n,rfl⟩: ∃m,n=m+1:=⟨n-1,Ω⟩;simp[Builtin.clear_,run_underlying p,zeroValue,typeInfo,q,u,f]
theorem adU {F:Fz} {es:List Sh} {f:ElA es} {z:Value} {n:Nat} (k:(es.all λ s=> !s.aew)=true) (l:(es.all λ s=> !s.Kr)=true) (e:z.cells.size=es.length) (d:z.cells.toList=es.map zeroV) (m:iq es (es.map λ s=>⟨s,.pure,lG s⟩)=some f):
 wM w F (.sl es) (List.replicate n f) (Builtin.zeroCells z.cells n).toList:=by
 let g:Gh:=⟨λ _=>0,λ _=>none,F⟩
 rw[JM e];refine(jW (w:=w) (F:=g.F) es).replicate n _ (by simp[madeCells]) λ i p=> ?_;rw[SG e p,d];exact E5 (g:=g) .hand es _ f 0 _ m (λ c q=>by obtain⟨_,_,rfl⟩:=aaC.1 q;rfl) (ES .hand es 0 k l)
theorem aeV (hT:yu P E.ty) {cl:Call} {x:Operand} {t:TypeId} (ho:o.op= .call cl) (hb:cl.callee= .builtin .clear) (hx:cl.args.toList= [x]) (ht:cl.argTypes.toList= [t]) (hd:o.dst=none) (h:Rel E C s a w g) {us:List Upd} (v:(OO E s t x).run=some us):
 o.wp P a w (λ a' w'=> ∃g',Rel E C (s.dW us) a' w' g') Q:=by
 unfold OO at v;split at v
 ·rename_i p zf lo i b8;split at v
  ·exact(aj v).elim
  ·rename_i a6;obtain⟨cs,m,v⟩:=aS v;have m:=iD a6 m;obtain⟨q,rfl⟩:=Hu m;simp only[]at v;obtain⟨b9,v⟩:=bf v;split at v
   ·rename_i r hr;have hu:=GU v;obtain⟨_,_,_,_,hv⟩:=aJ h b8 Θ;obtain⟨A,l,k,Z,k1,k2,k3,k4⟩:=hv q m;obtain⟨e8,e,j,info,z,de,a7,⟨a8,_⟩,hj,O,y,e9⟩:=Eu hT b9;obtain⟨v0,a9,b0,c1⟩:=qC h m;rw[Z]at a9;cases a9
    have fin: ∀w',(Builtin.clear_ #[t] o.type #[a.eval x]).run P w= .ok (.tuple #[]) w'->(∃g',Rel E C (s.dW us) a w' g')->o.wp P a w (λ a' w'=> ∃g',Rel E C (s.dW us) a' w' g') Q:=by
     intro w' B b1
     have c2:(execOp a.eval o).run P w= .ok (.value (.tuple #[])) w':=by
      have D:cl.args= #[x]:=by apply abu.1;simpa using hx
      have W:cl.argTypes= #[t]:=by apply abu.1;simpa using ht
      obtain⟨callee,args,argTypes⟩:=cl;simp only at hb D W;subst hb D W;simp only[execOp,ho,resolve,invoke,builtin,acW,abo,acP,Sem.run_bind,Sem.run_pure,Result.andThen_ok];simp[B]
     unfold Oper.wp;rw[c2,Oper.upon_value,hd];exact b1
    obtain⟨f0,qt,qx⟩:=q;unfold afC at hr;split at hr
    ·rename_i es f c3;cases c3;split at hr
     ·rename_i M c4;cases hr
      have b2:z.cells.size=es.length:=by
       have:=congrArg List.length y.cells;rw[O]at this;simpa [kX,Sh.n]using this
      have R:z.cells.toList=es.map zeroV:=by rw[y.cells,O];rfl
      have c5:(es.all λ s=> !s.aew)=true:=by have:=y.noDl;rw[O]at this;exact this
      have b3:List.append (List.append (List.take lo f) (List.replicate (i-lo) M)) (List.drop i f)=nR (.sl es) f (List.replicate (i-lo) M) lo (i-lo):=by
       show(List.take lo f++List.replicate (i-lo) M)++List.drop i f=(List.take lo f++List.take (i-lo) (List.replicate (i-lo) M))++List.drop (lo+(i-lo)) f;rw[aaJ Θ,show lo+(i-lo)=i by omega]
      have G:(Sh.sl es).qK=true:=rfl;rw[b3]at hu;by_cases hn:i-lo=0
      ·refine fin w ?_ ⟨g,?_⟩
       ·rw[k4];unfold Dw;rw[hn];exact Oj w a7
       ·refine kK h (ds:=[⟨.sl es,.own,nR (.sl es) f _ lo (i-lo)⟩]) m hu rfl (Fr.refl _ _ _) h.base rfl ?_ (Dh.of λ d hd _=> .inl (by rw[aah.1 hd];rfl))
        have c7:nR (.sl es) f (List.replicate (i-lo) M) lo (i-lo)=f:=by
         have:=Il (sh:= .sl es) f (List.replicate (i-lo) M) lo;rw[←hn]at this;exact this
        have c8:(⟨.sl es,.own,nR (.sl es) f (List.replicate (i-lo) M) lo (i-lo)⟩:CV)=⟨.sl es,.own,f⟩:=congrArg (CV.mk (.sl es) .own) c7;rw[c8];exact(h.pl m).1
      ·have b4:k≠lo:=by omega
       simp only[jZ,Sh.qR,if_true]at b0;rcases b0 with⟨S,_⟩|⟨b,k',cur,et,S,d7,c9,a0,I,b5,K,hf⟩
       ·exfalso;simp only[Value.slice.injEq]at S;omega
       ·simp only[Value.slice.injEq]at S;obtain⟨rfl,a1,rfl⟩:=S
        replace K:=(rC G).1 K
        let N:=(Sh.sl es).n
        let news:=(Builtin.zeroCells z.cells (i-lo)).toList
        have U:news.length=(i-lo)*N:=by
         simp only[news];rw[JM b2];simp[madeCells,N,Sh.n]
        have L:wM w g.F (.sl es) (List.replicate (i-lo) M) news:=adU c5 (by rw[O]at a8;exact a8) b2 R c4;have d9:lo*N+(i-lo)*N<=l*N:=by rw[←abO];exact aaA _ Ω
        have e0:l*N<=k*N:=aaA _ k3;have Y:cur.size=k*N:=b5
        have d0:a.eval x= .slice (some ⟨b,lo*N,none⟩) (i-lo) (k-lo):=by
         rw[k4];unfold Dw;rw[if_neg b4];show Value.slice (some ((⟨b,0,none⟩:Addr).add (lo*N))) _ _=_;rw[addr_add rfl,aa2]
        let new:=(cur.toList.take (lo*N)++news++cur.toList.drop (lo*N+news.length)).toArray
        have B:=Ol (P:=P) (ty:=o.type) w a7 y.inf y.zero (b:=b) (off:=lo*N) (n:=i-lo) (k:=k-lo) hn (news:=news) rfl I (by rw[U];omega) (Y4 L)
        have hF: ∀o,g.F b o->new[o]? =cur[o]? :=λ o d1=>by
         have:=(hf o).1 d1;simp at this
        have hk:=ql (F:=g.F) (F':=g.F) I (new:=new) (λ _ _ h=>h) hF
        have b6:new.size=k*N:=by
         simp only[new,acf,aaq,aaE,abh,abd,Y,U];omega
        have a2:wM w g.F (.sl es) f (cur.toList.take (l*N)):=by rw[a1];exact K
        have b7:=JJ a2 L lo (i-lo)
        have a3:new.toList.take (l*N)=(cur.toList.take (l*N)).take (lo*N)++news.take ((i-lo)*N)++(cur.toList.take (l*N)).drop ((lo+(i-lo))*N):=by
         simp only[new,U];rw[acX,acX,ab2];have e1:min (l*N) (lo*N)=lo*N:=by omega
         have e2:(cur.toList.take (l*N)).take (lo*N)=cur.toList.take (lo*N):=by rw[ab2];congr 1;omega
         have e3:(cur.toList.take (lo*N)).length=lo*N:=by rw[aaE,abd,Y];omega
         rw[e1,e2,aaq,e3,U,aaJ (l:=news) Ω,aaJ (l:=news) Ω,abO,List.drop_take]
        have u:aP (.sl es) (nR (.sl es) f (List.replicate (i-lo) M) lo (i-lo))=l:=by
         rw[a1];exact JK f _ (by rw[←a1];omega) (by show _<=List.length _;simp)
        refine fin (w.setRow b new) (by rw[d0];exact B) ⟨g,?_⟩;refine kK h (ds:=[⟨.sl es,.own,nR (.sl es) f _ lo (i-lo)⟩]) m hu rfl (Fr.setRow I hF λ ow kk e=> ?_) (h.base.setRow a0 I hF) rfl ?_ (Dh.of λ d hd _=> .inl (by rw[aah.1 hd];rfl))
        ·rw[a0]at e;cases e;exact kk.1 p.cell (aaw _) Θ rfl
        ·have e2:((aB a w g p.root).drop p.cell).take [(⟨.sl es,.own,nR (.sl es) f (List.replicate (i-lo) M) lo (i-lo)⟩:CV)].length= [.slice (some ⟨b,0,none⟩) l k]:=c1;rw[e2];refine⟨_,[],rfl,?_,rfl⟩;simp only[jZ,Sh.qR,if_true];refine .inr ⟨b,k,new,et,by rw[u],by rw[u];exact k3,c9,a0,setRow_heap w b cur new et _ I,b6,?_,λ o=>by simpa using hf o⟩;rw[u];refine(rC G).2 ?_;show wM _ _ _ _ (new.toList.take (l*N));rw[a3];exact b7.keeps hk
     ·cases hr
    ·cases hr
   ·exact(aj v).elim
 ·exact(aj v).elim
end
end Go.AM
end
section
namespace Go.AM
open Go MapKept
section
variable {P:Program} {E:Env} {C:Ctx} {s s':St} {a a':Act} {w w':World} {g g':Gh} {o:Oper} {Q:Exit->Act->World->Prop}
def X4 (w:World) (b:Nat) (o:Obj):World:={w with heap:=w.heap.setIfInBounds b o}
theorem zF {b:Nat} {o o':Obj} (d:w.heap[b]? =some o):(X4 w b o').heap[b]? =some o'/\ ∀c,c≠b->(X4 w b o').heap[c]? =w.heap[c]? :=heap_set d
theorem PE {b:Nat} {o o':Obj} (f:w.heap[b]? =some o) {F:Fz} (hF: ∀o,¬F b o):Keeps w (X4 w b o') F F:=
 ⟨λ _ _ h=>h,λ e p g=>by
  have d:e≠b:=by rintro rfl;exact hF p g
  simp only[World.cell?,(zF (o':=o') f).2 e d]⟩
theorem Base.X4 {w0:World} {F0:Fz} {X:Nat->Prop} (h:Base w0 F0 X w g) {b:Nat} {ow:aF} (v:g.own b=some ow) {o:Obj} {es:Array MapEntry} {c:Nat} (l:w.heap[b]? =some o) (hF: ∀o,¬g.F b o):Base w0 F0 X (X4 w b (.map es c)) g:=
 ⟨h.os,h.tape,h.output,by simpa [AM.X4]using h.size,λ d u m=>by
  have:d≠b:=by
   rintro rfl;rcases(h.own d ow v).1 with k|k
   ·exact m k
   ·omega
  rw[(zF l).2 d this];exact h.blk d u m,λ d ow' e=>by simpa [AM.X4]using h.own d ow' e,
  h.keeps.trans (PE l hF),λ d p y=>by simpa [AM.X4]using h.fz d p y,λ d ow' cs t f m q=>by
  by_cases i:d=b
  ·subst i;rw[(zF l).1]at q;cases q
  ·rw[(zF l).2 d i]at q;exact h.frz d ow' cs t f m q⟩
def descOf:Sh->TypeDesc| .int k=> .int k| .bool=> .bool|_=> .string
theorem EN {k:Sh} (d:k.scalar=true) (y:El k):IsKey (descOf k) (scV k y):=by
 cases k<;>first|trivial|rfl|cases d
theorem ahb {k:Sh} (d:k.scalar=true) (y x:El k):Instr.sameNow (descOf k) (scV k y) (scV k x)=some (keq k y x):=by
 cases k with
 |int q=>simp only[descOf,scV,Instr.sameNow,if_true,keq];rfl
 |bool=>rfl
 |str=>
  simp only[descOf,scV,Instr.sameNow,keq];congr 1;exact Bool.eq_iff_iff.2 ((bytes_beq (y:ByteArray) x).trans (@decide_eq_true_iff (@Eq ByteArray y x) ((inferInstance:DecidableEq ByteArray) y x)).symm)
 |_=>cases d
theorem aiC {k:Sh} {y x:El k} (h:keq k y x=true):y=x:=by
 cases k with
 |int q=>exact @of_decide_eq_true (@Eq Int y x) (Int.instDecidableEq y x) h
 |bool=>exact eq_of_beq (α:=Bool) h
 |str=>exact @of_decide_eq_true (@Eq ByteArray y x) ((inferInstance:DecidableEq ByteArray) y x) h
 |_=>cases h
theorem UO {k e:Sh} (v:k.scalar=true) (y:El k): ∀(l:List (El k×El e)) (L:List MapEntry) (i:Nat),L.map (λ q=>(q.key,q.val))=l.map (λ p=>(scV k p.1,scV e p.2))->
 (oV (keq k) y l=none/\Instr.findNow (descOf k) (scV k y) L i=some none/\ ∀z,Iw (keq k) y z l=l++[(y,z)])\/
 ∃z j q,oV (keq k) y l=some z/\Instr.findNow (descOf k) (scV k y) L i=some (some (i+j,scV e z))/\L[j]? =some q/\q.key=scV k y/\
  ∀g,(L.modify j λ q=>{q with key:=scV k y,val:=scV e g}).map (λ q=>(q.key,q.val))=(Iw (keq k) y g l).map λ p=>(scV k p.1,scV e p.2)
 | [],[],i,_=> .inl ⟨rfl,rfl,λ _=>rfl⟩
 | [],_::_,i,h=>by simp at h
 |_::_,[],i,h=>by simp at h
 |p::l,q::L,i,h=>by
  simp only[abo,abk,aaz]at h;obtain⟨⟨f,A⟩,B⟩:=h;have hs:=ahb v y p.1
  cases d:keq k y p.1 with
  |true=>
   rw[d]at hs;refine .inr ⟨p.2,0,q,by simp[oV,d],by simp[Instr.findNow,f,hs,A],rfl,by rw[f,aiC d],λ g=> ?_⟩;simp[Iw,d,B]
  |false=>
   rw[d]at hs;rcases UO v y l L (i+1) B with⟨m,t,u⟩|⟨z,j,r,m,t,u,C,D⟩
   ·exact .inl ⟨by simp[oV,d,m],by simp[Instr.findNow,f,hs,t],λ z=>by simp[Iw,d,u]⟩
   ·refine .inr ⟨z,j+1,r,by simp[oV,d,m],by simp[Instr.findNow,f,hs,t];omega,by simpa using u,C,λ g=> ?_⟩;simp[Iw,d,D,f,A]
theorem ahc {ty:TypeId->Option TyI} {t:TypeId} {i:TyI} {info:TypeInfo} {d:TypeDesc} {z:Value} (h:JO P ty t i info d z) {k:Sh} (g:k.scalar=true) (e:i.cells= [k]) (f:i.ag=false):d=descOf k:=by
 cases k with
 |int q=>exact h.int e f
 |bool=>exact h.bool e f
 |str=>exact h.str e f
 |_=>cases g
theorem ahd {k:Sh} (d:k.scalar=true):zeroV k=scV k (lG k):=by cases k<;>first|rfl|cases d
theorem Ja {F:Fz} {k:Sh} (d:k.scalar=true) (x:El k):jM w F k x (scV k x)/\isAgg (scV k x)=false/\(scV k x).cells= #[scV k x]:=by
 cases k<;>first|exact⟨rfl,rfl,rfl⟩|cases d
theorem agZ {F:Fz} {k:Sh} (d:k.scalar=true) {x:El k} {v:Value} (h:jM w F k x v):v=scV k x:=by
 cases k<;>first|exact h|cases d
theorem ZQ (u:yu P E.ty) {t:TypeId} {k e:Sh} (h:agO E t k e=true):k.scalar=true/\e.scalar=true/\ ∃m p,P.underlying t=some (.map m p)/\P.underlying m=some (descOf k)/\ ∀w,(zeroValue p).run P w= .ok (scV e (lG e)) w:=by
 unfold agO at h;split at h
 ·rename_i U W Y A B C;simp only[aae]at h;obtain⟨⟨⟨D,G⟩,v⟩,y⟩:=h;obtain rfl:=aY8 D;obtain rfl:=aY8 G;obtain⟨info,Z,z,f⟩:=u.at_ C;obtain⟨m,p,j,l,I,K,L,_,_,M,N,O,Q⟩:=f.mp rfl rfl;obtain⟨i1,d1,z1,g⟩:=u.at_ K;obtain⟨i2,d2,R,d⟩:=u.at_ L;refine⟨v,y,m,p,by rw[f.und,I],by rw[g.und,ahc g v O M],λ w=> ?_⟩
  have S:R=scV e (lG e):=by
   have q:=d.cells;rw[Q]at q;have i:=d.agg;rw[N]at i;rw[aH i]at q;simp only[abo,acP,abk,and_true]at q;rw[q,ahd y]
  simp[zeroValue,typeInfo,d.inf,d.zero,S,Result.andThen]
 ·cases h
theorem MP (h:Rel E C s a w g) {x:Operand} {k:Sh} {y:El k} (e:k.scalar=true) (d:FD E s x k=some y):a.eval x=scV k y:=by
 unfold FD at d;split at d
 ·rename_i f p i;obtain⟨u,_,l,m⟩:=(aJ h i Θ).one;rw[←m rfl];exact agZ (w:=w) (F:=g.F) e (zQ (w:=w) (g:=g) d ((sS rfl).1 l))
 ·cases d
theorem Vf (h:Rel E C s a w g) {x:Operand} {p:Pl} {c:CV} (e:ZO E s x=some (p,c)):p.sub=none/\aV s p 1=some [c]/\jZ w g (dO p.root p.cell) c (a.eval x)/\((aB a w g p.root).drop p.cell).take 1= [a.eval x]:=by
 unfold ZO at e;split at e
 ·rename_i q t;split at e
  ·rename_i y hs i;cases e;obtain⟨z,hv,l,f⟩:=aJ h t Θ;obtain⟨k,d⟩:=f _ i;obtain⟨u,A,v,m⟩:=qC h i;rw[m]at d;rw[aH k]at d;simp only[abk,and_true]at d;subst d;exact⟨hs,i,v,m⟩
  ·cases e
 ·cases e
theorem ajS {k:Sh} (d:k.scalar=true) (x:El k):TV s a w g .hand (.val false [⟨k,.pure,x⟩]) (scV k x):=
 CO w g .hand (c:=⟨k,.pure,x⟩) rfl (Ja (w:=w) (F:=g.F) d x).2.1 (Ja d x).1 (Ja (w:=w) (F:=g.F) d x).2.2
theorem Z5 (S:yu P E.ty) {t:TypeId} {m x:Operand} {ok:Bool} (M:o.op= .lookup t m x ok):sF P E C o:=by
 intro s a w g us d Q h i N u;simp only[plan,M,i,ZL]at u;split at u
 ·rename_i p k e l U;obtain⟨D,u⟩:=bf u;obtain⟨v,B,kt,et,G,f,O⟩:=ZQ S D;split at u
  ·rename_i y W;obtain⟨_,_,Y,_⟩:=Vf h U;have Z:=MP h v W
   have key:(Instr.lookup t (a.eval m) (a.eval x) ok).run P w= .ok (if ok then .tuple #[scV e ((oV (keq k) y (mX l)).getD (lG e)),.bool (oV (keq k) y (mX l)).isSome]else scV e ((oV (keq k) y (mX l)).getD (lG e))) w:=by
    rw[Z];rcases(show UC w g _ (.mp k e) l _ from Y)with⟨hv,rfl⟩|⟨b,l',rfl,hv,_,⟨es,c,R,I⟩,_⟩
    ·rw[hv];have hf:Instr.findNow (descOf k) (scV k y) [] 0=some none:=rfl;simp[Instr.lookup,run_underlying G,run_checkKey f (EN v y),run_findKey f hf,O,Result.andThen,mX,oV]
    ·rw[hv];rcases UO (e:=e) v y l' es.toList 0 I with⟨K,L,_⟩|⟨z,j,q,K,L,_⟩
     ·simp[Instr.lookup,run_underlying G,run_getObj_map R,run_checkKey f (EN v y),run_findKey f L,O,Result.andThen,mX,K]
     ·simp[Instr.lookup,run_underlying G,run_getObj_map R,run_checkKey f (EN v y),run_findKey f L,Result.andThen,mX,K]
   have A:(execOp a.eval o).run P w= .ok (.value (if ok then .tuple #[scV e ((oV (keq k) y (mX l)).getD (lG e)),.bool (oV (keq k) y (mX l)).isSome]else scV e ((oV (keq k) y (mX l)).getD (lG e)))) w:=by
    simp only[execOp,M,Sem.run_bind,key,Result.andThen_ok,Sem.run_pure]
   cases ok with
   |false=>
    obtain rfl:=au u;exact bT (mk:= .hand) h i N A rfl (ajS B _)
   |true=>
    obtain rfl:=au u;refine bT (mk:= .hand) h i N A rfl ⟨_,rfl,scV e _,_,rfl,⟨(Ja (w:=w) (F:=g.F) B _).2.1,?_⟩,.bool _,[],rfl,⟨rfl,_,[],rfl,rfl,rfl⟩,rfl⟩;rw[(Ja (w:=w) (F:=g.F) B _).2.2];exact⟨_,[],rfl,(Ja B _).1,rfl⟩
  ·exact(aj u).elim
 ·exact(aj u).elim
theorem aeT (B:yu P E.ty) {G:BinOp} {t I:TypeId} {x y:Operand} (u:o.op= .binOp G t x y I):sF P E C o:=by
 cases m:Wy y with
 |false=>exact Z4 B u m
 |true=>
  intro s a w g us d Q h f K i;simp only[plan,u,f,m,cond_true]at i;obtain⟨v,i⟩:=bf i;obtain⟨R,S,L⟩:=WI B v
  obtain rfl:y= .const (.map none):=by
   unfold Wy at m;split at m
   ·rfl
   ·cases m
  unfold ZT at i;split at i
  ·rename_i p k e l M _;obtain rfl:=au i;obtain⟨_,_,z,_⟩:=Vf h M;refine bT (mk:= .hand) h f K ?_ rfl (vF _)
   have A:(Op.equal t (a.eval x) (.map none)).run P w= .ok (Option.isNone l) w:=by
    unfold Op.equal Op.maxDepth;rw[show(10000:Nat)=9999+1 from rfl,Op.equalIn];rcases(show UC w g _ (.mp k e) l _ from z)with⟨hv,rfl⟩|⟨b,D,rfl,hv,_⟩<;>(rw[hv];simp only[Sem.run_bind,run_underlying L,Result.andThen_ok,Sem.run_pure];rfl)
   have N:eqGuard .eql t x (.const (.map none)) (a.eval x) (.map none)=pure ():=by
    rcases(show UC w g _ (.mp k e) l _ from z)with⟨hv,_⟩|⟨b,D,_,hv,_⟩<;>rw[hv]<;>rfl
   simp only[execOp,u];have O:a.eval (.const (.map none))= .map none:=rfl
   have q:binOp .eql t (a.eval x) (.map none)=(do pure (Value.bool (←Op.equal t (a.eval x) (.map none)))):=by
    rcases(show UC w g _ (.mp k e) l _ from z)with⟨hv,_⟩|⟨b,D,_,hv,_⟩<;>rw[hv]<;>rfl
   rw[O,N,q];simp only[Sem.run_bind,Sem.run_pure,Result.andThen_ok,A]
  ·exact(aj i).elim
theorem XP (N:yu P E.ty) {t q:TypeId} {x:Operand} (R:o.op= .convert q t x):sF P E C o:=by
 cases I:aed E q&&Oz E t with
 |false=>exact Vl N R I
 |true=>
  intro s a w g us d Q h p hd m;simp only[plan,R,p,I,cond_true]at m;simp only[aae]at I;have u:=KD N I.2
  obtain⟨e,y,B⟩: ∃e,P.underlying q=some (.slice e)/\P.underlying e=some (.int .u8):=by
   have D:=I.1;unfold aed at D;split at D
   ·rename_i e O;obtain⟨info,de,z,K⟩:=N.at_ O;obtain⟨e',j,rfl,he,_⟩:=K.slice (sh:= .sl [.int .u8]) rfl rfl rfl;cases he;split at D
    ·rename_i S;exact⟨_,K.und,Ql N S⟩
    ·cases D
   ·cases D
  unfold RF at m;obtain⟨cs,U,m⟩:=aS m;split at m
  ·rename_i tg l;obtain⟨W,m⟩:=bf m;obtain rfl:=au m;have G:=QA h U;have Y:tg≠ .dead:=by rintro rfl;cases W
   have G:(∃A k,a.eval x= .slice A 0 k/\List.length l=0)\/ ∃(ad:Addr) (k:Nat) (cs:LV),a.eval x= .slice (some ad) (List.length l) k/\List.length l<=k/\ad.spot=none/\(true=true->wM w g.F (.sl [.int .u8]) l cs)/\ ∀j,j<cs.length->w.cell? ⟨ad.block,ad.off+j,none⟩=cs[j]? :=G Y
   have key:(convert q t (a.eval x)).run P w= .ok (.string (yg l)) w:=by
    rcases G with⟨A,k,hv,hl⟩|⟨ad,k,cs,hv,_,L,Z,f⟩
    ·obtain rfl:l= []:=aav hl;rw[hv]
     cases A with
     |none=>exact run_convert_bytes_nil w q e y B 0 k t u
     |some ad=>
      obtain⟨b,off,sp⟩:=ad;rw[run_convert_bytes_string w q t e _ 0 k y B u,run_bytesToString w _ 0 k [] (by simp[loadCells,loadCellsFrom])];rfl
    ·obtain⟨b,off,sp⟩:=ad;simp only at L;subst L;rw[hv];have M:=Z rfl
     have a0: ∀(l:List Int) (cs:LV),fH (dX w g.F [.int .u8]) l cs->cs=l.map (Value.int .u8):=by
      intro l
      induction l with
      |nil=>intro cs h;exact h
      |cons n l ih=>
       rintro cs ⟨c1,c2,rfl,D,S⟩;obtain⟨v,rfl,hv⟩:=(show∃v,c1= [v]/\jM w g.F (.int .u8) n v from D);rw[show v= .int .u8 n from hv,ih c2 S];rfl
     have a1:=a0 l cs M
     have run:=λ(l:List Int) (f: ∀j,j<(l.map (Value.int .u8)).length->w.cell? ⟨b,off+j,none⟩=(l.map (Value.int .u8))[j]?)=>run_convert_bytes_arg w q e y B b off l.length k l rfl (λ i O=>by
      rw[f i (by simpa using O)];simp[List.getD,aac O]) t u
     exact run l (by rw[a1]at f;exact f)
   refine bT (mk:= .hand) h p hd ?_ rfl (adO _);simp only[execOp,R,Sem.run_bind,key,Result.andThen_ok,Sem.run_pure]
  ·exact(aj m).elim
theorem agK (h:Rel E C s a w g) {d:Nat} (m:DOk E d) (k e:Sh):
 ∃g',Rel E C (s.dW [.tm d (.val false [⟨.mp k e,.own,some []⟩])]) (a.put (some d) (.map (some w.heap.size))) (w.alloc (.map #[] 0)) g':=by
 have l: ∀b ow,g.own b=some ow->b<w.heap.size:=λ b ow e=>(h.base.own b ow e).2;have hF: ∀b o,g.F b o->b<w.heap.size:=λ b o e=>(h.base.fz b o e).2;have f:=Fr.new (K:=λ o=> ∀i,o≠ .hand i) l hF (ρ:=id) (λ _ _=>rfl) (.map #[] 0) (.hand 0);have p:=h.world f (h.base.new _ _ (λ _ _ _ e=>by cases e) _) rfl;obtain⟨g2,q,_,_⟩:=p.y9 m (v:= .map (some w.heap.size)) (ag:=false) (cs:=[⟨.mp k e,.own,some []⟩]) rfl ⟨_,[],rfl,.inr ⟨w.heap.size,[],rfl,rfl,by simp[Gh.new],⟨#[],0,nK,rfl⟩,λ o t=>by have:=hF _ _ t;omega⟩,rfl⟩;exact⟨g2,q⟩
theorem XR (y:yu P E.ty) {t:TypeId} {r:Option Operand} (p:o.op= .makeMap t r):sF P E C o:=by
 intro s a w g us d Q h f u l
 cases r with
 |some r=>simp only[plan,p,f]at l;exact(aj l).elim
 |none=>
  simp only[plan,p,f]at l;split at l
  ·rename_i c i;obtain rfl:=au l;unfold aiG at i;split at i
   ·rename_i k e z A B D;simp only[cond_eq_ite]at i;split at i
    ·cases i;obtain⟨g2,v⟩:=agK h u k e;unfold Oper.wp
     have q:(execOp a.eval o).run P w= .ok (.value (.map (some w.heap.size))) (w.alloc (.map #[] 0)):=by
      have m:(Instr.makeMap t none).run P w= .ok (.map (some w.heap.size)) (w.alloc (.map #[] 0)):=rfl;simp only[execOp,p,Sem.run_bind,Option.map_none,m,Result.andThen_ok,Sem.run_pure]
     rw[q,Oper.upon_value,f];exact⟨g2,v⟩
    ·cases i
   ·cases i
  ·exact(aj l).elim
theorem Td (hT:yu P E.ty) {t:TypeId} {m x y:Operand} (ho:o.op= .mapUpdate t m x y) (S:o.dst=none) (h:Rel E C s a w g) {us:List Upd} (B:(XV E s t m x y).run=some us):
 o.wp P a w (λ a' w'=> ∃g',Rel E C (s.dW us) a' w' g') Q:=by
 unfold XV at B;split at B
 ·rename_i p k e l hm;obtain⟨U,B⟩:=bf B;obtain⟨L,he,kt,et,hu,D,hz⟩:=ZQ hT U;split at B
  ·rename_i u v hx hv;obtain⟨M,W,B⟩:=zY B;obtain rfl:l=some M:=W;have Y:=GU B;obtain⟨a6,Z,hr,K⟩:=Vf h hm;have ex:=MP h L hx;have ey:=MP h he hv;rcases(show UC w g _ (.mp k e) (some M) _ from hr)with⟨_,h0⟩|⟨b,l2,h0,G,f,⟨es,c,I,N⟩,hf⟩
   ·cases h0
   cases h0
   have i: ∃A R,(Instr.mapUpdate t (a.eval m) (a.eval x) (a.eval y)).run P w= .ok () (X4 w b (.map A R))/\A.toList.map (λ q=>(q.key,q.val))=(Iw (keq k) u v M).map λ p=>(scV k p.1,scV e p.2):=by
    rw[G,ex,ey];rcases UO (e:=e) L u M es.toList 0 N with⟨k1,k2,k3⟩|⟨z,j,q,k1,k2,k3,k4,k5⟩
    ·refine⟨es.push {key:=scV k u,val:=scV e v,born:=c},c+1,?_,?_⟩
     ·simp[Instr.mapUpdate,run_underlying hu,run_getObj_map I,run_checkKey D (EN L u),run_findKey D k2,run_setObj_map _ I,Result.andThen,X4]
     ·rw[k3];simp[N]
    ·have hj:es[j]? =some q:=by simpa using k3
     refine⟨es.modify j λ q=>{q with key:=scV k u,val:=scV e v},c,?_,?_⟩
     ·simp[Instr.mapUpdate,run_underlying hu,run_getObj_map I,run_checkKey D (EN L u),run_findKey D k2,hj,k4,run_keyThatStays (EN L u),run_setObj_map _ I,Result.andThen,X4]
     ·rw[←k5 v,Array.toList_modify]
   obtain⟨A,R,i,O⟩:=i
   have a4:(execOp a.eval o).run P w= .ok .skip (X4 w b (.map A R)):=by
    simp only[execOp,ho,Sem.run_bind,i,Result.andThen_ok,Sem.run_pure]
   unfold Oper.wp;rw[a4,Oper.upon_skip,S];refine⟨g,?_⟩;refine kK h (ds:=[⟨.mp k e,.own,some (Iw (keq k) u v M)⟩]) Z Y rfl ⟨PE I hf,λ b' ow k e=>⟨e,(zF I).2 b' ?_,λ _ h=>h⟩⟩ (h.base.X4 f I hf) rfl ?_ (Dh.of λ d S _=> .inr (by rw[aah.1 S];rfl))
   ·rintro rfl;rw[f]at e;cases e;exact k.1 p.cell (aaw _) Θ rfl
   ·show aC _ g _ p.cell _ (((aB a w g p.root).drop p.cell).take 1);rw[K];exact⟨_,[],rfl,.inr ⟨b,_,rfl,G,f,⟨A,R,(zF I).1,O⟩,hf⟩,rfl⟩
  ·exact(aj B).elim
 ·exact(aj B).elim
end
end Go.AM
end
