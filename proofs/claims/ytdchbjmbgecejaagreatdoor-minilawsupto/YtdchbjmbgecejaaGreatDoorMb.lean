import Derived.Test.YtdchbjmbgecejaaGreatDoorMa
import Derived.MapKept
import Derived.Laws.MakeOwn
import Derived.Great.BuildSlice
import Derived.Deep.AppendSrc
import Derived.Laws.BytesArg
set_option linter.unusedVariables false
section
namespace Go.AM
open Go
section
variable {P:Program} {E:Env} {C:Ctx} {s s':St} {a a':Act} {w w':World} {g g':Gh} {o:Oper} {Q:Exit->Act->World->Prop}
def qA (P:Program) (E:Env) (C:Ctx) (o:Oper):Prop:=
 ∀{s:St} {a:Act} {w:World} {g:Gh} {us:List Upd} {d:Nat} {Q:Exit->Act->World->Prop},Rel E C s a w g->o.dst=some d->DOk E d->(plan E o s).run=some us->
  o.wp P a w (λ a' w'=> ∃g',Rel E C (s.dM us) a' w' g') Q
theorem ak {α:Type} {x y:α} (h:(Dyn.ret x).run=some y):x=y:=aao h
theorem aj {α:Type} {y:α} (h:(Dyn.fail:Dyn α).run=some y):False:=by cases h
theorem kN {α:Type} {c:Bool} {k:Dyn α} {y:α} (h:(Dyn.chk c k).run=some y):c=true/\k.run=some y:=by
 cases c with
 |false=>cases h
 |true=>exact⟨rfl,h⟩
theorem yU {α β:Type} {x:Option β} {k:β->Dyn α} {y:α} (h:(Dyn.idx x k).run=some y): ∃b,x=some b/\(k b).run=some y:=aaZ.1 h
theorem aX {α:Type} {c:Bool} {k:Dyn α} {y:α} (h:(bif c then k else .fail).run=some y):c=true/\k.run=some y:=by
 cases c with
 |false=>cases h
 |true=>exact⟨rfl,h⟩
theorem aeU {x:Operand} (ho:o.op= .move x):qA P E C o:=by
 intro s a w g us d Q h hdst hd hp;have hex:(execOp a.eval o).run P w= .ok (.value (a.eval x)) w:=by simp only[execOp,ho];rfl
 simp only[plan,ho,hdst]at hp;cases hm:LG E s x (fV E o.type)with
 |some t=>
  rw[hm]at hp;obtain rfl:=ak hp;unfold LG at hm
  cases hx:at_ E s x with
  |val ag cs=>
   have hv:=aN h hx (by simp);rw[hx]at hm;simp only[]at hm
   cases hpu:bD cs with
   |true=>
    rw[hpu]at hm;simp only[cond_true,aae]at hm;subst hm;exact bK h hdst hd hex hpu hv
   |false=>
    rw[hpu]at hm;simp only[cond_false]at hm
    cases x with
    |tmp n=>
     simp only[aae]at hm;subst hm;have hx':(s.tm n).1= .val ag cs:=hx;have e:s.tm n=(.val ag cs,(s.tm n).2):=by rw[←hx']
     refine bK (mk:= .hand) h hdst hd hex rfl ⟨⟨?_,λ k b e=>by cases e⟩,by simp,rfl,λ cs' hc=> ?_⟩
     ·simp[qm]
     ·obtain⟨h1,h2⟩:=h.pl hc;refine⟨hv.1,?_⟩;simp only[aC,abu];rw[aaF (by rw[hv.2.length];exact aaq _)]
    |const v=>simp at hm
    |global gl=>simp at hm
    |func f=>simp at hm
  |nilc=>
   rw[hx]at hm
   match hexp:fV E o.type,hm with
   | [],hm=>simp at hm
   |_::_::_,hm=>simp at hm
   | [sh],hm=>
     simp only[cond_eq_ite]at hm;split at hm
     ·rename_i hsl;simp only[aae]at hm;subst hm;rcases h.at_ x with⟨_,hval⟩|hat
      ·unfold Oper.wp;rw[hex,Oper.upon_value,hdst];refine⟨g,h.U4 hd (Fr.refl _ _ _) h.base rfl ?_⟩;rw[hval];exact⟨rfl,_,[],rfl,FX hsl,rfl⟩
      ·rw[hx]at hat;exact hat.elim
     ·cases hm
  |ref p ag m=>
   have hv:=aN h hx (by simp);rw[hx]at hm;simp only[aae]at hm;subst hm;exact bK h hdst hd hex rfl hv
  |rsub p z lo hi=>
   have hv:=aN h hx (by simp);rw[hx]at hm;simp only[aae]at hm;subst hm;exact bK h hdst hd hex rfl hv
  |addr p=>
   have hv:=aN h hx (by simp);rw[hx]at hm;simp only[aae]at hm;subst hm;exact bK h hdst hd hex rfl hv
  |rowr p ag n=>
   have hv:=aN h hx (by simp);rw[hx]at hm;simp only[aae]at hm;subst hm;exact bK h hdst hd hex rfl hv
  |addr2 p k q=>
   have hv:=aN h hx (by simp);rw[hx]at hm;simp only[aae]at hm;subst hm;exact bK h hdst hd hex rfl hv
  |paddr cs off=>
   have hv:=aN h hx (by simp);rw[hx]at hm;simp only[aae]at hm;subst hm;exact bK h hdst hd hex rfl hv
  |fn f=>
   have hv:=aN h hx (by simp);rw[hx]at hm;simp only[aae]at hm;subst hm;exact bK h hdst hd hex rfl hv
  |clo f ts=>
   have hv:=aN h hx (by simp);rw[hx]at hm;simp only[aae]at hm;subst hm;exact bK h hdst hd hex rfl hv
  |tup ts=>rw[hx]at hm;simp at hm
  |ext p q c=>rw[hx]at hm;simp at hm
  |dead=>rw[hx]at hm;simp at hm
  |undef=>rw[hx]at hm;simp at hm
 |none=>
  rw[hm]at hp
  cases hx:at_ E s x with
  |tup ts=>
   have hv:=aN h hx (by simp);rw[hx]at hp
   cases x with
   |tmp n=>
    obtain rfl:=ak hp
    let ρ:aH->aH:=λ o=>match o with| .tm m i=>if m=n then .hand i else o|o=>o
    have hk:Rel E C (s.dM [.keep n .dead]) a w (g.ren ρ):=by
     refine h.Jw (Fr.ren w g λ o ho=> ?_) (h.base.ren ρ) rfl (λ _ _ e=>by cases e) trivial;simp only[ρ];cases o<;>simp_all
    obtain⟨vs,e,hts⟩:=hv
    have hts':lI w (g.ren ρ) .hand 0 ts vs:=by
     have gen: ∀(ts:List (Bool×List CV)) (i:Nat) (vs:List Value),lI w g (.tm n) i ts vs->lI w (g.ren ρ) .hand i ts vs:=by
      intro ts
      induction ts with
      |nil=>intro i vs h;exact h
      |cons t ts ih=>
       intro i vs h;obtain⟨v,ws,e,⟨h1,h2⟩,h3⟩:=h;exact⟨v,ws,e,⟨h1,aF.ren _ i i _ (λ k _=>by simp[ρ]) h2⟩,ih _ _ h3⟩
     exact gen ts 0 vs hts
    let ρ2:aH->aH:=λ o=>match o with| .hand i=> .tm d i|o=>o
    unfold Oper.wp;rw[hex,Oper.upon_value,hdst];refine⟨(g.ren ρ).ren ρ2,?_⟩;have:=hk.U4 (t:= .tup ts) (v:=a.eval (.tmp n)) hd (Fr.ren w (g.ren ρ) (ρ:=ρ2) λ o ho=> ?_) (hk.base.ren ρ2) rfl ?_
    ·exact this
    ·simp only[ρ2];cases o<;>simp_all
    ·refine⟨vs,e,?_⟩
     have gen: ∀(ts:List (Bool×List CV)) (i:Nat) (vs:List Value),lI w (g.ren ρ) .hand i ts vs->lI w ((g.ren ρ).ren ρ2) (.tm d) i ts vs:=by
      intro ts
      induction ts with
      |nil=>intro i vs h;exact h
      |cons t ts ih=>
       intro i vs h;obtain⟨v,ws,e,⟨h1,h2⟩,h3⟩:=h;exact⟨v,ws,e,⟨h1,aF.ren _ i i _ (λ k _=>by simp[ρ2]) h2⟩,ih _ _ h3⟩
     exact gen ts 0 vs hts'
   |const v=>exact(aj hp).elim
   |global gl=>exact(aj hp).elim
   |func f=>exact(aj hp).elim
  |_=>rw[hx]at hp;exact(aj hp).elim
theorem YS {x:Operand} (ho:o.op= .assign x):qA P E C o:=by
 intro s a w g us d Q h hdst hd hp;have hex:(execOp a.eval o).run P w= .ok (.value (a.eval x)) w:=by simp only[execOp,ho];rfl
 simp only[plan,ho,hdst]at hp
 have take:((BA E s x (fV E o.type)).bind λ(ag,cs,us)=> .ret (us++[.tm d (.val ag cs)])).run=some us->o.wp P a w (λ a' w'=> ∃g',Rel E C (s.dM us) a' w' g') Q:=by
  intro hp;obtain⟨⟨ag,cs,us'⟩,ht,hp⟩:=aU hp;obtain rfl:=ak hp;exact Xo h hdst hd ht hex
 cases hx:at_ E s x with
 |addr p=>
  have hv:=aN h hx (by simp);rw[hx]at hp;obtain rfl:=ak hp;exact bK h hdst hd hex rfl hv
 |paddr cs off=>
  have hv:=aN h hx (by simp);rw[hx]at hp;obtain rfl:=ak hp;exact bK h hdst hd hex rfl hv
 |fn f=>
  have hv:=aN h hx (by simp);rw[hx]at hp;obtain rfl:=ak hp;exact bK h hdst hd hex rfl hv
 |clo f ts=>
  have hv:=aN h hx (by simp);rw[hx]at hp;obtain rfl:=ak hp;exact bK h hdst hd hex rfl hv
 |rsub p z lo hi=>
  have hv:=aN h hx (by simp);rw[hx]at hp;simp only[cond_eq_ite]at hp;split at hp
  ·obtain rfl:=ak hp;exact bK h hdst hd hex rfl hv
  ·exact take hp
 |rowr p ag n=>
  have hv:=aN h hx (by simp);rw[hx]at hp;simp only[cond_eq_ite]at hp;split at hp
  ·obtain rfl:=ak hp;exact bK h hdst hd hex rfl hv
  ·exact take hp
 |_=>rw[hx]at hp;exact take hp
theorem aeV {c x y:Operand} (ho:o.op= .pick c x y):qA P E C o:=by
 intro s a w g us d Q h hdst hd hp;simp only[plan,ho,hdst]at hp
 cases hc:uT E s c with
 |none=>rw[hc]at hp;exact(aj hp).elim
 |some v=>
  rw[hc]at hp;have hcv:=JK h hc
  have go: ∀z,a.eval z=(if v then a.eval x else a.eval y)-> ∀t,at_ E s z=t->(match t with
   | .val ag cs=>bif bD cs then Dyn.ret [Upd.tm d (.val ag cs)]else .fail
   |_=> .fail).run=some us->o.wp P a w (λ a' w'=> ∃g',Rel E C (s.dM us) a' w' g') Q:=by
   intro z hz t ht hp
   have hex:(execOp a.eval o).run P w= .ok (.value (a.eval z)) w:=by
    simp only[execOp,ho,hcv,asBool,hz];cases v<;>rfl
   cases t with
   |val ag cs=>
    simp only[]at hp
    cases hpu:bD cs with
    |false=>rw[hpu]at hp;exact(aj hp).elim
    |true=>
     rw[hpu]at hp;obtain rfl:=ak hp;exact bK h hdst hd hex hpu (aN h ht (by simp))
   |_=>exact(aj hp).elim
  cases v with
  |true=>exact go x rfl _ rfl hp
  |false=>exact go y rfl _ rfl hp
theorem Hy (hT:wE P E.ty) {t:TypeId} {x:Operand} (ho:o.op= .makeInterface t x):qA P E C o:=by
 intro s a w g us d Q h hdst hd hp;simp only[plan,ho,hdst]at hp
 cases hi:E.ty t with
 |none=>rw[hi]at hp;exact(aj hp).elim
 |some i=>
  rw[hi]at hp;obtain rfl:=ak hp;obtain⟨info,de,z,hat⟩:=hT.at_ hi
  have hex:(execOp a.eval o).run P w= .ok (.value (.iface t (a.eval x))) w:=by
   have hd:=hat.desc;simp only[execOp,ho,Instr.makeInterface,Sem.run_bind,run_underlying hat.und,Result.andThen_ok];cases de<;>first|rfl|simp[o8]at hd
  exact bK (mk:= .hand) h hdst hd hex rfl trivial
theorem uS {cs:List CV} (h:cs.length=1): ∃c,cs= [c]:=by
 match cs,h with
 | [c],_=>exact⟨c,rfl⟩
theorem ac7 {mk:Nat->aH} {p:Pl} {v:Value} (hv:TV s a w g mk (.addr p) v) (hl:zy s p=true): ∃ad,v= .pointer (some ad):=by
 obtain⟨_,hv⟩:=hv;unfold zy at hl
 cases hs:p.sub with
 |none=>
  rw[hs]at hl hv;obtain⟨n,hn,hv⟩:=hv;rw[hn]at hl;simp only[aB]at hl
  cases hb:s.bx n with
  |none=>rw[hb]at hl;cases hl
  |some b=>rw[hb]at hl;exact⟨_,hv b hb (aal hl)⟩
 |some ij=>
  obtain⟨i,j⟩:=ij;rw[hs]at hl hv;obtain⟨_,hv⟩:=hv
  cases hc:aW s p 1 with
  |none=>rw[hc]at hl;cases hl
  |some cs=>
   have hlen:cs.length=1:=by
    rw[bI]at hc;obtain⟨cells,_,h1,_,rfl⟩:=hc;simp;omega
   obtain⟨c,rfl⟩:=uS hlen;obtain⟨b,l,k,_,_,e⟩:=hv c hc;exact⟨_,e⟩
theorem UD {x:Operand} (ho:o.op= .nilCheck x):qA P E C o:=by
 intro s a w g us d Q h hdst hd hp;simp only[plan,ho,hdst]at hp
 cases hx:at_ E s x with
 |addr p=>
  have hv:=aN h hx (by simp);rw[hx]at hp;obtain⟨hl,hp⟩:=aX hp;obtain rfl:=ak hp;obtain⟨ad,e⟩:=ac7 hv hl;refine bK h hdst hd ?_ rfl hv;simp only[execOp,ho,e];rfl
 |paddr cs off=>
  have hv:=aN h hx (by simp);rw[hx]at hp;obtain rfl:=ak hp;obtain⟨ad,vs,e,_⟩:=id hv;refine bK h hdst hd ?_ rfl hv;simp only[execOp,ho,e];rfl
 |fn f=>
  have hv:=aN h hx (by simp);rw[hx]at hp;obtain rfl:=ak hp;have e:a.eval x= .func (.func f) #[] #[]:=hv;refine bK h hdst hd ?_ rfl hv;simp only[execOp,ho,e];rfl
 |clo f ts=>
  have hv:=aN h hx (by simp);rw[hx]at hp;obtain rfl:=ak hp;obtain⟨vs,e,_⟩:=id hv;refine bK h hdst hd ?_ rfl hv;simp only[execOp,ho,e];rfl
 |_=>rw[hx]at hp;exact(aj hp).elim
end
end Go.AM
end
section
namespace Go.AM
open Go
section
variable {P:Program} {E:Env} {C:Ctx} {s s':St} {a a':Act} {w w':World} {g g':Gh} {o:Oper} {Q:Exit->Act->World->Prop}
theorem Px (h:Rel E C s a w g) {x:Operand} {k:IntKind} {n:Int} (hx:at_ E s x= .val false [⟨.int k,.pure,n⟩]):a.eval x= .int k n:=by
 obtain⟨u,e,hr,hu⟩:=BZ.one (aN h hx (by simp));rw[←hu rfl];exact hr
theorem Pv (h:Rel E C s a w g) {x:Operand} {b:Bool} (hx:at_ E s x= .val false [⟨.bool,.pure,b⟩]):a.eval x= .bool b:=by
 obtain⟨u,e,hr,hu⟩:=BZ.one (aN h hx (by simp));rw[←hu rfl];exact hr
theorem ZE (h:Rel E C s a w g) {x:Operand} {b:ByteArray} (hx:at_ E s x= .val false [⟨.str,.pure,b⟩]):a.eval x= .string b:=by
 obtain⟨u,e,hr,hu⟩:=BZ.one (aN h hx (by simp));rw[←hu rfl];exact hr
theorem afS (t:TypeId) (x y:Operand) (op:BinOp) (k k':IntKind) (m n:Int) (r:T)
 (hr:(bif DN op then afT op k m n else bif decide (k=k')then ahr op k m n else .fail).run=some r):
 ∃v,(do eqGuard op t x y (.int k m) (.int k' n);binOp op t (.int k m) (.int k' n):Sem Value).run P w= .ok v w/\r.BH=true/\ ∀s a g,TV s a w g .hand r v:=by
 have ge:eqGuard op t x y (.int k m) (.int k' n)=pure ():=by cases op<;>rfl
 rw[ge];by_cases hs:DN op=true
 ·rw[hs]at hr;simp only[cond_true]at hr;cases op<;>simp[DN]at hs
  ·obtain⟨hc,hr⟩:=kN hr;obtain rfl:=ak hr;simp only[aad,decide_eq_true_eq]at hc;refine⟨.int k (k.wrap (m*2^n.toNat)),?_,rfl,λ s a g=>oH k _⟩;simp[binOp_shl,shift_shl k k' m n hc.1 hc.2]
  ·obtain⟨hc,hr⟩:=kN hr;obtain rfl:=ak hr;simp only[aad,decide_eq_true_eq]at hc;refine⟨.int k (m/2^n.toNat),?_,rfl,λ s a g=>oH k _⟩;simp[binOp_shr,shift_shr k k' m n hc.1 hc.2]
 ·have hs':DN op=false:=by simpa using hs
  rw[hs']at hr;simp only[cond_false]at hr;have hk:=(aX hr).1
  replace hr:=(aX hr).2
  simp only[decide_eq_true_eq]at hk;subst hk;cases op
  case shl=>simp[DN]at hs'
  case shr=>simp[DN]at hs'
  case add=>obtain rfl:=ak hr;exact⟨_,by simp[binOp_add,Op.intArith],rfl,λ s a g=>oH k _⟩
  case sub=>obtain rfl:=ak hr;exact⟨_,by simp[binOp_sub,Op.intArith],rfl,λ s a g=>oH k _⟩
  case mul=>obtain rfl:=ak hr;exact⟨_,by simp[binOp_mul,Op.intArith],rfl,λ s a g=>oH k _⟩
  case quo=>
   have hc:=(kN hr).1
   replace hr:=(kN hr).2
   obtain rfl:=ak hr;simp only[abj,decide_eq_false_iff_not]at hc;exact⟨_,by simp[binOp_quo,Op.intDiv,hc],rfl,λ s a g=>oH k _⟩
  case rem=>
   have hc:=(kN hr).1
   replace hr:=(kN hr).2
   obtain rfl:=ak hr;simp only[abj,decide_eq_false_iff_not]at hc;exact⟨_,by simp[binOp_rem,Op.intDiv,hc],rfl,λ s a g=>oH k _⟩
  case and=>obtain rfl:=ak hr;exact⟨_,by simp[binOp_and,intBits_and],rfl,λ s a g=>oH k _⟩
  case or=>obtain rfl:=ak hr;exact⟨_,by simp[binOp_or,intBits_or],rfl,λ s a g=>oH k _⟩
  case xor=>obtain rfl:=ak hr;exact⟨_,by simp[binOp_xor,intBits_xor],rfl,λ s a g=>oH k _⟩
  case andNot=>obtain rfl:=ak hr;exact⟨_,by simp[binOp_andNot,intBits_andNot],rfl,λ s a g=>oH k _⟩
  case eql=>obtain rfl:=ak hr;exact⟨.bool (decide (m=n)),by simp[binOp_eql];by_cases e:m=n<;>simp[e],rfl,λ s a g=>sV _⟩
  case neq=>obtain rfl:=ak hr;exact⟨.bool (!decide (m=n)),by simp[binOp_neq];by_cases e:m=n<;>simp[e],rfl,λ s a g=>sV _⟩
  case lss=>obtain rfl:=ak hr;exact⟨_,by simp[binOp_lss],rfl,λ s a g=>sV _⟩
  case leq=>obtain rfl:=ak hr;exact⟨_,by simp[binOp_leq],rfl,λ s a g=>sV _⟩
  case gtr=>obtain rfl:=ak hr;exact⟨_,by simp[binOp_gtr],rfl,λ s a g=>sV _⟩
  case geq=>obtain rfl:=ak hr;exact⟨_,by simp[binOp_geq],rfl,λ s a g=>sV _⟩
theorem run_equal_bool (w:World) {t:TypeId} (hu:P.underlying t=some .bool) (m n:Bool):(Op.equal t (.bool m) (.bool n)).run P w= .ok (m==n) w:=by
 unfold Op.equal Op.maxDepth;rw[show(10000:Nat)=9999+1 from rfl,Op.equalIn];simp only[Sem.run_bind,run_underlying hu,Result.andThen_ok,Sem.run_pure]
theorem YT (hT:wE P E.ty) {op:BinOp} {t t':TypeId} {x y:Operand} (ho:o.op= .binOp op t x y t') (hy:Vs y=false):qA P E C o:=by
 intro s a w g us d Q h hdst hd hp;simp only[plan,ho,hdst,hy,cond_false]at hp;obtain⟨r,hr,hp⟩:=aU hp;obtain rfl:=ak hp
 have key: ∃v,(do eqGuard op t x y (a.eval x) (a.eval y);binOp op t (a.eval x) (a.eval y):Sem Value).run P w= .ok v w/\r.BH=true/\ ∀s a g,TV s a w g .hand r v:=by
  unfold aiB at hr;split at hr
  ·rename_i k m k' n hx hy;rw[Px h hx,Px h hy];exact afS t x y op k k' m n r hr
  ·rename_i m n hx hy;rw[Pv h hx,Pv h hy];have hB:=(aX hr).1
   replace hr:=(aX hr).2
   have hu:P.underlying t=some .bool:=by
    unfold boolTy at hB;split at hB
    ·rename_i i hi;simp only[aad,abj]at hB;obtain⟨info,de,z,hat⟩:=hT.at_ hi;rw[hat.und,hat.bool (jy hB.2) hB.1]
    ·cases hB
   have heq:=run_equal_bool (P:=P) w hu m n;unfold aiA at hr;have ge:eqGuard op t x y (.bool m) (.bool n)=pure ():=by cases op<;>rfl
   rw[ge];split at hr
   ·obtain rfl:=ak hr;exact⟨_,by simp only[Sem.run_bind,Sem.run_pure,Result.andThen_ok,binOp];rw[heq];rfl,rfl,λ s a g=>sV _⟩
   ·obtain rfl:=ak hr;exact⟨_,by simp only[Sem.run_bind,Sem.run_pure,Result.andThen_ok,binOp];rw[heq];rfl,rfl,λ s a g=>sV _⟩
   ·exact(aj hr).elim
  ·exact(aj hr).elim
 obtain⟨v,e,hc,hv⟩:=key;refine bK (mk:= .hand) h hdst hd ?_ hc (hv _ _ _);have e':=congrArg (λ r=>r.andThen λ v w=>Result.ok (Next.value v) w) e;simp only[Result.andThen_ok]at e';rw[←e'];simp only[execOp,ho,Sem.run_bind,Sem.run_pure]
theorem aeW {op:UnOp} {t:TypeId} {x:Operand} (ho:o.op= .unOp op t x):qA P E C o:=by
 intro s a w g us d Q h hdst hd hp;simp only[plan,ho,hdst]at hp;split at hp
 ·rename_i b hx;obtain rfl:=ak hp;refine bK (mk:= .hand) h hdst hd ?_ rfl (sV _);simp only[execOp,ho,Pv h hx,Op.unary];rfl
 ·rename_i k n hx;obtain⟨r,hr,hp⟩:=aU hp;obtain rfl:=ak hp;obtain rfl:=ak hr;refine bK (mk:= .hand) h hdst hd ?_ rfl (oH _ _);simp only[execOp,ho,Px h hx,Op.unary,Op.intArith];rfl
 ·exact(aj hp).elim
theorem Oy (hT:wE P E.ty) {t:TypeId} {k:IntKind} (h:intTy E t=some k):P.underlying t=some (.int k):=by
 unfold intTy at h;split at h
 ·rename_i hi;cases h;obtain⟨info,de,z,hat⟩:=hT.at_ hi;rw[hat.und,hat.int rfl rfl]
 ·cases h
theorem Ik (hT:wE P E.ty) {t:TypeId} (h:LY E t=true):P.underlying t=some .string:=by
 unfold LY at h;split at h
 ·rename_i hi;obtain⟨info,de,z,hat⟩:=hT.at_ hi;rw[hat.und,hat.str rfl rfl]
 ·cases h
theorem UA (hT:wE P E.ty) {t t':TypeId} {x:Operand} (ho:o.op= .convert t' t x) (hb:(Z4 E t'&&LY E t)=false):qA P E C o:=by
 intro s a w g us d Q h hdst hd hp;simp only[plan,ho,hdst,hb,cond_false]at hp;split at hp
 ·rename_i k0 n k1 k hx h1 h2;obtain rfl:=ak hp;refine bK (mk:= .hand) h hdst hd ?_ rfl (oH _ _);simp only[execOp,ho,Px h hx,convert,Sem.run_bind,run_underlying (Oy hT h1),run_underlying (Oy hT h2),Result.andThen_ok,Conv.intToInt,Sem.run_pure]
 ·exact(aj hp).elim
theorem adl (hT:wE P E.ty) {t:TypeId} {x i:Operand} (ho:o.op= .index t x i):qA P E C o:=by
 intro s a w g us d Q h hdst hd hp;simp only[plan,ho,hdst]at hp;split at hp
 ·rename_i b k i' hx hi hst;obtain⟨c,hc,hp⟩:=yU hp;obtain rfl:=ak hp;obtain⟨_,hiv⟩:=sG h hi;refine bK (mk:= .hand) h hdst hd ?_ rfl (oH _ _);unfold XR at hc;simp only[cond_eq_ite,decide_eq_true_eq]at hc;split at hc
  ·rename_i h0;obtain⟨u,hu,rfl⟩:=aaG.1 hc;simp only[execOp,ho,ZE h hx,hiv,Instr.index,asIntOf,Sem.run_bind,Sem.run_pure,Result.andThen_ok,run_underlying (Ik hT hst),if_pos h0,hu]
  ·cases hc
 ·exact(aj hp).elim
theorem lI.get {mk:Nat->aH}: ∀(ts:List (Bool×List CV)) (i:Nat) (vs:List Value),lI w g mk i ts vs-> ∀(j:Nat) (ag:Bool) (cs:List CV),ts[j]? =some (ag,cs)-> ∃v k,vs[j]? =some v/\BZ w g mk k ag cs v
 | [],_,_,_,j,ag,cs,hj=>by simp at hj
 |(ag',cs')::ts,i,_,⟨v,ws,e,h1,h2⟩,0,ag,cs,hj=>by
  simp at hj;obtain⟨rfl,rfl⟩:=hj;exact⟨v,i,by simp[e],h1⟩
 |(ag',cs')::ts,i,_,⟨v,ws,e,h1,h2⟩,j+1,ag,cs,hj=>by
  obtain⟨u,k,hu,hr⟩:=lI.get ts _ ws h2 j ag cs (by simpa using hj);exact⟨u,k,by simpa [e]using hu,hr⟩
theorem jo.plain {F:Fz} {sh:Sh} {x:El sh} {v:Value} (h:jo w F sh x v):isAgg v=false/\v.oneCell'=true:=by
 cases sh with
 |int k=>have e:v= .int k x:=h;subst e;exact⟨rfl,rfl⟩
 |bool=>have e:v= .bool x:=h;subst e;exact⟨rfl,rfl⟩
 |str=>have e:v= .string x:=h;subst e;exact⟨rfl,rfl⟩
 |dl _=>exact(show False from h).elim
 |mp _ _=>exact(show False from h).elim
 |sl es=>obtain⟨A,c,e,_⟩:=(show EX _ _ _ _ v from h);subst e;exact⟨rfl,rfl⟩
 |rsl ss=>obtain⟨A,c,e,_⟩:=(show EX _ _ _ _ v from h);subst e;exact⟨rfl,rfl⟩
theorem jE.plain {ow:aH} {c:CV} {v:Value} (hd:c.tg≠ .dead) (h:jE w g ow c v):isAgg v=false/\v.oneCell'=true:=by
 by_cases hs:c.sh.pF=true
 ·rcases oP hs hd h with⟨A,k,e,_⟩|⟨ad,k,cs,e,_⟩<;>subst e<;>exact⟨rfl,rfl⟩
 ·by_cases hm:c.sh.Ie=true
  ·have ht:c.tg= .own:=by
    obtain⟨sh,tg,x⟩:=c;cases sh<;>simp[Sh.Ie]at hm;cases tg<;>first|rfl|exact absurd rfl hd|exact(show False from h).elim
   have hr:SS w g ow c.sh c.x v:=by unfold jE at h;rw[ht]at h;simpa [hs,hm]using h
   obtain⟨_,_,h1,h2⟩:=hr.mp;refine⟨?_,h2⟩;cases v<;>first|rfl|cases h1
  ·exact(y9 (by simpa using hs) (by simpa using hm) hd h).plain
theorem FM: ∀(fs:List Field) (l:List (Nat×Nat)),places P fs=some l-> ∀(f:Nat) (off n:Nat),l[f]? =some (off,n)-> ∃fd info,fs[f]? =some fd/\fd.offset=off/\P.info? fd.type=some info/\info.size=n
 | [],l,h,f,off,n,hf=>by simp[places]at h;subst h;simp at hf
 |fd::fs,l,h,f,off,n,hf=>by
  simp only[places,List.mapM_cons,Option.bind_eq_bind,Option.pure_def]at h
  cases hi:P.info? fd.type with
  |none=>simp[hi]at h
  |some i=>
   cases hr:fs.mapM (λ f=>(P.info? f.type).map λ i=>(f.offset,i.size))with
   |none=>simp[hi,hr]at h
   |some rest=>
    simp[hi,hr]at h;subst h
    cases f with
    |zero=>simp at hf;exact⟨fd,i,rfl,hf.1,hi,hf.2⟩
    |succ f=>
     obtain⟨fd',i',h1,h2⟩:=FM fs rest hr f off n (by simpa using hf);exact⟨fd',i',by simpa using h1,h2⟩
theorem adk (hT:wE P E.ty) {t:TypeId} {x:Operand} {f:Nat} (ho:o.op= .field t x f):qA P E C o:=by
 intro s a w g us d Q h hdst hd hp;simp only[plan,ho,hdst]at hp;split at hp
 ·rename_i i hi;split at hp
  ·rename_i off n ft cs hf hft hx;split at hp
   ·rename_i j hj;obtain⟨hc,hp⟩:=aX hp;obtain rfl:=ak hp;simp only[aad]at hc;obtain⟨⟨⟨hag,hpu⟩,hn⟩,hle⟩:=hc;have hn:=aal hn;have hle:=aa6 hle;have hv:=aN h hx (by simp);obtain⟨info,de,z,hat⟩:=hT.at_ hi;obtain⟨fs,rfl,hpl,hty,_⟩:=hat.struct hag;obtain⟨fd,fi,h1,h2,h3,h4⟩:=FM fs.toList i.fields hpl f off n hf
    have hft':fd.type=ft:=by
     have:=congrArg (λ l=>l[f]?) hty;simp only[aar,h1,aaK,hft,aae]at this;exact this
    subst hft';obtain⟨finfo,fde,fz,fat⟩:=hT.at_ hj
    have hve: ∃arr,a.eval x= .agg arr:=by
     have:=hv.1;cases he:a.eval x<;>rw[he]at this<;>simp[isAgg]at this;exact⟨_,rfl⟩
    obtain⟨arr,hve⟩:=hve;have hcs:aF w g (VF x) 0 cs arr.toList:=by have:=hv.2;rw[hve]at this;exact this
    have hsub:=hcs.sub off n;have hlen:=hcs.length;have hfd:fs[f]? =some fd:=by simpa using h1
    have hagg:(Go.isAgg fd.type).run P w= .ok j.ag w:=by
     unfold Go.isAgg;rw[Sem.run_bind,run_underlying fat.und w,Result.andThen_ok,←fat.isRow];cases fde<;>rfl
    cases hj':j.ag with
    |true=>
     rw[hj']at hagg
     have hex:(execOp a.eval o).run P w= .ok (.value (.agg (arr.extract off (off+n)))) w:=by
      simp only[execOp,ho,hve,Instr.field,Sem.run_bind,run_underlying hat.und,Result.andThen_ok,hfd,asAgg,Sem.run_pure,part,hagg,if_true,sizeOf,typeInfo,run_program,h3,h2,h4]
     refine bK (mk:=VF x) h hdst hd hex hpu ⟨rfl,?_⟩
     have:(Value.agg (arr.extract off (off+n))).cells.toList=(arr.toList.drop off).take n:=by
      simp[Value.cells]
     rw[this];exact aF.uq (Keeps.refl _ _) _ (0+off) 0 _ hpu hsub
    |false=>
     rw[hj']at hagg;obtain⟨sh,hsh⟩:=fat.one hj';have hn1:n=1:=by rw[←hn,hsh];rfl
     subst hn1;have hlt:off<arr.toList.length:=by omega
     have hex:(execOp a.eval o).run P w= .ok (.value (arr.toList[off])) w:=by
      have:arr[off]? =some (arr.toList[off]):=by simp at hlt ⊢
      simp only[execOp,ho,hve,Instr.field,Sem.run_bind,run_underlying hat.und,Result.andThen_ok,hfd,asAgg,Sem.run_pure,part,hagg,aa3,if_false,h2,this]
     have e1:(arr.toList.drop off).take 1= [arr.toList[off]]:=by
      rw[aaI hlt,List.take_succ_cons,ace]
     rw[e1]at hsub;obtain⟨c,hc1⟩:=uS (cs:=(cs.drop off).take 1) (by simp;omega);rw[hc1]at hsub hpu ⊢;obtain⟨v,ws,e,hr,hw⟩:=hsub;simp only[aF]at hw;subst hw;simp only[aa5,and_true]at e;subst e;have hcp:c.tg= .pure:=rQ hpu c (by simp);have hpl:=((qH hcp).1 hr).plain;refine bK (mk:= .hand) h hdst hd hex hpu ⟨hpl.1,?_⟩;rw[aJ hpl.1];exact⟨_,[],rfl,(qH hcp).2 ((qH hcp).1 hr),rfl⟩
   ·exact(aj hp).elim
  ·exact(aj hp).elim
 ·exact(aj hp).elim
def LZ (ts:List (Bool×List CV)):Nat->Nat
 |0=>0
 |i+1=>match ts with| []=>0|(_,cs)::ts=>cs.length+LZ ts i
theorem lI.ren {ρ:aH->aH} {mk mk':Nat->aH}: ∀(ts:List (Bool×List CV)) (i j:Nat) (vs:List Value),(∀k,ρ (mk (i+k))=mk' (j+k))->lI w g mk i ts vs->lI w (g.ren ρ) mk' j ts vs
 | [],_,_,_,_,h=>h
 |(ag,cs)::ts,i,j,_,hr,⟨v,ws,e,⟨h1,h2⟩,h⟩=>⟨v,ws,e,⟨h1,aF.ren cs i j _ (λ k _=>hr k) h2⟩,
  lI.ren ts _ _ ws (λ k=>by have:=hr (cs.length+k);rwa [←abC,←abC]at this) h⟩
theorem lI.take {ρ:aH->aH} {mk:Nat->aH}: ∀(ts:List (Bool×List CV)) (i0:Nat) (vs:List Value) (i:Nat) (ag:Bool) (cs:List CV),lI w g mk i0 ts vs->ts[i]? =some (ag,cs)->
 (∀j,¬(i0+LZ ts i<=j/\j<i0+LZ ts i+cs.length)->ρ (mk j)=mk j)->
 ∃v,vs[i]? =some v/\BZ w g mk (i0+LZ ts i) ag cs v/\lI w (g.ren ρ) mk i0 (ts.set i (ag,cs.map CV.left)) vs
 | [],_,_,i,_,_,_,hi,_=>by simp at hi
 |(ag',cs')::ts,i0,_,0,ag,cs,⟨v,ws,e,h1,h2⟩,hi,hρ=>by
  simp at hi;obtain⟨rfl,rfl⟩:=hi;simp only[LZ,aaU]at hρ ⊢;refine⟨v,by simp[e],h1,v,ws,e,⟨h1.1,?_⟩,?_⟩
  ·exact aF.left (g':=g.ren ρ) (show Keeps w w g.F (g.ren ρ).F from Keeps.refl w g.F) cs' i0 _ h1.2
  ·rw[aaN];refine lI.ren ts _ _ ws (λ k=>hρ _ (by omega)) h2
 |(ag',cs')::ts,i0,_,i+1,ag,cs,⟨v,ws,e,h1,h2⟩,hi,hρ=>by
  simp only[LZ]at hρ ⊢;obtain⟨u,hu,hr,hs⟩:=lI.take ts (i0+cs'.length) ws i ag cs h2 (by simpa using hi) (λ j hj=>hρ j (by omega));refine⟨u,by simpa [e]using hu,by rw[←abC];exact hr,v,ws,e,⟨h1.1,?_⟩,hs⟩;exact aF.ren cs' i0 i0 _ (λ k hk=>hρ _ (by omega)) h1.2
theorem WZ {x:Operand} {i:Nat} (ho:o.op= .extract x i):qA P E C o:=by
 intro s a w g us d Q h hdst hd hp;simp only[plan,ho,hdst]at hp;split at hp
 ·rename_i ts hx;have hv:=aN h hx (by simp);obtain⟨vs,e,hts⟩:=id hv;split at hp
  ·rename_i ag cs hi
   have hex: ∀v,vs[i]? =some v->(execOp a.eval o).run P w= .ok (.value v) w:=by
    intro v hvi;have:(vs.toArray)[i]? =some v:=by simpa using hvi
    simp only[execOp,ho,e,Instr.extract,this];rfl
   simp only[cond_eq_ite]at hp;split at hp
   ·rename_i hpu;obtain rfl:=ak hp;obtain⟨v,k,hvi,hvr⟩:=hts.get ts 0 vs i ag cs hi;exact bK (mk:= .hand) h hdst hd (hex v hvi) hpu ⟨hvr.1,aF.uq (Keeps.refl _ _) cs k 0 _ hpu hvr.2⟩
   ·cases x with
    |tmp n=>
     obtain rfl:=ak hp
     let ρ:aH->aH:=λ o=>match o with
      | .tm m j=>if m=n/\LZ ts i<=j/\j<LZ ts i+cs.length then .hand (j-LZ ts i)else o
      |o=>o
     obtain⟨v,hvi,hvr,hleft⟩:=lI.take (ρ:=ρ) ts 0 vs i ag cs hts hi (λ j hj=>by
      simp only[ρ,VF];rw[if_neg (by omega)])
     rw[aaW]at hvr
     have hk:Rel E C (s.dM [.keep n (.tup (ts.set i (ag,cs.map CV.left)))]) a w (g.ren ρ):=by
      refine h.Jw (Fr.ren w g λ o ho=> ?_) (h.base.ren ρ) rfl (λ _ _ e=>by cases e) ⟨vs,e,hleft⟩;simp only[ρ];cases o<;>simp_all
     have hh:aF w (g.ren ρ) .hand 0 cs v.cells.toList:=aF.ren cs (LZ ts i) 0 _ (λ k hk=>by
      simp only[ρ,VF];rw[if_pos ⟨trivial,by omega,by omega⟩];congr 1;omega) hvr.2
     obtain⟨g2,r2,_,_⟩:=hk.xI hd hvr.1 hh;unfold Oper.wp;rw[hex v hvi,Oper.upon_value,hdst];exact⟨g2,r2⟩
    |const v=>exact(aj hp).elim
    |global gl=>exact(aj hp).elim
    |func f=>exact(aj hp).elim
  ·exact(aj hp).elim
 ·exact(aj hp).elim
end
end Go.AM
end
section
namespace Go.AM
open Go
section
variable {P:Program} {E:Env} {C:Ctx} {s s':St} {a a':Act} {w w':World} {g g':Gh} {o:Oper} {Q:Exit->Act->World->Prop}
theorem ED {p:Pl} {cs:List CV} (h:aW s p 1=some cs): ∃c,cs= [c]:=by
 refine uS ?_;rw[bI]at h;obtain⟨cells,_,h1,_,rfl⟩:=h;simp;omega
theorem XE {mk:Nat->aH} {p:Pl} {off:Nat} {v:Value} (hv:TV s a w g mk (.addr p) v) (hl:zy s p=true):
 ∃ad:Addr,v= .pointer (some ad)/\ad.spot=none/\TV s a w g mk (.addr (Mc p off)) (.pointer (some ⟨ad.block,ad.off+off,none⟩)):=by
 obtain⟨ho,hv⟩:=hv;unfold zy at hl
 cases hs:p.sub with
 |none=>
  rw[hs]at hl hv;obtain⟨n,hn,hv⟩:=hv;rw[hn]at hl;simp only[aB]at hl
  cases hb:s.bx n with
  |none=>rw[hb]at hl;cases hl
  |some b=>
   rw[hb]at hl;have hi:=aal hl;refine⟨_,hv b hb hi,rfl,?_⟩;have e:Mc p off= {p with cell:=p.cell+off,vers:=[]}:=by simp only[Mc,hs]
   rw[e];refine⟨⟨ho.inst,λ k b1 _ _ _ i x c v hx=>by simp at hx⟩,?_⟩;simp only[hs];exact⟨n,hn,λ b' hb' hi'=>rfl⟩
 |some ij=>
  obtain⟨i,j⟩:=ij;rw[hs]at hl hv;obtain⟨hvl,hv⟩:=hv
  cases hc:aW s p 1 with
  |none=>rw[hc]at hl;cases hl
  |some cs=>
   obtain⟨c,rfl⟩:=ED hc;obtain⟨b,l,k,h1,h2,rfl⟩:=hv c hc;refine⟨_,rfl,rfl,?_⟩;have e:Mc p off= {p with sub:=some (i,j+off)}:=by simp only[Mc,hs]
   rw[e];refine⟨⟨ho.inst,ho.vers⟩,hvl,λ c' hc'=> ?_⟩;have hc'':aW s p 1=some [c']:=hc';rw[hc]at hc'';simp only[aae,aa5,and_true]at hc'';subst hc'';exact⟨b,l,k,h1,h2,by rw[abC]⟩
theorem Q9 (hT:wE P E.ty) {t:TypeId} {x:Operand} {f:Nat} (ho:o.op= .fieldAddr t x f):qA P E C o:=by
 intro s a w g us d Q h hdst hd hp;simp only[plan,ho,hdst]at hp;split at hp
 ·rename_i i hi
  have go: ∀(off n:Nat),i.fields[f]? =some (off,n)->i.ag=true-> ∀ad:Addr,ad.spot=none->a.eval x= .pointer (some ad)->(execOp a.eval o).run P w= .ok (.value (.pointer (some ⟨ad.block,ad.off+off,none⟩))) w:=by
   intro off n hf hag ad hsp hx;obtain⟨info,de,z,hat⟩:=hT.at_ hi;obtain⟨fs,rfl,hpl,_,hnz⟩:=hat.struct hag;obtain⟨fd,fi,h1,h2,h3,h4⟩:=FM fs.toList i.fields hpl f off n hf;have hfd:fs[f]? =some fd:=by simpa using h1
   have hn:=(hnz (off,n) (aak hf)).1
   have hadd:ad.add fd.offset=⟨ad.block,ad.off+off,none⟩:=by
    obtain⟨b,o,sp⟩:=ad;simp only at hsp;subst hsp;rw[h2,Addr.add_mid]
   simp only[execOp,ho,hx,Instr.fieldAt,Sem.run_bind,run_underlying hat.und,Result.andThen_ok,hfd,Instr.sureAddr,Sem.run_pure,fieldPlace,sizeOf,typeInfo,run_program,h3,h4,if_neg hn,hadd]
  split at hp
  ·rename_i off n p hf hx;obtain⟨hc,hp⟩:=aX hp;simp only[aad]at hc;obtain rfl:=ak hp;have hv:=aN h hx (by simp);obtain⟨ad,e,hsp,hv'⟩:=XE (off:=off) hv hc.2;exact bK h hdst hd (go off n hf hc.1 ad hsp e) rfl hv'
  ·rename_i off n cs k hf hx;obtain⟨hc,hp⟩:=aX hp;obtain rfl:=ak hp;have hv:=aN h hx (by simp);obtain⟨ad,vs,e,h1,h2,h3⟩:=id hv;exact bK h hdst hd (go off n hf hc _ rfl e) rfl ⟨ad,vs,by rw[abC],h1,h2,h3⟩
  ·exact(aj hp).elim
 ·exact(aj hp).elim
theorem aee (sh:Sh):sh.base.pF=sh.pF:=by cases sh<;>rfl
theorem Wn (sh:Sh):vX sh.base=vX sh:=by cases sh<;>rfl
theorem afQ (sh:Sh):sh.base.n=sh.n:=by cases sh<;>rfl
theorem Bq (hT:wE P E.ty) {t:TypeId} {c:CV} (h:D5 E t c=true):c.sh.pF=true/\ ∃e j info z de,P.underlying t=some (.slice e)/\((j.cells.all λ s=> !s.Ie)=true/\j.cells.length<=8)/\E.ty e=some j/\j.cells=vX c.sh/\GZ P E.ty e j info de z/\info.size=c.sh.n:=by
 unfold D5 at h;split at h
 ·rename_i sh f1 f2 e hi;simp only[aad]at h;have hsh:=Sh.eq_of_beq h.2;obtain⟨info,de,z,hat⟩:=hT.at_ hi;obtain⟨e',j,rfl,he,hj,hc⟩:=hat.slice (sh:=sh) rfl h.1 rfl;obtain⟨info',de',z',hat'⟩:=hT.at_ hj;refine⟨by rw[←aee,←hsh];exact h.1,e',j,info',z',de',hat.und,⟨hat.aiI he hj,hat.short he hj⟩,hj,by rw[hc,hsh,Wn],hat',?_⟩;rw[hat'.size,hc,jZ,hsh,afQ]
 ·cases h
theorem J4 {t:TypeId} {i:TypeInfo} (w:World) (h:P.info? t=some i):(sizeOf t).run P w= .ok i.size w:=by simp[sizeOf,typeInfo,h]
theorem vT (w:World) {t e:TypeId} {info:TypeInfo} (hu:P.underlying t=some (.slice e)) (hi:P.info? e=some info) (ad:Addr) (hsp:ad.spot=none) (l k:Nat) (kd:IntKind) (i:Int) (h0:0<=i) (h1:i.toNat<l):
 (Instr.indexAt t (.slice (some ad) l k) (.int kd i)).run P w= .ok (.pointer (some ⟨ad.block,ad.off+i.toNat*info.size,none⟩)) w:=by
 have hadd:ad.add (i.toNat*info.size)=⟨ad.block,ad.off+i.toNat*info.size,none⟩:=by
  obtain⟨b,o,sp⟩:=ad;simp only at hsp;subst hsp;rw[Addr.add_mid]
 have hlt:0<=i/\i<(l:Int):=⟨h0,by omega⟩;simp only[Instr.indexAt,asIntOf,Sem.run_bind,Sem.run_pure,Result.andThen_ok,run_underlying hu,if_pos hlt,J4 w hi,hadd]
theorem WB {c:CV} {i:Int} {ds:List CV} (h:(elemAt c i).run=some ds):0<=i/\(xW c i.toNat).run=some ds:=by
 obtain⟨sh,ct,x⟩:=c
 have key: ∀{α:Type} (l:List α) (f:α->List CV),(nth? l i).bind (λ e=>some (f e))=some ds->0<=i/\(at? l i.toNat).bind (λ e=>some (f e))=some ds:=by
  intro α l f h;unfold nth? at h;by_cases h0:0<=i
  ·simp only[h0,decide_true,cond_true]at h;exact⟨h0,h⟩
  ·simp only[h0,decide_false,cond_false,Option.bind_none]at h;cases h
 cases sh with
 |sl es=>cases ct<;>first|exact(aP h rfl).elim|exact key (α:=ElA es) x _ h
 |rsl ss=>cases ct<;>first|exact(aP h rfl).elim|exact key (α:=RT (ElA ss)) x _ h
 |int k=>exact(aP h rfl).elim
 |bool=>exact(aP h rfl).elim
 |str=>exact(aP h rfl).elim
 |dl _=>exact(aP h rfl).elim
 |mp _ _=>exact(aP h rfl).elim
end
end Go.AM
end
section
namespace Go.AM
open Go
section
variable {P:Program} {E:Env} {C:Ctx} {s s':St} {a a':Act} {w w':World} {g g':Gh} {o:Oper} {Q:Exit->Act->World->Prop}
theorem yX {c:CV} {l:Nat} (hs:c.sh.pF=true) (h:lenOf c=some l):l=aQ c.sh c.x/\c.tg≠ .dead:=by
 obtain⟨sh,ct,x⟩:=c
 cases sh with
 |sl es=>cases ct<;>first|exact(aP h rfl).elim|exact⟨(aao h).symm,by simp⟩
 |rsl ss=>cases ct<;>first|exact(aP h rfl).elim|exact⟨(aao h).symm,by simp⟩
 |dl es=>cases ct<;>first|exact(aP h rfl).elim|exact⟨(aao h).symm,by simp⟩
 |_=>simp[Sh.pF]at hs
theorem Vk {ad:Addr} (h0:ad.off=0) (hs:ad.spot=none):ad=⟨ad.block,0,none⟩:=by
 obtain⟨b,o,sp⟩:=ad;simp only at h0 hs;subst h0 hs;rfl
theorem MO (hT:wE P E.ty) {t:TypeId} {c:CV} {v:Value} {ow:aH} {kd:IntKind} {i:Int} {cs:List CV} (hsl:D5 E t c=true) (hno:c.tg≠ .own) (hr:jE w g ow c v) (he:(elemAt c i).run=some cs):
 ∃ad,(Instr.indexAt t v (.int kd i)).run P w= .ok (.pointer (some ad)) w/\TV s a w g .hand (.paddr cs 0) (.pointer (some ad)):=by
 obtain⟨hi,e,j,info,z,de,hu,_,_,_,hat,hsz⟩:=Bq hT hsl;obtain⟨h0,he⟩:=WB he;obtain⟨_,_,hp,_,hlt,ad,k,vs,rfl,hsp,hvl,hcs,_,hrow,_⟩:=Ed hr he;refine⟨_,vT w hu hat.inf ad hsp _ _ kd i h0 hlt,⟨ad.block,ad.off+i.toNat*info.size,none⟩,vs,rfl,?_,hp,hcs _ 0⟩;rw[hsz];exact hrow hno
theorem Ju (hT:wE P E.ty) {t:TypeId} {c:CV} {v:Value} {ow:aH} {kd:IntKind} {i:Int} {l:Nat} (hsl:D5 E t c=true) (ho:c.tg= .own) (hr:jE w g ow c v) (hl:lenOf c=some l) (h0:0<=i) (h1:i<l):
 ∃b k,v= .slice (some ⟨b,0,none⟩) (aQ c.sh c.x) k/\i.toNat<aQ c.sh c.x/\(Instr.indexAt t v (.int kd i)).run P w= .ok (.pointer (some ⟨b,i.toNat*c.sh.n+0,none⟩)) w:=by
 obtain⟨hi,e,j,info,z,de,hu,_,_,_,hat,hsz⟩:=Bq hT hsl;obtain⟨rfl,hnd⟩:=yX hi hl;rcases oP hi hnd hr with⟨A,k,_,hz⟩|⟨ad,k,cs,rfl,_,hsp,_,_,_,hoff⟩
 ·omega
 ·have he:=Vk (hoff (by rw[ho];simp)) hsp;refine⟨ad.block,k,by rw[←he],by omega,?_⟩;rw[vT w hu hat.inf ad hsp _ _ kd i h0 (by omega),hoff (by rw[ho];simp),hsz,aaW,aaU]
theorem oN (h:Rel E C s a w g) {p:Pl} {c:CV} (hc:aW s p 1=some [c]): ∃u,(aC a w g p.root)[p.cell]? =some u/\jE w g (dJ p.root p.cell) c u/\((aC a w g p.root).drop p.cell).take 1= [u]:=by
 obtain⟨hroot,_⟩:=h.pl hc;obtain⟨u,ws,e,hcr,hw⟩:=hroot;simp only[aF]at hw;subst hw;have:=congrArg (λ l=>l[0]?) e;simp only[aaj,aan,aaU]at this;exact⟨u,by simpa using this,hcr,e⟩
theorem addr_add {ad:Addr} (hs:ad.spot=none) (m:Nat):ad.add m=⟨ad.block,ad.off+m,none⟩:=by
 obtain⟨b,o,sp⟩:=ad;simp only at hs;subst hs;unfold Addr.add;split
 ·rename_i h;subst h;rfl
 ·rfl
theorem Rf (hT:wE P E.ty) {t:TypeId} {x i:Operand} (ho:o.op= .indexAddr t x i):qA P E C o:=by
 intro s a w g us d Q h hdst hd hp;simp only[plan,ho,hdst]at hp;split at hp
 ·rename_i kd i' hi;obtain⟨_,hiv⟩:=sG h hi;obtain⟨r,hr,hp⟩:=aU hp;obtain rfl:=ak hp
  have fin: ∀v:Value,(Instr.indexAt t (a.eval x) (.int kd i')).run P w= .ok v w->(execOp a.eval o).run P w= .ok (.value v) w:=by
   intro v hv;simp only[execOp,ho,hiv,Sem.run_bind,hv,Result.andThen_ok,Sem.run_pure]
  unfold QL at hr;split at hr
  ·rename_i c hx;have hv:=aN h hx (by simp);obtain⟨u,e,hcr,hu⟩:=BZ.one hv;have hu:=hu rfl;subst hu
   have hsl:D5 E t c=true:=by
    cases hb:D5 E t c with
    |true=>rfl
    |false=>rw[hb]at hr;exact(aj hr).elim
   rw[hsl]at hr;simp only[aa9,cond_false]at hr
   have pureCase:c.tg≠ .own->((elemAt c i').bind λ cs=> .ret (.paddr cs 0)).run=some r->o.wp P a w (λ a' w'=> ∃g',Rel E C (s.dM [.tm d r]) a' w' g') Q:=by
    intro hno hr;obtain⟨cs,he,hr⟩:=aU hr;obtain rfl:=ak hr;obtain⟨ad,hrun,htv⟩:=MO (s:=s) (a:=a) (kd:=kd) hT hsl hno hcr he;exact bK h hdst hd (fin _ hrun) rfl htv
   split at hr
   ·rename_i htg;split at hr
    ·rename_i n;split at hr
     ·rename_i l hl;obtain⟨hc,hr⟩:=kN hr;obtain rfl:=ak hr;simp only[aad,decide_eq_true_eq]at hc;obtain⟨b,k,hve,hlt,hrun⟩:=Ju (kd:=kd) hT hsl htg hcr hl hc.1 hc.2;refine bK (mk:= .hand) h hdst hd (fin _ hrun) rfl ⟨⟨by simp[qm],λ k b e=>by cases e⟩,rfl,λ c' hc'=> ?_⟩;have hx':(s.tm n).1= .val false [c]:=hx
      have hcc:c'=c:=by
       rw[bI]at hc';obtain⟨cells,h1,_,_,h2⟩:=hc';have e2:s.tm n=(.val false [c],(s.tm n).2):=by rw[←hx']
       simp only[aB]at h1;rw[e2]at h1;cases h1;simpa using h2
      subst hcc;refine⟨b,aQ c'.sh c'.x,k,?_,hlt,rfl⟩;simp only[aC];rw[e];simp only[aaM];rw[hve]
     ·exact(aj hr).elim
    ·exact(aj hr).elim
   ·exact(aj hr).elim
   ·rename_i hn1 hn2;exact pureCase (λ e=>hn1 e) hr
  ·rename_i p n hx;have hv:=aN h hx (by simp);obtain⟨hold,hvl,hsub,hv⟩:=hv;obtain⟨cs,hc0,hr0⟩:=aU hr;have hc:=gy hsub hc0;clear hr
   have hone: ∃c,cs= [c]:=by
    match cs,hr0 with
    | [],h=>exact(aj h).elim
    | [c],_=>exact⟨c,rfl⟩
    |_::_::_,h=>exact(aj h).elim
   obtain⟨c,rfl⟩:=hone;have hr:=hr0;clear hr0;simp only[]at hr
   ·obtain⟨hag,hvals⟩:=hv _ hc;obtain⟨hroot,hlen⟩:=h.pl hc;have hn1:n=1:=by simpa using hlen.symm
    subst hn1;rw[aJ hag]at hvals;rw[←hvals]at hroot;obtain⟨u,ws,e,hcr,_⟩:=hroot;have hu:u=a.eval x:=by simp at e;exact e.1.symm
    subst hu
    have hsl:D5 E t c=true:=by
     cases hb:D5 E t c with
     |true=>rfl
     |false=>rw[hb]at hr;exact(aj hr).elim
    rw[hsl]at hr;simp only[aa9,cond_false]at hr;split at hr
    ·rename_i htg;split at hr
     ·rename_i l hps hl;obtain⟨hcc,hr⟩:=kN hr;obtain rfl:=ak hr;simp only[aad,decide_eq_true_eq]at hcc;obtain⟨b,k,hve,hlt,hrun⟩:=Ju (kd:=kd) hT hsl htg hcr hl hcc.1 hcc.2;refine bK (mk:= .hand) h hdst hd (fin _ hrun) rfl ⟨⟨hold.inst,hold.vers⟩,hvl,λ c' hc'=> ?_⟩;have hc'':aW s p 1=some [c']:=hc';rw[hc]at hc'';simp only[aae,aa5,and_true]at hc'';subst hc'';refine⟨b,aQ c.sh c.x,k,?_,hlt,rfl⟩;have:=congrArg (λ l=>l[0]?) hvals;simp only[aaj,aan,aaU]at this;rw[←hve];simpa using this.symm
     ·exact(aj hr).elim
    ·exact(aj hr).elim
    ·rename_i hn1 hn2;obtain⟨cs,he,hr⟩:=aU hr;obtain rfl:=ak hr;obtain⟨ad,hrun,htv⟩:=MO (s:=s) (a:=a) (kd:=kd) hT hsl (λ e=>hn1 e) hcr he;exact bK h hdst hd (fin _ hrun) rfl htv
  ·rename_i p z lo hi hx;obtain⟨hold,hvl,hsub,_,hv⟩:=aN h hx (by simp);obtain⟨cs,hc0,hr⟩:=aU hr;have hc:=gy hsub hc0;obtain⟨c,rfl⟩:=ED hc;simp only[]at hr;obtain⟨A,l,k,e1,k1,k2,k3,k4⟩:=hv c hc;obtain⟨u,e2,hcr,_⟩:=oN h hc;rw[e1]at e2;cases e2
   have hsl:D5 E t c=true:=by
    cases hb:D5 E t c with
    |true=>rfl
    |false=>rw[hb]at hr;exact(aj hr).elim
   rw[hsl]at hr;simp only[aa9,cond_false]at hr;split at hr
   ·rename_i htg;rw[hsub]at hr;obtain⟨hcc,hr⟩:=kN hr;obtain rfl:=ak hr;simp only[aad,decide_eq_true_eq]at hcc;obtain⟨hcc0,hcc1⟩:=hcc;obtain⟨hi',e,j,info,z',de,hu,_,_,_,hat,hsz⟩:=Bq hT hsl;rcases oP hi' (by rw[htg];simp) hcr with⟨A',k',ev,hz⟩|⟨ad,k',cs,ev,_,hsp,_,_,_,hoff⟩
    ·cases ev;omega
    ·cases ev;have hoff:=hoff (by rw[htg];simp);have hne:k≠lo:=by omega
     have hvv:a.eval x= .slice (some ⟨ad.block,ad.off+lo*c.sh.n,none⟩) (hi-lo) (k-lo):=by rw[k4,←addr_add hsp];simp only[zT,if_neg hne];rfl
     have hrun:=vT w hu hat.inf ⟨ad.block,ad.off+lo*c.sh.n,none⟩ rfl (hi-lo) (k-lo) kd i' hcc0 (by omega);rw[←hvv]at hrun;refine bK (mk:= .hand) h hdst hd (fin _ hrun) rfl ⟨⟨hold.inst,hold.vers⟩,hvl,λ c' hc'=> ?_⟩;have hc'':aW s p 1=some [c']:=hc';rw[hc]at hc'';simp only[aae,aa5,and_true]at hc'';subst hc'';have hae:=Vk hoff hsp;refine⟨ad.block,_,k,by rw[←hae];exact e1,by omega,?_⟩;have:ad.off+lo*c.sh.n+i'.toNat*info.size=(lo+i'.toNat)*c.sh.n+0:=by rw[hoff,hsz,abM];omega
     show Value.pointer (some ⟨ad.block,ad.off+lo*c.sh.n+i'.toNat*info.size,none⟩)=_;rw[this]
   ·exact(aj hr).elim
  ·rename_i p n hx;obtain⟨hold,hvl,i0,j0,hsub,hrow⟩:=aN h hx (by simp)
   cases hdl:KN s p with
   |none=>rw[hdl]at hr;exact(aj hr).elim
   |some cij=>
    obtain⟨c,i,j⟩:=cij;rw[hdl]at hr;obtain⟨hsub',es,l,rfl,hc⟩:=xQ hdl;rw[hsub]at hsub';cases hsub';obtain⟨cs,hp',hr⟩:=aU hr;obtain⟨e,he,hjn,rfl⟩:=Ba hp';split at hr
    ·rename_i e0 hcs;obtain⟨hcond,hr⟩:=aX hr;simp only[aad]at hcond;obtain⟨hsl,hown⟩:=hcond;have hown:e0.tg= .own:=by cases ht:e0.tg<;>simp_all [Tg.Ep]
     split at hr
     ·rename_i len hlen;obtain⟨hcc,hr⟩:=kN hr;obtain rfl:=ak hr;simp only[aad,decide_eq_true_eq]at hcc
      have hn:n=1:=by
       have:=congrArg List.length hcs;simp only[aaB,aa7,oG,aaT]at this;omega
      subst hn;obtain⟨b,k,cur,et,e1,hi,hheap,hrep,hvlen⟩:=h.X7 hc he hjn;obtain⟨b2,len2,k2,cur2,et2,f2,m1,_,m3,hag,hvc⟩:=hrow es l hc;rw[e1]at m1;cases m1;rw[hheap]at m3;cases m3;rw[aJ hag]at hvc;rw[←hvc,hcs]at hrep;obtain⟨u,ws,eu,hcr,_⟩:=hrep;have hu:u=a.eval x:=by simp at eu;exact eu.1.symm
      subst hu;obtain⟨b',k',hve,hlt,hrun⟩:=Ju (kd:=kd) hT hsl hown hcr hlen hcc.1 hcc.2;refine bK (mk:= .hand) h hdst hd (fin _ hrun) rfl ⟨hold,hvl,i0,j0,hsub,λ es' l' hc'=> ?_⟩;rw[hc]at hc';simp only[aae,aa5,and_true]at hc';obtain⟨rfl,_⟩:=hc';refine⟨b,_,k,cur,et,(0,0),e1,hi,hheap,b',aQ e0.sh e0.x,k',e0.sh,?_,?_,hlt,rfl⟩
      ·have h0:(((mX es e).drop j0).take 1)[0]? =some e0:=by rw[hcs];rfl
       simp only[aaj,aan,aaU,Nat.zero_lt_one,if_true]at h0;obtain⟨c0,hc0,rfl⟩:=xk h0;have:=congrArg (λ l=>l[j0]?) (sO es e);simp only[aar,hc0]at this;exact this.symm
      ·have:=congrArg (λ l=>l[0]?) hvc;simp only[aaj,aan,aaU,Nat.zero_lt_one,if_true]at this;rw[←this,←hve];rfl
     ·exact(aj hr).elim
    ·exact(aj hr).elim
  ·exact(aj hr).elim
 ·exact(aj hp).elim
theorem pO (hT:wE P E.ty) {t:TypeId} {i:TyI} (hi:E.ty t=some i) (b off:Nat) (vs:List Value) (hl:vs.length=i.cells.length) (hm: ∀j,j<vs.length->w.cell? ⟨b,off+j,none⟩=vs[j]?):
 ∃v,(Instr.loadAt t (.pointer (some ⟨b,off,none⟩))).run P w= .ok v w/\(i.ag=true->v= .agg vs.toArray)/\(i.ag=false->vs= [v]):=by
 obtain⟨info,de,z,hat⟩:=hT.at_ hi;have hrow:=hat.isRow
 have hrange:w.rangeAt b off vs:=λ j v hv=>by
  have hj:j<vs.length:=by
   rcases aaE j vs.length with h|h
   ·exact h
   ·simp[aah h]at hv
  rw[hm j hj,hv]
 cases ha:i.ag with
 |true=>
  rw[ha]at hrow;exact⟨_,run_loadAt_mid w b off t vs de hrange hat.und hrow (by rw[hat.inf];simp[hat.size,hl]),λ _=>rfl,λ e=>by cases e⟩
 |false=>
  rw[ha]at hrow;obtain⟨sh,hsh⟩:=hat.one ha;rw[hsh]at hl
  match vs,hl,hrange with
  | [v],_,hrange=>
    refine⟨v,?_,(λ e=>by cases e),λ _=>rfl⟩
    have hagg:(Go.isAgg t).run P w= .ok false w:=by
     unfold Go.isAgg;rw[Sem.run_bind,run_underlying hat.und w,Result.andThen_ok];cases de<;>simp[TypeDesc.isRow]at hrow<;>rfl
    have hc:=hrange 0 v rfl;simp only[aaU]at hc;simp only[Instr.loadAt,Instr.sureAddr,Sem.run_bind,Sem.run_pure,Result.andThen_ok,loadVar,hagg,aa3,if_false,run_load,hc]
theorem oQ {mk:Nat->aH} {i:TyI} {v:Value} {cs:List CV} {vs:List Value} (hd:i.ag=false->CY cs=true) (h1:i.ag=true->v= .agg vs.toArray) (h2:i.ag=false->vs= [v]) (hcs:aF w g mk 0 cs vs):
 BZ w g mk 0 i.ag cs v:=by
 cases ha:i.ag with
 |true=>rw[h1 ha];exact⟨rfl,by simpa [Value.cells]using hcs⟩
 |false=>
  have e:=h2 ha;subst e;have hl:=hcs.length;obtain⟨c,rfl⟩:=uS (cs:=cs) (by simpa using hl.symm);obtain⟨u,ws,e,hr,hw⟩:=hcs;simp only[aa5]at e;obtain⟨rfl,rfl⟩:=e
  have hnd:c.tg≠ .dead:=by
   have:=hd ha;intro e;simp[CY,e]at this
  have hpl:=hr.plain hnd;refine⟨hpl.1,?_⟩;rw[aJ hpl.1];exact⟨v,[],rfl,hr,rfl⟩
theorem jI {cs:List CV} (h:bD cs=true):CY cs=true:=by
 unfold CY;rw[aaV];intro c hc;rw[rQ h c hc]
theorem aeT (hT:wE P E.ty) {t:TypeId} {x:Operand} (ho:o.op= .load t x):qA P E C o:=by
 intro s a w g us d Q h hdst hd hp;simp only[plan,ho,hdst]at hp
 have fin: ∀v:Value,(Instr.loadAt t (a.eval x)).run P w= .ok v w->(execOp a.eval o).run P w= .ok (.value v) w:=by
  intro v hv;simp only[execOp,ho,Sem.run_bind,hv,Result.andThen_ok,Sem.run_pure]
 split at hp
 ·rename_i p i hx hi;have hv:=aN h hx (by simp);obtain⟨hold,hv⟩:=hv;split at hp
  ·rename_i c r j hdl;obtain⟨hsub,es,l,rfl,hc⟩:=xQ hdl;rw[hsub]at hv;obtain⟨hvl,hv⟩:=hv;obtain⟨cs,hpt,hp⟩:=aU hp;obtain⟨e,he,hjn,rfl⟩:=Ba hpt;obtain⟨b,k,cur,et,e1,hi',hheap,hrep,hvlen⟩:=h.X7 hc he hjn;obtain⟨b2,len2,k2,m1,_,hve⟩:=hv _ hc;rw[e1]at m1;cases m1
   obtain⟨v,hrun,h1,h2⟩:=pO (w:=w) hT hi b (r*es.length+j) _ hvlen (λ q hq=>by
    rw[hvlen]at hq;rw[cell_of_heap hheap,aaj,if_pos hq,aan,aaO])
   rw[hve]at fin;have hvr:=oQ (i:=i) (v:=v) (λ _=>WV es e j i.cells.length) h1 h2 hrep;cases hpu:bD (((mX es e).drop j).take i.cells.length)with
   |true=>
    rw[hpu]at hp;obtain rfl:=ak hp;exact bK (mk:= .hand) h hdst hd (fin _ hrun) hpu ⟨hvr.1,aF.uq (Keeps.refl _ _) _ 0 0 _ hpu hvr.2⟩
   |false=>
    rw[hpu]at hp
    have hrow:TV0 s a w g .hand (.rowr p i.ag i.cells.length) v:=by
     refine⟨hold,hvl,r,j,hsub,λ es' l' hc'=> ?_⟩;rw[hc]at hc';simp only[aae,aa5,and_true]at hc';obtain⟨rfl,_⟩:=hc';refine⟨b,_,k,cur,et,(0,0),e1,hi',hheap,hvr.1,?_⟩
     cases ha:i.ag with
     |true=>rw[h1 ha];simp[Value.cells]
     |false=>
      have:=hvr.1;rw[ha]at this;rw[aJ this,h2 ha]
    cases hdp:rD E d with
    |false=>
     rw[hdp]at hp;obtain rfl:=ak hp;exact bK (mk:= .hand) h hdst hd (fin _ hrun) rfl hrow
    |true=>
     rw[hdp]at hp;simp only[cond_false,cond_true]at hp;split at hp
     ·rename_i c' hm;split at hp
      ·rename_i us' hu;obtain rfl:=ak hp;obtain⟨g',r1,hag2,k1,_,_,_⟩:=Po h (hs:=[]) (hv:=[]) rfl hrow hdl hpt hm hu;simp only[abQ]at k1;obtain⟨g2,r2,_,_⟩:=r1.xI hd hag2 k1;unfold Oper.wp;rw[fin _ hrun,Oper.upon_value,hdst,dS];exact⟨g2,r2⟩
      ·exact(aj hp).elim
     ·exact(aj hp).elim
  obtain⟨cs,hc,hp⟩:=aU hp
  cases hs:p.sub with
  |none=>
   rw[hs]at hv hp;have hc:=gy hs hc;obtain⟨n,hn,hv⟩:=hv;obtain⟨hroot,hlen⟩:=h.pl hc
   have hb: ∃b,s.bx n=some b/\b.inst=p.inst:=by
    have:=hc;rw[bI]at this;obtain⟨cells,e,_⟩:=this;rw[hn]at e;simp only[aB]at e
    cases hb:s.bx n with
    |none=>rw[hb]at e;simp at e
    |some b=>rw[hb]at e;simp only[aae,aas]at e;exact⟨b,rfl,e.1⟩
   obtain⟨b,hb,hbi⟩:=hb;obtain⟨cur,et,hheap,_⟩:=h.bx n b hb;have hrv:aC a w g p.root=cur.toList:=by rw[hn];simp only[aC,hheap]
   have hvl:(((aC a w g p.root).drop p.cell).take i.cells.length).length=i.cells.length:=by rw[hroot.length,hlen]
   obtain⟨v,hrun,h1,h2⟩:=pO (w:=w) hT hi (g.at_ n) p.cell _ hvl (λ j hj=>by
    rw[hvl]at hj;rw[cell_of_heap hheap,hrv,aaj,if_pos hj,aan];simp)
   rw[hv b hb hbi]at fin;simp only[cond_eq_ite]at hp;split at hp
   ·rename_i hpu;obtain rfl:=ak hp;have hcs:aF w g .hand 0 cs _:=aF.uq (Keeps.refl _ _) cs p.cell 0 _ hpu hroot;exact bK (mk:= .hand) h hdst hd (fin _ hrun) hpu (oQ (λ _=>jI hpu) h1 h2 hcs)
   ·split at hp
    ·rename_i hnd;obtain rfl:=ak hp;simp only[abO]at hnd
     have hpv:(AO s p i.cells.length).length=i.cells.length:=by
      have:=hc;rw[bI]at this;obtain⟨cells,e,h3,_⟩:=this;unfold AO;rw[e];simp;omega
     refine bK (mk:= .hand) h hdst hd (fin _ hrun) rfl ⟨⟨hold.inst,λ k b' e hb' hi' j x c v hj hcv=> ?_⟩,hpv,rfl,λ cs' hc'=> ?_⟩
     ·have e':p.root= .box k:=e;rw[hn]at e';cases e';rw[hb]at hb';cases hb';have:(AO s p i.cells.length)[j]? =some x:=hj;unfold AO at this;rw[hn]at this;simp only[aB,hb]at this;simp only[aar,aaj,aan]at this;split at this
      ·have hcv':b.cells[p.cell+j]? =some (c,v):=hcv;rw[hcv']at this;simp at this;omega
      ·simp at this
     ·have hcs':aW s p i.cells.length=some cs':=by
       have:=hc';rw[bI]at this ⊢;obtain⟨cells,e,h3,_,h5⟩:=this;have hc2:=hc;rw[bI]at hc2;obtain⟨cells2,e2,_,h6,_⟩:=hc2;have e3:aB s p.root=some (p.inst,cells):=e;rw[e3]at e2;cases e2;exact⟨cells,e3,h3,h6,h5⟩
      rw[hc]at hcs';cases hcs'
      have hvr:=oQ (mk:=λ k=>dJ p.root (p.cell+k)) (i:=i) (v:=v) (cs:=cs) (λ ha=>by
       rcases hnd with h|h
       ·rw[ha]at h;cases h
       ·exact h) h1 h2 (aF.of _ _ _ hroot.length λ k c v hk hv=>by
         obtain⟨u,hu,hr⟩:=hroot.get cs p.cell _ k c hk;rw[hu]at hv;cases hv;simpa using hr)
      refine⟨hvr.1,?_⟩
      cases ha:i.ag with
      |true=>rw[h1 ha];simp[Value.cells]
      |false=>
       have:=hvr.1;rw[ha]at this;rw[aJ this,h2 ha]
    ·exact(aj hp).elim
  |some ij=>
   obtain⟨k,j⟩:=ij;rw[hs]at hv hp;obtain⟨hvl,hv⟩:=hv;unfold content at hc;rw[hs]at hc;simp only[]at hc;split at hc
   ·rename_i c hpl;obtain⟨ds,hel,hc⟩:=aU hc;obtain⟨hle,hc⟩:=aX hc;obtain rfl:=ak hc;have hle:=aa6 hle;obtain⟨b,l,cap,h1,h2,h3⟩:=hv c hpl;obtain⟨hroot,_⟩:=h.pl hpl;obtain⟨u,ws,e,hcr,_⟩:=hroot
    have hu:u= .slice (some ⟨b,0,none⟩) l cap:=by
     have:=congrArg (λ l=>l[0]?) e;simp only[aaj,aan,aaU]at this;simp at this;rw[h1]at this;exact(aao this).symm
    subst hu;obtain⟨hisl,hnd,hpu,hdl,hlt,ad,k2,vs,hve,hsp,hvsl,hcs,hmem,_,_⟩:=Ed hcr hel;simp only[Value.slice.injEq,aae]at hve;obtain⟨rfl,rfl,rfl⟩:=hve;simp only[cond_eq_ite]at hp;split at hp
    ·rename_i hpu2;obtain rfl:=ak hp;have hsub:=(hcs .hand 0).sub j i.cells.length;have hvsub:((vs.drop j).take i.cells.length).length=i.cells.length:=by simp;omega
     obtain⟨v,hrun,k1,k3⟩:=pO (w:=w) hT hi b (k*c.sh.n+j) _ hvsub (λ q hq=>by
      rw[hvsub]at hq;have:=hmem (j+q) (by omega);simp only[aaW]at this;rw[aaj,if_pos hq,aan,←this,abC])
     rw[h3]at fin;exact bK (mk:= .hand) h hdst hd (fin _ hrun) hpu2 (oQ (λ _=>jI hpu2) k1 k3 (aF.uq (Keeps.refl _ _) _ _ 0 _ hpu2 hsub))
    ·exact(aj hp).elim
   ·exact(aj hc).elim
 ·rename_i cs off i hx hi;have hv:=aN h hx (by simp);obtain⟨ad,vs,e,hrow,hpu,hcs⟩:=hv;obtain⟨hle,hp⟩:=aX hp;obtain rfl:=ak hp;have hle:=aa6 hle;have hlen:=hcs.length;have hsub:=hcs.sub off i.cells.length
  have hpu2:bD ((cs.drop off).take i.cells.length)=true:=by
   rw[bD,aaV]at hpu ⊢;intro c hc;exact hpu c (abH (abv hc))
  have hvsub:((vs.drop off).take i.cells.length).length=i.cells.length:=by simp;omega
  obtain⟨v,hrun,k1,k3⟩:=pO (w:=w) hT hi ad.block (ad.off+off) _ hvsub (λ q hq=>by
   rw[hvsub]at hq;have:=(hrow (off+q) (by omega)).1;rw[aaj,if_pos hq,aan,←this,abC])
  rw[e]at fin;exact bK (mk:= .hand) h hdst hd (fin _ hrun) hpu2 (oQ (λ _=>jI hpu2) k1 k3 (aF.uq (Keeps.refl _ _) _ _ 0 _ hpu2 hsub))
 ·exact(aj hp).elim
end
end Go.AM
end
section
namespace Go.AM
open Go
section
variable {P:Program} {E:Env} {C:Ctx} {s s':St} {a a':Act} {w w':World} {g g':Gh} {o:Oper} {Q:Exit->Act->World->Prop}
def Rd (w:World) (g:Gh) (c:CV) (v:Value):Prop:=
 if c.sh.pF then c.tg≠ .dead->(∃A k,v= .slice A 0 k/\aQ c.sh c.x=0)\/
  ∃(ad:Addr) (k:Nat) (cs:List Value),v= .slice (some ad) (aQ c.sh c.x) k/\aQ c.sh c.x<=k/\ad.spot=none/\(c.sh.oW=true->uO w g.F c.sh c.x cs)/\(∀j,j<cs.length->w.cell? ⟨ad.block,ad.off+j,none⟩=cs[j]?)
 else if c.sh.Ie then c.tg= .own-> ∃ow,SS w g ow c.sh c.x v
 else c.tg≠ .dead->jo w g.F c.sh c.x v
theorem Rd.of {ow:aH} {c:CV} {v:Value} (h:jE w g ow c v):Rd w g c v:=by
 unfold Rd;split
 ·rename_i hs;intro hd;rcases oP hs hd h with h|⟨ad,k,cs,h1,h2,h3,h4,h5,_⟩
  ·exact .inl h
  ·exact .inr ⟨ad,k,cs,h1,h2,h3,h4,h5⟩
 ·rename_i hs;split
  ·rename_i hm;intro ht;unfold jE at h;rw[ht]at h;exact⟨ow,by simpa [hs,hm]using h⟩
  ·rename_i hm;intro hd;exact y9 (by simpa using hs) (by simpa using hm) hd h
theorem Rd.sub {c:CV} (hpl:c.sh.oW=true) {A:Option Addr} {l k:Nat} (h:Rd w g c (.slice A l k)) {lo hi:Nat} (h1:lo<=hi) (h2:hi<=l):Rd w g ⟨c.sh,c.tg,FV c.sh c.x lo hi⟩ (zT A k lo hi c.sh.n):=by
 have hs:=fD hpl;unfold Rd at h ⊢;rw[if_pos hs]at h ⊢;intro hd;rcases h hd with⟨A',k',e,hz⟩|⟨ad,k',cs,e,hk,hsp,hel,hm⟩
 ·cases e;have:lo=0:=by omega
  have:hi=0:=by omega
  subst lo hi;exact .inl ⟨_,_,rfl,Bv hpl c.x (by omega)⟩
 ·cases e;have hlen:=Bv hpl c.x (lo:=lo) h2;by_cases h0:hi-lo=0
  ·left;exact⟨if k=lo then some ad else(some ad).map (·.add (lo*c.sh.n)),k-lo,by unfold zT;rw[h0],by rw[hlen,h0]⟩
  ·right;have hel:=hel hpl;have hcs:=hel.length;have hb:hi*c.sh.n<=cs.length:=by rw[hcs];exact aaw _ h2
   have hlh:lo*c.sh.n<=hi*c.sh.n:=aaw _ h1
   have hadd:(ad.add (lo*c.sh.n)).block=ad.block/\(ad.add (lo*c.sh.n)).off=ad.off+lo*c.sh.n/\(ad.add (lo*c.sh.n)).spot=none:=by
    unfold Addr.add;split
    ·rename_i e;rw[e];exact⟨rfl,rfl,hsp⟩
    ·exact⟨rfl,rfl,rfl⟩
   refine⟨ad.add (lo*c.sh.n),k-lo,_,?_,by rw[hlen];omega,hadd.2.2,λ _=>hel.sub lo hi,?_⟩
   ·unfold zT;rw[hlen,if_neg (by omega)];rfl
   ·intro j hj;simp only[aa7,aaB]at hj;rw[hadd.1,hadd.2.1,abC,hm _ (by omega),aan,aaj,if_pos (by omega)]
theorem OV (h:Rel E C s a w g) {x:Operand} {c:CV} (hp:(Hz E s x).run=some [c]):Rd w g c (a.eval x):=by
 unfold Hz at hp;split at hp
 ·rename_i cs hx;obtain rfl:=ak hp;obtain⟨u,_,hr,hu⟩:=BZ.one (aN h hx (by simp));rw[←hu rfl];exact Rd.of hr
 ·rename_i p n hx;obtain⟨_,_,hsub,hv⟩:=aN h hx (by simp);have hc:=gy hsub hp;obtain⟨h1,h2⟩:=hv _ hc;have hn:n=1:=by have:=(h.pl hc).2;simpa using this.symm
  subst hn;obtain⟨u,_,hr,e⟩:=oN h hc;rw[aJ h1,e]at h2;have:a.eval x=u:=by simpa using h2
  rw[this];exact Rd.of hr
 ·rename_i p z lo hi hx;obtain⟨_,_,hsub,_,hv⟩:=aN h hx (by simp);obtain⟨cs,hc,hp⟩:=aU hp;have hc:=gy hsub hc;obtain⟨c0,rfl⟩:=ED hc;have hd0:=Eb hp;obtain⟨d,hd,e⟩:=aaG.1 hd0;simp only[aa5,and_true]at e;subst e;obtain⟨hs,hnd,rfl⟩:=ru hd;obtain⟨A,l,k,e1,h1,h2,h3,h4⟩:=hv c0 hc;obtain⟨u,e2,hr,_⟩:=oN h hc;rw[e1]at e2;cases e2;rw[h4];exact Rd.sub hs (Rd.of hr) h1 h2
 ·exact(aj hp).elim
theorem Rd.len {c:CV} {v:Value} (hs:c.sh.pF=true) (hd:c.tg≠ .dead) (h:Rd w g c v): ∃A k,v= .slice A (aQ c.sh c.x) k/\aQ c.sh c.x<=k\/aQ c.sh c.x=0/\v= .slice A 0 k:=by
 unfold Rd at h;rw[if_pos hs]at h;rcases h hd with⟨A,k,e,hz⟩|⟨ad,k,cs,e,hk,_⟩
 ·exact⟨A,k,.inr ⟨hz,e⟩⟩
 ·exact⟨_,k,.inl ⟨e,hk⟩⟩
theorem Vy (hT:wE P E.ty) {t:TypeId} (h:ac9 E t=true): ∃kt et,P.underlying t=some (.map kt et):=by
 unfold ac9 at h;split at h
 ·rename_i hi;obtain⟨info,de,z,hat⟩:=hT.at_ hi;obtain⟨kt,et,_,_,hd,_⟩:=hat.mp rfl rfl;exact⟨kt,et,by rw[hat.und,hd]⟩
 ·cases h
theorem ad7.len {b:Nat} {k e:Sh} {l:List (El k×El e)} (h:ad7 w b k e l): ∃es clock,w.heap[b]? =some (.map es clock)/\es.size=l.length:=by
 obtain⟨es,c,h1,h2⟩:=h;have:=congrArg List.length h2;simp at this;exact⟨es,c,h1,this⟩
theorem agI (hT:wE P E.ty) {cl:Call} {x:Operand} (ho:o.op= .call cl) (hb:cl.callee= .builtin .len) (hx:cl.args.toList= [x]):qA P E C o:=by
 intro s a w g us d Q h hdst hd hp;simp only[plan,ho,hdst,hb,hx]at hp;obtain⟨cs,hpk,hp⟩:=aU hp
 have hone: ∃c t,cs= [c]/\cl.argTypes.toList= [t]:=by
  match cs,cl.argTypes.toList,hp with
  | [],_,h=>exact(aj h).elim
  |_::_::_,_,h=>exact(aj h).elim
  | [c],[],h=>exact(aj h).elim
  | [c],[t],_=>exact⟨c,t,rfl,rfl⟩
  | [c],_::_::_,h=>exact(aj h).elim
 obtain⟨c,t,rfl,ht⟩:=hone;rw[ht]at hp;simp only[]at hp;obtain⟨hty,hp⟩:=aX hp;split at hp
 ·rename_i l hl;obtain rfl:=ak hp;have hrd:=OV h hpk
  have hargs:cl.args.map a.eval= #[a.eval x]:=by
   apply abh.1;simp[hx]
  have htys:cl.argTypes= #[t]:=by apply abh.1;simp[ht]
  have fin:(Builtin.len_ #[t] o.type #[a.eval x]).run P w= .ok (goInt l) w->(execOp a.eval o).run P w= .ok (.value (.int .i64 l)) w:=by
   intro hr;simp only[execOp,ho,resolve,hb,Sem.run_bind,Sem.run_pure,Result.andThen_ok,invoke,builtin,hargs,htys,hr];rfl
  refine bK (mk:= .hand) h hdst hd (fin ?_) rfl (oH _ _);simp only[abO,aad]at hty;rcases hty with(hty|⟨hty,hsh⟩)|⟨hty,hsh⟩
  rotate_right
  ·obtain⟨kt,et,hu⟩:=Vy hT hty;obtain⟨csh,ct,cx⟩:=c;cases csh<;>simp[Sh.Ie]at hsh;cases ct<;>first|exact(aP hl rfl).elim|skip
   obtain rfl:=aao hl;obtain⟨ow,ho⟩:=hrd rfl;rcases ho with⟨hv,rfl⟩|⟨b,l,rfl,hv,_,hm,_⟩
   ·rw[hv];simp[Builtin.len_,run_underlying hu];rfl
   ·obtain⟨es,c,h1,h2⟩:=hm.len;rw[hv];simp[Builtin.len_,run_underlying hu,MapKept.run_getObj_map h1,h2,Result.andThen,VB]
  ·obtain⟨hs,e,j,info,z,de,hu,_⟩:=Bq hT hty;obtain⟨rfl,hnd⟩:=yX hs hl;obtain⟨A,k,he⟩:=hrd.len hs hnd;rcases he with⟨he,_⟩|⟨hz,he⟩
   ·rw[he];simp[Builtin.len_,run_underlying hu]
   ·rw[he,hz];simp[Builtin.len_,run_underlying hu]
  ·have hu:=Ik hT hty;obtain⟨csh,ct,cx⟩:=c;have:=Sh.eq_of_beq hsh;simp only at this;subst this
   have:ct= .pure/\l=ByteArray.size cx:=by
    unfold lenOf at hl;cases ct<;>first|exact(aP hl rfl).elim|exact⟨rfl,(aao hl).symm⟩
   obtain⟨rfl,rfl⟩:=this;have hv:a.eval x= .string cx:=hrd (by simp);rw[hv];simp[Builtin.len_,run_underlying hu]
 ·exact(aj hp).elim
theorem YV {cl:Call} {x y:Operand} {b:Builtin} (ho:o.op= .call cl) (hb:cl.callee= .builtin b) (hbb:b= .min\/b= .max) (hx:cl.args.toList= [x,y]):qA P E C o:=by
 intro s a w g us d Q h hdst hd hp
 have hargs:cl.args.map a.eval= #[a.eval x,a.eval y]:=by
  apply abh.1;simp[hx]
 have hp':(match qU E s x,qU E s y with
  |some (k,x),some (k',y)=>match VA b x y with
   |some z=>bif decide (k=k')then Dyn.ret [Upd.tm d (L6 k z)]else .fail
   |none=> .fail
  |_,_=> .fail).run=some us:=by
  rcases hbb with rfl|rfl<;>(simp only[plan,ho,hdst,hb,hx]at hp;exact hp)
 clear hp;split at hp'
 ·rename_i k m k' n hm hn;obtain⟨_,em⟩:=sG h hm;obtain⟨_,en⟩:=sG h hn;split at hp'
  ·rename_i z hz;obtain⟨hk,hp'⟩:=aX hp';obtain rfl:=ak hp';simp only[decide_eq_true_eq]at hk;subst hk;refine bK (mk:= .hand) h hdst hd ?_ rfl (oH _ _);rcases hbb with rfl|rfl
   ·have:z=min m n:=(aao hz).symm;have hz':(if n<m then n else m)=z:=by rw[this];omega
    simp only[execOp,ho,resolve,hb,Sem.run_bind,Sem.run_pure,Result.andThen_ok,invoke,builtin,hargs,Builtin.min_,List.foldlM_cons,List.foldlM_nil,em,en,Builtin.min2,hz']
   ·have:z=max m n:=(aao hz).symm;have hz':(if n>m then n else m)=z:=by rw[this];omega
    simp only[execOp,ho,resolve,hb,Sem.run_bind,Sem.run_pure,Result.andThen_ok,invoke,builtin,hargs,Builtin.max_,List.foldlM_cons,List.foldlM_nil,em,en,Builtin.max2,hz']
  ·exact(aj hp').elim
 ·exact(aj hp').elim
end
end Go.AM
end
section
namespace Go.AM
open Go
section
variable {P:Program} {E:Env} {C:Ctx} {s s':St} {a a':Act} {w w':World} {g g':Gh} {o:Oper} {Q:Exit->Act->World->Prop}
theorem Rj (h:Rel E C s a w g) {x:Option Operand} {n:Option Int} (hx:JI E s x=some n): ∃k,x.map a.eval=n.map (Value.int k):=by
 cases x with
 |none=>cases hx;exact⟨.i64,rfl⟩
 |some x=>
  simp only[JI]at hx;split at hx
  ·rename_i k m hm;cases hx;obtain⟨_,e⟩:=sG h hm;exact⟨k,by simp[e]⟩
  ·cases hx
theorem vU (k:IntKind) (i:Int) (y:Nat) (code:BoundsCode) (h0:0<=i) (h1:i<=y):(Instr.sliceBound (.int k i) y code).run P w= .ok i.toNat w:=by
 have hh:0<=i/\i<=(y:Int):=⟨h0,h1⟩;simp only[Instr.sliceBound,asIntOf,Sem.run_bind,Sem.run_pure,Result.andThen_ok,if_pos hh]
theorem Bf (b:Bool) (len cap:Nat) (lo hi:Option Int) (k1 k2:IntKind) (h0:0<=lo.getD 0) (h1:lo.getD 0<=hi.getD len) (h2:hi.getD len<=len) (h3:len<=cap):
 (Instr.sliceBounds b len cap (lo.map (Value.int k1)) (hi.map (Value.int k2)) none).run P w= .ok ((lo.getD 0).toNat,(hi.getD len).toNat,cap) w:=by
 have r1: ∀(h:Int) (code:BoundsCode),0<=h->h<=len->(Instr.sliceBound (.int k2 h) cap code).run P w= .ok h.toNat w:=λ h code a b=>vU k2 h cap code a (by omega)
 cases lo with
 |none=>
  cases hi with
  |none=>simp[Instr.sliceBounds]
  |some h=>
   simp only[abq,Option.getD_none]at h1 h2 h0;simp[Instr.sliceBounds,r1 h _ h1 h2]
 |some l=>
  cases hi with
  |none=>
   simp only[abq,Option.getD_none]at h1 h2 h0;have r2: ∀code,(Instr.sliceBound (.int k1 l) len code).run P w= .ok l.toNat w:=λ code=>vU k1 l len code h0 h1;simp[Instr.sliceBounds,r2]
  |some h=>
   simp only[abq]at h1 h2 h0;have r2: ∀code,(Instr.sliceBound (.int k1 l) h.toNat code).run P w= .ok l.toNat w:=λ code=>vU k1 l h.toNat code h0 (by omega);simp[Instr.sliceBounds,r1 h _ (by omega) h2,r2]
theorem EO (w:World) {t e:TypeId} {info:TypeInfo} (hu:P.underlying t=some (.slice e)) (hi':P.info? e=some info) (A:Option Addr) (len cap:Nat) (lo hi:Option Int) (k1 k2:IntKind)
 (h0:0<=lo.getD 0) (h1:lo.getD 0<=hi.getD len) (h2:hi.getD len<=len) (h3:len<=cap):
 (Instr.sliceAt t (.slice A len cap) (lo.map (Value.int k1)) (hi.map (Value.int k2)) none).run P w= .ok (zT A cap (lo.getD 0).toNat (hi.getD len).toNat info.size) w:=by
 have hb:=Bf (P:=P) (w:=w) true len cap lo hi k1 k2 h0 h1 h2 h3;simp only[Instr.sliceAt,Sem.run_bind,run_underlying hu,Result.andThen_ok,Instr.slice,hb,J4 w hi',Sem.run_pure];rfl
theorem O1 (w:World) {t:TypeId} (hu:P.underlying t=some .string) (b:ByteArray) (lo hi:Option Int) (k1 k2:IntKind)
 (h0:0<=lo.getD 0) (h1:lo.getD 0<=hi.getD b.size) (h2:hi.getD b.size<=b.size):
 (Instr.sliceAt t (.string b) (lo.map (Value.int k1)) (hi.map (Value.int k2)) none).run P w= .ok (.string (b.extract (lo.getD 0).toNat (hi.getD b.size).toNat)) w:=by
 have hb:=Bf (P:=P) (w:=w) false b.size b.size lo hi k1 k2 h0 h1 h2 (aaq _);simp only[Instr.sliceAt,Sem.run_bind,run_underlying hu,Result.andThen_ok,Instr.slice,Option.isSome_none,aa3,if_false,hb,Sem.run_pure]
theorem adn (hT:wE P E.ty) {t:TypeId} {x:Operand} {lo hi mx:Option Operand} (ho:o.op= .slice t x lo hi mx):qA P E C o:=by
 intro s a w g us d Q h hdst hd hp;simp only[plan,ho,hdst]at hp;split at hp
 ·rename_i lo' hi' hlo hhi;obtain⟨r,hr,hp⟩:=aU hp;obtain rfl:=ak hp;obtain⟨k1,e1⟩:=Rj h hlo;obtain⟨k2,e2⟩:=Rj h hhi
  have fin: ∀v:Value,(Instr.sliceAt t (a.eval x) (lo'.map (Value.int k1)) (hi'.map (Value.int k2)) none).run P w= .ok v w->(execOp a.eval o).run P w= .ok (.value v) w:=by
   intro v hv;simp only[execOp,ho,Sem.run_bind,e1,e2,Option.map_none,hv,Result.andThen_ok,Sem.run_pure]
  have pureCase: ∀(c:CV) (ow:aH),jE w g ow c (a.eval x)->c.tg≠ .own->
   ((bif !D5 E t c then Dyn.fail else match lenOf c with
     |some l=>Dyn.chk (decide (0<=lo'.getD 0)&&decide (lo'.getD 0<=hi'.getD l)&&decide (hi'.getD l<=l))
      (match xg c (lo'.getD 0).toNat (hi'.getD l).toNat with|some d=>Dyn.ret (T.val false [d.to .pure])|none=> .fail)
     |none=> .fail:Dyn T)).run=some r->o.wp P a w (λ a' w'=> ∃g',Rel E C (s.dM [.tm d r]) a' w' g') Q:=by
   intro c ow hcr hno hr
   have hsl:D5 E t c=true:=by
    cases hb:D5 E t c with
    |true=>rfl
    |false=>rw[hb]at hr;exact(aj hr).elim
   rw[hsl]at hr;simp only[aa9,cond_false]at hr;obtain⟨hs,e,j,info,z,de,hu,_,_,_,hat,hsz⟩:=Bq hT hsl;split at hr
   ·rename_i l hl;obtain⟨rfl,hnd⟩:=yX hs hl;obtain⟨hc,hr⟩:=kN hr;simp only[aad,decide_eq_true_eq]at hc;obtain⟨⟨c0,c1⟩,c2⟩:=hc;split at hr
    ·rename_i dd hd';obtain rfl:=ak hr;obtain⟨hpl,_,rfl⟩:=ru hd'
     have hpure: ∃A k,a.eval x= .slice A (aQ c.sh c.x) k/\aQ c.sh c.x<=k/\jo w g.F c.sh c.x (a.eval x):=by
      rcases oP hs hnd hcr with⟨A,k,e3,hz⟩|⟨ad,k,cs,e3,hk,hsp,hel,_,hrow,_⟩
      ·refine⟨A,k,by rw[e3,hz],by omega,?_⟩;rw[wQ hpl];exact⟨A,k,by rw[e3,hz],by omega,.inl hz⟩
      ·refine⟨_,k,e3,hk,?_⟩;rw[wQ hpl];exact⟨_,k,e3,hk,.inr ⟨ad,cs,rfl,hsp,hrow hno,hel hpl⟩⟩
     obtain⟨A,k,e3,hk,hpc⟩:=hpure;rw[e3]at fin hpc;have hlh:(lo'.getD 0).toNat<=(hi'.getD (aQ c.sh c.x)).toNat:=by omega
     have hhl:(hi'.getD (aQ c.sh c.x)).toNat<=aQ c.sh c.x:=by omega
     refine bK (mk:= .hand) h hdst hd (fin _ (EO w hu hat.inf A _ k lo' hi' k1 k2 c0 c1 c2 hk)) rfl ⟨rfl,_,[],rfl,?_,rfl⟩;rw[hsz];exact jo.sub hpl hpc hlh hhl
    ·exact(aj hr).elim
   ·exact(aj hr).elim
  unfold sliceT at hr;simp only[]at hr;split at hr
  ·rename_i b hx
   have hst:LY E t=true:=by
    cases hb:LY E t with
    |true=>rfl
    |false=>rw[hb]at hr;exact(aj hr).elim
   rw[hst]at hr;simp only[aa9,cond_false]at hr;obtain⟨hc,hr⟩:=kN hr;obtain rfl:=ak hr;simp only[aad,decide_eq_true_eq]at hc;obtain⟨⟨c0,c1⟩,c2⟩:=hc;rw[ZE h hx]at fin;exact bK (mk:= .hand) h hdst hd (fin _ (O1 w (Ik hT hst) b lo' hi' k1 k2 c0 c1 c2)) rfl (ZC _)
  ·rename_i c hne hx;obtain⟨u,_,hcr,hu⟩:=BZ.one (aN h hx (by simp));have hu:=hu rfl;subst hu;split at hr
   ·rename_i htg;exact pureCase c _ hcr (by rw[htg];simp) hr
   ·exact(aj hr).elim
  ·rename_i p hx;obtain⟨hold,hvl,hsub,hv⟩:=aN h hx (by simp);obtain⟨cs,hc0,hr⟩:=aU hr;have hc:=gy hsub hc0;obtain⟨c,rfl⟩:=ED hc;obtain⟨hag,hvals⟩:=hv _ hc;obtain⟨u,e4,hcr,e5⟩:=oN h hc;rw[aJ hag,e5]at hvals;have hu:u=a.eval x:=by simpa using hvals.symm
   subst hu;simp only[]at hr;split at hr
   ·exact(aj hr).elim
   ·rename_i htg
    have hsl:D5 E t c=true:=by
     cases hb:D5 E t c with
     |true=>rfl
     |false=>rw[hb]at hr;exact(aj hr).elim
    rw[hsl]at hr;simp only[aa9,cond_false]at hr;obtain⟨hs,e,j,info,z,de,hu,_,_,_,hat,hsz⟩:=Bq hT hsl;split at hr
    ·rename_i l hl;obtain⟨rfl,hnd⟩:=yX hs hl;obtain⟨hcc,hr⟩:=kN hr;obtain rfl:=ak hr;simp only[aad,decide_eq_true_eq]at hcc;obtain⟨⟨c0,c1⟩,c2⟩:=hcc
     have hval: ∃A k,a.eval x= .slice A (aQ c.sh c.x) k/\aQ c.sh c.x<=k:=by
      rcases oP hs hnd hcr with⟨A,k,e3,hz⟩|⟨ad,k,cs,e3,hk,_⟩
      ·exact⟨A,k,by rw[e3,hz],by omega⟩
      ·exact⟨_,k,e3,hk⟩
     obtain⟨A,k,e3,hk⟩:=hval;rw[e3]at fin e4;have hlh:(lo'.getD 0).toNat<=(hi'.getD (aQ c.sh c.x)).toNat:=by omega
     have hhl:(hi'.getD (aQ c.sh c.x)).toNat<=aQ c.sh c.x:=by omega
     refine bK (mk:= .hand) h hdst hd (fin _ (EO w hu hat.inf A _ k lo' hi' k1 k2 c0 c1 c2 hk)) rfl ⟨hold,hvl,hsub,λ hz=> ?_,λ c' hc'=> ?_⟩
     ·cases lo' with
      |none=>rfl
      |some _=>simp at hz
     ·rw[hc]at hc';simp only[aae,aa5,and_true]at hc';subst hc';exact⟨A,_,k,e4,hlh,hhl,hk,by rw[hsz]⟩
    ·exact(aj hr).elim
   ·rename_i hn1 hn2;exact pureCase c _ hcr (λ e=>hn2 e) hr
  ·exact(aj hr).elim
 ·exact(aj hp).elim
theorem SY (h:Rel E C s a w g): ∀(xs:List Operand) (ts:List T),Z7 E s xs=some ts->nN s a w g .hand ts (xs.map a.eval)
 | [],ts,hc=>by simp only[Z7,aae]at hc;subst hc;rfl
 |x::xs,ts,hc=>by
  simp only[Z7]at hc;split at hc
  ·rename_i p ts' hx hts;cases hc;have hv:=aN h hx (by simp);exact⟨_,_,rfl,trivial,TV0.copy (s:=s) (a:=a) (mk:=VF x) (t:= .addr p) rfl hv,SY h xs ts' hts⟩
  ·rename_i cs off ts' hx hts;cases hc;have hv:=aN h hx (by simp);exact⟨_,_,rfl,trivial,TV0.copy (s:=s) (a:=a) (t:= .paddr cs off) rfl hv,SY h xs ts' hts⟩
  ·cases hc
theorem UC {f:Fn} {first caps:Array Operand} (ho:o.op= .makeFunc f first caps):qA P E C o:=by
 intro s a w g us d Q h hdst hd hp
 cases f with
 |func f=>
  simp only[plan,ho,hdst]at hp
  cases hcl:Z7 E s caps.toList with
  |none=>
   rw[hcl]at hp;cases hf:first.toList<;>rw[hf]at hp<;>exact(aj hp).elim
  |some ts=>
   rw[hcl]at hp
   cases hf:first.toList with
   |cons y ys=>rw[hf]at hp;exact(aj hp).elim
   |nil=>
    rw[hf]at hp;obtain rfl:=ak hp;have hc:=SY h caps.toList ts hcl;have e1:first.map a.eval= #[]:=by apply abh.1;simp[hf]
    refine bK (v:= .func (.func f) #[] (caps.map a.eval)) (mk:= .hand) h hdst hd ?_ rfl ⟨_,?_,hc⟩
    ·simp only[execOp,ho,Instr.makeFunc,e1];rfl
    ·congr 1;apply abh.1;simp
 |method n=>simp only[plan,ho,hdst]at hp;exact(aj hp).elim
 |methodOf t n=>simp only[plan,ho,hdst]at hp;exact(aj hp).elim
 |via t p f b=>simp only[plan,ho,hdst]at hp;exact(aj hp).elim
 |yield l=>simp only[plan,ho,hdst]at hp;exact(aj hp).elim
end
end Go.AM
end
section
namespace Go.AM
open Go
section
variable {P:Program} {E:Env} {C:Ctx} {s s':St} {a a':Act} {w w':World} {g g':Gh} {o:Oper} {Q:Exit->Act->World->Prop}
def Gh.new (g:Gh) (ρ:aH->aH) (b:Nat) (ow:aH):Gh:={g with own:=λ x=>if x=b then some ow else(g.own x).map ρ}
theorem mO {w:World} {ob:Obj} {b:Nat} (h:b<w.heap.size):(w.alloc ob).heap[b]? =w.heap[b]? :=by
 show(w.heap.push ob)[b]? =_;rw[Array.getElem?_push,if_neg (by omega)]
theorem mM {w:World} {ob:Obj}:(w.alloc ob).heap[w.heap.size]? =some ob:=by
 show(w.heap.push ob)[w.heap.size]? =_;rw[Array.getElem?_push,if_pos rfl]
theorem Jy {F:Fz} (hF: ∀b o,F b o->b<w.heap.size) (ob:Obj):Keeps w (w.alloc ob) F F:=
 ⟨λ _ _ h=>h,λ b o h=>by
  have:=hF b o h;exact World.cell?_alloc_lt w ob ⟨b,o,none⟩ this⟩
theorem Fr.new {K:aH->Prop} (hb: ∀b ow,g.own b=some ow->b<w.heap.size) (hF: ∀b o,g.F b o->b<w.heap.size) {ρ:aH->aH} (hρ: ∀o,K o->ρ o=o) (ob:Obj) (ow:aH):
 Fr K w (w.alloc ob) g (g.new ρ w.heap.size ow):=
 ⟨Jy hF ob,λ b ow' k e=>by
  have hlt:=hb b ow' e;exact⟨by simp only[Gh.new];rw[if_neg (by omega),e];simp[hρ ow' k],mO hlt,λ _ h=>h⟩⟩
theorem Base.new {w0:World} {F0:Fz} {X:Nat->Prop} (h:Base w0 F0 X w g) (ρ:aH->aH) (ob:Obj) (hob: ∀cs t f,ob= .cells cs t f->f=(0,0)) (ow:aH):Base w0 F0 X (w.alloc ob) (g.new ρ w.heap.size ow):=
 ⟨h.os,h.tape,h.output,by simp only[World.size_alloc];have:=h.size;omega,λ b hb hx=>by
  rw[mO (by have:=h.size;omega)];exact h.blk b hb hx,λ b ow' e=>by
  simp only[Gh.new]at e;simp only[World.size_alloc];split at e
  ·rename_i hbe;subst hbe;exact⟨.inr h.size,by omega⟩
  ·obtain⟨o',e',_⟩:=aaG.1 e;obtain⟨h1,h2⟩:=h.own b o' e';exact⟨h1,by omega⟩,h.keeps.trans (Jy (λ b o hf=>(h.fz b o hf).2) ob),λ b o hf=>by
  obtain⟨h1,h2⟩:=h.fz b o hf;exact⟨h1,by simp only[World.size_alloc];omega⟩,λ b ow' cs t f hx hc=>by
  by_cases hlt:b<w.heap.size
  ·rw[mO hlt]at hc;simp only[Gh.new]at hx;rw[if_neg (by omega)]at hx;obtain⟨o',e',_⟩:=aaG.1 hx;exact h.frz b o' cs t f e' hc
  ·by_cases hbe:b=w.heap.size
   ·subst hbe;rw[mM]at hc;exact hob cs t f (aao hc)
   ·rw[ab1 (by simp only[World.size_alloc];omega)]at hc;cases hc⟩
theorem Base.ZW {w0:World} {F0:Fz} {X:Nat->Prop} (h:Base w0 F0 X w g) (f:Nat->Nat):Base w0 F0 X w {g with at_:=f}:=⟨h.os,h.tape,h.output,h.size,h.blk,h.own,h.keeps,h.fz,h.frz⟩
theorem Base.drew {w0:World} {F0:Fz} {X:Nat->Prop} (h:Base w0 F0 X w g):Base w0 F0 X w.drew g:=⟨h.os,h.tape,h.output,h.size,h.blk,h.own,⟨h.keeps.sub,h.keeps.cell⟩,h.fz,h.frz⟩
theorem Fr.drew (K:aH->Prop):Fr K w w.drew g g:=⟨⟨λ _ _ h=>h,λ _ _ _=>rfl⟩,λ b ow k e=>⟨e,rfl,λ _ h=>h⟩⟩
theorem XO (h:Rel E C s a w g) {d:Nat} (hd:DOk E d) {cs:List CV} {vs:List Value} (hh:aF w g .hand 0 cs vs) (e:TypeId):
 ∃g',Rel E C (s.dM (Uw s d cs)) (a.put (some d) (.pointer (some ⟨w.heap.size,0,none⟩))) (w.alloc (.cells vs.toArray e)) g':=by
 let ρ:aH->aH:=λ o=>match o with| .hand i=> .cell d i|o=>o
 let g1:Gh:={g.new ρ w.heap.size (.box d)with at_:=put g.at_ d w.heap.size}
 let w1:=w.alloc (.cells vs.toArray e)
 let inst:=(match s.bx d with|some b=>b.inst|none=>0)+1
 let b':Bx:=⟨inst,cs.map λ c=>(c,0)⟩
 have hown: ∀b ow,g.own b=some ow->b<w.heap.size:=λ b ow e=>(h.base.own b ow e).2;have hF: ∀b o,g.F b o->b<w.heap.size:=λ b o e=>(h.base.fz b o e).2
 have f0:Fr (λ o=>(∀i,o≠ .cell d i)/\o≠ .box d/\ ∀i,o≠ .hand i) w w1 g (g.new ρ w.heap.size (.box d)):=Fr.new hown hF (λ o ho=>by
  simp only[ρ];cases o<;>simp_all) _ _
 have f1:Fr (λ o=>(∀i,o≠ .cell d i)/\o≠ .box d/\ ∀i,o≠ .hand i) w w1 g g1:=⟨f0.keeps,f0.own⟩;have base1:Base C.w0 C.F0 C.X w1 g1:=(h.base.new ρ _ (λ _ _ _ e=>by cases e;rfl) _).ZW _
 have hrep:BR w1 g1 d b':=by
  refine⟨vs.toArray,e,?_,?_,?_,?_⟩
  ·simp only[g1,bg];exact mM
  ·simp only[g1,bg,Gh.new,if_true]
  ·simp only[g1,bg];intro o ho;have:=hF _ _ ho;omega
  ·simp only[b',mQ];have hk:Keeps w w1 g.F g1.F:=f1.keeps
   have step: ∀(cs:List CV) (i:Nat) (vs:List Value),aF w g .hand i cs vs->aF w1 g1 (.cell d) i cs vs:=by
    intro cs
    induction cs with
    |nil=>intro i vs h;exact h
    |cons c cs ih=>
     intro i vs hc;obtain⟨v,ws,e,h1,h2⟩:=hc;refine⟨v,ws,e,?_,ih _ _ h2⟩;have h3:=(h1.ren (ρ:=ρ))
     have ff:Fr (λ o=>o= .cell d i) w w1 (g.ren ρ) g1:=⟨hk,λ b ow k e=>by
      simp only[Gh.ren,aaG]at e;obtain⟨o',e',_⟩:=e;have hlt:=hown b o' e';exact⟨by simp only[g1,Gh.new];rw[if_neg (by omega),e'];simpa using by assumption,mO hlt,λ _ h=>h⟩⟩
     exact h3.fr ff rfl
   exact step cs 0 vs hh
 have r1:Rel E C (s.dM [.bx d b']) a w1 g1:=by
  refine h.afa f1 base1 (λ m hm=>by simp only[g1,bF _ _ _ hm]) (.inl ?_) hrep;simp only[qm,b',inst];cases s.bx d<;>simp
 have hs:(Uw s d cs)= [.bx d b',.tm d (.addr ⟨.box d,inst,[],0,none⟩)]:=rfl;refine⟨g1,?_⟩;rw[hs,show([Upd.bx d b',.tm d (.addr ⟨.box d,inst,[],0,none⟩)]:List Upd)= [.bx d b']++[.tm d (.addr ⟨.box d,inst,[],0,none⟩)]from rfl,dS];refine r1.O8 (mk:= .hand) hd rfl ⟨⟨?_,λ n b _ _ _ i x c v hx=>by simp at hx⟩,d,rfl,λ b hb hi=> ?_⟩
 ·have:(s.dM [.bx d b']).bx d=some b':=by simp[St.dM,Upd.on,bg]
  simp only[qm,this];exact aaq _
 ·simp only[g1,bg]
theorem FW (mk:Nat->aH): ∀(ss:List Sh) (i:Nat),aF w g mk i (ss.map H8) (ss.map zeroV)
 | [],_=>rfl
 |sh::ss,i=>⟨_,_,rfl,by
  cases sh with
  |sl es=>exact FX rfl
  |rsl ss=>exact FX rfl
  |dl ss=>exact FX rfl
  |mp k e=>exact .inl ⟨rfl,rfl⟩
  |int k=>exact(rfl:(Value.int k 0)= .int k 0)
  |bool=>exact(rfl:Value.bool false=_)
  |str=>exact(rfl:Value.string ByteArray.empty=_),FW mk ss (i+1)⟩
theorem P6 (ss:List Sh):(ss.map Sh.deep).map zeroV=ss.map zeroV:=by
 rw[abN];refine List.map_congr_left λ s _=> ?_
 cases s with
 |sl es=>simp only[Function.comp,Sh.deep];cases es.any Sh.pF<;>rfl
 |_=>rfl
theorem adf (hT:wE P E.ty) {t:TypeId} (ho:o.op= .alloc t):qA P E C o:=by
 intro s a w g us d Q h hdst hd hp;simp only[plan,ho,hdst]at hp
 cases hi:E.ty t with
 |none=>rw[hi]at hp;exact(aj hp).elim
 |some i=>
  rw[hi]at hp;obtain rfl:=ak hp;obtain⟨info,de,z,hat⟩:=hT.at_ hi;obtain⟨g',r⟩:=XO h hd (FW (w:=w) (g:=g) .hand (bif rD E d then i.cells.map Sh.deep else i.cells) 0) t
  have hdz:(bif rD E d then i.cells.map Sh.deep else i.cells).map zeroV=i.cells.map zeroV:=by
   cases rD E d with
   |true=>exact P6 _
   |false=>rfl
  rw[hdz]at r;have hz:z.cells=(i.cells.map zeroV).toArray:=by apply abh.1;simp[hat.cells]
  have hex:(execOp a.eval o).run P w= .ok (.value (.pointer (some ⟨w.heap.size,0,none⟩))) (w.alloc (.cells (i.cells.map zeroV).toArray t)):=by
   simp[execOp,ho,Instr.alloc,zeroValue,typeInfo,hat.inf,hat.zero,newVar,newRow,hz]
  unfold Oper.wp;rw[hex,Oper.upon_value,hdst];exact⟨g',r⟩
theorem agH (hT:wE P E.ty) {t:TypeId} {x:Operand} (ho:o.op= .box t x):qA P E C o:=by
 intro s a w g us d Q h hdst hd hp;simp only[plan,ho,hdst]at hp;obtain⟨⟨ag,cs,us'⟩,ht,hp⟩:=aU hp;obtain⟨hsh,hp⟩:=aX hp;obtain rfl:=ak hp;obtain⟨g1,r1,k1,k2,_,_⟩:=DZ h (hs:=[]) (hv:=[]) rfl ht;obtain⟨g',r⟩:=XO r1 hd (by simpa using k2) t
 have hex:(execOp a.eval o).run P w= .ok (.value (.pointer (some ⟨w.heap.size,0,none⟩))) (w.alloc (.cells (a.eval x).cells.toList.toArray t)):=by
  simp[execOp,ho,Instr.box,newVar,newRow]
 unfold Oper.wp;rw[hex,Oper.upon_value,hdst,dS];exact⟨g',r⟩
end
end Go.AM
end
section
namespace Go.AM
open Go
section
variable {P:Program} {E:Env} {C:Ctx} {s s':St} {a a':Act} {w w':World} {g g':Gh} {o:Oper} {Q:Exit->Act->World->Prop}
theorem RX: ∀{cs ds:List CV},EU cs ds=true->cs.map CV.sh=ds.map CV.sh
 | [],[],_=>rfl
 | [],_::_,h=>by simp[EU]at h
 |_::_,[],h=>by simp[EU]at h
 |c::cs,d::ds,h=>by
  simp only[EU,aad]at h;rw[abf,abf,Sh.eq_of_beq h.1,RX h.2]
theorem splice (off:Nat) (l:List Value) (cells:Array Value) (h:off+l.length<=cells.size):
 (l.toArray.zipIdx.foldl (λ cs (x:Value×Nat)=>cs.setIfInBounds (off+x.2) x.1) cells)=(cells.toList.take off++l++cells.toList.drop (off+l.length)).toArray:=by
 have gen: ∀(l:List Value) (k:Nat) (cells:Array Value),off+k+l.length<=cells.size->
  ((l.zipIdx k).foldl (λ cs (x:Value×Nat)=>cs.setIfInBounds (off+x.2) x.1) cells).toList=cells.toList.take (off+k)++l++cells.toList.drop (off+k+l.length):=by
  intro l
  induction l with
  |nil=>intro k cells _;simp
  |cons v l ih=>
   intro k cells hk;simp only[abe]at hk;rw[List.zipIdx_cons,acw,ih (k+1) _ (by simp;omega)];simp only[Array.toList_setIfInBounds];have e1:off+(k+1)=off+k+1:=by omega
   rw[e1];have hlt:off+k<cells.toList.length:=by simp;omega
   have e2:(cells.toList.set (off+k) v).take (off+k+1)=cells.toList.take (off+k)++[v]:=by
    rw[List.take_succ_eq_append_getElem (by simpa using hlt),List.take_set_of_le (aaq _)];simp
   have e3:(cells.toList.set (off+k) v).drop (off+k+1+l.length)=cells.toList.drop (off+k+1+l.length):=by
    apply aaP;intro i;simp only[aan];rw[abk (by omega)]
   rw[e2,e3];simp[abC,Nat.add_comm 1]
 apply abh.1;have:=gen l 0 cells (by simpa using h);simp only[aaU]at this;rw[←Array.foldl_toList];simpa using this
theorem F6 (fields:List (Nat×Nat)) (cells:List Sh): ∀(ps:List (Nat×Operand)) (s:St) (g:Gh) (cs:List CV) (vs:List Value) (us0:List Upd) (cs':List CV) (us':List Upd),
 Rel E C s a w g->aF w g .hand 0 cs vs->(tH E fields cells ps s cs us0).run=some (cs',us')->
 (∀x,x∈fields->x.1+x.2<=cs.length)->
 ∃us2 g' vs',us'=us0++us2/\Rel E C (s.dM us2) a w g'/\aF w g' .hand 0 cs' vs'/\cs'.length=cs.length/\
  Instr.fill (fields.toArray[·]?) vs.toArray (ps.map λ x=>(x.1,a.eval x.2))=some vs'.toArray
 | [],s,g,cs,vs,us0,cs',us',h,hh,hr,_=>by
   simp only[tH]at hr;have:=ak hr;simp only[aas]at this;obtain⟨rfl,rfl⟩:=this;exact⟨[],g,vs,by simp,h,hh,rfl,rfl⟩
 |(i,x)::ps,s,g,cs,vs,us0,cs',us',h,hh,hr,hf=>by
  simp only[tH]at hr;split at hr
  ·exact(aj hr).elim
  ·rename_i off n hfi;obtain⟨⟨ag,ds,us1⟩,ht,hr⟩:=aU hr;simp only[]at hr;obtain⟨hc,hr⟩:=aX hr;simp only[aad]at hc;have hn:=aal hc.1;obtain⟨g1,r1,_,hh1,_,_⟩:=DZ h hh ht;have hle:=hf (off,n) (aak hfi);simp only at hle;have hvl:=hh.length
   have hdl:(a.eval x).cells.toList.length=n:=by
    have:=hh1.length;simp only[aap]at this;omega
   let ρ:aH->aH:=λ o=>match o with
    | .hand k=>if cs.length<=k/\k<cs.length+n then .hand (off+(k-cs.length))else o
    |o=>o
   have r2:Rel E C (s.dM us1) a w (g1.ren ρ):=r1.world (Fr.ren w g1 λ o ho=>by
    cases o<;>simp_all [ρ]) (r1.base.ren ρ) rfl
   have hcs1:aF w g1 .hand 0 cs vs:=by
    have:=hh1.sub 0 cs.length;simp only[abu,aaU]at this;have e1:(cs++ds).take cs.length=cs:=by simp
    have e2:(vs++(a.eval x).cells.toList).take cs.length=vs:=by rw[←hvl];simp
    rwa [e1,e2]at this
   have hds1:aF w g1 .hand (0+cs.length) ds (a.eval x).cells.toList:=by
    have:=hh1.sub cs.length n;have e1:((cs++ds).drop cs.length).take n=ds:=by simp[←hn]
    have e2:((vs++(a.eval x).cells.toList).drop cs.length).take n=(a.eval x).cells.toList:=by rw[←hvl,abL,aaF (by omega)]
    rwa [e1,e2]at this
   have hset:aF w (g1.ren ρ) .hand 0 (setCells cs off ds) (vs.take off++(a.eval x).cells.toList++vs.drop (off+(a.eval x).cells.toList.length)):=by
    refine aF.setCells (by omega) (by omega) hcs1 (λ o=> ∃k,k<cs.length/\o= .hand k) (Fr.ren w g1 λ o ho=> ?_) (λ k hk _=>⟨0+k,by omega,rfl⟩) ?_
    ·obtain⟨k,hk,rfl⟩:=ho;simp only[ρ];rw[if_neg (by omega)]
    ·refine aF.ren ds (0+cs.length) (0+off) _ (λ k hk=> ?_) hds1;simp only[ρ];rw[if_pos (by omega)];congr 1;omega
   obtain⟨us2,g',vs',e,r3,hh3,hl3,hfill⟩:=F6 fields cells ps (s.dM us1) (g1.ren ρ) _ _ (us0++us1) cs' us' r2 hset hr (λ x hx=>by
    rw[qZ (by omega)];exact hf x hx)
   refine⟨us1++us2,g',vs',by rw[e,aaA],by rw[dS];exact r3,hh3,by rw[hl3,qZ (by omega)],?_⟩;simp only[abf,Instr.fill];have hfi':fields.toArray[i]? =some (off,n):=by simpa using hfi
   rw[hfi'];simp only[];have hsz:(a.eval x).cells.size=n:=by simpa using hdl
   rw[if_neg (by simp[hsz];omega)];have hsp:=splice off (a.eval x).cells.toList vs.toArray (by simp;omega);simp only[Array.toArray_toList]at hsp;rw[←hfill];congr 1
theorem adh (hT:wE P E.ty) {t:TypeId} {ps:Array (Nat×Operand)} (ho:o.op= .build t ps):qA P E C o:=by
 intro s a w g us d Q h hdst hd hp;simp only[plan,ho,hdst]at hp;split at hp
 ·rename_i i hi;obtain⟨⟨cs,us'⟩,hf,hp⟩:=aU hp;obtain⟨hag,hp⟩:=aX hp;obtain rfl:=ak hp;obtain⟨info,de,z,hat⟩:=hT.at_ hi;obtain⟨fs,rfl,hpl,_,hfb⟩:=hat.struct hag
  have hdz:(bif rD E d then i.cells.map Sh.deep else i.cells).map zeroV=i.cells.map zeroV:=by
   cases rD E d with
   |true=>exact P6 _
   |false=>rfl
  have hdn:(bif rD E d then i.cells.map Sh.deep else i.cells).length=i.cells.length:=by
   have:=congrArg List.length hdz;simpa using this
  obtain⟨us2,g1,vs',e,r1,hh,hl,hfill⟩:=F6 i.fields i.cells ps.toList s g ((bif rD E d then i.cells.map Sh.deep else i.cells).map H8) (i.cells.map zeroV) [] cs us' h (by
   rw[←hdz];exact FW .hand _ 0) hf (λ x hx=>by
   have:=(hfb x hx).2;rw[aaN,hdn];exact this)
  simp only[abQ]at e;subst e;obtain⟨g2,r2,_,_⟩:=r1.xI (v:= .agg vs'.toArray) hd rfl (by simpa [Value.cells]using hh)
  have hb:P.built t (ps.map λ(i,x)=>(i,a.eval x)).toList=some vs'.toArray:=by
   unfold Program.built;simp only[hat.inf,hat.und,hat.zero];have hpl':fs.toList.mapM (λ f=>(P.info? f.type).map λ i=>(f.offset,i.size))=some i.fields:=hpl;rw[hpl'];simp only[];have hz:z.cells=(i.cells.map zeroV).toArray:=by apply abh.1;simp[hat.cells]
   rw[hz,←hfill];simp
  have hex:(execOp a.eval o).run P w= .ok (.value (.agg vs'.toArray)) w:=by
   simp only[execOp,ho,Sem.run_bind,run_build w t _ _ hb,Result.andThen_ok,Sem.run_pure]
  unfold Oper.wp;rw[hex,Oper.upon_value,hdst,dS];exact⟨g2,r2⟩
 ·exact(aj hp).elim
end
end Go.AM
end
section
namespace Go.AM
open Go
section
variable {P:Program} {E:Env} {C:Ctx} {s s':St} {a a':Act} {w w':World} {g g':Gh} {o:Oper} {Q:Exit->Act->World->Prop}
theorem Y0 (h:Rel E C s a w g) {sh:Sh} (hpl:sh.oW=true) {x:El sh} {cells:Array Value} {c:Nat} (e:TypeId) (hx:uO w g.F sh x (cells.toList.take (aQ sh x*sh.n))) (hl:aQ sh x<=c) (hc:c<=maxLen) (hsz:cells.size=c*sh.n):
 ∃g',Rel E C s a (w.alloc (.cells cells e)) g'/\jE (w.alloc (.cells cells e)) g' (.hand 0) ⟨sh,.own,x⟩ (.slice (some ⟨w.heap.size,0,none⟩) (aQ sh x) c)/\Keeps w (w.alloc (.cells cells e)) g.F g'.F/\g'.at_=g.at_/\Fr (λ _=>True) w (w.alloc (.cells cells e)) g g':=by
 have hown: ∀b ow,g.own b=some ow->b<w.heap.size:=λ b ow e=>(h.base.own b ow e).2;have hF: ∀b o,g.F b o->b<w.heap.size:=λ b o e=>(h.base.fz b o e).2;have f:=Fr.new (K:=λ _=>True) hown hF (ρ:=id) (λ _ _=>rfl) (.cells cells e) (.hand 0);refine⟨g.new id w.heap.size (.hand 0),h.world (f.mono λ _ _=>trivial) (h.base.new _ _ (λ _ _ _ e=>by cases e;rfl) _) rfl,?_,f.keeps,rfl,f⟩;simp only[jE,if_pos (fD hpl)];refine .inr ⟨w.heap.size,c,cells,e,rfl,hl,hc,by simp[Gh.new],mM,hsz,(pV hpl).2 (hx.keeps f.keeps),λ o=> ?_⟩;constructor
 ·intro hf;have:=hF _ _ hf;omega
 ·intro hf;cases hf.1
theorem Vr (h:Rel E C s a w g) {d:Nat} (hd:DOk E d) {sh:Sh} (hs:sh.oW=true) {x:El sh} {cells:Array Value} {c:Nat} (e:TypeId) (hx:uO w g.F sh x (cells.toList.take (aQ sh x*sh.n))) (hl:aQ sh x<=c) (hc:c<=maxLen) (hsz:cells.size=c*sh.n):
 ∃g',Rel E C (s.dM [.tm d (.val false [⟨sh,.own,x⟩])]) (a.put (some d) (.slice (some ⟨w.heap.size,0,none⟩) (aQ sh x) c)) (w.alloc (.cells cells e)) g':=by
 obtain⟨g1,r1,k1,_,_⟩:=Y0 h hs e hx hl hc hsz;obtain⟨g2,r2,_,_⟩:=r1.xI hd (v:= .slice (some ⟨w.heap.size,0,none⟩) (aQ sh x) c) (ag:=false) (cs:=[⟨sh,.own,x⟩]) rfl ⟨_,[],rfl,k1,rfl⟩;exact⟨g2,r2⟩
def jJ {α:Type} (f:List CV->Option α):List (List CV)->Option (List α)
 | []=>some []
 |r::rs=>bif Cb r then match f r,jJ f rs with
  |some e,some l=>some (e::l)
  |_,_=>none else none
theorem Q5 (es:List Sh): ∀rows,JH es rows=jJ (fZ es) rows
 | []=>rfl
 |r::rs=>by
  simp only[JH,jJ,Q5 es rs];cases Cb r<;>cases fZ es r<;>cases jJ (fZ es) rs<;>rfl
theorem MS (ss:List Sh): ∀rows,OO ss rows=jJ (vO ss) rows
 | []=>rfl
 |r::rs=>by
  simp only[OO,jJ,MS ss rs];cases Cb r<;>cases vO ss r<;>cases jJ (vO ss) rs<;>rfl
theorem oO {α:Type} {f:List CV->Option α} {r:List CV} {rs:List (List CV)} {l:List α} (h:jJ f (r::rs)=some l):
 ∃e l',Cb r=true/\f r=some e/\jJ f rs=some l'/\l=e::l':=by
 simp only[jJ]at h
 cases hn:Cb r with
 |false=>rw[hn]at h;cases h
 |true=>
  rw[hn]at h
  cases he:f r with
  |none=>rw[he]at h;cases h
  |some e=>
   cases hl:jJ f rs with
   |none=>rw[he,hl]at h;cases h
   |some l'=>rw[he,hl]at h;cases h;exact⟨e,l',rfl,rfl,rfl,rfl⟩
theorem qY {α:Type} {f:List CV->Option α}: ∀{rows:List (List CV)} {l:List α},jJ f rows=some l->Cb rows.flatten=true/\l.length=rows.length
 | [],l,h=>by simp[jJ]at h;subst h;exact⟨rfl,rfl⟩
 |r::rs,l,h=>by
  obtain⟨e,l',h1,_,h3,rfl⟩:=oO h;obtain⟨k1,k2⟩:=qY h3;refine⟨?_,by simp[k2]⟩;simp only[Cb,abX,acv,aad]at h1 k1 ⊢;exact⟨h1,k1⟩
theorem DW {α:Type} {n:Nat} {R:α->List Value->Prop} {L:List α->List Value->Prop} (hr:Ir n R L) {f:List CV->Option α}
 (hf: ∀r e i vs,f r=some e->aF w g .hand i (r.map (·.to .pure)) vs->R e vs): ∀(rows:List (List CV)) (l:List α) (i:Nat) (vs:List Value),jJ f rows=some l->aF w g .hand i (rows.flatten.map (·.to .pure)) vs->L l vs
 | [],l,i,vs,h,hv=>by
   simp[jJ]at h;subst h;exact(hr.nil _).2 hv
 |r::rs,l,i,vs,h,hv=>by
  obtain⟨e,l',_,h2,h3,rfl⟩:=oO h;rw[abX,abz]at hv
  have key: ∀fl:List CV,aF w g .hand i (r.map (·.to .pure)++fl) vs->aF w g .hand i (r.map (·.to .pure)) (vs.take r.length)/\aF w g .hand (i+r.length) fl (vs.drop r.length):=by
   intro fl hv;have hl:vs.length=r.length+fl.length:=by have:=hv.length;simpa using this
   have k1:=hv.sub 0 r.length;have k2:=hv.sub r.length fl.length;have e1:(((r.map (·.to .pure))++fl).drop 0).take r.length=r.map (·.to .pure):=by simp
   have e2:(((r.map (·.to .pure))++fl).drop r.length).take fl.length=fl:=by
    rw[List.drop_append_of_le_length (by simp),abn (by simp)];simp
   rw[e1]at k1;rw[e2,aaF (l:=vs.drop r.length) (by simp;omega)]at k2;exact⟨k1,k2⟩
  obtain⟨k1,k2⟩:=key _ hv;exact(hr.cons _ _ _).2 ⟨_,_,(abm r.length vs).symm,hf _ _ _ _ h2 k1,DW hr hf rs l' _ _ h3 k2⟩
theorem WG {s n:Nat} (hs:0<s) (ps:List (Nat×Value)) (hi:ps.map (·.1)=List.range' 0 ps.length) (cells:Array Value) (h1: ∀v∈ps,v.2.cells.size=s) (hn:ps.length*s=cells.size):
 Instr.fill (λ i=>some (i*s,s)) cells ps=some (ps.flatMap λ v=>v.2.cells.toList).toArray:=by
 have e:ps=((ps.map (·.2)).zipIdx 0).map λ x=>(x.2,x.1):=by
  apply aaP;intro i;have:=congrArg (λ l=>l[i]?) hi;simp only[aar,List.getElem?_zipIdx]at this ⊢;rcases aaE i ps.length with hlt|hge
  ·rw[aac hlt]at this ⊢;simp only[aaK,List.getElem?_range' hlt]at this ⊢;have h':=aao this;simp only[aaW]at h' ⊢;congr 1;apply acM
   ·simpa using h'
   ·rfl
  ·rw[aah hge];rfl
 have hw:=Go.Great.fill_whole hs (ps.map (·.2)) cells (λ v hv=>by
  obtain⟨x,hx,rfl⟩:=aaL.1 hv;exact h1 x hx) (by simpa using hn)
 rw[←e]at hw;rw[hw,List.flatMap_map]
theorem Iz (w:World) (t e:TypeId) (ie:TypeInfo) (hu:P.underlying t=some (.slice e)) (hie:P.info? e=some ie):
 (Instr.buildSlice t 0 #[]).run P w= .ok (.slice (some ⟨w.heap.size,0,none⟩) 0 0) (w.alloc (.cells #[] e)):=by
 simp[Instr.buildSlice,run_underlying hu,sizeOf,typeInfo,hie,newRow,Instr.fill,Array.range_zero']
theorem Si {sh:Sh} (hs:sh.oW=true) {F:Fz} {x:El sh} (h:aQ sh x=0):uO w F sh x []:=by
 cases sh with
 |sl es=>have:x= []:=aav h;subst this;exact rfl
 |rsl ss=>have:x= []:=aav h;subst this;show jg w F (dO w F ss) [] [];unfold jg;rfl
 |_=>cases hs
end
end Go.AM
end
section
namespace Go.AM
open Go
section
variable {P:Program} {E:Env} {C:Ctx} {s s':St} {a a':Act} {w w':World} {g g':Gh} {o:Oper} {Q:Exit->Act->World->Prop}
theorem Xx (w:World) (F:Fz) (sh:Sh) (hd:sh.acW=false) (hm:sh.Ie=false):jo w F sh (kM sh) (zeroV sh):=by
 cases sh with
 |int k=>exact rfl
 |bool=>exact rfl
 |str=>exact rfl
 |sl es=>exact⟨none,0,rfl,aaq _,.inl rfl⟩
 |rsl ss=>exact⟨none,0,rfl,aaq _,.inl rfl⟩
 |dl ss=>cases hd
 |mp k e=>cases hm
theorem BN (mk:Nat->aH): ∀(ss:List Sh) (i:Nat),(ss.all λ s=> !s.acW)=true->(ss.all λ s=> !s.Ie)=true->aF w g mk i (ss.map λ s=>⟨s,.pure,kM s⟩) (ss.map zeroV)
 | [],_,_,_=>rfl
 |sh::ss,i,h,k=>by
  simp only[acA,aad,abj]at h k;exact⟨_,_,rfl,Xx w g.F sh h.1 k.1,BN mk ss (i+1) h.2 k.2⟩
theorem Ir.replicate {α:Type} {n:Nat} {R:α->List Value->Prop} {L:List α->List Value->Prop} (hr:Ir n R L) {e:α}: ∀(l:Nat) (cs:List Value),cs.length=l*n->(∀i,i<l->R e ((cs.drop (i*n)).take n))->L (List.replicate l e) cs
 |0,cs,hl,_=>(hr.nil cs).2 (aav (by simpa using hl))
 |l+1,cs,hl,h=>by
  rw[List.replicate_succ];rw[abr]at hl;refine(hr.cons _ _ _).2 ⟨cs.take n,cs.drop n,(abm n cs).symm,by have:=h 0 (by omega);simpa using this,hr.replicate l _ (by simp;omega) λ i hi=> ?_⟩;have:=h (i+1) (by omega);rw[abr]at this;rw[List.drop_drop,Nat.add_comm n];exact this
theorem QV {z:Array Value} {c n i:Nat} (hz:z.size=n) (hi:i<c):((madeCells z (c*n)).toList.drop (i*n)).take n=z.toList:=by
 apply aaP;intro j;rw[aaj];split
 ·rename_i hj
  have hlt:i*n+j<c*n:=by
   have:i*n+n<=c*n:=by rw[←abr];exact aaw _ hi
   omega
  rw[aan,aaO];simp only[madeCells,Array.getElem?_map,Array.getElem?_range,if_pos hlt,aaK];have hm:(i*n+j) % n=j:=by rw[aco,Nat.mul_add_mod,Nat.mod_eq_of_lt hj]
  have hjz:j<z.size:=by omega
  simp only[hz,hm,aaO,aa1 hjz,getElem!_pos z j hjz]
 ·rename_i hj;rw[aah (by simp;omega)]
theorem iM.aio {ow:aH} {B:Option Nat} {sh:Sh} (hpl:sh.oW=true) {y:El sh} {cs:List Value} {k:Nat} {v:Value} (hv:cs[k]? =some v) (h:uZ w g ow false sh y v) (hb:blk v=B):
 XA w g ow (λ _=>B) [sh] y ((cs.drop (k* [sh].length)).take [sh].length):=by
 have hrow:(cs.drop (k* [sh].length)).take [sh].length= [v]:=by
  obtain⟨h1,h2⟩:=aaf.1 hv;simp only[aaT,abR];rw[aaI h1,h2];rfl
 rw[hrow];refine⟨rfl,λ q c0 v0 hc0 hv0=> ?_⟩
 match q,hc0,hv0 with
 |0,hc0,hv0=>
  cases hc0;cases hv0;show qB w g ow _ sh y v;unfold qB;rw[if_pos (fD hpl)];exact⟨hpl,h,hb⟩
theorem iM.zero {ow:aH} {b n:Nat} {sh:Sh} (hpl:sh.oW=true) {cs:List Value} (hl:cs.length=n) (hz: ∀i,i<n->cs[i]? =some (.slice none 0 0)):iM w g ow b [sh] (List.replicate n (some (kM sh)):List (Option (ElA [sh]))) cs:=by
 refine⟨by simp[hl],λ _=>none,λ k=>by simp,λ i j x e _=>(by cases e),λ i x hx=> ?_⟩;have hil:i<n:=by have:=(aaf.1 hx).1;simpa using this
 rw[abw,if_pos hil]at hx;cases hx;exact iM.aio (B:=none) hpl (hz i hil) (.inl ⟨rfl,by cases sh<;>first|rfl|cases hpl⟩) rfl
theorem Rh (hT:wE P E.ty) {t:TypeId} {x y:Operand} (ho:o.op= .makeSlice t x y):qA P E C o:=by
 intro s a w g us d Q h hdst hd hp;simp only[plan,ho,hdst]at hp;split at hp
 ·rename_i ag sh fl ft e kl l kc c hi hl hc;obtain⟨hcond,hp⟩:=kN hp;simp only[aad,decide_eq_true_eq]at hcond;obtain⟨⟨h0,hlc⟩,hcm⟩:=hcond;obtain⟨info,de,z,hat⟩:=hT.at_ hi;obtain⟨sh',j,rfl,_,hcs,hsl,hj,hjc⟩:=hat.elem rfl;simp only[aa5,and_true]at hcs;subst hcs;obtain⟨ie,de',z',hate⟩:=hT.at_ hj;have hnm:=hat.aiI rfl hj;have hisz:ie.size=sh.n:=by rw[hate.size,hjc,jZ]
  have hzc:z'.cells.size=sh.n:=by
   have:=congrArg List.length hate.cells;rw[hjc]at this;simpa [jZ]using this
  have hm:au=1099511627776:=by decide
  rw[hm]at hcm;obtain⟨_,ex⟩:=sG h hl;obtain⟨_,ey⟩:=sG h hc
  have hrun:=run_make (P:=P) w t e ie z' hat.und hate.inf hate.zero kl kc l c h0 hlc (by
   have:=hate.bytes (hat.short rfl hj);have h1:(ie.bytes:Int)*c<=128*1099511627776:=Int.mul_le_mul (by omega) (by omega) (by omega) (by omega);omega) (by omega)
  rw[hisz]at hrun
  have hex:(execOp a.eval o).run P w= .ok (.value (.slice (some ⟨w.heap.size,0,none⟩) l.toNat c.toNat)) (w.alloc (.cells (madeCells z'.cells (c.toNat*sh.n)) e)):=by
   simp only[execOp,ho,ex,ey,Sem.run_bind,hrun,Result.andThen_ok,Sem.run_pure]
  have main: ∀x:El sh,aQ sh x=l.toNat->uO w g.F sh x ((madeCells z'.cells (c.toNat*sh.n)).toList.take (l.toNat*sh.n))->us= [.tm d (.val false [⟨sh,.own,x⟩])]->o.wp P a w (λ a' w'=> ∃g',Rel E C (s.dM us) a' w' g') Q:=by
   intro x hxl hels hus
   obtain⟨g2,r2⟩:=Vr h hd hsl (x:=x) (cells:=madeCells z'.cells (c.toNat*sh.n)) (c:=c.toNat) e (by rw[hxl];exact hels) (by omega) (by
    have:c.toNat<=1099511627776:=by omega
    exact aaJ this (by decide)) (by simp[madeCells])
   unfold Oper.wp;rw[hex,Oper.upon_value,hdst,hus];rw[hxl]at r2;exact⟨g2,r2⟩
  have hlcn:l.toNat<=c.toNat:=by omega
  have hpart: ∀i,i<l.toNat->((((madeCells z'.cells (c.toNat*sh.n)).toList.take (l.toNat*sh.n)).drop (i*sh.n)).take sh.n)=(vX sh).map zeroV:=by
   intro i hi;have h1:i*sh.n+sh.n<=l.toNat*sh.n:=by rw[←abr];exact aaw _ hi
   have e1:((((madeCells z'.cells (c.toNat*sh.n)).toList.take (l.toNat*sh.n)).drop (i*sh.n)).take sh.n)=(((madeCells z'.cells (c.toNat*sh.n)).toList.drop (i*sh.n)).take sh.n):=by
    rw[List.drop_take,abS,abK (by omega)]
   rw[e1,QV hzc (by omega),hate.cells,hjc]
  have hlen:((madeCells z'.cells (c.toNat*sh.n)).toList.take (l.toNat*sh.n)).length=l.toNat*sh.n:=by
   have:l.toNat*sh.n<=c.toNat*sh.n:=aaw _ hlcn;rw[aaB,aa2,size_madeCells];omega
  cases hdp:rD E d with
  |true=>
   rw[hdp,cond_true]at hp
   obtain⟨es,rfl,hpl,rfl⟩: ∃es,sh= .sl [es]/\es.oW=true/\us= [.tm d (.val false [⟨.dl [es],.own,List.replicate l.toNat (some (kM es))⟩])]:=by
    cases sh with
    |sl ess=>
     match ess,hp with
     | [es],hp=>
       simp only[agA]at hp
       cases hpl:es.oW with
       |false=>rw[hpl]at hp;exact(aj hp).elim
       |true=>rw[hpl]at hp;exact⟨es,rfl,hpl,(ak hp).symm⟩
     | [],hp=>exact(aj hp).elim
     |_::_::_,hp=>exact(aj hp).elim
    |_=>exact(aj hp).elim
   have hown: ∀b ow,g.own b=some ow->b<w.heap.size:=λ b ow e=>(h.base.own b ow e).2;have hF: ∀b o,g.F b o->b<w.heap.size:=λ b o e=>(h.base.fz b o e).2
   let ob:Obj:= .cells (madeCells z'.cells (c.toNat*(Sh.sl [es]).n)) e
   have f:=Fr.new (K:=λ o=> ∀i,o≠ .hand i) hown hF (ρ:=id) (λ _ _=>rfl) ob (.hand 0);have r1:=h.world f (h.base.new _ ob (λ _ _ _ e=>by simp only[ob,Obj.cells.injEq]at e;exact e.2.2.symm) _) rfl;have hn1:(Sh.sl [es]).n=1:=rfl
   have hzero: ∀i,i<l.toNat->((madeCells z'.cells (c.toNat*(Sh.sl [es]).n)).toList.take (l.toNat*(Sh.dl [es]).n))[i]? =some (.slice none 0 0):=λ i hil=>by
    have h1:=hpart i hil;rw[hn1]at h1;simp only[abR]at h1;have h2:(vX (Sh.sl [es])).map zeroV= [.slice none 0 0]:=by cases es<;>first|rfl|cases hpl
    rw[h2]at h1;have:=congrArg (λ l=>l[0]?) h1;simpa [aan,aaj,Sh.n]using this
   obtain⟨g2,r2,_,_⟩:=r1.xI hd (v:= .slice (some ⟨w.heap.size,0,none⟩) l.toNat c.toNat) (ag:=false) (cs:=[⟨.dl [es],.own,List.replicate l.toNat (some (kM es))⟩]) rfl ⟨_,[],rfl,by
    simp only[jE,Sh.pF,if_true];have hll:aQ (.dl [es]) (List.replicate l.toNat (some (kM es)))=l.toNat:=abJ;refine .inr ⟨w.heap.size,c.toNat,madeCells z'.cells (c.toNat*(Sh.sl [es]).n),e,by rw[hll],by rw[hll];exact hlcn,?_,by simp[Gh.new],mM,by rw[hn1];simp[madeCells,Sh.n],⟨⟨rfl,?_⟩,?_⟩,λ o=>⟨λ hf=>(by have:=hF _ _ hf;omega),λ hf=>by cases hf.1⟩⟩
    ·have:c.toNat<=1099511627776:=by omega
     exact aaJ this (by decide)
    ·rw[hll];intro u hu;obtain⟨i,hi,rfl⟩:=aay hu
     have hz:=hzero i (by
      have e: ∀k m:Nat,List.length (List.take (k*m) (madeCells z'.cells (c.toNat*(Sh.sl [es]).n)).toList)<=k*m:=λ k m=>List.length_take_le ..;have:=e l.toNat (Sh.dl [es]).n;simp only[Sh.n,aaT,abR]at this hi ⊢;exact abb hi this)
     rw[aac (by simpa [Sh.n]using hi)]at hz;have hz:=aao hz;exact(congrArg Value.oneCell' hz).trans rfl
    ·rw[hll];rw[hn1]at hlen;exact iM.zero hpl (by simpa [Sh.n]using hlen) hzero,rfl⟩
   unfold Oper.wp;rw[hex,Oper.upon_value,hdst];exact⟨g2,r2⟩
  |false=>
  rw[hdp,cond_false]at hp
  cases sh with
  |sl es=>
   simp only[aeG]at hp;cases he:fZ es (es.map λ s=>⟨s,.pure,kM s⟩)with
   |none=>rw[he]at hp;exact(aj hp).elim
   |some el=>
    rw[he]at hp;obtain rfl:=ak hp;refine main (List.replicate l.toNat el) (by show List.length _=_;simp) ?_ rfl;refine(jC es).replicate l.toNat _ hlen λ i hi=> ?_;rw[show es.length=(Sh.sl es).n from rfl,hpart i hi];exact BP .hand es _ el 0 _ he (λ c hc=>by obtain⟨_,_,rfl⟩:=aaL.1 hc;rfl) (BN .hand es 0 (by have:=hate.noDl;rw[hjc]at this;exact this) (by rw[hjc]at hnm;exact hnm))
  |rsl ss=>
   simp only[aeG]at hp;cases he:vO ss ((ss++[Sh.rsl ss]).map λ s=>⟨s,.pure,kM s⟩)with
   |none=>rw[he]at hp;exact(aj hp).elim
   |some el=>
    rw[he]at hp;obtain rfl:=ak hp;refine main (List.replicate l.toNat el) (by show List.length _=_;simp) ?_ rfl;refine(jR ss).replicate l.toNat _ hlen λ i hi=> ?_;rw[show ss.length+1=(Sh.rsl ss).n from rfl,hpart i hi];exact Vb .hand ss _ el 0 _ he (λ c hc=>by obtain⟨_,_,rfl⟩:=aaL.1 hc;rfl) (BN .hand (ss++[Sh.rsl ss]) 0 (by have:=hate.noDl;rw[hjc]at this;exact this) (by rw[hjc]at hnm;exact hnm))
  |int k=>exact(aj hp).elim
  |bool=>exact(aj hp).elim
  |str=>exact(aj hp).elim
  |dl _=>exact(aj hp).elim
  |mp _ _=>exact(aj hp).elim
 ·exact(aj hp).elim
end
end Go.AM
end
section
namespace Go.AM
open Go
section
variable {P:Program} {E:Env} {C:Ctx} {s s':St} {a a':Act} {w w':World} {g g':Gh} {o:Oper} {Q:Exit->Act->World->Prop}
theorem oD {b:Nat} {cur new:Array Value} {et:TypeId} (hb:w.heap[b]? =some (.cells cur et (0,0))) {F F':Fz} (hs: ∀b o,F b o->F' b o) (hF: ∀o,F b o->new[o]? =cur[o]?):Keeps w (w.setRow b new) F F':=
 ⟨hs,λ b' o hf=>by
  by_cases hbb:b'=b
  ·subst hbb;rw[cell_setRow_same w b' o cur new et _ hb,hF o hf,cell_of_heap hb]
  ·exact cell_setRow_other w b new ⟨b',o,none⟩ hbb⟩
theorem Fr.setRow {K:aH->Prop} {b:Nat} {cur new:Array Value} {et:TypeId} (hb:w.heap[b]? =some (.cells cur et (0,0))) (hF: ∀o,g.F b o->new[o]? =cur[o]?) (hk: ∀ow,K ow->g.own b≠some ow):Fr K w (w.setRow b new) g g:=
 ⟨oD hb (λ _ _ h=>h) hF,λ b' ow k e=>⟨e,setRow_other w b b' new (by rintro rfl;exact hk ow k e),λ _ h=>h⟩⟩
theorem Base.setRow {w0:World} {F0:Fz} {X:Nat->Prop} (h:Base w0 F0 X w g) {b:Nat} {ow:aH} (ho:g.own b=some ow) {cur new:Array Value} {et:TypeId} (hb:w.heap[b]? =some (.cells cur et (0,0))) (hF: ∀o,g.F b o->new[o]? =cur[o]?):Base w0 F0 X (w.setRow b new) g:=
 ⟨h.os,h.tape,h.output,by simpa using h.size,λ b' hb' hx=>by
  have:b'≠b:=by
   rintro rfl;rcases(h.own b' ow ho).1 with k|k
   ·exact hx k
   ·omega
  rw[setRow_other w b b' new this];exact h.blk b' hb' hx,λ b' ow' e=>by simpa using h.own b' ow' e,
  h.keeps.trans (oD hb (λ _ _ h=>h) hF),λ b' o hf=>by simpa using h.fz b' o hf,λ b' ow' cs t f hx hc=>by
  by_cases hbe:b'=b
  ·subst hbe;rw[setRow_heap w b' cur new et _ hb]at hc;cases hc;rfl
  ·rw[setRow_other w b b' new hbe]at hc;exact h.frz b' ow' cs t f hx hc⟩
theorem wV {n:Nat} {cur:Array Value} {et:TypeId} {f:Nat×Nat} (h:w.heap[g.at_ n]? =some (.cells cur et f)):aC a w g (.box n)=cur.toList:=by simp only[aC,h]
theorem UG (h:Rel E C s a w g) {p:Pl} {ds old:List CV} {vals:List Value} {us:List Upd} (hh:aF w g .hand 0 ds vals) (hc:aW s p ds.length=some old) (hsh:ds.map CV.sh=old.map CV.sh) (hu:jB s p ds true=some us):
 ∃n cur et g',p.root= .box n/\(∃b,s.bx n=some b/\b.inst=p.inst)/\w.heap[g.at_ n]? =some (.cells cur et (0,0))/\p.cell+vals.length<=cur.size/\
  Rel E C (s.dM us) a (w.setRow (g.at_ n) (cur.toList.take p.cell++vals++cur.toList.drop (p.cell+vals.length)).toArray) g':=by
 unfold jB at hu
 cases hr:p.root with
 |tmp n=>
  rw[hr]at hu;simp only[]at hu;split at hu
  ·simp at hu
  ·cases hu
 |box n=>
  rw[hr]at hu;simp only[]at hu;split at hu
  ·rename_i b hb;simp only[cond_eq_ite]at hu;split at hu
   ·rename_i hcond;simp only[aad]at hcond;have hinst:=aal hcond.1;have hle:=aa6 hcond.2;simp only[if_true,aae]at hu;subst hu;obtain⟨cur,et,h1,h2,h3,h4⟩:=h.bx n b hb;have hvl:=hh.length;have hcl:=h4.length;simp only[aaN,aa2]at hcl;rw[bI]at hc;obtain⟨cells,ec,_,_,rfl⟩:=hc;rw[hr]at ec;simp only[aB,hb,aae,aas]at ec;obtain⟨_,rfl⟩:=ec
    let new:=(cur.toList.take p.cell++vals++cur.toList.drop (p.cell+vals.length)).toArray
    let ρ:aH->aH:=λ o=>match o with| .hand k=> .cell n (p.cell+k)|o=>o
    let w1:=w.setRow (g.at_ n) new
    have hF: ∀o,g.F (g.at_ n) o->new[o]? =cur[o]? :=λ o ho=>absurd ho (h3 o)
    have f: ∀{K:aH->Prop},(∀ow,K ow->ow≠ .box n)->(∀ow,K ow-> ∀i,ow≠ .hand i)->Fr K w w1 g (g.ren ρ):=by
     intro K k1 k2;refine(Fr.setRow h1 hF λ ow k e=> ?_).trans (Fr.ren _ g λ ow k=> ?_)
     ·rw[h2]at e;cases e;exact k1 _ k rfl
     ·have:=k2 ow k
      cases ow with
      |hand i=>exact absurd rfl (this i)
      |_=>rfl
    have hown':(g.ren ρ).own (g.at_ n)=some (.box n):=by simp[Gh.ren,h2,ρ]
    have hmap:(b.cells.take p.cell++(ds.zip (b.cells.drop p.cell)).map (λ x=>((x.1,x.2.2+1):CV×Nat))++b.cells.drop (p.cell+ds.length)).map (·.1)=setCells (b.cells.map (·.1)) p.cell ds:=by
     simp only[setCells,abz,ab7,ab6,abN];congr 2;have:((λ x=>x.1)∘λ(x:CV×CV×Nat)=>((x.1,x.2.2+1):CV×Nat))=Prod.fst:=rfl;rw[this,List.map_fst_zip];simp;omega
    have hrep:BR w1 (g.ren ρ) n ⟨b.inst,b.cells.take p.cell++(ds.zip (b.cells.drop p.cell)).map (λ x=>((x.1,x.2.2+1):CV×Nat))++b.cells.drop (p.cell+ds.length)⟩:=by
     refine⟨new,et,setRow_heap w _ cur new et _ h1,hown',h3,?_⟩;simp only[hmap];refine aF.setCells (by simpa using hle) hvl h4 (λ o=> ∃k,o= .cell n k) (f (λ ow ⟨k,e⟩=>by subst e;simp) (λ ow ⟨k,e⟩=>by subst e;simp)) (λ k _ _=>⟨0+k,rfl⟩) ?_;have hstep:aF w1 g .hand 0 ds vals:=aF.fr (K:=λ o=> ∃i,o= .hand i) (Fr.setRow h1 hF λ ow ⟨k,e⟩ e2=>by subst e;rw[h2]at e2;cases e2) ds 0 vals (λ j=>⟨j,rfl⟩) hh;exact aF.ren ds 0 (0+p.cell) vals (λ k _=>by simp[ρ]) hstep
    refine⟨n,cur,et,g.ren ρ,rfl,⟨b,hb,hinst⟩,h1,by omega,?_⟩;refine h.afa (f (λ ow k=>k.2.1) (λ ow k=>k.2.2)) ((h.base.setRow h2 h1 hF).ren ρ) (λ m _=>rfl) (.inr ⟨b,hb,rfl,?_,rfl,λ i c v hi=> ?_⟩) hrep
    ·simp;omega
    ·have hil:i<b.cells.length:=by
      rcases aaE i b.cells.length with h|h
      ·exact h
      ·simp[aah h]at hi
     have hv1:aC a w1 (g.ren ρ) (.box n)=cur.toList.take p.cell++vals++cur.toList.drop (p.cell+vals.length):=by
      exact wV (a:=a) (g:=g.ren ρ) (n:=n) (setRow_heap w _ cur new et _ h1)
     have hv0:aC a w g (.box n)=cur.toList:=wV h1
     have keepDl: ∀es l',c=⟨.dl es,.own,l'⟩-> ∃l,c=⟨.dl es,.own,l⟩/\ ∀bl len k,(aC a w g (.box n))[i]? =some (.slice (some ⟨bl,0,none⟩) len k)->w1.heap[bl]? =w.heap[bl]? :=by
      intro es l' e;refine⟨l',e,λ bl len k hv=> ?_⟩
      have hpl:aW s ⟨.box n,b.inst,[],i,none⟩ 1=some [⟨.dl es,.own,l'⟩]:=by
       rw[bI];refine⟨b.cells,by simp only[aB,hb],hil,λ j x hx=>by simp at hx,?_⟩;rw[aaI hil];rw[aac hil]at hi;simp[aao hi,e]
      have ho:=h.adT hpl hv;refine setRow_other w _ bl new ?_;rintro rfl;rw[h2]at ho;cases ho
     show∃c' v',(b.cells.take p.cell++(ds.zip (b.cells.drop p.cell)).map (λ x=>((x.1,x.2.2+1):CV×Nat))++b.cells.drop (p.cell+ds.length))[i]? =some (c',v')/\_;by_cases h5:i<p.cell
     ·refine⟨c,v,?_,rfl,aaq _,λ _=>⟨?_,keepDl⟩⟩
      ·rw[aaA,aax (by simp;omega),aaj,if_pos h5,hi]
      ·rw[hv1,hv0,aaA,aax (by simp;omega),aaj,if_pos h5]
     ·by_cases h6:i<p.cell+ds.length
      ·have hdl:i-p.cell<ds.length:=by omega
       refine⟨ds[i-p.cell],v+1,?_,?_,by omega,λ e=>by omega⟩
       ·rw[aax (by simp;omega),aaz (by simp;omega)];have e1:i-(b.cells.take p.cell).length=i-p.cell:=by simp;omega
        have hz:(ds.zip (b.cells.drop p.cell))[i-p.cell]? =some (ds[i-p.cell],(c,v)):=
         acd.2 ⟨aac hdl,(by rw[aan,show p.cell+(i-p.cell)=i by omega];exact hi)⟩
        rw[e1,aar,hz];rfl
       ·have:=congrArg (λ l=>l[i-p.cell]?) hsh;simp only[abN,aar,aaj,aan]at this;rw[if_pos hdl,show p.cell+(i-p.cell)=i by omega,hi,aac hdl]at this;simpa using this
      ·refine⟨c,v,?_,rfl,aaq _,λ _=>⟨?_,keepDl⟩⟩
       ·rw[aaz (by simp;omega),aan];have e1:p.cell+ds.length+(i-(b.cells.take p.cell++(ds.zip (b.cells.drop p.cell)).map (λ x=>((x.1,x.2.2+1):CV×Nat))).length)=i:=by simp;omega
        rw[e1,hi]
       ·rw[hv1,hv0,aaz (by simp;omega),aan];congr 1;simp;omega
   ·cases hu
  ·cases hu
theorem Zc (cur ds:List Value) (x n j T:Nat) (h1:j+ds.length<=n) (h2:x+n<=T) (h3:T<=cur.length):
 (cur.take (x+j)++ds++cur.drop (x+j+ds.length)).take T=(cur.take T).take x++(((cur.drop x).take n).take j++ds++((cur.drop x).take n).drop (j+ds.length))++(cur.take T).drop (x+n):=by
 apply aaP;intro k;simp only[aaj,List.getElem?_append,aan,aaB,aap,aa7];have e1:min (x+j) cur.length=x+j:=by omega
 have e2:min T cur.length=T:=by omega
 have e3:min x T=x:=by omega
 have e4:min n (cur.length-x)=n:=by omega
 have e5:min j n=j:=by omega
 rw[e1,e2,e3,e4,e5]
 repeat' split
 all_goals first|rfl|omega|(congr 1;omega)
theorem Nl {c c':CV} {i:Nat} {row:List CV} {all rowvals:List Value} (hs:DX c i row=some c') (hx:uO w g.F c.sh c.x all) (hi:i<aQ c.sh c.x) (hr:aF w g .hand 0 (row.map (·.to .pure)) rowvals):
 c.tg= .own/\ ∃x':El c.sh,c'=⟨c.sh,.own,x'⟩/\aQ c.sh x'=aQ c.sh c.x/\uO w g.F c.sh x' (all.take (i*c.sh.n)++rowvals++all.drop ((i+1)*c.sh.n)):=by
 obtain⟨sh,ct,x⟩:=c;have hp: ∀c,c∈row.map (λ c:CV=>c.to .pure)->c.tg= .pure:=λ c hc=>by obtain⟨_,_,rfl⟩:=aaL.1 hc;rfl
 cases sh with
 |sl es=>
  cases ct with
  |own=>
   simp only[DX]at hs
   cases he:fZ es row with
   |none=>rw[he]at hs;cases hs
   |some e=>
    rw[he]at hs;cases hs;refine⟨rfl,List.set x i e,rfl,aa0,?_⟩;exact(jC es).set x all hx i hi e rowvals (BP .hand es _ e 0 _ (by rw[BM];exact he) hp hr)
  |_=>cases hs
 |rsl ss=>
  cases ct with
  |own=>
   simp only[DX]at hs
   cases he:vO ss row with
   |none=>rw[he]at hs;cases hs
   |some e=>
    rw[he]at hs;cases hs;refine⟨rfl,List.set x i e,rfl,aa0,?_⟩;exact(jR ss).set x all hx i hi e rowvals (Vb .hand ss _ e 0 _ (by rw[Q7];exact he) hp hr)
  |_=>cases hs
 |int k=>cases hs
 |bool=>cases hs
 |str=>cases hs
 |dl _=>cases hs
 |mp _ _=>cases hs
theorem Np {c c':CV} {i:Nat} {row:List CV} (hs:DX c i row=some c'):c.sh.oW=true:=by
 obtain⟨sh,ct,x⟩:=c;cases sh<;>first|rfl|cases hs
theorem to_pure {cs:List CV} (h:bD cs=true):cs.map (·.to .pure)=cs:=by
 have: ∀c,c∈cs->c.to .pure=c:=λ c hc=>by
  have:=rQ h c hc;obtain⟨sh,ct,x⟩:=c;simp only at this;subst this;rfl
 rw[List.map_congr_left this];simp
theorem SL (h:Rel E C s a w g) {p:Pl} {i j:Nat} (hsub:p.sub=some (i,j)) {ds cs:List CV} {vals:List Value} {c c':CV} {us:List Upd} {v:Value} (hh:aF w g .hand 0 ds vals) (hnd:Cb ds=true)
 (hpl:aW s p 1=some [c]) (he:(xW c i).run=some cs) (hj:j+ds.length<=cs.length) (hse:DX c i (setCells cs j ds)=some c') (hu:jB s p [c'] false=some us)
 {mk:Nat->aH} (hv:TV s a w g mk (.addr p) v):
 ∃b cur et g',v= .pointer (some ⟨b,i*c.sh.n+j,none⟩)/\w.heap[b]? =some (.cells cur et (0,0))/\i*c.sh.n+j+vals.length<=cur.size/\
  Rel E C (s.dM us) a (w.setRow b (cur.toList.take (i*c.sh.n+j)++vals++cur.toList.drop (i*c.sh.n+j+vals.length)).toArray) g':=by
 obtain⟨_,hv⟩:=hv;rw[hsub]at hv;obtain⟨_,hv⟩:=hv;obtain⟨b,l,k,h1,h2,h3⟩:=hv c hpl;obtain⟨g2,f2,b2,o2,a2,hh2⟩:=ML (by intro i j e;cases e;rfl) h.base hnd hh;have r2:Rel E C s a w g2:=h.world (f2.mono λ o ho j _ _=>ho j) b2 a2;obtain⟨u,hu1,hcr,hu2⟩:=oN r2 hpl
 have hrv:aC a w g2 p.root=aC a w g p.root:=by
  cases p.root with
  |tmp n=>rfl
  |box n=>simp only[aC,a2]
 rw[hrv,h1]at hu1;cases hu1;obtain⟨hsl,hcd,hpu,hcl,hlt,ad,k',vs,hve,hsp,hvl,hcsv,hmem,_,_⟩:=Ed hcr he;simp only[Value.slice.injEq,aae]at hve;obtain⟨rfl,rfl,rfl⟩:=hve;have hvals:=hh.length
 have hrow:aF w g2 .hand 0 ((setCells cs j ds).map (·.to .pure)) (vs.take j++vals++vs.drop (j+vals.length)):=by
  have e1:(setCells cs j ds).map (·.to .pure)=setCells cs j (ds.map (·.to .pure)):=by
   simp only[setCells,abz,ab7,ab6,aaN,to_pure hpu]
  rw[e1];refine aF.setCells (by simpa using hj) (by simpa using hvals) (hcsv .hand 0) (λ o=> ∃i,o= .hand i) (Fr.refl _ _ _) (λ k _ _=>⟨0+k,rfl⟩) ?_
  exact aF.uq (Keeps.refl _ _) _ 0 _ _ (by
   rw[bD,aaV];intro c hc;obtain⟨_,_,rfl⟩:=aaL.1 hc;rfl) hh2
 obtain⟨csh,ct,cx⟩:=c;simp only at *;have hown:ct= .own:=by cases csh<;>cases ct<;>first|rfl|(exfalso;cases hse)
 subst hown;have hcr':=hcr;simp only[jE,if_pos hsl]at hcr';rcases hcr' with⟨hve,_⟩|⟨b',k2,cur,et,hve,hl,hc,ho,hb,hsz,hels,hf⟩
 ·cases hve
 ·simp only[Value.slice.injEq,aae,Addr.mk.injEq,and_true,true_and]at hve;obtain⟨rfl,rfl⟩:=hve;have hT:aQ csh cx*csh.n<=cur.toList.length:=by simp only[aa2,hsz];exact aaw _ hl
  have hx1:i*csh.n+csh.n<=aQ csh cx*csh.n:=by rw[←abr];exact aaw _ hlt
  have hvs:vs=(cur.toList.drop (i*csh.n)).take csh.n:=by
   apply aaP;intro q;by_cases hq:q<csh.n
   ·have:=hmem q hq;rw[aaj,if_pos hq,aan,←this];simp only[aaW];rw[cell_of_heap hb,aaO]
   ·rw[aah (by omega),aah (by simp;omega)]
  have hpl2:csh.oW=true:=Np hse;obtain⟨_,x',rfl,hlen',hels'⟩:=Nl hse ((pV hpl2).1 hels) hlt hrow
  let new:=(cur.toList.take (i*csh.n+j)++vals++cur.toList.drop (i*csh.n+j+vals.length)).toArray
  have hnew:new.toList.take (aQ csh cx*csh.n)=(cur.toList.take (aQ csh cx*csh.n)).take (i*csh.n)++(vs.take j++vals++vs.drop (j+vals.length))++(cur.toList.take (aQ csh cx*csh.n)).drop ((i+1)*csh.n):=by
   have:=Zc cur.toList vals (i*csh.n) csh.n j (aQ csh cx*csh.n) (by omega) hx1 hT;rw[hvs,abr];exact this
  have hF: ∀o,g2.F b o->new[o]? =cur[o]? :=λ o ho=>by
   have:=(hf o).1 ho;simp at this
  have hk:=oD (F:=g2.F) (F':=g2.F) hb (new:=new) (λ _ _ h=>h) hF;refine⟨b,cur,et,g2,h3,hb,by simp at hT;omega,?_⟩;refine jQ r2 (ds:=[⟨csh,.own,x'⟩]) hpl hu rfl (Fr.setRow hb hF λ ow k e=> ?_) (b2.setRow ho hb hF) rfl ?_ (zu.of λ d hd _=> .inl (by rw[aam.1 hd];exact hpl2))
  ·rw[ho]at e;cases e;exact k.1 p.cell (aaq _) (by simp) rfl
  ·show aF (w.setRow b new) g2 (dJ p.root) p.cell [⟨csh,.own,x'⟩] _;have e2:((aC a w g2 p.root).drop p.cell).take [(⟨csh,.own,x'⟩:CV)].length= [.slice (some ⟨b,0,none⟩) (aQ csh cx) k]:=hu2;rw[e2];refine⟨_,[],rfl,?_,rfl⟩;simp only[jE,if_pos hsl];refine .inr ⟨b,k,new,et,by rw[hlen'],by rw[hlen'];exact hl,hc,ho,setRow_heap w b cur new et _ hb,?_,?_,λ o=>by simpa using hf o⟩
   ·rw[←hsz];simp[new];simp at hT;omega
   ·rw[hlen',hnew];exact(pV hpl2).2 (hels'.keeps hk)
theorem y7: ∀(es:List Sh) (cs:List CV) (x:ElA es),fZ es cs=some x->cs.map (·.to .pure)=cellsOf es x
 | [],[],_,_=>rfl
 | [],_::_,_,ho=>(aP ho rfl).elim
 | [s],[],_,ho=>(aP ho rfl).elim
 | [s],[c],x,ho=>by
   obtain⟨e,rfl⟩:=kF ho;obtain⟨csh,ct,cx⟩:=c;cases e;rfl
 | [s],_::_::_,_,ho=>(aP ho rfl).elim
 |s::t::ss,[],_,ho=>(aP ho rfl).elim
 |s::t::ss,c::cs,x,ho=>by
  obtain⟨y,z,hy,hz,rfl⟩:=oK ho;obtain⟨e,rfl⟩:=kF hy;obtain⟨csh,ct,cx⟩:=c;cases e;rw[abf,y7 (t::ss) cs z hz];rfl
theorem uZ.same {ow:aH} {tip:Bool} {sh:Sh} {x:El sh} {v:Value} (hk:Keeps w w' g.F g.F) (hb: ∀b,blk v=some b->w'.heap[b]? =w.heap[b]?) (h:uZ w g ow tip sh x v):uZ w' g ow tip sh x v:=by
 rcases h with h|⟨b,c,cur,et,hv,hl,hc,ho,hh,hs,he,hf⟩
 ·exact .inl h
 ·exact .inr ⟨b,c,cur,et,hv,hl,hc,ho,(hb b (by rw[hv];rfl)).trans hh,hs,he.keeps hk,hf⟩
theorem ZH (h:Rel E C s a w g) {p:Pl} {k q:Nat} {ds:List CV} {vals:List Value} {us:List Upd} {v:Value} {mk0 mk:Nat->aH} (hh:aF w g mk0 0 ds vals) (hw:(Nw s p k q ds).run=some us)
 (hv:TV s a w g mk (.addr2 p k q) v):
 ∃b off cur et g',v= .pointer (some ⟨b,off,none⟩)/\w.heap[b]? =some (.cells cur et (0,0))/\off+vals.length<=cur.size/\bD ds=true/\
  Rel E C (s.dM us) a (w.setRow b (cur.toList.take off++vals++cur.toList.drop (off+vals.length)).toArray) g':=by
 obtain⟨hold,hvl,i0,j0,hsub0,hrow⟩:=hv;unfold Nw at hw;split at hw
 ·rename_i c i j hdl;obtain⟨hsub,es,l,rfl,hc⟩:=xQ hdl;rw[hsub]at hsub0;obtain⟨ei,ej⟩:i=i0/\j=j0:=by simpa using hsub0
  subst ei;subst ej;simp only[]at hw;obtain⟨x0,hx0,hw⟩:=yU hw;have he:=Nb hx0;split at hw
  ·rename_i e hej;obtain⟨rs,hel,hw⟩:=aU hw;obtain⟨hcond,hw⟩:=aX hw;simp only[aad]at hcond;obtain⟨hle,hpd⟩:=hcond;have hle:=aa6 hle;split at hw
   ·rename_i e' hse;split at hw
    ·rename_i c' hsi;have hu:=Eb hw;obtain⟨c0,hc0,rfl⟩:=xk hej
     have hi:i<l.length:=by
      rcases aaE i l.length with h|h
      ·exact h
      ·simp[aah h]at he
     obtain⟨b,kk,cur,et,e1,e2,hlk,hk,ho,hheap,hsz,⟨hcl,B,hB1,hB2,hB3⟩,hF,hone⟩:=h.IV hc hi;obtain⟨u,hu1,hcd,hjN⟩:=iM.row hB3 he hc0;obtain⟨b2,len2,k2,cur2,et2,f2,m1,_,m3,b',l',k',sh,m4,m5,m6,m7⟩:=hrow es l hc;rw[e1]at m1;cases m1;rw[hheap]at m3;cases m3;have hN:i*es.length+es.length<=l.length*es.length:=by rw[←abr];exact aaw _ hi
     have hu1':=hu1;rw[aaj,if_pos (by omega),m5]at hu1';cases hu1'
     have hshe:sh=c0.sh:=by
      have:=congrArg (λ l=>l[j]?) (sO es x0);simp only[aar,hc0]at this;rw[m4]at this;exact(aao this).symm
     subst hshe;have hpl:c0.sh.oW=true:=Np (c:=⟨c0.sh,c0.sh.top,c0.x⟩) hse;have hsl:=fD hpl;have hcr:=hcd.top;unfold qB at hcd;rw[if_pos hsl]at hcd;obtain⟨_,hown,hblk⟩:=hcd;obtain⟨_,_,hpu,hcl2,hlt,ad,k3,vs,hve,hsp,hvsl,hcsv,hmem,_,_⟩:=Ed hcr hel;simp only[Value.slice.injEq,aae]at hve;obtain⟨rfl,rfl,rfl⟩:=hve;obtain⟨csh,ct,cx⟩:=c0;simp only at *;rcases hown with⟨hve,_⟩|⟨b3,cc,cur',et',hve,hl,hcm,ho',hb',hsz',hels,hf'⟩
     ·cases hve
     ·simp only[Value.slice.injEq,aae,Addr.mk.injEq,and_true,true_and]at hve;obtain⟨rfl,rfl⟩:=hve;have hvals:=hh.length
      have hrow':aF w g .hand 0 ((setCells rs q ds).map (·.to .pure)) (vs.take q++vals++vs.drop (q+vals.length)):=by
       have e1:(setCells rs q ds).map (·.to .pure)=setCells rs q ds:=by
        simp only[setCells,abz,ab7,ab6,to_pure hpu,to_pure hpd]
       rw[e1];exact aF.setCells hle (by simpa using hvals) (hcsv .hand 0) (λ o=> ∃i,o= .hand i) (Fr.refl _ _ _) (λ k _ _=>⟨0+k,rfl⟩) (aF.uq (Keeps.refl _ _) _ 0 _ _ hpd hh)
      have hT:aQ csh cx*csh.n<=cur'.toList.length:=by simp only[aa2,hsz'];exact aaw _ hl
      have hx1:k*csh.n+csh.n<=aQ csh cx*csh.n:=by rw[←abr];exact aaw _ hlt
      have hvs:vs=(cur'.toList.drop (k*csh.n)).take csh.n:=by
       apply aaP;intro r;by_cases hq:r<csh.n
       ·have:=hmem r hq;rw[aaj,if_pos hq,aan,←this];simp only[aaW];rw[cell_of_heap hb',aaO]
       ·rw[aah (by omega),aah (by simp;omega)]
      obtain⟨_,x',rfl,hlen',hels'⟩:=Nl hse hels hlt hrow'
      let new:=(cur'.toList.take (k*csh.n+q)++vals++cur'.toList.drop (k*csh.n+q+vals.length)).toArray
      have hnew:new.toList.take (aQ csh cx*csh.n)=(cur'.toList.take (aQ csh cx*csh.n)).take (k*csh.n)++(vs.take q++vals++vs.drop (q+vals.length))++(cur'.toList.take (aQ csh cx*csh.n)).drop ((k+1)*csh.n):=by
       have:=Zc cur'.toList vals (k*csh.n) csh.n q (aQ csh cx*csh.n) (by omega) hx1 hT;rw[hvs,abr];exact this
      have hF': ∀o,g.F b' o->new[o]? =cur'[o]? :=λ o ho=>by
       have:=(hf' o).1 ho;simp at this
      have hkk:=oD (F:=g.F) (F':=g.F) hb' (new:=new) (λ _ _ h=>h) hF'
      have hbne:b≠b':=by
       rintro rfl;exact hB1 _ hblk.symm
      have hother: ∀y,y≠b'->(w.setRow b' new).heap[y]? =w.heap[y]? :=λ y hy=>setRow_other w b' y new hy;simp only[ag5]at hsi;cases hof:fZ es (setCells (mX es x0) j [⟨csh,.own,x'⟩])with
      |none=>rw[hof]at hsi;cases hsi
      |some x1=>
       rw[hof]at hsi;cases hsi;have hcells:=y7 es _ x1 hof;have htl:=oG es x0;refine⟨b',k*csh.n+q,cur',et',g,m7,hb',by simp at hT;omega,hpd,?_⟩;refine jQ h (ds:=[⟨.dl es,.own,List.set l i (some x1)⟩]) hc hu rfl (Fr.setRow hb' hF' λ ow kk e=> ?_) (h.base.setRow ho' hb' hF') rfl ?_ ?_
       ·rw[ho']at e;cases e;exact kk.1 p.cell (aaq _) (by simp) rfl
       ·show aF (w.setRow b' new) g _ _ _ (((aC a w g p.root).drop p.cell).take 1);rw[e2];refine⟨_,[],rfl,?_,rfl⟩;simp only[jE,Sh.pF,if_true];have hll:(List.set l i (some x1)).length=l.length:=aa0;refine .inr ⟨b,kk,cur,et,by simp only[aQ];rw[hll],by simp only[aQ];rw[hll];exact hlk,hk,ho,(hother b hbne).trans hheap,hsz,⟨⟨rfl,by simp only[aQ,Sh.n];rw[hll];exact hone⟩,?_⟩,λ o=>⟨λ hf=>(hF o hf).elim,λ hf=>by cases hf.1⟩⟩;simp only[aQ,Sh.n];rw[hll];refine⟨by rw[hll];exact hcl,B,hB1,hB2,λ i' y hy=> ?_⟩
        have sameP: ∀(r:Nat) (sh:Sh) (vv:Value) (z:El sh),r≠i*es.length+j->B r=blk vv->uZ w g (dJ p.root p.cell) false sh z vv->uZ (w.setRow b' new) g (dJ p.root p.cell) false sh z vv:=by
         intro r sh vv z hr hB hz;refine hz.same hkk λ y hy=>hother y ?_;rintro rfl;exact hr (hB2 _ _ _ (hB.trans hy) (hblk.symm.trans rfl))
        by_cases hii:i'=i
        ·subst hii;rw[aby hi]at hy;simp only[aae]at hy;subst hy;obtain⟨r1,r2⟩:=hB3 i' x0 he;refine⟨r1,λ r cr vr hcr' hvr=> ?_⟩;rw[←hcells,aar,kC (by simp;omega)]at hcr';by_cases hrj:r=j
         ·subst hrj;rw[if_pos (by simp)]at hcr';simp only[acz,aaM,aaK,aae]at hcr';subst hcr';rw[aaj,if_pos hjN,aan,hu1]at hvr;cases hvr;show qB (w.setRow b' new) g _ _ csh x' _;unfold qB;rw[if_pos hsl];refine⟨hpl,.inr ⟨b',k',new,et',by rw[hlen'],by rw[hlen'];exact hl,hcm,ho',setRow_heap w b' cur' new et' _ hb',?_,?_,λ o=>by simpa using hf' o⟩,hblk⟩
          ·rw[←hsz'];simp[new];simp at hT;omega
          ·rw[hlen',hnew];exact hels'.keeps hkk
         ·rw[if_neg (by simp;omega)]at hcr';simp only[mX,aar,Option.map_map,aaG]at hcr';obtain⟨c1,hc1,rfl⟩:=hcr';exact(r2 r c1 vr hc1 hvr).imp hkk λ e z=>sameP _ _ _ z (by omega) e
        ·rw[abk (Ne.symm hii)]at hy;refine XA.imp (g:=g) (g':=g) hkk (λ r sh vv hr hB z hz=>sameP _ sh vv z ?_ hB hz) (hB3 i' y hy);intro h3;have hN0:0<es.length:=by omega
         have a1:(i*es.length+j)/es.length=i:=by rw[aco,Nat.mul_add_div hN0,acI hjN,aaU]
         have a2:(i'*es.length+r)/es.length=i':=by rw[aco,Nat.mul_add_div hN0,acI hr,aaU]
         exact hii (by rw[←a1,←a2];exact congrArg (· /es.length) h3)
       ·intro r es' l' hq
        have hq0:r=0:=by
         rcases ab8 r with h|h
         ·exact h
         ·rw[aah (by simp;omega)]at hq;cases hq
        subst hq0;simp only[aaM,aae]at hq;obtain⟨rfl,_,_⟩:=hq;refine⟨l,rfl,λ bl len kx hvx=> ?_⟩;rw[aaU,e1]at hvx;cases hvx;exact hother b hbne
    ·exact(aj hw).elim
   ·exact(aj hw).elim
  ·exact(aj hw).elim
 ·exact(aj hw).elim
theorem uZ.move {ow ow':aH} {sh:Sh} {x:El sh} {v:Value} (hk:Keeps w w' g.F g'.F) (hb: ∀z,blk v=some z->g'.own z=some ow'/\w'.heap[z]? =w.heap[z]? /\ ∀o,g'.F z o ↔ g.F z o) (h:uZ w g ow false sh x v):uZ w' g' ow' false sh x v:=by
 rcases h with h|⟨b,c,cur,et,hv,hl,hc,ho,hh,hs,he,hf⟩
 ·exact .inl h
 ·obtain⟨k1,k2,k3⟩:=hb b (by rw[hv];rfl);exact .inr ⟨b,c,cur,et,hv,hl,hc,k1,k2.trans hh,hs,he.keeps hk,λ o=>(k3 o).trans (hf o)⟩
theorem iM.aiH {ow:aH} {B:Nat->Option Nat} {sh:Sh} (hsl:sh.pF=true) {l:List (Option (ElA [sh]))} {cs:List Value}
 (h: ∀(i:Nat) (x:ElA [sh]),l[i]? =some (some x)->XA w g ow (λ j=>B (i* [sh].length+j)) [sh] x ((cs.drop (i* [sh].length)).take [sh].length)) {k:Nat} {y:El sh} (hy:l[k]? =some (some y)):
 ∃v,cs[k]? =some v/\uZ w g ow false sh y v/\blk v=B k:=by
 obtain⟨r1,r2⟩:=h k y hy;simp only[aaT,abR]at r1 r2
 cases hm:cs.drop k with
 |nil=>rw[hm]at r1;simp at r1
 |cons v vs=>
  have hcd:=r2 0 ⟨sh,.pure,y⟩ v rfl (by rw[hm];rfl);unfold qB at hcd;rw[if_pos hsl]at hcd;refine⟨v,?_,hcd.2.1,by simpa using hcd.2.2⟩;have:=congrArg (λ l=>l[0]?) hm;simpa [aan]using this
theorem iM.set1 {ow ow1:aH} {b:Nat} {sh:Sh} (hpl:sh.oW=true) {l:List (Option (ElA [sh]))} {cs:List Value} (h:iM w g ow b [sh] l cs) {i:Nat} (hi:i<l.length) {x:El sh} {u:Value}
 (hu:uZ w g ow1 false sh x u) (hne:ow≠ow1) (hub:blk u≠some b) (hk:Keeps w w' g.F g'.F)
 (mv: ∀z,blk u=some z->g'.own z=some ow/\w'.heap[z]? =w.heap[z]? /\ ∀o,g'.F z o ↔ g.F z o)
 (kp: ∀z,z≠b->g.own z=some ow->g'.own z=some ow/\w'.heap[z]? =w.heap[z]? /\ ∀o,g'.F z o ↔ g.F z o):iM w' g' ow b [sh] (l.set i (some x)) (cs.set i u):=by
 have hsl:=fD hpl;obtain⟨h1,B,hB1,hB2,hB3⟩:=h;have hl:cs.length=l.length:=by simpa using h1
 refine⟨by simp only[aa0];exact h1,λ k=>if k=i then blk u else match l[k]? with|some (some _)=>B k|_=>none,λ k=> ?_,λ k k' z h1 h2=> ?_,λ k y hy=> ?_⟩
 ·by_cases hki:k=i
  ·simp only[if_pos hki];exact hub
  ·simp only[if_neg hki];split
   ·exact hB1 k
   ·simp
 ·have own1: ∀q,(match l[q]? with|some (some _)=>B q|_=>none)=some z->B q=some z/\g.own z=some ow:=by
   intro q hq;split at hq
   ·rename_i y hy;obtain⟨v,_,hv2,hv3⟩:=iM.aiH hsl hB3 hy;exact⟨hq,hv2.mg (hv3.trans hq)⟩
   ·cases hq
  by_cases e1:k=i
  ·by_cases e3:k'=i
   ·omega
   ·simp only[if_pos e1]at h1;simp only[if_neg e3]at h2;have:=(own1 k' h2).2;rw[hu.mg h1]at this;exact(hne (aao this).symm).elim
  ·by_cases e3:k'=i
   ·simp only[if_neg e1]at h1;simp only[if_pos e3]at h2;have:=(own1 k h1).2;rw[hu.mg h2]at this;exact(hne (aao this).symm).elim
   ·simp only[if_neg e1]at h1;simp only[if_neg e3]at h2;exact hB2 k k' z (own1 k h1).1 (own1 k' h2).1
 ·have hkl:k<l.length:=by have:=(aaf.1 hy).1;simpa using this
  by_cases hki:k=i
  ·subst hki;rw[aby hi]at hy;cases hy;refine(show XA w' g' ow _ [sh] x _ from ?_);obtain⟨t1,t2⟩:=iM.aio (w:=w') (g:=g') (ow:=ow) (B:=blk u) hpl (y:=x) (cs:=cs.set k u) (k:=k) (v:=u) (by rw[aby (by omega)]) (hu.move hk mv) rfl;refine⟨t1,λ q c0 v0 hc0 hv0=> ?_⟩
   match q,hc0,hv0 with
   |0,hc0,hv0=>
    have:=t2 0 c0 v0 hc0 hv0;simpa using this
  ·rw[abk (λ e=>hki e.symm)]at hy;obtain⟨v,hv1,hv2,hv3⟩:=iM.aiH hsl hB3 hy;have:=iM.aio (w:=w') (g:=g') (ow:=ow) (B:=B k) hpl (y:=y) (cs:=cs.set i u) (k:=k) (v:=v) (by rw[abk (λ e=>hki e.symm)];exact hv1) (hv2.move hk λ z hz=>kp z (λ e=>hB1 k (by rw[←hv3,hz,e])) (hv2.mg hz)) hv3;refine(show XA w' g' ow (λ j=>(λ k=>if k=i then blk u else match l[k]? with|some (some _)=>B k|_=>none) (k* [sh].length+j)) [sh] y _ from ?_)
   obtain⟨t1,t2⟩:=this;refine⟨t1,λ q c0 v0 hc0 hv0=> ?_⟩
   match q,hc0,hv0 with
   |0,hc0,hv0=>
    have:=t2 0 c0 v0 hc0 hv0;simpa [hki,hy]using this
theorem Zb (h:Rel E C s a w g) {p:Pl} {c:CV} {i j:Nat} {ds:List CV} {vals:List Value} {us:List Upd} {v:Value} {mk:Nat->aH} (hh:aF w g .hand 0 ds vals) (hd:KN s p=some (c,i,j))
 (hw:(Nc s p c i j ds).run=some us) (hv:TV s a w g mk (.addr p) v):
 ∃b off cur et g',v= .pointer (some ⟨b,off,none⟩)/\w.heap[b]? =some (.cells cur et (0,0))/\off+vals.length<=cur.size/\
  Rel E C (s.dM us) a (w.setRow b (cur.toList.take off++vals++cur.toList.drop (off+vals.length)).toArray) g':=by
 obtain⟨hsub,es,l00,rfl,hc⟩:=xQ hd;unfold Nc at hw;split at hw
 ·rename_i sh l sh' x heq;cases heq;have hcond:=(aX hw).1
  replace hw:=(aX hw).2
  simp only[aad]at hcond;obtain⟨hj,hpl⟩:=hcond;obtain rfl:=aal hj;split at hw
  ·rename_i y hy
   obtain⟨n,hroot,hcell,⟨c1,htm⟩,rfl⟩: ∃n,p.root= .tmp n/\p.cell=0/\(∃c1,(s.tm n).1= .val false [c1])/\us= [.tm n (.val false [⟨.dl [sh],.own,List.set l i (some y)⟩])]:=by
    split at hw
    ·rename_i n hr;split at hw
     ·rename_i c1 h1;exact⟨n,hr,aal (aX hw).1,⟨c1,h1⟩,(ak (aX hw).2).symm⟩
     ·exact(aj hw).elim
    ·exact(aj hw).elim
   obtain⟨e,rfl⟩:=kF hy;simp only at e;subst e;have hsl:=fD hpl;obtain⟨_,hv⟩:=hv;rw[hsub]at hv;obtain⟨_,hv⟩:=hv;obtain⟨b,len0,kk,q1,hi,q3⟩:=hv _ hc;obtain⟨hr0,_⟩:=h.pl hc
   have hi:i<l.length:=by
    obtain⟨v1,ws,e1,h1,hw1⟩:=hr0;simp only[aF]at hw1;subst hw1
    have e2:(aC a w g p.root)[p.cell]? =some v1:=by
     have:=congrArg (λ l=>l[0]?) e1;simp only[aaj,aan,aaU]at this;simpa using this
    rw[q1]at e2;cases e2;simp only[jE,Sh.pF,if_true]at h1;rcases h1 with⟨e,_⟩|⟨_,_,_,_,e,_⟩
    ·cases e
    ·simp only[Value.slice.injEq]at e;obtain⟨_,e,_⟩:=e;rw[e]at hi;exact hi
   obtain⟨b1,k1,cur,et,e1,e2,hlk,hk,ho,hheap,hsz,⟨hcl,B,hB1,hB2,hB3⟩,hF,hone⟩:=h.IV hc hi;rw[q1]at e1;cases e1;obtain⟨u,ws,rfl,hcr,hws⟩:=hh;simp only[aF]at hws;subst hws;simp only[jE,hsl,if_true]at hcr;have hop:=(oC hpl).1 hcr;simp only[aaT,abR]at hcl hsz hB3;have hlen:i<cur.toList.length:=by simp only[aa2];omega
   let new:=(cur.toList.take i++[u]++cur.toList.drop (i+1)).toArray
   have hnew: ∀q,new[q]? =if q=i then some u else cur[q]? :=by
    intro q;simp only[new,List.getElem?_toArray];rw[aaA,List.getElem?_append];simp only[aaB,abK (Nat.le_of_lt hlen)];split
    ·rw[if_neg (by omega),aaj,if_pos (by omega)];simp
    ·split
     ·subst_vars;simp
     ·rw[aaz (by simp;omega)];simp only[aaT,aan,aaO];congr 1;omega
   have hF': ∀o,g.F b o->new[o]? =cur[o]? :=λ o ho=>(hF o ho).elim;have hkk:=oD (F:=g.F) (F':=g.F) hheap (new:=new) (λ _ _ h=>h) hF';have hother: ∀z,z≠b->(w.setRow b new).heap[z]? =w.heap[z]? :=λ z hz=>setRow_other w b z new hz;have hub: ∀z,blk u=some z->g.own z=some (.hand 0):=λ z hz=>hop.mg hz;have hne:dJ p.root p.cell≠ .hand 0:=iZ _ _ _
   let own':Nat->Option aH:=λ z=>if blk u=some z then some (dJ p.root p.cell)else g.own z
   let g':Gh:={g with own:=own'}
   have f:Fr (λ o=>(∀j,o≠ .tm n j)/\ ∀j,o≠ .hand j) w (w.setRow b new) g g':=⟨hkk,λ z ow hkz hz=>by
    refine⟨?_,hother z ?_,λ o h=>h⟩
    ·show(if blk u=some z then _ else _)=_;rw[if_neg];exact hz;intro e;rw[hub z e]at hz;cases hz;exact hkz.2 0 rfl
    ·rintro rfl;rw[ho]at hz;cases hz;exact hkz.1 p.cell (by rw[hroot];rfl)⟩
   have hb1:=h.base.setRow ho hheap hF' (new:=new)
   have hb':Base C.w0 C.F0 C.X (w.setRow b new) g':=⟨hb1.os,hb1.tape,hb1.output,hb1.size,hb1.blk,λ z ow hz=>by
    by_cases hm:blk u=some z
    ·exact hb1.own z _ (hub z hm)
    ·exact hb1.own z ow (by have:(if blk u=some z then _ else _)=some ow:=hz;rwa [if_neg hm]at this),hb1.keeps,hb1.fz,λ z ow cs t f hz hc=>by
    by_cases hm:blk u=some z
    ·exact hb1.frz z _ cs t f (hub z hm) hc
    ·exact hb1.frz z ow cs t f (by have:(if blk u=some z then _ else _)=some ow:=hz;rwa [if_neg hm]at this) hc⟩
   refine⟨b,i,cur,et,g',by rw[q3];simp[Sh.n],hheap,by simp at hlen ⊢;omega,?_⟩;refine h.adP f hb' rfl ⟨?_,?_⟩
   ·have:=h.tm n;rw[htm]at this;exact this.1
   ·have hval:(a.eval (.tmp n)).cells.toList= [.slice (some ⟨b,0,none⟩) l.length kk]:=by
     have h1:=h.tm n;rw[htm]at h1;obtain⟨_,v1,ws,h2,_,h3⟩:=h1;simp only[aF]at h3;subst h3;rw[h2];rw[hroot,hcell]at q1;have:(a.eval (.tmp n)).cells.toList[0]? =_:=q1;rw[h2]at this;rw[aao this]
    rw[hval];refine⟨_,[],rfl,?_,rfl⟩;show jE (w.setRow b new) g' (.tm n 0) ⟨.dl [sh'],.own,List.set l i (some x)⟩ _;have hmk:dJ p.root p.cell= .tm n 0:=by rw[hroot,hcell];rfl
    rw[←hmk];simp only[jE,Sh.pF,if_true];have hll:(List.set l i (some x)).length=l.length:=aa0;have hbu:blk u≠some b:=λ e=>hne (aao (ho.symm.trans (hub b e)))
    have hset:new.toList.take (List.length l)=(cur.toList.take (List.length l)).set i u:=by
     apply aaP;intro q;rw[aaj,aaS,aaO,hnew q,aaj,aaB,aaO];by_cases hq:q<List.length l
     ·rw[if_pos hq,if_pos hq];by_cases hqi:q=i
      ·subst hqi;rw[if_pos rfl,if_pos rfl,if_pos (by simp only[aa2]at hlen ⊢;omega)]
      ·rw[if_neg hqi,if_neg (λ e=>hqi e.symm)]
     ·rw[if_neg hq,if_neg hq];split
      ·rw[if_neg];simp only[aa2];omega
      ·rfl
    refine .inr ⟨b,kk,new,et,by simp only[aQ];rw[hll],by simp only[aQ];rw[hll];exact hlk,hk,?_,setRow_heap w b cur new et _ hheap,?_,⟨⟨rfl,?_⟩,?_⟩,λ o=>⟨λ hf=>(hF o hf).elim,λ hf=>by cases hf.1⟩⟩
    ·show(if blk u=some b then _ else _)=_;rw[if_neg hbu];exact ho
    ·simp only[Sh.n,aaT,abR,new,abY,aap,aaB,aa7,aa2];simp only[aa2]at hlen;omega
    ·simp only[aQ,Sh.n];rw[hll];simp only[aaT,abR];rw[hset];intro c hc;rcases abE hc with h|rfl
     ·exact hone c (by simpa using h)
     ·exact hop.one
    ·simp only[aQ,Sh.n];rw[hll];simp only[aaT,abR];rw[hset];refine iM.set1 (g:=g) hpl (l:=l) ⟨by simpa using hcl,B,hB1,hB2,by simpa using hB3⟩ hi hop hne hbu hkk (λ z hz=>⟨?_,hother z (λ e=>hbu (by rw[hz,e])),λ o=>ach⟩) (λ z hz ho2=>⟨?_,hother z hz,λ o=>ach⟩)
     ·show(if blk u=some z then _ else _)=_;rw[if_pos hz]
     ·show(if blk u=some z then _ else _)=_;rw[if_neg (λ e=>by have:=hub z e;rw[ho2]at this;exact hne (aao this))];exact ho2
  ·exact(aj hw).elim
 ·exact(aj hw).elim
end
end Go.AM
end
section
namespace Go.AM
open Go
section
variable {P:Program} {E:Env} {C:Ctx} {s s':St} {a a':Act} {w w':World} {g g':Gh} {o:Oper} {Q:Exit->Act->World->Prop}
theorem Gw {α:Type}: ∀{l:List (Option α)} {l':List α},qX l=some l'->l=l'.map some
 | [],l',h=>by simp[qX]at h;subst h;rfl
 |none::l,l',h=>by simp[qX]at h
 |some x::l,l',h=>by
  simp only[qX,aaG]at h;obtain⟨m,h1,rfl⟩:=h;rw[Gw h1];rfl
theorem Ir.JH {α:Type} {n:Nat} {R:α->List Value->Prop} {L:List α->List Value->Prop} (hr:Ir n R L): ∀(l:List α) (cs:List Value),cs.length=l.length*n->(∀i x,l[i]? =some x->R x ((cs.drop (i*n)).take n))->L l cs
 | [],cs,hl,_=>(hr.nil cs).2 (aav (by simpa using hl))
 |x::l,cs,hl,h=>by
  refine(hr.cons x l cs).2 ⟨cs.take n,cs.drop n,(abm n cs).symm,by simpa using h 0 x rfl,Ir.JH hr l _ ?_ λ i y hy=> ?_⟩
  ·rw[aa7,hl,abe,abr,Nat.add_sub_cancel]
  ·have:=h (i+1) y (by simpa using hy);rw[List.drop_drop]
   rwa [abr,Nat.add_comm (i*n) n]at this
theorem VH {F:Fz}: ∀(es:List Sh) (x:ElA es) (cs:List Value),cs.length=es.length->(∀(k:Nat) (c:CV) (v:Value),(cellsOf es x)[k]? =some c->cs[k]? =some v->jo w F c.sh c.x v)->dO w F es x cs
 | [],_,cs,hl,_=>aav hl
 | [s],x,[v],hl,h=>⟨v,rfl,h 0 ⟨s,.pure,x⟩ v rfl rfl⟩
 | [s],x,[],hl,_=>by cases hl
 | [s],x,_::_::_,hl,_=>by simp at hl
 |s::t::ss,x,[],hl,_=>by cases hl
 |s::t::ss,x,v::cs,hl,h=>⟨v,cs,rfl,h 0 ⟨s,.pure,x.1⟩ v rfl rfl,VH (t::ss) x.2 cs (by simpa using hl) λ k c v hc hv=>h (k+1) c v (by simpa [cellsOf]using hc) (by simpa using hv)⟩
theorem V5 {w0:World} {F0:Fz} {X:Nat->Prop} (hb:Base w0 F0 X w g) {ow:aH} {es:List Sh} {l:List (Option (ElA es))} {l':List (ElA es)} {v:Value} (hl:qX l=some l') (h:jE w g ow ⟨.dl es,.own,l⟩ v):
 ∃g',Fr (λ o=>o≠ow) w w g g'/\Base w0 F0 X w g'/\g'.own=g.own/\g'.at_=g.at_/\jE w g' ow ⟨.sl es,.own,l'⟩ v:=by
 have hl:=Gw hl;simp only[jE,Sh.pF,if_true]at h ⊢;rcases h with⟨hv,hz⟩|⟨b,k,cur,et,hv,hlk,hk,ho,hheap,hsz,⟨_,hcl,B,hB1,hB2,hB3⟩,hF⟩
 ·refine⟨g,Fr.refl _ _ _,hb,rfl,rfl,.inl ⟨hv,?_⟩⟩;have hz:l.length=0:=hz;rw[hl,aaN]at hz;exact hz
 ·have hll:aQ (.dl es) l=aQ (.sl es) l':=by simp only[aQ];rw[hl,aaN]
  simp only[Sh.n]at hcl hB3
  let N:=es.length
  let I:Nat->Nat->Prop:=λ x o=> ∃i e q c0 u,l[i]? =some (some e)/\(cellsOf es e)[q]? =some c0/\c0.sh.pF=true/\(cur.toList.take (aQ (.dl es) l*N))[i*N+q]? =some u/\blk u=some x/\o<aQ c0.sh c0.x*c0.sh.n
  have hI: ∀x o,I x o->g.own x=some ow/\x≠b:=by
   rintro x o ⟨i,e,q,c0,u,h1,h2,h3,h4,h5,_⟩;obtain⟨u',h6,h7,_⟩:=iM.row hB3 h1 h2;have h6':(cur.toList.take (aQ (.dl es) l*N))[i*N+q]? =some u':=h6;rw[h4]at h6';cases h6';unfold qB at h7;rw[if_pos h3]at h7;refine⟨h7.2.1.mg h5,?_⟩;rintro rfl;exact hB1 _ (h7.2.2.symm.trans h5)
  let g':Gh:={g with F:=λ x o=>g.F x o\/I x o}
  have hkp:Keeps w w g.F g'.F:=⟨λ _ _ h=> .inl h,λ _ _ _=>rfl⟩
  have hb':Base w0 F0 X w g':=⟨hb.os,hb.tape,hb.output,hb.size,hb.blk,hb.own,hb.keeps.trans hkp,λ x o hf=>by
   rcases hf with hf|hf
   ·exact hb.fz x o hf
   ·obtain⟨h1,h2⟩:=hb.own _ _ (hI x o hf).1;exact⟨.inr h1,h2⟩,hb.frz⟩
  refine⟨g',⟨hkp,λ x ow' hne e=>⟨e,rfl,λ o hf=> ?_⟩⟩,hb',rfl,rfl,.inr ⟨b,k,cur,et,by rw[hv,hll],hll▸hlk,hk,ho,hheap,hsz,?_,λ o=> ?_⟩⟩
  ·rcases hf with hf|hf
   ·exact hf
   ·rw[(hI x o hf).1]at e;cases e;exact absurd rfl hne
  ·show eH (dO w g'.F es) l' (cur.toList.take (aQ (.sl es) l'*N));rw[←hll];refine(jC (w:=w) (F:=g'.F) es).JH l' _ (hcl.trans (by rw[show l.length=aQ (.sl es) l' from hll];rfl)) λ i e he=> ?_;have he':l[i]? =some (some e):=by rw[hl,aar,he];rfl
   obtain⟨r1,r2⟩:=hB3 i e he';refine VH es e _ r1 λ q c0 u hc0 hu=> ?_;have hd:=r2 q c0 u hc0 hu
   have hq:q<es.length:=by
    rw[←r1];rcases aaE q ((cur.toList.take (aQ (.dl es) l*es.length)).drop (i*es.length) |>.take es.length).length with h|h
    ·exact h
    ·rw[aah h]at hu;cases hu
   have hu':(cur.toList.take (aQ (.dl es) l*N))[i*N+q]? =some u:=by
    have h9:=hu;rw[aaj,if_pos hq,aan]at h9;exact h9
   unfold qB at hd;split at hd
   ·rename_i hs;obtain⟨hpl,hown,_⟩:=hd;rw[wQ hpl];rcases hown with⟨hv0,hl0⟩|⟨b',c',cur',et',hv',hl',hc',ho',hh',hs',he'',hf''⟩
    ·exact⟨none,0,by rw[hv0,hl0],by omega,.inl hl0⟩
    ·refine⟨_,c',hv',hl',.inr ⟨_,_,rfl,rfl,λ o ho=> ?_,he''.keeps hkp⟩⟩;rw[he''.length]at ho;refine⟨?_,.inr ⟨i,e,q,c0,u,by assumption,hc0,hs,hu',by rw[hv'];rfl,by simpa using ho⟩⟩;rw[cell_of_heap hh',aaj,if_pos ho];simp
   ·exact jo.keeps hkp _ _ _ hd
  ·constructor
   ·rintro(hf|hf)
    ·have:=((hF o).1 hf).1;cases this
    ·exact absurd rfl (hI b o hf).2
   ·intro hf;cases hf.1
theorem Va {w0:World} {F0:Fz} {X:Nat->Prop} {mk:Nat->aH} (hinj: ∀i j,mk i=mk j->i=j): ∀(cs:List CV) (shs:List Sh) (ds:List CV) (i:Nat) (vs:List Value) (g:Gh),
 Base w0 F0 X w g->(thaw cs shs).run=some ds->aF w g mk i cs vs->
 ∃g',Fr (λ o=> ∀j,i<=j->j<i+cs.length->o≠mk j) w w g g'/\Base w0 F0 X w g'/\g'.own=g.own/\g'.at_=g.at_/\aF w g' mk i ds vs/\ds.length=cs.length
 | [],shs,ds,i,vs,g,hb,ht,h=>by
   have:ds= []:=by cases shs<;>exact(ak ht).symm
   subst this;exact⟨g,Fr.refl _ _ _,hb,rfl,rfl,h,rfl⟩
 |c::cs,[],ds,i,vs,g,hb,ht,h=>by
  obtain rfl:=ak ht;exact⟨g,Fr.refl _ _ _,hb,rfl,rfl,h,rfl⟩
 |c::cs,sh::shs,ds,i,vs,g,hb,ht,⟨v,ws,e,h1,h⟩=>by
  simp only[thaw]at ht;obtain⟨d,hd,ht⟩:=aU ht;obtain⟨ds',hds,ht⟩:=aU ht;obtain rfl:=ak ht
  have one: ∃g',Fr (λ o=>o≠mk i) w w g g'/\Base w0 F0 X w g'/\g'.own=g.own/\g'.at_=g.at_/\jE w g' (mk i) d v:=by
   unfold aft at hd;split at hd
   ·split at hd
    ·obtain⟨l',hl',hd⟩:=yU hd;obtain rfl:=ak hd;exact V5 hb hl' h1
    ·obtain rfl:=ak hd;exact⟨g,Fr.refl _ _ _,hb,rfl,rfl,h1⟩
   ·obtain rfl:=ak hd;exact⟨g,Fr.refl _ _ _,hb,rfl,rfl,h1⟩
  obtain⟨g1,f1,b1,o1,a1,p1⟩:=one;have hne: ∀j,mk (i+1+j)≠mk i:=λ j e=>by have:=hinj _ _ e;omega
  have h2:aF w g1 mk (i+1) cs ws:=by
   refine aF.of cs (i+1) ws h.length λ j c v hc hv=> ?_;obtain⟨u,hu,hr⟩:=h.get cs (i+1) ws j c hc;rw[hu]at hv;cases hv;exact hr.fr f1 (hne j)
  obtain⟨g2,f2,b2,o2,a2,p2,l2⟩:=Va hinj cs shs ds' (i+1) ws g1 b1 hds h2;have k2: ∀j,i+1<=j->j<i+1+cs.length->mk i≠mk j:=λ j hj _ e=>by have:=hinj _ _ e;omega
  exact⟨g2,(f1.mono λ o ho=>by simpa using ho i (aaq _) (by simp)).trans (f2.mono λ o ho j hj hj'=>ho j (by omega) (by simp;omega)),b2,o2.trans o1,a2.trans a1,⟨v,ws,e,p1.fr f2 k2,p2⟩,by simp[l2]⟩
theorem adE (h:Rel E C s a w g) {m:Nat} {us:List Upd} (ht:(afu s m).run=some us): ∃g',Rel E C (s.dM us) a w g':=by
 unfold afu at ht;split at ht
 ·rename_i es l htm;obtain⟨l',hl,ht⟩:=yU ht;obtain rfl:=ak ht;have hv:=h.tm m;rw[htm]at hv;obtain⟨hag,v1,ws,e1,hcr,hws⟩:=hv;simp only[aF]at hws;subst hws;obtain⟨g',f,b',_,a',hc⟩:=V5 h.base hl hcr;refine⟨g',h.adP (f.mono λ o ho=>ho.1 0) b' a' ⟨hag,?_⟩⟩;rw[e1];exact⟨v1,[],rfl,hc,rfl⟩
 ·exact(aj ht).elim
theorem uY (w:World) {t:TypeId} {info:TypeInfo} (hi:P.info? t=some info) (b off:Nat) (v:Value) (hs:v.cells.size=info.size) {cur:Array Value} {et:TypeId} (hb:w.heap[b]? =some (.cells cur et (0,0)))
 (hle:off+v.cells.toList.length<=cur.size) (h1: ∀u,u∈v.cells.toList->u.oneCell'=true):
 (Instr.storeAt t (.pointer (some ⟨b,off,none⟩)) v).run P w= .ok () (w.setRow b (cur.toList.take off++v.cells.toList++cur.toList.drop (off+v.cells.toList.length)).toArray):=by
 have:=run_storeCells_at P b off et v.cells.toList 0 cur w hb (by simpa using hle) h1;simp only[aaU]at this;simp only[Instr.storeAt,Instr.sureAddr,storeVar,sizeOf,typeInfo,Sem.run_bind,Sem.run_pure,Result.andThen_ok];simp[hi,hs,this]
def ZQ (P:Program) (E:Env) (C:Ctx) (o:Oper):Prop:=
 ∀{s:St} {a:Act} {w:World} {g:Gh} {us:List Upd} {Q:Exit->Act->World->Prop},Rel E C s a w g->IW E o=true->(plan E o s).run=some us->
  o.wp P a w (λ a' w'=> ∃g',Rel E C (s.dM us) a' w' g') Q
theorem sF {cs:List CV} {vs:List Value} {mk:Nat->aH} {i:Nat} (hd:CY cs=true) (h:aF w g mk i cs vs): ∀u,u∈vs->u.oneCell'=true:=by
 intro u hu;obtain⟨j,hj,rfl⟩:=aay hu;have hl:=h.length;have hjc:j<cs.length:=by omega
 obtain⟨v,hv,hr⟩:=h.get cs i vs j cs[j] (aac hjc);rw[aac hj]at hv;cases hv;refine(hr.plain ?_).2;have:=aaV.1 hd cs[j] (aag hjc);intro e;simp[e]at this
theorem ado (hT:wE P E.ty) {t:TypeId} {x y:Operand} (ho:o.op= .store t x y):ZQ P E C o:=by
 intro s a w g us Q h hdst hp;simp only[plan,ho]at hp;split at hp
 ·rename_i hd;obtain⟨⟨ag,cs,us1⟩,ht,hp⟩:=aU hp;simp only[]at hp;obtain⟨g1,r1,_,k2,_,_⟩:=DZ h (hs:=[]) (hv:=[]) rfl ht;simp only[abQ]at k2;split at hp
  ·rename_i p hx;obtain⟨hc,hp⟩:=aX hp;simp only[aad]at hc;obtain⟨⟨hlen,hnd⟩,hty⟩:=hc;have hlen:=aal hlen;have hvl:=k2.length;have h1:=sF hnd k2
   have hi: ∃i,E.ty t=some i:=by
    cases h:E.ty t with
    |none=>rw[h]at hty;cases hty
    |some i=>exact⟨i,rfl⟩
   obtain⟨i,hi⟩:=hi;obtain⟨info,de,z,hat⟩:=hT.at_ hi
   have hsz:(a.eval y).cells.size=info.size:=by
    rw[hat.size];have:fV E t=i.cells:=by simp only[fV,hi]
    rw[this]at hlen;simp only[aa2]at hvl;omega
   split at hp
   ·rename_i c0 i0 j0 hdl;obtain⟨us2,hw,hp⟩:=aU hp;obtain rfl:=ak hp;obtain⟨b,off,cur,et,g',hve,hheap,hle,r2⟩:=Zb r1 k2 hdl hw (aN r1 hx (by simp));have hrun:=uY w hat.inf b off (a.eval y) hsz hheap hle h1
    have hex:(execOp a.eval o).run P w= .ok .skip (w.setRow b (cur.toList.take off++(a.eval y).cells.toList++cur.toList.drop (off+(a.eval y).cells.toList.length)).toArray):=by
     simp only[execOp,ho,hve,Sem.run_bind,hrun,Result.andThen_ok,Sem.run_pure]
    unfold Oper.wp;rw[hex,Oper.upon_skip,hd,dS];exact⟨g',r2⟩
   obtain⟨cs2,hth,hp⟩:=aU hp;obtain⟨us2,hw,hp⟩:=aU hp;obtain rfl:=ak hp;obtain⟨g1',f1',b1',_,a1',k2',hl2⟩:=Va (by intro i j e;cases e;rfl) cs _ cs2 0 _ g1 r1.base hth k2
   replace r1:Rel E C (s.dM us1) a w g1':=r1.world (f1'.mono λ o ho j _ _=>ho j) b1' a1'
   replace k2:=k2'
   have hv:=aN r1 hx (by simp)
   have fin: ∀w',(Instr.storeAt t (a.eval x) (a.eval y)).run P w= .ok () w'->(∃g',Rel E C ((s.dM us1).dM us2) a w' g')->o.wp P a w (λ a' w'=> ∃g',Rel E C (s.dM (us1++us2)) a' w' g') Q:=by
    intro w' hrun hrel
    have hex:(execOp a.eval o).run P w= .ok .skip w':=by
     simp only[execOp,ho,Sem.run_bind,hrun,Result.andThen_ok,Sem.run_pure]
    unfold Oper.wp;rw[hex,Oper.upon_skip,hd,dS];exact hrel
   unfold KG at hw
   cases hs:p.sub with
   |none=>
    rw[hs]at hw;simp only[]at hw;split at hw
    ·rename_i old hold;obtain⟨hsh,hw⟩:=aX hw;have hw:=Eb hw;obtain⟨us3,hw3,rfl⟩:=aaG.1 hw;obtain⟨n,cur,et,g',hn,⟨b,hb,hbi⟩,hheap,hle,r2⟩:=UG r1 k2 hold (RX hsh) hw3;rw[←Oa hw3]at r2;obtain⟨_,hv⟩:=hv;rw[hs]at hv;obtain⟨n',hn',hv⟩:=hv;rw[hn]at hn';cases hn';refine fin _ ?_ ⟨g',r2⟩;rw[hv b hb hbi];exact uY w hat.inf _ _ _ hsz hheap hle h1
    ·exact(aj hw).elim
   |some ij=>
    obtain⟨k,j⟩:=ij;rw[hs]at hw;simp only[]at hw;split at hw
    ·rename_i c hpl;obtain⟨ds,he,hw⟩:=aU hw;obtain⟨hcond,hw⟩:=aX hw;simp only[aad]at hcond;split at hw
     ·rename_i c' hse;have hw:=Eb hw;obtain⟨b,cur,et,g',hve,hheap,hle,r2⟩:=SL r1 hs k2 hcond.2 hpl he (aa6 hcond.1) hse hw hv;refine fin _ ?_ ⟨g',r2⟩;rw[hve];exact uY w hat.inf _ _ _ hsz hheap hle h1
     ·exact(aj hw).elim
    ·exact(aj hw).elim
  ·rename_i p k q hx;obtain⟨hc,hp⟩:=aX hp;obtain⟨us2,hw,hp⟩:=aU hp;obtain rfl:=ak hp;simp only[aad]at hc;obtain⟨hlen,hty⟩:=hc;have hlen:=aal hlen
   have hi: ∃i,E.ty t=some i:=by
    cases h:E.ty t with
    |none=>rw[h]at hty;cases hty
    |some i=>exact⟨i,rfl⟩
   obtain⟨i,hi⟩:=hi;obtain⟨info,de,z,hat⟩:=hT.at_ hi;have hvl:=k2.length
   have hsz:(a.eval y).cells.size=info.size:=by
    rw[hat.size];have:fV E t=i.cells:=by simp only[fV,hi]
    rw[this]at hlen;simp only[aa2]at hvl;omega
   have hv:=aN r1 hx (by simp);obtain⟨b,off,cur,et,g',hve,hheap,hle,hpd,r2⟩:=ZH r1 k2 hw hv;have h1:=sF (jI hpd) k2;have hrun:=uY w hat.inf b off (a.eval y) hsz hheap hle h1
   have hex:(execOp a.eval o).run P w= .ok .skip (w.setRow b (cur.toList.take off++(a.eval y).cells.toList++cur.toList.drop (off+(a.eval y).cells.toList.length)).toArray):=by
    simp only[execOp,ho,hve,Sem.run_bind,hrun,Result.andThen_ok,Sem.run_pure]
   unfold Oper.wp;rw[hex,Oper.upon_skip,hd,dS];exact⟨g',r2⟩
  ·exact(aj hp).elim
 ·exact(aj hp).elim
end
end Go.AM
end
section
namespace Go.AM
open Go
section
variable {P:Program} {E:Env} {C:Ctx} {s s':St} {a a':Act} {w w':World} {g g':Gh} {o:Oper} {Q:Exit->Act->World->Prop}
theorem Dl (w:World) (t tx ty e:TypeId) (i:TypeInfo) (ht:P.underlying t=some (.slice e)) (hi:P.info? e=some i) (b sLen sCap:Nat) (x:Value) (n:Nat) (news:List Value) (hs:Src P i.size tx x n news w)
 {cur:Array Value} {et:TypeId} (hg:w.heap[b]? =some (.cells cur et (0,0))) (hroom:sLen+n<=sCap) (hfit:sLen*i.size+news.length<=cur.size):
 (Builtin.append_ #[t,tx] ty #[.slice (some ⟨b,0,none⟩) sLen sCap,x]).run P w=
  .ok (.slice (some ⟨b,0,none⟩) (sLen+n) sCap) (w.setRow b (cur.toList.take (sLen*i.size)++news++cur.toList.drop (sLen*i.size+news.length)).toArray):=by
 have hst:=run_storeCells_at P b (sLen*i.size) et news 0 cur w hg (by simpa using hfit) hs.one;simp only[aaU]at hst;rcases hs.kind with⟨e',hk⟩|hk<;>simp[Builtin.append_,run_underlying ht,run_underlying hk,sizeOf,typeInfo,hi,hs.len,hroom,hs.cells,Addr.add_lit,hst]
theorem Bc (w:World) (t tx ty e:TypeId) (i:TypeInfo) (ht:P.underlying t=some (.slice e)) (hi:P.info? e=some i) (x:Value) (news:List Value) (hs:Src P i.size tx x 0 news w):
 (Builtin.append_ #[t,tx] ty #[.slice none 0 0,x]).run P w= .ok (.slice none 0 0) w:=by
 rcases hs.kind with⟨e',hk⟩|hk<;>simp[Builtin.append_,run_underlying ht,run_underlying hk,sizeOf,typeInfo,hi,hs.len,hs.cells]
structure Behind (sh:Sh) (x y xy:El sh):Prop where
 len:aQ sh xy=aQ sh x+aQ sh y
 els: ∀(w:World) (F:Fz) (cs ds:List Value),uO w F sh x cs->uO w F sh y ds->uO w F sh xy (cs++ds)
theorem XG {c d r:CV} (h:(ahj c d).run=some r):c.sh.oW=true/\(c.tg= .own\/c.tg= .tip)/\d.tg≠ .dead/\
 ∃(y:El c.sh) (xy:El c.sh),jD d c.sh=some y/\r=⟨c.sh,c.tg,xy⟩/\Behind c.sh c.x y xy/\aQ c.sh xy<=au:=by
 obtain⟨sh,ct,x⟩:=c;obtain⟨sh',ct',y'⟩:=d
 cases sh with
 |sl es=>
  cases sh' with
  |sl es'=>
   simp only[ahj]at h;obtain⟨hc,h⟩:=aX h;simp only[aad]at hc;have hcast:jD ⟨.sl es',.pure,y'⟩ (.sl es)=jD ⟨.sl es',ct',y'⟩ (.sl es):=rfl;rw[hcast]at h;cases hy:jD ⟨.sl es',ct',y'⟩ (.sl es)with
   |none=>rw[hy]at h;exact(aj h).elim
   |some y=>
    rw[hy]at h;obtain⟨hm,h⟩:=kN h;obtain rfl:=ak h;refine⟨rfl,?_,?_,y,_,rfl,rfl,⟨aap,λ w F cs ds h1 h2=>(jC es).append x y cs ds h1 h2⟩,?_⟩
    ·cases ct<;>simp_all
    ·rintro rfl;simp[Tg.le]at hc
    ·have:=of_decide_eq_true hm;show List.length (List.append x y)<=au;have e:List.length (List.append x y)=List.length x+List.length y:=aap;rw[e];exact this
  |rsl _=>exact(aj h).elim
  |int k=>exact(aj h).elim
  |bool=>exact(aj h).elim
  |str=>exact(aj h).elim
  |dl _=>exact(aj h).elim
  |mp _ _=>exact(aj h).elim
 |rsl ss=>
  cases sh' with
  |rsl es'=>
   simp only[ahj]at h;obtain⟨hc,h⟩:=aX h;simp only[aad]at hc;have hcast:jD ⟨.rsl es',.pure,y'⟩ (.rsl ss)=jD ⟨.rsl es',ct',y'⟩ (.rsl ss):=rfl;rw[hcast]at h;cases hy:jD ⟨.rsl es',ct',y'⟩ (.rsl ss)with
   |none=>rw[hy]at h;exact(aj h).elim
   |some y=>
    rw[hy]at h;obtain⟨hm,h⟩:=kN h;obtain rfl:=ak h;refine⟨rfl,?_,?_,y,_,rfl,rfl,⟨aap,λ w F cs ds h1 h2=>(jR ss).append x y cs ds h1 h2⟩,?_⟩
    ·cases ct<;>simp_all
    ·rintro rfl;simp[Tg.le]at hc
    ·have:=of_decide_eq_true hm;show List.length (List.append x y)<=au;have e:List.length (List.append x y)=List.length x+List.length y:=aap;rw[e];exact this
  |sl _=>exact(aj h).elim
  |int k=>exact(aj h).elim
  |bool=>exact(aj h).elim
  |str=>exact(aj h).elim
  |dl _=>exact(aj h).elim
  |mp _ _=>exact(aj h).elim
 |int k=>exact(aj h).elim
 |bool=>exact(aj h).elim
 |str=>exact(aj h).elim
 |dl _=>exact(aj h).elim
 |mp _ _=>exact(aj h).elim
theorem src_of {c:CV} {v:Value} {sh:Sh} {y:El sh} {tx e':TypeId} (hk:P.underlying tx=some (.slice e')) (hsl:sh.oW=true) (hd:c.tg≠ .dead) (hc:jD c sh=some y) (h:Rd w g c v):
 ∃news,Src P sh.n tx v (aQ sh y) news w/\uO w g.F sh y news:=by
 obtain⟨e,rfl⟩:=kF hc;obtain⟨csh,ct,cx⟩:=c;simp only at e;subst e;show∃news,Src P csh.n tx v (aQ csh cx) news w/\uO w g.F csh cx news;unfold Rd at h;rw[if_pos (fD hsl)]at h;rcases h hd with⟨A,k,rfl,hz⟩|⟨ad,k,cs,rfl,hlk,hsp,hels,hcell⟩
 ·simp only at hz;rw[hz];refine⟨[],?_,Si hsl hz⟩
  cases A with
  |none=>exact Src.ofNil w hk k
  |some ad=>exact Src.ofSlice w hk ad 0 k [] (by simp) (λ j u h=>by simp at h) (λ u hu=>by cases hu)
 ·replace hels:=hels hsl
  simp only at hels hcell hlk;have hl:=hels.length;refine⟨cs,Src.ofSlice w hk ad _ k cs hl (λ j u hu=> ?_) (λ u hu=> ?_),hels⟩
  ·have hj:j<cs.length:=by
    rcases aaE j cs.length with h|h
    ·exact h
    ·simp[aah h]at hu
   have:=hcell j hj;rw[hu]at this
   have e:ad.add j=⟨ad.block,ad.off+j,none⟩:=by
    unfold Addr.add;split
    ·rename_i e;rw[e];cases ad;simp_all
    ·rfl
   rw[e];exact this
  ·
   have key: ∀(sh:Sh) (x:El sh) (cs:List Value),uO w g.F sh x cs-> ∀u∈cs,u.oneCell'=true:=by
    have hA: ∀(es:List Sh) (x:ElA es) (cs:List Value),dO w g.F es x cs-> ∀u∈cs,u.oneCell'=true:=λ es x cs h=>
     sF (jI (rW es x)) (cells_ok (g:=g) .hand es x 0 cs h)
    intro sh x cs hx
    cases sh with
    |sl es=>
     have gen: ∀(l:List (ElA es)) cs,eH (dO w g.F es) l cs-> ∀u∈cs,u.oneCell'=true:=by
      intro l
      induction l with
      |nil=>intro cs h u hu;rw[show cs= []from h]at hu;cases hu
      |cons e l ih=>
       rintro cs ⟨c1,c2,rfl,h1,h2⟩ u hu;rcases aau.1 hu with hu|hu
       ·exact hA es e c1 h1 u hu
       ·exact ih c2 h2 u hu
     exact gen x cs hx
    |rsl ss=>
     have gen: ∀(l:List (RT (ElA ss))) cs,jg w g.F (dO w g.F ss) l cs-> ∀u∈cs,u.oneCell'=true:=by
      intro l
      induction l with
      |nil=>intro cs h u hu;rw[(jR ss).nil cs |>.1 h]at hu;cases hu
      |cons e l ih=>
       intro cs h u hu;obtain⟨c1,c2,rfl,h1,h2⟩:=((jR ss).cons e l cs).1 h;rcases aau.1 hu with hu|hu
       ·exact sF (jI (wz ss e)) (zq (g:=g) .hand ss e 0 c1 h1) u hu
       ·exact ih c2 h2 u hu
     exact gen x cs hx
    |_=>exact hx.elim
   exact key _ _ _ hels u hu
def Ahead (w:World) (g:Gh) (sh:Sh) (x:El sh) (v v':Value):Prop:=
 (∃b k l,v= .slice (some ⟨b,0,none⟩) (aQ sh x) k/\v'= .slice (some ⟨b,0,none⟩) l k)\/(uZ w g (.hand 0) false sh x v/\ ∀b,blk v=some b->blk v'≠some b)
theorem Me (h:Rel E C s a w g) {sh:Sh} (hsl:sh.oW=true) {x y xy:El sh} (hb:Behind sh x y xy) {tip:Bool} {v u:Value} (ho:yI w g (.hand 0) tip sh x v) {t tx e:TypeId} {ty:TypeId} {i:TypeInfo} {z:Value}
 (ht:P.underlying t=some (.slice e)) (hi:P.info? e=some i) (hz:i.zero=some z) (hsz:i.size=sh.n) (hzs:z.cells.size=sh.n) (hby:i.bytes<=128) (hmax:aQ sh xy<=au) {news:List Value} (hs:Src P sh.n tx u (aQ sh y) news w) (hn:uO w g.F sh y news):
 ∃v' w' g',(Builtin.append_ #[t,tx] ty #[v,u]).run P w= .ok v' w'/\Rel E C s a w' g'/\yI w' g' (.hand 0) tip sh xy v'/\isAgg v'=false/\(tip=false->Ahead w' g' sh x v v'):=by
 have hm:au=1099511627776:=by decide
 rw[hm]at hmax;have hlen:=hb.len;have hnl:=hs.newsLen;have hs':Src P i.size tx u (aQ sh y) news w:=by rw[hsz];exact hs
 have grow: ∀(base:Option Addr) (sCap:Nat) (olds:List Value),(Builtin.firstCells i.size (aQ sh x) (.slice base (aQ sh x) sCap)).run P w.drew= .ok olds.toArray w.drew->uO w g.F sh x olds->sCap<aQ sh x+aQ sh y->
  v= .slice base (aQ sh x) sCap-> ∃v' w' g',(Builtin.append_ #[t,tx] ty #[v,u]).run P w= .ok v' w'/\Rel E C s a w' g'/\yI w' g' (.hand 0) tip sh xy v'/\isAgg v'=false/\(tip=false->Ahead w' g' sh x v v'):=by
  intro base sCap olds hold hx hg hv
  have hfit:Builtin.nextslicecap (aQ sh x+aQ sh y) sCap*i.bytes<=281474976710656:=growslice_fits hg (by
   have:(aQ sh x+aQ sh y)*i.bytes<=1099511627776*128:=Nat.mul_le_mul (by omega) hby;omega)
  have hrun:=run_append_grow_src (P:=P) w t tx ty e i z ht hi hz base (aQ sh x) sCap olds hold u (aQ sh y) news hs' hg (by omega) hfit;have hge:=grownCap_ge w (aQ sh x+aQ sh y) sCap e
  have hcm:grownCap w (aQ sh x+aQ sh y) sCap e<=maxLen:=grownCap_le_maxLen w _ _ e (by
   have:aQ sh x+aQ sh y<=1099511627776:=by omega
   exact aaJ this (by decide))
  have rd:Rel E C s a w.drew g:=h.world (Fr.drew _) h.base.drew rfl;have hxl:=hx.length;have hall:uO w.drew g.F sh xy (olds++news):=hb.els w.drew g.F olds news (hx.keeps (show Keeps w w.drew g.F g.F from⟨λ _ _ h=>h,λ _ _ _=>rfl⟩)) (hn.keeps (show Keeps w w.drew g.F g.F from⟨λ _ _ h=>h,λ _ _ _=>rfl⟩));have hal:=hall.length
  obtain⟨g1,r1,c1,_,_,fr1⟩:=Y0 rd hsl (x:=xy) (cells:=(olds++news).toArray++Builtin.zeroCells z.cells (grownCap w (aQ sh x+aQ sh y) sCap e-(aQ sh x+aQ sh y))) (c:=grownCap w (aQ sh x+aQ sh y) sCap e) e (by
   rw[Array.toList_append,List.take_left' (by simpa using hal)];exact hall) (by omega) hcm (by
   simp only[Array.size_append,abY,size_zeroCells,hzs,hal,hlen,←abM];congr 1;omega)
  rw[hlen]at c1;simp only[jE,if_pos (fD hsl)]at c1
  cases tip with
  |false=>
   refine⟨_,_,g1,by rw[hv];exact hrun,r1,c1,rfl,λ _=> .inr ⟨?_,λ b hb=> ?_⟩⟩
   ·exact((oC hsl).1 ho).fr ((Fr.drew (λ _=>True)).trans fr1) trivial
   ·have hlt:b<w.heap.size:=by
     have:=((oC hsl).1 ho).mg hb;exact(h.base.own b _ this).2
    have hsz:w.drew.heap.size=w.heap.size:=rfl;simp only[blk,ne_eq,aae];omega
  |true=>
   obtain⟨g2,f2,b2,o2,a2,_,ot⟩:=c1.freeze r1.base hsl;exact⟨_,_,g2,by rw[hv];exact hrun,r1.world (f2.mono λ o ho=>ho 0) b2 a2,ot,rfl,λ e=>by cases e⟩
 rcases ho with⟨hv,hl0⟩|⟨b,k,cur,et,hv,hlk,hk,hown,hheap,hcsz,hels,hF⟩
 ·by_cases hy0:aQ sh y=0
  ·rw[hy0]at hs';refine⟨.slice none 0 0,w,g,by rw[hv];exact Bc w t tx ty e i ht hi u news hs',h,.inl ⟨rfl,by omega⟩,rfl,λ _=> .inr ⟨.inl ⟨hv,hl0⟩,λ b hb=>by rw[hv]at hb;cases hb⟩⟩
  ·refine grow none 0 [] (run_firstCells_none w.drew _ _ _ _) (Si hsl hl0) (by omega) (by rw[hv,hl0])
 ·replace hels:=(pV hsl).1 hels
  have hxl:=hels.length;by_cases hroom:aQ sh x+aQ sh y<=k
  ·have hfit:aQ sh x*sh.n+news.length<=cur.size:=by
    rw[hnl,←abM,hcsz];exact aaw _ hroom
   have hrun:=Dl (P:=P) w t tx ty e i ht hi b (aQ sh x) k u (aQ sh y) news hs' hheap hroom (by rw[hsz];exact hfit);rw[hsz]at hrun
   let new:=(cur.toList.take (aQ sh x*sh.n)++news++cur.toList.drop (aQ sh x*sh.n+news.length)).toArray
   have hcl:aQ sh x*sh.n<=cur.toList.length:=by simp;omega
   have hFk: ∀o,g.F b o->new[o]? =cur[o]? :=by
    intro o hf;have:=((hF o).1 hf).2;simp only[new,List.getElem?_toArray];rw[aaA,aax (by simp;omega),aaj,if_pos this,aaO]
   have f1:Fr (λ o=> ∀i,o≠ .hand i) w (w.setRow b new) g g:=Fr.setRow hheap hFk λ ow k e=>by
    rw[hown]at e;cases e;exact k 0 rfl
   have r1:Rel E C s a (w.setRow b new) g:=h.world f1 (h.base.setRow hown hheap hFk) rfl;have hall:uO (w.setRow b new) g.F sh xy (cur.toList.take (aQ sh x*sh.n)++news):=hb.els _ _ _ _ (hels.keeps f1.keeps) (hn.keeps f1.keeps)
   have hnew:new.toList.take (aQ sh xy*sh.n)=cur.toList.take (aQ sh x*sh.n)++news:=by
    have e1:new.toList=(cur.toList.take (aQ sh x*sh.n)++news)++cur.toList.drop (aQ sh x*sh.n+news.length):=rfl;rw[e1,List.take_left'];rw[aap,aaB,abK hcl,hnl,hlen,abM]
   have hnsz:new.size=k*sh.n:=by
    rw[←hcsz];simp[new];simp at hcl;omega
   refine⟨.slice (some ⟨b,0,none⟩) (aQ sh x+aQ sh y) k,w.setRow b new,?_⟩
   cases tip with
   |false=>
    refine⟨g,by rw[hv];exact hrun,r1,.inr ⟨b,k,new,et,by rw[hlen],by omega,hk,hown,setRow_heap w b cur new et _ hheap,hnsz,by rw[hnew];exact(pV hsl).2 hall,λ o=> ?_⟩,rfl,λ _=> .inl ⟨b,k,aQ sh x+aQ sh y,hv,rfl⟩⟩;have:=hF o;simpa using this
   |true=>
    have hkf:Keeps (w.setRow b new) (w.setRow b new) g.F (g.freeze b (aQ sh xy*sh.n)).F:=⟨λ _ _ hf=> .inl hf,λ _ _ _=>rfl⟩
    have f2:Fr (λ o=> ∀i,o≠ .hand i) (w.setRow b new) (w.setRow b new) g (g.freeze b (aQ sh xy*sh.n)):=⟨hkf,λ b' ow k e=>⟨e,rfl,λ o hf=>by
     rcases hf with hf|⟨rfl,_⟩
     ·exact hf
     ·rw[hown]at e;cases e;exact absurd rfl (k 0)⟩⟩
    refine⟨g.freeze b (aQ sh xy*sh.n),by rw[hv];exact hrun,r1.world f2 (r1.base.freeze hown _) rfl,.inr ⟨b,k,new,et,by rw[hlen],by omega,hk,hown,setRow_heap w b cur new et _ hheap,hnsz,by rw[hnew];exact(pV hsl).2 (hall.keeps hkf),λ o=> ?_⟩,rfl,λ e=>by cases e⟩;simp only[Gh.freeze,hF o,true_and];constructor
    ·rintro(h|h)
     ·have:aQ sh x*sh.n<=aQ sh xy*sh.n:=aaw _ (by omega);omega
     ·exact h
    ·intro h;exact .inr h
  ·refine grow (some ⟨b,0,none⟩) k (cur.toList.take (aQ sh x*sh.n)) ?_ hels (by omega) hv;rw[hsz];refine run_firstCells_some w.drew sh.n (aQ sh x) ⟨b,0,none⟩ _ k _ hxl λ j u hu=> ?_;have e1:(⟨b,0,none⟩:Addr).add j=⟨b,j,none⟩:=by unfold Addr.add;split<;>simp_all
   rw[e1];show w.cell? _=_;rw[cell_of_heap hheap];rw[aaj]at hu;split at hu
   ·simpa using hu
   ·cases hu
theorem qB.move {ow ow':aH} {B B':Option Nat} {sh:Sh} {x:El sh} {v:Value} (hk:Keeps w w' g.F g'.F) (hb: ∀z,B=some z->g.own z=some ow->g'.own z=some ow'/\w'.heap[z]? =w.heap[z]? /\ ∀o,g'.F z o ↔ g.F z o)
 (hB: ∀z,B=some z->g.own z=some ow->B'=some z) (hN:B=none->B'=none) (h:qB w g ow B sh x v):qB w' g' ow' B' sh x v:=by
 unfold qB at h ⊢;split
 ·rename_i hs;rw[if_pos hs]at h;obtain⟨h1,h2,h3⟩:=h;refine⟨h1,h2.move hk λ z hz=>hb z (h3▸hz) (h2.mg hz),?_⟩
  cases hz:blk v with
  |none=>rw[hz]at h3;rw[hN h3.symm]
  |some z=>rw[hB z (h3▸hz) (h2.mg hz)]
 ·rename_i hs;rw[if_neg hs]at h;exact jo.keeps hk _ _ _ h
theorem iM.append {ow:aH} {bx b1 bn:Nat} {es:List Sh} {x y:List (Option (ElA es))} {cx cy:List Value} (hx:iM w g (.hand 0) bx es x cx) (hy:iM w g (.hand 1) b1 es y cy) (hk:Keeps w w' g.F g'.F)
 (hbx:g.own bx≠some (.hand 1)) (h0: ∀z,g.own z=some (.hand 0)\/g.own z=some (.hand 1)->z≠bx->z≠bn/\g'.own z=some ow/\w'.heap[z]? =w.heap[z]? /\ ∀o,g'.F z o ↔ g.F z o):
 iM w' g' ow bn es (x++y) (cx++cy):=by
 obtain⟨hx1,Bx,hx2,hx3,hx4⟩:=hx;obtain⟨hy1,By,hy2,hy3,hy4⟩:=hy
 let pr:(Nat->Option Nat)->aH->Nat->Option Nat:=λ B o k=>(B k).filter λ z=>decide (g.own z=some o)
 have hpr: ∀B o k z,pr B o k=some z->B k=some z/\g.own z=some o:=by
  intro B o k z h;simp only[pr,acf,decide_eq_true_eq]at h;exact h
 have hpr': ∀B o k z,B k=some z->g.own z=some o->pr B o k=some z:=by
  intro B o k z h1 h2;simp only[pr,acf,decide_eq_true_eq];exact⟨h1,h2⟩
 have hprn: ∀B o k,B k=none->pr B o k=none:=by
  intro B o k h;simp only[pr,h,Option.filter_none]
 let B:Nat->Option Nat:=λ k=>if k<x.length*es.length then pr Bx (.hand 0) k else pr By (.hand 1) (k-x.length*es.length)
 have bx0: ∀k z,pr Bx (.hand 0) k=some z->g.own z=some (.hand 0)/\z≠bx/\Bx k=some z:=λ k z h=>⟨(hpr _ _ _ _ h).2,λ e=>hx2 k (e▸(hpr _ _ _ _ h).1),(hpr _ _ _ _ h).1⟩;have by0: ∀k z,pr By (.hand 1) k=some z->g.own z=some (.hand 1)/\z≠bx/\By k=some z:=λ k z h=>⟨(hpr _ _ _ _ h).2,λ e=>hbx (e▸(hpr _ _ _ _ h).2),(hpr _ _ _ _ h).1⟩;refine⟨by simp[hx1,hy1,abM],B,λ k hz=> ?_,λ i j z hi hj=> ?_,λ i e he=> ?_⟩
 ·simp only[B]at hz;split at hz
  ·obtain⟨a1,a2,_⟩:=bx0 _ _ hz;exact(h0 bn (.inl a1) a2).1 rfl
  ·obtain⟨a1,a2,_⟩:=by0 _ _ hz;exact(h0 bn (.inr a1) a2).1 rfl
 ·simp only[B]at hi hj;split at hi<;>split at hj
  ·exact hx3 i j z (bx0 _ _ hi).2.2 (bx0 _ _ hj).2.2
  ·have a1:=(bx0 _ _ hi).1;have a2:=(by0 _ _ hj).1;rw[a1]at a2;cases a2
  ·have a1:=(by0 _ _ hi).1;have a2:=(bx0 _ _ hj).1;rw[a1]at a2;cases a2
  ·have:=hy3 _ _ z (by0 _ _ hi).2.2 (by0 _ _ hj).2.2;omega
 ·rcases aaE i x.length with hlt|hge
  ·rw[aax hlt]at he;obtain⟨r1,r2⟩:=hx4 i e he;have hle:i*es.length+es.length<=x.length*es.length:=by rw[←abr];exact aaw _ hlt
   have ec:((cx++cy).drop (i*es.length)).take es.length=(cx.drop (i*es.length)).take es.length:=by
    rw[List.drop_append_of_le_length (by omega),abD (by rw[aa7];omega)]
   rw[ec];refine⟨r1,λ k c v hc hv=> ?_⟩
   have hkl:k<es.length:=by
    rw[←r1];rcases aaE k ((cx.drop (i*es.length)).take es.length).length with h|h
    ·exact h
    ·rw[aah h]at hv;cases hv
   have eB:B (i*es.length+k)=pr Bx (.hand 0) (i*es.length+k):=if_pos (by omega);show qB w' g' ow (B (i*es.length+k)) _ _ _;rw[eB];exact(r2 k c v hc hv).move hk (λ z hz ho=>(h0 z (.inl ho) (λ e=>hx2 _ (e▸hz))).2) (λ z hz ho=>hpr' _ _ _ _ hz ho) (λ hz=>hprn _ _ _ hz)
  ·rw[aaz hge]at he;obtain⟨r1,r2⟩:=hy4 _ e he;have hge':x.length*es.length<=i*es.length:=aaw _ hge
   have ei:i*es.length=x.length*es.length+(i-x.length)*es.length:=by
    rw[←abM];congr 1;omega
   have ec:((cx++cy).drop (i*es.length)).take es.length=(cy.drop ((i-x.length)*es.length)).take es.length:=by
    rw[List.drop_append,abn (by omega),abQ];congr 2;omega
   rw[ec];refine⟨r1,λ k c v hc hv=> ?_⟩
   have eB:B (i*es.length+k)=pr By (.hand 1) ((i-x.length)*es.length+k):=by
    have e1:i*es.length+k-x.length*es.length=(i-x.length)*es.length+k:=by omega
    rw[←e1];exact if_neg (by omega)
   show qB w' g' ow (B (i*es.length+k)) _ _ _;rw[eB];exact(r2 k c v hc hv).move hk (λ z hz ho=>(h0 z (.inr ho) (λ e=>hbx (e▸ho))).2) (λ z hz ho=>hpr' _ _ _ _ hz ho) (λ hz=>hprn _ _ _ hz)
theorem iM.one {ow:aH} {b:Nat} {es:List Sh} {y:List (ElA es)} {cs:List Value} (h:iM w g ow b es (y.map some) cs): ∀u,u∈cs->u.oneCell'=true:=by
 obtain⟨h1,B,h2,h3,h4⟩:=h;intro u hu;obtain⟨k,hk,rfl⟩:=aay hu;rw[h1,aaN]at hk
 have hN:0<es.length:=by
  rcases ab8 es.length with e|e
  ·rw[e,Nat.mul_zero]at hk;omega
  ·exact e
 have hi:k/es.length<y.length:=Nat.div_lt_of_lt_mul (by rw[aco];exact hk);have hm:=Nat.mod_lt k hN;have ek:k/es.length*es.length+k % es.length=k:=by rw[aco];exact Nat.div_add_mod k es.length
 have he:(y.map some)[k/es.length]? =some (some y[k/es.length]):=by rw[aar,aac hi];rfl
 have hcl:k % es.length<(cellsOf es y[k/es.length]).length:=by
  have:=congrArg List.length (sO es y[k/es.length]);simp only[aaN]at this;rw[this];exact hm
 obtain⟨v,hv,hd,_⟩:=iM.row h4 he (aac hcl);rw[ek]at hv;rw[aac (by rw[h1,aaN];exact hk)]at hv;rw[aao hv];refine(hd.top.plain ?_).2;show(cellsOf es y[k/es.length])[k % es.length].sh.top≠ .dead;cases(cellsOf es y[k/es.length])[k % es.length].sh<;>simp[Sh.top]
theorem XH (h:Rel E C s a w g) {es:List Sh} {x y:List (Option (ElA es))} {v u:Value} (ho:yI w g (.hand 0) false (.dl es) x v) (hu:yI w g (.hand 1) false (.dl es) y u) {t tx e e':TypeId} {ty:TypeId} {i:TypeInfo} {z:Value}
 (ht:P.underlying t=some (.slice e)) (htx:P.underlying tx=some (.slice e')) (hi:P.info? e=some i) (hz:i.zero=some z) (hsz:i.size=es.length) (hzs:z.cells.size=es.length) (hby:i.bytes<=128) (hmax:x.length+y.length<=au):
 ∃v' w' g',(Builtin.append_ #[t,tx] ty #[v,u]).run P w= .ok v' w'/\Rel E C s a w' g'/\jE w' g' (.hand 0) ⟨.dl es,.own,List.append x y⟩ v'/\isAgg v'=false:=by
 have hm:au=1099511627776:=by decide
 rw[hm]at hmax;have hown: ∀b ow,g.own b=some ow->b<w.heap.size:=λ b ow e=>(h.base.own b ow e).2;have hFs: ∀b o,g.F b o->b<w.heap.size:=λ b o e=>(h.base.fz b o e).2
 have src: ∃news b1,Src P es.length tx u y.length news w/\news.length=y.length*es.length/\(∀c,c∈news->c.oneCell'=true)/\iM w g (.hand 1) b1 es y news:=by
  rcases hu with⟨hv,hl⟩|⟨b1,k,cur,et,hv,hlk,hk,hown1,hheap,hcsz,⟨⟨_,hone⟩,hels⟩,hF⟩
  ·have hl:y.length=0:=by simpa [aQ]using hl
   have:y= []:=aav hl;subst this;exact⟨[],0,by rw[hv];exact Src.ofNil w htx 0,by simp,by simp,by simp,λ _=>none,λ _=>by simp,λ _ _ _ h=>by simp at h,λ i x h=>by simp at h⟩
  ·simp only[aQ,Sh.n]at hels hv hlk hone;have hnl:(cur.toList.take (y.length*es.length)).length=y.length*es.length:=hels.1;refine⟨cur.toList.take (y.length*es.length),b1,?_,hnl,hone,hels⟩;rw[hv];refine Src.ofSlice w htx ⟨b1,0,none⟩ _ k _ hnl (λ j c hc=> ?_) (λ c hc=>hone c hc);have e1:(⟨b1,0,none⟩:Addr).add j=⟨b1,j,none⟩:=by unfold Addr.add;split<;>simp_all
   rw[e1,cell_of_heap hheap];rw[aaj]at hc;split at hc
   ·simpa using hc
   ·cases hc
 obtain⟨news,b1,hs,hnl,hn1,hny⟩:=src;have hs':Src P i.size tx u y.length news w:=by rw[hsz];exact hs
 have hapl:(List.append x y).length=x.length+y.length:=aap
 let ρ:aH->aH:=λ o=>if o= .hand 1 then .hand 0 else o
 have hρ: ∀o,(∀i,o≠ .hand i)->ρ o=o:=λ o ho=>if_neg (ho 1);have hρ0: ∀o,o= .hand 0\/o= .hand 1->ρ o= .hand 0:=by rintro o (rfl|rfl)<;>rfl
 have grow: ∀(base:Option Addr) (sCap:Nat) (olds:List Value) (bx:Nat),(Builtin.firstCells i.size x.length (.slice base x.length sCap)).run P w.drew= .ok olds.toArray w.drew->(∀c,c∈olds->c.oneCell'=true)->iM w g (.hand 0) bx es x olds->g.own bx≠some (.hand 1)->sCap<x.length+y.length->
  v= .slice base x.length sCap-> ∃v' w' g',(Builtin.append_ #[t,tx] ty #[v,u]).run P w= .ok v' w'/\Rel E C s a w' g'/\jE w' g' (.hand 0) ⟨.dl es,.own,List.append x y⟩ v'/\isAgg v'=false:=by
  intro base sCap olds bx hold ho1 hx hbx hg hv
  have hfit:Builtin.nextslicecap (x.length+y.length) sCap*i.bytes<=281474976710656:=growslice_fits hg (by
   have:(x.length+y.length)*i.bytes<=1099511627776*128:=Nat.mul_le_mul (by omega) hby;omega)
  have hrun:=run_append_grow_src (P:=P) w t tx ty e i z ht hi hz base x.length sCap olds hold u y.length news hs' hg (by omega) hfit;have hge:=grownCap_ge w (x.length+y.length) sCap e
  have hcm:grownCap w (x.length+y.length) sCap e<=maxLen:=grownCap_le_maxLen w _ _ e (by
   have:x.length+y.length<=1099511627776:=by omega
   exact aaJ this (by decide))
  have rd:Rel E C s a w.drew g:=h.world (Fr.drew _) h.base.drew rfl
  let cells:Array Value:=(olds++news).toArray++Builtin.zeroCells z.cells (grownCap w (x.length+y.length) sCap e-(x.length+y.length))
  have f:=Fr.new (w:=w.drew) (K:=λ o=> ∀i,o≠ .hand i) hown hFs (ρ:=ρ) (λ o ho=>hρ o ho) (.cells cells e) (.hand 0)
  have hall:iM (w.drew.alloc (.cells cells e)) (g.new ρ w.drew.heap.size (.hand 0)) (.hand 0) w.drew.heap.size es (x++y) (olds++news):=by
   refine hx.append hny (Keeps.trans (b:=w.drew) (G:=g.F) ⟨λ _ _ h=>h,λ _ _ _=>rfl⟩ f.keeps) hbx λ zz hzo hzb=> ?_;have hlt:zz<w.heap.size:=by rcases hzo with h|h<;>exact hown _ _ h
   have hlt':zz<w.drew.heap.size:=hlt;refine⟨by omega,?_,mO hlt',λ o=>ach⟩;simp only[Gh.new];rw[if_neg (by omega)];rcases hzo with h|h<;>rw[h]<;>rfl
  have hal:(olds++news).length=(x.length+y.length)*es.length:=hall.1.trans (by rw[aap]);refine⟨_,_,g.new ρ w.drew.heap.size (.hand 0),by rw[hv];exact hrun,rd.world f (rd.base.new _ _ (λ _ _ _ e=>by cases e;rfl) _) rfl,?_,rfl⟩;simp only[jE,Sh.pF,if_true];refine .inr ⟨w.drew.heap.size,grownCap w (x.length+y.length) sCap e,cells,e,?_,?_,hcm,by simp[Gh.new],mM,?_,⟨⟨rfl,?_⟩,?_⟩,λ o=>⟨λ hf=> ?_,λ hf=>by cases hf.1⟩⟩
  ·simp only[aQ,hapl];rfl
  ·simp only[aQ,hapl];exact hge
  ·simp only[cells,Array.size_append,abY,size_zeroCells,hzs,hal,Sh.n,←abM];congr 1;omega
  ·simp only[aQ,hapl,Sh.n,cells];rw[Array.toList_append,List.take_left' (by simpa using hal)];intro c hc;rcases aau.1 hc with h|h
   ·exact ho1 c h
   ·exact hn1 c h
  ·simp only[aQ,hapl,Sh.n,cells];rw[Array.toList_append,List.take_left' (by simpa using hal)];exact hall
  ·have hf:g.F w.heap.size o:=hf;have:=hFs _ _ hf;omega
 rcases ho with⟨hv,hl0⟩|⟨b,k,cur,et,hv,hlk,hk,hown0,hheap,hcsz,⟨⟨_,hone⟩,hels⟩,hF⟩
 ·have hl0:x.length=0:=hl0;have hx0:x= []:=aav hl0;subst hx0;have hx:iM w g (.hand 0) w.heap.size es [] []:=⟨by simp,λ _=>none,λ _=>by simp,λ _ _ _ h=>by simp at h,λ i x h=>by simp at h⟩;by_cases hy0:y.length=0
  ·rw[hy0]at hs';have hy:y= []:=aav hy0;subst hy;refine⟨.slice none 0 0,w,g,by rw[hv];exact Bc w t tx ty e i ht hi u news hs',h,?_,rfl⟩;simp only[jE,Sh.pF,if_true];exact .inl ⟨rfl,rfl⟩
  ·refine grow none 0 [] w.heap.size (run_firstCells_none w.drew _ _ _ _) (by simp) hx (λ e=>by have:=hown _ _ e;omega) (by omega) (by rw[hv];rfl)
 ·simp only[aQ,Sh.n]at hels hv hlk hcsz hF hone;have hxl:=hels.1;have hcl:x.length*es.length<=cur.toList.length:=by rw[show cur.toList.length=cur.size from aa2,hcsz];exact aaw _ hlk
  have hb1':g.own b≠some (.hand 1):=by rw[hown0];simp
  by_cases hroom:x.length+y.length<=k
  ·have hfit:x.length*es.length+news.length<=cur.size:=by
    rw[hnl,←abM,hcsz];exact aaw _ hroom
   have hrun:=Dl (P:=P) w t tx ty e i ht hi b x.length k u y.length news hs' hheap hroom (by rw[hsz];exact hfit);rw[hsz]at hrun
   let new:=(cur.toList.take (x.length*es.length)++news++cur.toList.drop (x.length*es.length+news.length)).toArray
   have hFk: ∀o,g.F b o->new[o]? =cur[o]? :=by
    intro o hf;have:=((hF o).1 hf).1;cases this
   have f1:Fr (λ o=> ∀i,o≠ .hand i) w (w.setRow b new) g g:=Fr.setRow hheap hFk λ ow k e=>by
    rw[hown0]at e;cases e;exact k 0 rfl
   have r1:Rel E C s a (w.setRow b new) g:=h.world f1 (h.base.setRow hown0 hheap hFk) rfl;have r2:Rel E C s a (w.setRow b new) (g.ren ρ):=r1.world (Fr.ren _ g λ o ho=>hρ o ho) (r1.base.ren ρ) rfl
   have hall:iM (w.setRow b new) (g.ren ρ) (.hand 0) b es (x++y) (cur.toList.take (x.length*es.length)++news):=by
    refine hels.append hny (show Keeps w (w.setRow b new) g.F g.F from f1.keeps) hb1' λ zz hzo hzb=> ?_;refine⟨hzb,?_,setRow_other w b zz new hzb,λ o=>ach⟩;simp only[Gh.ren];rcases hzo with h|h<;>rw[h]<;>rfl
   have hnew:new.toList.take ((x.length+y.length)*es.length)=cur.toList.take (x.length*es.length)++news:=by
    have e1:new.toList=(cur.toList.take (x.length*es.length)++news)++cur.toList.drop (x.length*es.length+news.length):=rfl;rw[e1,List.take_left'];rw[aap,aaB,abK hcl,hnl,abM]
   have hnsz:new.size=k*es.length:=by
    rw[←hcsz];simp[new];simp at hcl;omega
   refine⟨.slice (some ⟨b,0,none⟩) (x.length+y.length) k,w.setRow b new,g.ren ρ,by rw[hv];exact hrun,r2,?_,rfl⟩;simp only[jE,Sh.pF,if_true];refine .inr ⟨b,k,new,et,?_,?_,hk,by simp only[Gh.ren,hown0];rfl,setRow_heap w b cur new et _ hheap,hnsz,⟨⟨rfl,?_⟩,?_⟩,λ o=>⟨λ hf=> ?_,λ hf=>by cases hf.1⟩⟩
   ·simp only[aQ,hapl]
   ·simp only[aQ,hapl];exact hroom
   ·simp only[aQ,hapl,Sh.n];rw[hnew];intro c hc;rcases aau.1 hc with h|h
    ·exact hone c h
    ·exact hn1 c h
   ·simp only[aQ,hapl,Sh.n];rw[hnew];exact hall
   ·have:=((hF o).1 hf).1;cases this
  ·refine grow (some ⟨b,0,none⟩) k (cur.toList.take (x.length*es.length)) b ?_ hone hels hb1' (by omega) hv;rw[hsz];refine run_firstCells_some w.drew es.length x.length ⟨b,0,none⟩ _ k _ hxl λ j u hu=> ?_;have e1:(⟨b,0,none⟩:Addr).add j=⟨b,j,none⟩:=by unfold Addr.add;split<;>simp_all
   rw[e1];show w.cell? _=_;rw[cell_of_heap hheap];rw[aaj]at hu;split at hu
   ·simpa using hu
   ·cases hu
theorem yF (hT:wE P E.ty) {t:TypeId} {c:CV} (h:D5 E t c=true):c.sh.pF=true/\ ∃e info z,P.underlying t=some (.slice e)/\P.info? e=some info/\info.zero=some z/\info.size=c.sh.n/\z.cells.size=c.sh.n/\info.bytes<=128:=by
 obtain⟨hs,e,j,info,z,de,hu,hsh,hj,hjc,hat,hsz⟩:=Bq hT h;refine⟨hs,e,info,z,hu,hat.inf,hat.zero,hsz,?_,hat.bytes hsh.2⟩;have:=congrArg List.length hat.cells;rw[hjc]at this;simpa [jZ]using this
theorem N9 {sh:Sh} (h:Ye sh=true):sh.oW=true:=by cases sh<;>simp_all [Ye,Sh.oW]
theorem Rel.ag4 (h:Rel E C s a w g) {d:Nat} (hd:DOk E d) {x:Operand} {p:Pl} {q:CV} {y:El q.sh} {v:Value} (hat:Go.AM.at_ E s x= .ref p false 1) (hq:Ye q.sh=true) (hqo:q.tg= .own)
 (ho:uZ w g (.hand 0) false q.sh y v) (hag:isAgg v=false) (ha:Ahead w g q.sh q.x (a.eval x) v):
 ∃g',Rel E C (s.dM [.tm d (.ext p q ⟨q.sh,q.tg,y⟩)]) (a.put (some d) v) w g':=by
 have hpl:=N9 hq
 let g3:Gh:=⟨g.at_,λ b=>match g.own b with
  |some (.hand i)=>if blk v=some b then some (.tm d 0)else some (.tm d 1)
  |o=>o,g.F⟩
 have f3:Fr (λ o=> ∀i,o≠ .hand i) w w g g3:=⟨Keeps.refl _ _,λ b ow k e=>⟨by
  simp only[g3,e];cases ow<;>first|rfl|exact absurd rfl (k _),rfl,λ _ h=>h⟩⟩
 have hsome: ∀b ow,g3.own b=some ow-> ∃ow',g.own b=some ow':=by
  intro b ow e
  cases e2:g.own b with
  |none=>simp only[g3,e2]at e;cases e
  |some ow'=>exact⟨ow',rfl⟩
 have b3:Base C.w0 C.F0 C.X w g3:=⟨h.base.os,h.base.tape,h.base.output,h.base.size,h.base.blk,λ b ow e=>by
  obtain⟨ow',e'⟩:=hsome b ow e;exact h.base.own b ow' e',h.base.keeps,h.base.fz,λ b ow cs t f e hc=>by
  obtain⟨ow',e'⟩:=hsome b ow e;exact h.base.frz b ow' cs t f e' hc⟩
 have r3:Rel E C s a w g3:=h.world f3 b3 rfl;obtain⟨k1,k2,k3,k4⟩:=aN r3 hat (by simp)
 have ho3:uZ w g3 (.tm d 0) false q.sh y v:=ho.owner (g':=g3) (show g3.F=g.F from rfl) λ b hb=>by
  have:=ho.mg hb;simp only[g3,this,if_pos hb]
 have hx3:afI w g3 (.tm d 1) q v (a.eval x):=by
  rcases ha with ha|⟨ha,hb⟩
  ·exact .inl ha
  ·exact .inr (ha.owner (g':=g3) (show g3.F=g.F from rfl) λ b hbb=>by
    have:=ha.mg hbb;simp only[g3,this,if_neg (hb b hbb)])
 refine⟨g3,r3.U4 hd (Fr.refl _ _ _) r3.base rfl ?_⟩;refine TV.step (K:=λ _=>True) (Fr.refl _ _ _) (λ i=>trivial) (r3.OY d _ v (Fr.refl _ _ _) rfl) (t:= .ext p q ⟨q.sh,q.tg,y⟩) ?_;refine⟨k1,k2,k3,hag,?_,hq,hqo,rfl,λ e he=>⟨a.eval x,?_,hx3⟩⟩
 ·unfold jE;simp only[hqo,if_pos (fD hpl)];exact(oC hpl).2 ho3
 ·obtain⟨q1,q2⟩:=k4 _ he;rw[aJ q1]at q2;have:=congrArg (λ l=>l[0]?) q2;simp only[aaj,aan,aaU]at this;simpa using this.symm
theorem YR (hT:wE P E.ty) {cl:Call} {x y:Operand} (ho:o.op= .call cl) (hb:cl.callee= .builtin .append) (hx:cl.args.toList= [x,y]):qA P E C o:=by
 intro s a w g us d Q h hdst hd hp;simp only[plan,ho,hdst,hb,hx]at hp;obtain⟨⟨ag,cs,us1⟩,ht,hp⟩:=aU hp;simp only[]at hp;split at hp
 ·rename_i es l;obtain⟨⟨ag2,ds,us2⟩,ht2,hp⟩:=aU hp;simp only[]at hp;split at hp
  ·rename_i es' m t u hat _;obtain⟨hok,hp⟩:=aX hp;simp only[aad]at hok;split at hp
   ·rename_i m1 hm1;obtain⟨hmax,hp⟩:=kN hp;obtain rfl:=ak hp;have hmax:=of_decide_eq_true hmax;obtain⟨ees,em⟩:=kF hm1;have ees:es'=es:=by simpa using ees
    subst ees;have em:m1=m:=em;subst em;obtain⟨g1,r1,k1,k2,_,_⟩:=DZ h (hs:=[]) (hv:=[]) rfl ht;obtain⟨g2,r2,k3,k4,_,_⟩:=DZ r1 k2 ht2;simp only[abQ]at k4;rw[aJ k1,aJ k3]at k4;obtain⟨v1,ws,ev,hcr1,v2,ws2,ev2,hcr2,hws⟩:=k4;have hws:ws2= []:=hws;subst hws ev2;have ev':a.eval x=v1/\a.eval y=v2:=by simpa using ev
    obtain⟨rfl,rfl⟩:=ev';simp only[jE,Sh.pF,if_true]at hcr1 hcr2;obtain⟨_,el,info,z,hu,hinf,hz,hsz,hzs,hby⟩:=yF hT hok.1;obtain⟨_,el2,_,_,hu2,_⟩:=yF hT hok.2;obtain⟨v',w',g',hrun,r3,ho3,hag⟩:=XH (ty:=o.type) r2 hcr1 hcr2 hu hu2 hinf hz hsz hzs hby hmax
    obtain⟨g3,r4,_,_⟩:=r3.xI hd (v:=v') (ag:=false) (cs:=[⟨.dl es',.own,List.append l m1⟩]) hag (by
     rw[aJ hag];exact⟨v',[],rfl,ho3,rfl⟩)
    have hex:(execOp a.eval o).run P w= .ok (.value v') w':=by
     have hargs:cl.args= #[x,y]:=by apply abh.1;simpa using hx
     have hats:cl.argTypes= #[t,u]:=by apply abh.1;simpa using hat
     obtain⟨callee,args,argTypes⟩:=cl;simp only at hb hargs hats;subst hb hargs hats;simp only[execOp,ho,resolve,invoke,builtin,acG,abf,acK,Sem.run_bind,Sem.run_pure,Result.andThen_ok];simp[hrun]
    unfold Oper.wp;rw[hex,Oper.upon_value,hdst,dS,dS];exact⟨g3,r4⟩
   ·exact(aj hp).elim
  ·exact(aj hp).elim
 obtain⟨ds,hpk,hp⟩:=aU hp;split at hp
 ·rename_i q e t u hat _ _;obtain⟨hok,hp⟩:=aX hp;simp only[aad]at hok;obtain⟨r,hr,hp⟩:=aU hp;obtain⟨g1,r1,k1,k2,_,_⟩:=DZ h (hs:=[]) (hv:=[]) rfl ht;simp only[abQ]at k2;rw[aJ k1]at k2;obtain⟨v,ws,ev,hcr,hws⟩:=k2;have hvx:v=a.eval x:=by simpa using(abI ev).1.symm
  subst hvx;obtain⟨hsl,htg,hnd,yy,xy,hc,rfl,hbe,hmax⟩:=XG hr;obtain⟨_,el,info,z,hu,hinf,hz,hsz,hzs,hby⟩:=yF hT hok.1;obtain⟨hsle,el2,_,_,hu2,_⟩:=yF hT hok.2
  have hrd:Rd w g1 e (a.eval y):=by
   unfold Rn at hpk;split at hpk
   ·rename_i sh hy _;obtain⟨hss,hpk⟩:=aX hpk;have:=ak hpk;simp only[aa5,and_true]at this;subst this
    have hval:a.eval y= .slice none 0 0:=by
     rcases h.at_ y with⟨_,e⟩|e
     ·exact e
     ·rw[hy]at e;exact e.elim
    rw[hval];exact Rd.of (ow:= .hand 0) (FX hss)
   ·exact OV r1 hpk
  have hss:=fD hsl;obtain⟨news,hsrc,hne⟩:=src_of (P:=P) hu2 hsl hnd hc hrd
  have hown:yI w g1 (.hand 0) (match q.tg with| .tip=>true|_=>false) q.sh q.x (a.eval x):=by
   unfold jE at hcr;rcases htg with e|e<;>rw[e]at hcr<;>simp only[if_pos hss]at hcr<;>simpa [e]using hcr
  obtain⟨v',w',g',hrun,r2,ho2,hag,hahead⟩:=Me (ty:=o.type) r1 hsl hbe hown hu hinf hz hsz hzs hby hmax hsrc hne
  have hcr2:jE w' g' (.hand 0) ⟨q.sh,q.tg,xy⟩ v':=by
   unfold jE;rcases htg with e|e<;>rw[e]at ho2 ⊢ <;>simp only[if_pos hss]<;>simpa using ho2
  have hex:(execOp a.eval o).run P w= .ok (.value v') w':=by
   have hargs:cl.args= #[x,y]:=by apply abh.1;simpa using hx
   have hats:cl.argTypes= #[t,u]:=by apply abh.1;simpa using hat
   obtain⟨callee,args,argTypes⟩:=cl;simp only at hb hargs hats;subst hb hargs hats;simp only[execOp,ho,resolve,invoke,builtin,acG,abf,acK,Sem.run_bind,Sem.run_pure,Result.andThen_ok];simp[hrun]
  unfold Oper.wp;rw[hex,Oper.upon_value,hdst];simp only[cond_eq_ite]at hp;split at hp
  ·obtain⟨vs,hv,hp⟩:=aU hp;obtain rfl:=ak hp;rw[dS];unfold afX at hv;split at hv
   ·rename_i p hat;split at hv
    ·rename_i hsub;obtain⟨hc2,hv⟩:=aX hv;obtain rfl:=ak hv;simp only[aad]at hc2
     have hqo:q.tg= .own:=by
      have:=hc2.1;unfold Tg.Ep at this;split at this<;>simp_all
     have hor:(match q.tg with| .tip=>true|_=>false)=false:=by rw[hqo]
     rw[hor]at ho2;exact r2.ag4 hd hat hc2.2 hqo ((oC hsl).1 ho2) hag (hahead hor)
    ·exact(aj hv).elim
   ·exact(aj hv).elim
  ·obtain rfl:=ak hp;rw[dS]
   obtain⟨g3,r3,_,_⟩:=r2.xI hd (v:=v') (ag:=false) (cs:=[⟨q.sh,q.tg,xy⟩]) hag (by
    rw[aJ hag];exact⟨v',[],rfl,hcr2,rfl⟩)
   exact⟨g3,r3⟩
 ·exact(aj hp).elim
end
end Go.AM
end
section
namespace Go.AM
open Go
section
variable {P:Program} {E:Env} {C:Ctx} {s s':St} {a a':Act} {w w':World} {g g':Gh} {o:Oper} {Q:Exit->Act->World->Prop}
def mW:(sh:Sh)->El sh->El sh->Nat->Nat->El sh
 | .sl _,l,m,lo,n=>List.append (List.append (List.take lo l) (List.take n m)) (List.drop (lo+n) l)
 | .rsl _,l,m,lo,n=>List.append (List.append (List.take lo l) (List.take n m)) (List.drop (lo+n) l)
 |_,x,_,_,_=>x
theorem MQ {α:Type} (l m:List α) {lo n:Nat} (h1:lo+n<=l.length) (h2:n<=m.length):(List.append (List.append (List.take lo l) (List.take n m)) (List.drop (lo+n) l)).length=l.length:=by
 show((List.take lo l++List.take n m)++List.drop (lo+n) l).length=l.length;simp;omega
theorem GU {sh:Sh} (x y:El sh) {lo n:Nat} (h1:lo+n<=aQ sh x) (h2:n<=aQ sh y):aQ sh (mW sh x y lo n)=aQ sh x:=by
 cases sh with
 |sl es=>exact MQ x y h1 h2
 |rsl ss=>exact MQ x y h1 h2
 |_=>rfl
theorem Kz {α:Type} {n:Nat} {R:α->List Value->Prop} {L:List α->List Value->Prop} (hr:Ir n R L) (x y:List α) (cs ds:List Value) (hx:L x cs) (hy:L y ds) (lo k:Nat):
 L (List.append (List.append (List.take lo x) (List.take k y)) (List.drop (lo+k) x)) (cs.take (lo*n)++ds.take (k*n)++cs.drop ((lo+k)*n)):=
 hr.append _ _ _ _ (hr.append _ _ _ _ (hr.take x cs lo hx) (hr.take y ds k hy)) (hr.drop x cs (lo+k) hx)
theorem GR {F:Fz} {sh:Sh} {x y:El sh} {cs ds:List Value} (hx:uO w F sh x cs) (hy:uO w F sh y ds) (lo k:Nat):
 uO w F sh (mW sh x y lo k) (cs.take (lo*sh.n)++ds.take (k*sh.n)++cs.drop ((lo+k)*sh.n)):=by
 cases sh with
 |sl es=>exact Kz (jC es) x y cs ds hx hy lo k
 |rsl ss=>exact Kz (jR ss) x y cs ds hx hy lo k
 |_=>exact hx.elim
theorem EW {sh:Sh} (x y:El sh) (lo:Nat):mW sh x y lo 0=x:=by
 cases sh with
 |sl es=>
  show(List.take lo x++List.take 0 y)++List.drop (lo+0) x=x;rw[show List.take 0 y= []from rfl,aaQ,aaU];exact abm lo x
 |rsl ss=>
  show(List.take lo x++List.take 0 y)++List.drop (lo+0) x=x;rw[show List.take 0 y= []from rfl,aaQ,aaU];exact abm lo x
 |_=>rfl
theorem SE {c d r:CV} {lo n:Nat} (h:sK c d lo n=some r):c.sh.oW=true/\c.tg= .own/\d.tg≠ .dead/\ ∃y:El c.sh,jD d c.sh=some y/\r=⟨c.sh,.own,mW c.sh c.x y lo n⟩:=by
 obtain⟨sh,ct,x⟩:=c;obtain⟨sh',ct',y'⟩:=d
 cases sh with
 |sl es=>
  cases ct with
  |own=>
   cases sh' with
   |sl es'=>
    simp only[sK,cond_eq_ite]at h;split at h
    ·rename_i hc;have hcast:jD ⟨.sl es',.pure,y'⟩ (.sl es)=jD ⟨.sl es',ct',y'⟩ (.sl es):=rfl;rw[hcast]at h;cases hy:jD ⟨.sl es',ct',y'⟩ (.sl es)with
     |none=>rw[hy]at h;cases h
     |some y=>
      rw[hy]at h;cases h;exact⟨rfl,rfl,by rintro rfl;simp[Tg.le]at hc,y,rfl,rfl⟩
    ·cases h
   |_=>simp[sK]at h
  |_=>cases sh'<;>simp[sK]at h
 |rsl ss=>
  cases ct with
  |own=>
   cases sh' with
   |rsl es'=>
    simp only[sK,cond_eq_ite]at h;split at h
    ·rename_i hc;have hcast:jD ⟨.rsl es',.pure,y'⟩ (.rsl ss)=jD ⟨.rsl es',ct',y'⟩ (.rsl ss):=rfl;rw[hcast]at h;cases hy:jD ⟨.rsl es',ct',y'⟩ (.rsl ss)with
     |none=>rw[hy]at h;cases h
     |some y=>
      rw[hy]at h;cases h;exact⟨rfl,rfl,by rintro rfl;simp[Tg.le]at hc,y,rfl,rfl⟩
    ·cases h
   |_=>simp[sK]at h
  |_=>cases sh'<;>simp[sK]at h
 |int k=>cases sh'<;>simp[sK]at h
 |bool=>cases sh'<;>simp[sK]at h
 |str=>cases sh'<;>simp[sK]at h
 |dl _=>cases sh'<;>simp[sK]at h
 |mp _ _=>cases sh'<;>simp[sK]at h
theorem X3 {ow:aH} {q:CV} {v:Value} {l:Nat} (hs:q.sh.pF=true) (h:jE w g ow q v) (hl:lenOf q=some l): ∃A k,v= .slice A l k/\l<=k:=by
 have hd:q.tg≠ .dead:=by
  obtain⟨sh,ct,x⟩:=q;rintro rfl;cases sh<;>simp[lenOf]at hl<;>simp[Sh.pF]at hs
 have e:=(yX hs hl).1;rcases oP hs hd h with⟨A,k,hv,h0⟩|⟨ad,k,cs,hv,hlk,_⟩
 ·exact⟨A,k,by rw[hv,e,h0],by omega⟩
 ·exact⟨some ad,k,by rw[hv,e],by omega⟩
theorem run_copy_none' (w:World) {t u e:TypeId} {ty:TypeId} {i:TypeInfo} (ht:P.underlying t=some (.slice e)) (hi:P.info? e=some i) {A B:Option Addr} {dl dk sl sk:Nat} (hn:Nat.min sl dl=0):
 (Builtin.copy_ #[t,u] ty #[.slice A dl dk,.slice B sl sk]).run P w= .ok (goInt 0) w:=by
 have h1:(Builtin.firstCells i.size 0 (.slice B sl sk)).run P w= .ok #[] w:=by
  cases B with
  |none=>exact run_firstCells_none w _ _ _ _
  |some ad=>
   have:=run_firstCells_some (P:=P) w i.size 0 ad sl sk [] (by simp) (λ j v h=>by simp at h);simpa using this
 cases A with
 |none=>simp[Builtin.copy_,run_underlying ht,Builtin.lenOf,sizeOf,typeInfo,hi,hn,h1]
 |some ad=>simp[Builtin.copy_,run_underlying ht,Builtin.lenOf,sizeOf,typeInfo,hi,hn,h1,storeCells]
theorem OZ (w:World) {t u e:TypeId} {ty:TypeId} {i:TypeInfo} (ht:P.underlying t=some (.slice e)) (hi:P.info? e=some i) {b off dl dk sl sk:Nat} {ad:Addr} {news:List Value} {n:Nat} (hn:Nat.min sl dl=n)
 (hl:news.length=n*i.size) (hsp:ad.spot=none) (hc: ∀j,j<news.length->w.cell? ⟨ad.block,ad.off+j,none⟩=news[j]?) {cur:Array Value} {et:TypeId} (hg:w.heap[b]? =some (.cells cur et (0,0)))
 (hfit:off+news.length<=cur.size) (h1: ∀v,v∈news->v.oneCell'=true):
 (Builtin.copy_ #[t,u] ty #[.slice (some ⟨b,off,none⟩) dl dk,.slice (some ad) sl sk]).run P w=
  .ok (goInt n) (w.setRow b (cur.toList.take off++news++cur.toList.drop (off+news.length)).toArray):=by
 have hf:(Builtin.firstCells i.size n (.slice (some ad) sl sk)).run P w= .ok news.toArray w:=run_firstCells_some w i.size n ad sl sk news hl λ j v hv=>by
  have hj:j<news.length:=by
   rcases aaE j news.length with h|h
   ·exact h
   ·simp[aah h]at hv
  have e:ad.add j=⟨ad.block,ad.off+j,none⟩:=by
   unfold Addr.add;split
   ·rename_i e;rw[e];cases ad;simp_all
   ·rfl
  rw[e,hc j hj,hv]
 have hst:=run_storeCells_at P b off et news 0 cur w hg (by simpa using hfit) h1;simp only[aaU]at hst;simp[Builtin.copy_,run_underlying ht,Builtin.lenOf,sizeOf,typeInfo,hi,hn,hf,hst]
theorem Ya {F:Fz} {sh:Sh} {x:El sh} {cs:List Value} (h:uO w F sh x cs): ∀u,u∈cs->u.oneCell'=true:=by
 let g:Gh:=⟨λ _=>0,λ _=>none,F⟩
 have hA: ∀(es:List Sh) (x:ElA es) (cs:List Value),dO w g.F es x cs-> ∀u∈cs,u.oneCell'=true:=λ es x cs h=>
  sF (jI (rW es x)) (cells_ok (g:=g) .hand es x 0 cs h)
 cases sh with
 |sl es=>
  have gen: ∀(l:List (ElA es)) cs,eH (dO w g.F es) l cs-> ∀u∈cs,u.oneCell'=true:=by
   intro l
   induction l with
   |nil=>intro cs h u hu;rw[show cs= []from h]at hu;cases hu
   |cons e l ih=>
    rintro cs ⟨c1,c2,rfl,h1,h2⟩ u hu;rcases aau.1 hu with hu|hu
    ·exact hA es e c1 h1 u hu
    ·exact ih c2 h2 u hu
  exact gen x cs h
 |rsl ss=>
  have gen: ∀(l:List (RT (ElA ss))) cs,jg w g.F (dO w g.F ss) l cs-> ∀u∈cs,u.oneCell'=true:=by
   intro l
   induction l with
   |nil=>intro cs h u hu;rw[(jR ss).nil cs |>.1 h]at hu;cases hu
   |cons e l ih=>
    intro cs h u hu;obtain⟨c1,c2,rfl,h1,h2⟩:=((jR ss).cons e l cs).1 h;rcases aau.1 hu with hu|hu
    ·exact sF (jI (wz ss e)) (zq (g:=g) .hand ss e 0 c1 h1) u hu
    ·exact ih c2 h2 u hu
  exact gen x cs h
 |_=>exact h.elim
theorem X0 (hT:wE P E.ty) (h:Rel E C s a w g) {d:Nat} {t u:TypeId} {e:CV} {p:Pl} {lo:Nat} {hi:Option Nat} {us:List Upd} {ty:TypeId} {x y:Value}
 (hy:Rd w g e y) (hc:(wH E s d t u e p lo hi).run=some us)
 (hx: ∀q l,aW s p 1=some [q]->q.sh.pF=true->lenOf q=some l-> ∃A k,(aC a w g p.root)[p.cell]? =some (.slice A l k)/\lo<=hi.getD l/\hi.getD l<=l/\l<=k/\x=zT A k lo (hi.getD l) q.sh.n):
 ∃(n:Nat) (w':World) (g':Gh) (us1:List Upd),(Builtin.copy_ #[t,u] ty #[x,y]).run P w= .ok (goInt n) w'/\Rel E C (s.dM us1) a w' g'/\us=us1++[.tm d (L6 .i64 (n:Nat))]:=by
 unfold wH at hc;split at hc
 ·exact(aj hc).elim
 ·rename_i hsub;obtain⟨cs,hcs,hc⟩:=aU hc;have hcs:=gy hsub hcs;obtain⟨q,rfl⟩:=ED hcs;simp only[]at hc;obtain⟨hok,hc⟩:=aX hc;simp only[aad]at hok;split at hc
  ·rename_i l m hl hm;split at hc
   ·rename_i r hsp;split at hc
    ·rename_i us1 hu;obtain rfl:=ak hc;obtain⟨hspl0,hown,hnd,yy,hcast,rfl⟩:=SE hsp;have hsl:=fD hspl0;obtain⟨_,el,info,z,hun,hinf,hz,hsz,hzs,hby⟩:=yF hT hok.1;obtain⟨hsle,el2,_,_,hun2,_⟩:=yF hT hok.2;obtain⟨A,k,hroot,k1,k2,k3,k4⟩:=hx q l hcs hsl hl;have hlq:=(yX hsl hl).1;have hlm:=(yX hsle hm).1;obtain⟨e1,rfl⟩:=kF hcast;obtain⟨esh,et0,ex⟩:=e;simp only at e1;subst e1;simp only at *;obtain⟨v0,hv0,hcr,hv1⟩:=oN h hcs;rw[hroot]at hv0;cases hv0;obtain⟨qsh,qt,qx⟩:=q;simp only at *;subst hown
     let n:=Nat.min m (hi.getD l-lo)
     have still:n=0->(∃B sk,y= .slice B m sk)-> ∃(n':Nat) (w':World) (g':Gh) (us2:List Upd),(Builtin.copy_ #[t,u] ty #[x,y]).run P w= .ok (goInt n') w'/\Rel E C (s.dM us2) a w' g'/\us1++[.tm d (L6 .i64 (Nat.min m (hi.getD l-lo):Nat))]=us2++[.tm d (L6 .i64 (n':Nat))]:=by
      intro hn ⟨B,sk,hyv⟩;have hn':Nat.min m (hi.getD l-lo)=0:=hn;refine⟨0,w,g,us1,?_,?_,by rw[hn']⟩
      ·rw[k4,hyv];unfold zT;exact run_copy_none' w hun hinf hn'
      ·refine jQ h (ds:=[⟨qsh,.own,mW qsh qx _ lo (Nat.min m (hi.getD l-lo))⟩]) hcs hu rfl (Fr.refl _ _ _) h.base rfl ?_ (zu.of λ d hd _=> .inl (by rw[aam.1 hd];exact hspl0));rw[hn',EW];exact(h.pl hcs).1
     unfold Rd at hy;simp only[if_pos hsle]at hy;rcases hy hnd with⟨B,sk,rfl,hz0⟩|⟨ad,sk,ds,rfl,hlk,hspot,hels2,hcell⟩
     ·refine still ?_ ⟨B,sk,by rw[hlm,hz0]⟩;show Nat.min m (hi.getD l-lo)=0;rw[hlm,hz0];exact Nat.zero_min _
     ·by_cases hn:n=0
      ·exact still hn ⟨_,_,by rw[hlm]⟩
      ·have hnm:n<=m:=Nat.min_le_left _ _;have hnh:n<=hi.getD l-lo:=Nat.min_le_right _ _;have hkne:k≠lo:=by omega
       simp only[jE,if_pos hsl]at hcr;rcases hcr with⟨hve,_⟩|⟨b,k',cur,et,hve,hlk2,hkm,ho,hb,hcsz,hels,hf⟩
       ·exfalso;simp only[Value.slice.injEq]at hve;omega
       ·simp only[Value.slice.injEq]at hve;obtain⟨rfl,_,rfl⟩:=hve
        replace hels2:=hels2 hspl0
        replace hels:=(pV hspl0).1 hels
        have hwn:=hels2.length
        let N:=qsh.n
        have hNN:info.size=N:=hsz
        have htl:(ds.take (n*N)).length=n*N:=by
         rw[aaB,hwn];exact abK (aaw _ (by omega))
        have hadd:(⟨b,0,none⟩:Addr).add (lo*N)=⟨b,lo*N,none⟩:=by unfold Addr.add;split<;>simp_all
        have hxv:x= .slice (some ⟨b,lo*N,none⟩) (hi.getD l-lo) (k-lo):=by
         rw[k4];unfold zT;rw[if_neg hkne];show Value.slice (some ((⟨b,0,none⟩:Addr).add (lo*N))) _ _=_;rw[hadd]
        have hle1:lo*N+n*N<=l*N:=by rw[←abM];exact aaw _ (by omega)
        have hle2:l*N<=k*N:=aaw _ k3;have hcs2:cur.size=k*N:=hcsz
        let new:=(cur.toList.take (lo*N)++ds.take (n*N)++cur.toList.drop (lo*N+(ds.take (n*N)).length)).toArray
        have hrun:=OZ (P:=P) (ty:=ty) (u:=u) w hun hinf (b:=b) (off:=lo*N) (dl:=hi.getD l-lo) (dk:=k-lo) (sl:=aQ qsh ex) (sk:=sk) (ad:=ad) (news:=ds.take (n*N)) (n:=n) (by rw[←hlm])
         (by rw[hNN];exact htl) hspot (λ j hj=>by
          rw[htl]at hj;rw[hcell j (by rw[hwn];exact abb hj (aaw _ (by omega))),aaj,if_pos hj]) hb (by rw[htl];omega)
         (λ v hv=>Ya hels2 v (abv hv))
        have hF: ∀o,g.F b o->new[o]? =cur[o]? :=λ o hfo=>by
         have:=(hf o).1 hfo;simp at this
        have hk:=oD (F:=g.F) (F':=g.F) hb (new:=new) (λ _ _ h=>h) hF
        have hnsz:new.size=k*N:=by
         simp only[new,abY,aap,aaB,aa7,aa2,hcs2,hwn];have hh:n*N<=aQ qsh ex*N:=aaw _ (by omega);have hh':min (n*N) (aQ qsh ex*qsh.n)=n*N:=abK hh;rw[hh'];omega
        have hL:(cur.toList.take (l*N)).length=l*N:=by simp;omega
        have hels':uO w g.F qsh qx (cur.toList.take (l*N)):=by rw[hlq];exact hels
        have hspl:=GR hels' hels2 lo n
        have hnew:new.toList.take (l*N)=(cur.toList.take (l*N)).take (lo*N)++ds.take (n*N)++(cur.toList.take (l*N)).drop ((lo+n)*N):=by
         simp only[new,htl];rw[acH,acH,abS,abS];have e1:min (l*N) (lo*N)=lo*N:=by omega
         have e2:(cur.toList.take (l*N)).take (lo*N)=cur.toList.take (lo*N):=by rw[abS];congr 1;omega
         have e3:(cur.toList.take (lo*N)).length=lo*N:=by rw[aaB,aa2,hcs2];omega
         rw[e1,e2,aap,e3,htl];have e4:min (l*N-lo*N) (n*N)=n*N:=by omega
         rw[e4,abM,List.drop_take]
        have hlen':aQ qsh (mW qsh qx ex lo n)=l:=by
         rw[hlq];exact GU qx ex (by omega) (by omega)
        refine⟨n,w.setRow b new,g,us1,?_,?_,rfl⟩
        ·rw[hxv];exact hrun
        ·refine jQ h (ds:=[⟨qsh,.own,mW qsh qx ex lo n⟩]) hcs hu rfl (Fr.setRow hb hF λ ow kk e=> ?_) (h.base.setRow ho hb hF) rfl ?_ (zu.of λ d hd _=> .inl (by rw[aam.1 hd];exact hspl0))
         ·rw[ho]at e;cases e;exact kk.1 p.cell (aaq _) (by simp) rfl
         ·have e2:((aC a w g p.root).drop p.cell).take [(⟨qsh,.own,mW qsh qx ex lo n⟩:CV)].length= [.slice (some ⟨b,0,none⟩) l k]:=hv1;rw[e2];refine⟨_,[],rfl,?_,rfl⟩;simp only[jE,if_pos hsl];refine .inr ⟨b,k,new,et,by rw[hlen'],by rw[hlen'];exact k3,hkm,ho,setRow_heap w b cur new et _ hb,hnsz,?_,λ o=>by simpa using hf o⟩;rw[hlen'];refine(pV hspl0).2 ?_;show uO _ _ _ _ (new.toList.take (l*N));rw[hnew];exact hspl.keeps hk
    ·exact(aj hc).elim
   ·exact(aj hc).elim
  ·exact(aj hc).elim
theorem aeS (hT:wE P E.ty) {cl:Call} {x y:Operand} (ho:o.op= .call cl) (hb:cl.callee= .builtin .copy) (hx:cl.args.toList= [x,y]):qA P E C o:=by
 intro s a w g us d Q h hdst hd hp;simp only[plan,ho,hdst,hb,hx]at hp;obtain⟨ds,hpk,hp⟩:=aU hp
 have fin: ∀{e:CV} {t u:TypeId} {p:Pl} {lo:Nat} {hi:Option Nat},ds= [e]->cl.argTypes.toList= [t,u]->(wH E s d t u e p lo hi).run=some us->
  (∀q l,aW s p 1=some [q]->q.sh.pF=true->lenOf q=some l-> ∃A k,(aC a w g p.root)[p.cell]? =some (.slice A l k)/\lo<=hi.getD l/\hi.getD l<=l/\l<=k/\a.eval x=zT A k lo (hi.getD l) q.sh.n)->
  o.wp P a w (λ a' w'=> ∃g',Rel E C (s.dM us) a' w' g') Q:=by
  intro e t u p lo hi hds hat hc hxx;subst hds;obtain⟨n,w',g',us1,hrun,r2,rfl⟩:=X0 (ty:=o.type) hT h (OV h hpk) hc hxx
  have hex:(execOp a.eval o).run P w= .ok (.value (goInt n)) w':=by
   have hargs:cl.args= #[x,y]:=by apply abh.1;simpa using hx
   have hats:cl.argTypes= #[t,u]:=by apply abh.1;simpa using hat
   obtain⟨callee,args,argTypes⟩:=cl;simp only at hb hargs hats;subst hb hargs hats;simp only[execOp,ho,resolve,invoke,builtin,acG,abf,acK,Sem.run_bind,Sem.run_pure,Result.andThen_ok];simp[hrun]
  unfold Oper.wp;rw[hex,Oper.upon_value,hdst,dS];exact⟨g',r2.O8 (mk:= .hand) hd rfl (oH .i64 (n:Nat))⟩
 split at hp
 ·rename_i e t u p z lo hi hat hax;have hv:=aN h hax (by simp);obtain⟨_,_,hsub,_,hv⟩:=hv;refine fin rfl hat hp λ q l hq hqs hl=> ?_;obtain⟨A,l',k,e1,k1,k2,k3,k4⟩:=hv q hq;obtain⟨v0,hv0,hcr,_⟩:=oN h hq;rw[e1]at hv0;cases hv0;obtain⟨A',k',hvv,_⟩:=X3 hqs hcr hl;have hl':l'=l:=by cases hvv;rfl
  subst hl';exact⟨A,k,e1,k1,k2,k3,k4⟩
 ·rename_i e t u p hat hax;have hv:=aN h hax (by simp);obtain⟨_,_,hsub,hv⟩:=hv;refine fin rfl hat hp λ q l hq hqs hl=> ?_;obtain⟨k1,k2⟩:=hv _ hq;obtain⟨v0,hv0,hcr,hv1⟩:=oN h hq
  have hv0':a.eval x=v0:=by
   rw[aJ k1]at k2;rw[hv1]at k2;simpa using k2
  obtain⟨A,k,hvv,hlk⟩:=X3 hqs hcr hl;refine⟨A,k,by rw[hv0,hvv],abA _,aaq _,hlk,?_⟩;rw[hv0',hvv];unfold zT;simp only[Option.getD_none,Nat.sub_zero,Nat.zero_mul];split
  ·rfl
  ·cases A with
   |none=>rfl
   |some ad=>
    have e:ad.add 0=ad:=by
     simp[Addr.add]
    show Value.slice (some ad) l k=Value.slice (some (ad.add 0)) l k;rw[e]
 ·exact(aj hp).elim
end
end Go.AM
end
section
namespace Go.AM
open Go
section
variable {P:Program} {E:Env} {C:Ctx} {s s':St} {a a':Act} {w w':World} {g g':Gh} {o:Oper} {Q:Exit->Act->World->Prop}
theorem GY {z:Array Value} {n m:Nat} (hz:z.size=m):Builtin.zeroCells z n=madeCells z (n*m):=by
 unfold Builtin.zeroCells madeCells;rw[hz]
theorem LJ (w:World) {t e ty:TypeId} (ht:P.underlying t=some (.slice e)) {A:Option Addr} {k:Nat}:(Builtin.clear_ #[t] ty #[.slice A 0 k]).run P w= .ok (.tuple #[]) w:=by
 cases A<;>simp[Builtin.clear_,run_underlying ht]
theorem LK (w:World) {t e ty:TypeId} {i:TypeInfo} {z:Value} (ht:P.underlying t=some (.slice e)) (hi:P.info? e=some i) (hz:i.zero=some z) {b off n k:Nat} (hn:n≠0) {news:List Value}
 (hnw:news=(Builtin.zeroCells z.cells n).toList) {cur:Array Value} {et:TypeId} (hg:w.heap[b]? =some (.cells cur et (0,0))) (hfit:off+news.length<=cur.size) (h1: ∀v,v∈news->v.oneCell'=true):
 (Builtin.clear_ #[t] ty #[.slice (some ⟨b,off,none⟩) n k]).run P w= .ok (.tuple #[]) (w.setRow b (cur.toList.take off++news++cur.toList.drop (off+news.length)).toArray):=by
 have hst:=run_storeCells_at P b off et news 0 cur w hg (by simpa using hfit) h1;simp only[aaU]at hst;subst hnw;obtain⟨n,rfl⟩: ∃m,n=m+1:=⟨n-1,by omega⟩;simp[Builtin.clear_,run_underlying ht,zeroValue,typeInfo,hi,hz,hst]
theorem ZI {F:Fz} {es:List Sh} {el:ElA es} {z:Value} {n:Nat} (hd:(es.all λ s=> !s.acW)=true) (hm:(es.all λ s=> !s.Ie)=true) (hzc:z.cells.size=es.length) (hcells:z.cells.toList=es.map zeroV) (he:fZ es (es.map λ s=>⟨s,.pure,kM s⟩)=some el):
 uO w F (.sl es) (List.replicate n el) (Builtin.zeroCells z.cells n).toList:=by
 let g:Gh:=⟨λ _=>0,λ _=>none,F⟩
 rw[GY hzc];refine(jC (w:=w) (F:=g.F) es).replicate n _ (by simp[madeCells]) λ i hi=> ?_;rw[QV hzc hi,hcells];exact BP (g:=g) .hand es _ el 0 _ he (λ c hc=>by obtain⟨_,_,rfl⟩:=aaL.1 hc;rfl) (BN .hand es 0 hd hm)
theorem adi (hT:wE P E.ty) {cl:Call} {x:Operand} {t:TypeId} (ho:o.op= .call cl) (hb:cl.callee= .builtin .clear) (hx:cl.args.toList= [x]) (ht:cl.argTypes.toList= [t]) (hd:o.dst=none) (h:Rel E C s a w g) {us:List Upd} (hp:(MF E s t x).run=some us):
 o.wp P a w (λ a' w'=> ∃g',Rel E C (s.dM us) a' w' g') Q:=by
 unfold MF at hp;split at hp
 ·rename_i p zf lo hi hax;split at hp
  ·exact(aj hp).elim
  ·rename_i hsub;obtain⟨cs,hcs,hp⟩:=aU hp;have hcs:=gy hsub hcs;obtain⟨q,rfl⟩:=ED hcs;simp only[]at hp;obtain⟨hok,hp⟩:=aX hp;split at hp
   ·rename_i r hr;have hu:=Eb hp;obtain⟨_,_,_,_,hv⟩:=aN h hax (by simp);obtain⟨A,l,k,hroot,k1,k2,k3,k4⟩:=hv q hcs;obtain⟨hsl,e,j,info,z,de,hun,⟨hnm,_⟩,hj,hjc,hat,hsz⟩:=Bq hT hok;obtain⟨v0,hv0,hcr,hv1⟩:=oN h hcs;rw[hroot]at hv0;cases hv0
    have fin: ∀w',(Builtin.clear_ #[t] o.type #[a.eval x]).run P w= .ok (.tuple #[]) w'->(∃g',Rel E C (s.dM us) a w' g')->o.wp P a w (λ a' w'=> ∃g',Rel E C (s.dM us) a' w' g') Q:=by
     intro w' hrun hrel
     have hex:(execOp a.eval o).run P w= .ok (.value (.tuple #[])) w':=by
      have hargs:cl.args= #[x]:=by apply abh.1;simpa using hx
      have hats:cl.argTypes= #[t]:=by apply abh.1;simpa using ht
      obtain⟨callee,args,argTypes⟩:=cl;simp only at hb hargs hats;subst hb hargs hats;simp only[execOp,ho,resolve,invoke,builtin,acG,abf,acK,Sem.run_bind,Sem.run_pure,Result.andThen_ok];simp[hrun]
     unfold Oper.wp;rw[hex,Oper.upon_value,hd];exact hrel
    obtain⟨qsh,qt,qx⟩:=q;unfold adR at hr;split at hr
    ·rename_i es lst heq;cases heq;split at hr
     ·rename_i el hel;cases hr
      have hzc:z.cells.size=es.length:=by
       have:=congrArg List.length hat.cells;rw[hjc]at this;simpa [jZ,Sh.n]using this
      have hcells:z.cells.toList=es.map zeroV:=by rw[hat.cells,hjc];rfl
      have hnd:(es.all λ s=> !s.acW)=true:=by have:=hat.noDl;rw[hjc]at this;exact this
      have hnew:List.append (List.append (List.take lo lst) (List.replicate (hi-lo) el)) (List.drop hi lst)=mW (.sl es) lst (List.replicate (hi-lo) el) lo (hi-lo):=by
       show(List.take lo lst++List.replicate (hi-lo) el)++List.drop hi lst=(List.take lo lst++List.take (hi-lo) (List.replicate (hi-lo) el))++List.drop (lo+(hi-lo)) lst;rw[aaF (by simp),show lo+(hi-lo)=hi by omega]
      have hspl0:(Sh.sl es).oW=true:=rfl;rw[hnew]at hu;by_cases hn:hi-lo=0
      ·refine fin w ?_ ⟨g,?_⟩
       ·rw[k4];unfold zT;rw[hn];exact LJ w hun
       ·refine jQ h (ds:=[⟨.sl es,.own,mW (.sl es) lst _ lo (hi-lo)⟩]) hcs hu rfl (Fr.refl _ _ _) h.base rfl ?_ (zu.of λ d hd _=> .inl (by rw[aam.1 hd];rfl))
        have hz0:mW (.sl es) lst (List.replicate (hi-lo) el) lo (hi-lo)=lst:=by
         have:=EW (sh:= .sl es) lst (List.replicate (hi-lo) el) lo;rw[←hn]at this;exact this
        have hz1:(⟨.sl es,.own,mW (.sl es) lst (List.replicate (hi-lo) el) lo (hi-lo)⟩:CV)=⟨.sl es,.own,lst⟩:=congrArg (CV.mk (.sl es) .own) hz0;rw[hz1];exact(h.pl hcs).1
      ·have hkne:k≠lo:=by omega
       simp only[jE,Sh.pF,if_true]at hcr;rcases hcr with⟨hve,_⟩|⟨b,k',cur,et,hve,hlk2,hkm,ho',hbb,hcsz,hels,hf⟩
       ·exfalso;simp only[Value.slice.injEq]at hve;omega
       ·simp only[Value.slice.injEq]at hve;obtain⟨rfl,hll,rfl⟩:=hve
        replace hels:=(pV hspl0).1 hels
        let N:=(Sh.sl es).n
        let news:=(Builtin.zeroCells z.cells (hi-lo)).toList
        have htl:news.length=(hi-lo)*N:=by
         simp only[news];rw[GY hzc];simp[madeCells,N,Sh.n]
        have hels2:uO w g.F (.sl es) (List.replicate (hi-lo) el) news:=ZI hnd (by rw[hjc]at hnm;exact hnm) hzc hcells hel;have hle1:lo*N+(hi-lo)*N<=l*N:=by rw[←abM];exact aaw _ (by omega)
        have hle2:l*N<=k*N:=aaw _ k3;have hcs2:cur.size=k*N:=hcsz
        have hxv:a.eval x= .slice (some ⟨b,lo*N,none⟩) (hi-lo) (k-lo):=by
         rw[k4];unfold zT;rw[if_neg hkne];show Value.slice (some ((⟨b,0,none⟩:Addr).add (lo*N))) _ _=_;rw[addr_add rfl,aaW]
        let new:=(cur.toList.take (lo*N)++news++cur.toList.drop (lo*N+news.length)).toArray
        have hrun:=LK (P:=P) (ty:=o.type) w hun hat.inf hat.zero (b:=b) (off:=lo*N) (n:=hi-lo) (k:=k-lo) hn (news:=news) rfl hbb (by rw[htl];omega) (Ya hels2)
        have hF: ∀o,g.F b o->new[o]? =cur[o]? :=λ o hfo=>by
         have:=(hf o).1 hfo;simp at this
        have hk:=oD (F:=g.F) (F':=g.F) hbb (new:=new) (λ _ _ h=>h) hF
        have hnsz:new.size=k*N:=by
         simp only[new,abY,aap,aaB,aa7,aa2,hcs2,htl];omega
        have hels':uO w g.F (.sl es) lst (cur.toList.take (l*N)):=by rw[hll];exact hels
        have hspl:=GR hels' hels2 lo (hi-lo)
        have hnew2:new.toList.take (l*N)=(cur.toList.take (l*N)).take (lo*N)++news.take ((hi-lo)*N)++(cur.toList.take (l*N)).drop ((lo+(hi-lo))*N):=by
         simp only[new,htl];rw[acH,acH,abS];have e1:min (l*N) (lo*N)=lo*N:=by omega
         have e2:(cur.toList.take (l*N)).take (lo*N)=cur.toList.take (lo*N):=by rw[abS];congr 1;omega
         have e3:(cur.toList.take (lo*N)).length=lo*N:=by rw[aaB,aa2,hcs2];omega
         rw[e1,e2,aap,e3,htl,aaF (l:=news) (by omega),aaF (l:=news) (by omega),abM,List.drop_take]
        have hlen':aQ (.sl es) (mW (.sl es) lst (List.replicate (hi-lo) el) lo (hi-lo))=l:=by
         rw[hll];exact GU lst _ (by rw[←hll];omega) (by show _<=List.length _;simp)
        refine fin (w.setRow b new) (by rw[hxv];exact hrun) ⟨g,?_⟩;refine jQ h (ds:=[⟨.sl es,.own,mW (.sl es) lst _ lo (hi-lo)⟩]) hcs hu rfl (Fr.setRow hbb hF λ ow kk e=> ?_) (h.base.setRow ho' hbb hF) rfl ?_ (zu.of λ d hd _=> .inl (by rw[aam.1 hd];rfl))
        ·rw[ho']at e;cases e;exact kk.1 p.cell (aaq _) (by simp) rfl
        ·have e2:((aC a w g p.root).drop p.cell).take [(⟨.sl es,.own,mW (.sl es) lst (List.replicate (hi-lo) el) lo (hi-lo)⟩:CV)].length= [.slice (some ⟨b,0,none⟩) l k]:=hv1;rw[e2];refine⟨_,[],rfl,?_,rfl⟩;simp only[jE,Sh.pF,if_true];refine .inr ⟨b,k,new,et,by rw[hlen'],by rw[hlen'];exact k3,hkm,ho',setRow_heap w b cur new et _ hbb,hnsz,?_,λ o=>by simpa using hf o⟩;rw[hlen'];refine(pV hspl0).2 ?_;show uO _ _ _ _ (new.toList.take (l*N));rw[hnew2];exact hspl.keeps hk
     ·cases hr
    ·cases hr
   ·exact(aj hp).elim
 ·exact(aj hp).elim
end
end Go.AM
end
section
namespace Go.AM
open Go MapKept
section
variable {P:Program} {E:Env} {C:Ctx} {s s':St} {a a':Act} {w w':World} {g g':Gh} {o:Oper} {Q:Exit->Act->World->Prop}
def Xg (w:World) (b:Nat) (o:Obj):World:={w with heap:=w.heap.setIfInBounds b o}
theorem yE {b:Nat} {o o':Obj} (hb:w.heap[b]? =some o):(Xg w b o').heap[b]? =some o'/\ ∀c,c≠b->(Xg w b o').heap[c]? =w.heap[c]? :=heap_set hb
theorem Nq {b:Nat} {o o':Obj} (hb:w.heap[b]? =some o) {F:Fz} (hF: ∀o,¬F b o):Keeps w (Xg w b o') F F:=
 ⟨λ _ _ h=>h,λ b' p hf=>by
  have hne:b'≠b:=by rintro rfl;exact hF p hf
  simp only[World.cell?,(yE (o':=o') hb).2 b' hne]⟩
theorem Base.Xg {w0:World} {F0:Fz} {X:Nat->Prop} (h:Base w0 F0 X w g) {b:Nat} {ow:aH} (ho:g.own b=some ow) {o:Obj} {es:Array MapEntry} {c:Nat} (hb:w.heap[b]? =some o) (hF: ∀o,¬g.F b o):Base w0 F0 X (Xg w b (.map es c)) g:=
 ⟨h.os,h.tape,h.output,by simpa [AM.Xg]using h.size,λ b' hb' hx=>by
  have:b'≠b:=by
   rintro rfl;rcases(h.own b' ow ho).1 with k|k
   ·exact hx k
   ·omega
  rw[(yE hb).2 b' this];exact h.blk b' hb' hx,λ b' ow' e=>by simpa [AM.Xg]using h.own b' ow' e,
  h.keeps.trans (Nq hb hF),λ b' p hf=>by simpa [AM.Xg]using h.fz b' p hf,λ b' ow' cs t f hx hc=>by
  by_cases hbe:b'=b
  ·subst hbe;rw[(yE hb).1]at hc;cases hc
  ·rw[(yE hb).2 b' hbe]at hc;exact h.frz b' ow' cs t f hx hc⟩
def descOf:Sh->TypeDesc| .int k=> .int k| .bool=> .bool|_=> .string
theorem BL {k:Sh} (hk:k.scalar=true) (y:El k):IsKey (descOf k) (scV k y):=by
 cases k<;>first|trivial|rfl|cases hk
theorem ae7 {k:Sh} (hk:k.scalar=true) (y x:El k):Instr.sameNow (descOf k) (scV k y) (scV k x)=some (keq k y x):=by
 cases k with
 |int q=>simp only[descOf,scV,Instr.sameNow,if_true,keq];rfl
 |bool=>rfl
 |str=>
  simp only[descOf,scV,Instr.sameNow,keq];congr 1;exact acu.2 ((bytes_beq (y:ByteArray) x).trans (@decide_eq_true_iff (@Eq ByteArray y x) ((inferInstance:DecidableEq ByteArray) y x)).symm)
 |_=>cases hk
theorem agx {k:Sh} {y x:El k} (h:keq k y x=true):y=x:=by
 cases k with
 |int q=>exact @of_decide_eq_true (@Eq Int y x) (Int.instDecidableEq y x) h
 |bool=>exact eq_of_beq (α:=Bool) h
 |str=>exact @of_decide_eq_true (@Eq ByteArray y x) ((inferInstance:DecidableEq ByteArray) y x) h
 |_=>cases h
theorem TF {k e:Sh} (hk:k.scalar=true) (y:El k): ∀(l:List (El k×El e)) (L:List MapEntry) (i:Nat),L.map (λ q=>(q.key,q.val))=l.map (λ p=>(scV k p.1,scV e p.2))->
 (og (keq k) y l=none/\Instr.findNow (descOf k) (scV k y) L i=some none/\ ∀z,E5 (keq k) y z l=l++[(y,z)])\/
 ∃z j q,og (keq k) y l=some z/\Instr.findNow (descOf k) (scV k y) L i=some (some (i+j,scV e z))/\L[j]? =some q/\q.key=scV k y/\
  ∀z',(L.modify j λ q=>{q with key:=scV k y,val:=scV e z'}).map (λ q=>(q.key,q.val))=(E5 (keq k) y z' l).map λ p=>(scV k p.1,scV e p.2)
 | [],[],i,_=> .inl ⟨rfl,rfl,λ _=>rfl⟩
 | [],_::_,i,h=>by simp at h
 |_::_,[],i,h=>by simp at h
 |p::l,q::L,i,h=>by
  simp only[abf,aa5,aas]at h;obtain⟨⟨h1,h2⟩,h3⟩:=h;have hs:=ae7 hk y p.1
  cases hq:keq k y p.1 with
  |true=>
   rw[hq]at hs;refine .inr ⟨p.2,0,q,by simp[og,hq],by simp[Instr.findNow,h1,hs,h2],rfl,by rw[h1,agx hq],λ z'=> ?_⟩;simp[E5,hq,h3]
  |false=>
   rw[hq]at hs;rcases TF hk y l L (i+1) h3 with⟨k1,k2,k3⟩|⟨z,j,r,k1,k2,k3,k4,k5⟩
   ·exact .inl ⟨by simp[og,hq,k1],by simp[Instr.findNow,h1,hs,k2],λ z=>by simp[E5,hq,k3]⟩
   ·refine .inr ⟨z,j+1,r,by simp[og,hq,k1],by simp[Instr.findNow,h1,hs,k2];omega,by simpa using k3,k4,λ z'=> ?_⟩;simp[E5,hq,k5,h1,h2]
theorem ae8 {ty:TypeId->Option TyI} {t:TypeId} {i:TyI} {info:TypeInfo} {d:TypeDesc} {z:Value} (h:GZ P ty t i info d z) {k:Sh} (hk:k.scalar=true) (hc:i.cells= [k]) (ha:i.ag=false):d=descOf k:=by
 cases k with
 |int q=>exact h.int hc ha
 |bool=>exact h.bool hc ha
 |str=>exact h.str hc ha
 |_=>cases hk
theorem ae9 {k:Sh} (hk:k.scalar=true):zeroV k=scV k (kM k):=by cases k<;>first|rfl|cases hk
theorem FU {F:Fz} {k:Sh} (hk:k.scalar=true) (x:El k):jo w F k x (scV k x)/\isAgg (scV k x)=false/\(scV k x).cells= #[scV k x]:=by
 cases k<;>first|exact⟨rfl,rfl,rfl⟩|cases hk
theorem aeZ {F:Fz} {k:Sh} (hk:k.scalar=true) {x:El k} {v:Value} (h:jo w F k x v):v=scV k x:=by
 cases k<;>first|exact h|cases hk
theorem YL (hT:wE P E.ty) {t:TypeId} {k e:Sh} (h:aeL E t k e=true):k.scalar=true/\e.scalar=true/\ ∃kt et,P.underlying t=some (.map kt et)/\P.underlying kt=some (descOf k)/\ ∀w,(zeroValue et).run P w= .ok (scV e (kM e)) w:=by
 unfold aeL at h;split at h
 ·rename_i k' e' f1 kt' et' hi;simp only[aad]at h;obtain⟨⟨⟨h1,h2⟩,h3⟩,h4⟩:=h;obtain rfl:=Sh.eq_of_beq h1;obtain rfl:=Sh.eq_of_beq h2;obtain⟨info,de,z,hat⟩:=hT.at_ hi;obtain⟨kt,et,j,l,hd,hj,hl,_,_,ja,la,jc,lc⟩:=hat.mp rfl rfl;obtain⟨i1,d1,z1,at1⟩:=hT.at_ hj;obtain⟨i2,d2,z2,at2⟩:=hT.at_ hl;refine⟨h3,h4,kt,et,by rw[hat.und,hd],by rw[at1.und,ae8 at1 h3 jc ja],λ w=> ?_⟩
  have hz:z2=scV e (kM e):=by
   have hc:=at2.cells;rw[lc]at hc;have hag:=at2.agg;rw[la]at hag;rw[aJ hag]at hc;simp only[abf,acK,aa5,and_true]at hc;rw[hc,ae9 h4]
  simp[zeroValue,typeInfo,at2.inf,at2.zero,hz,Result.andThen]
 ·cases h
theorem JL (h:Rel E C s a w g) {x:Operand} {k:Sh} {y:El k} (hk:k.scalar=true) (hp:CZ E s x k=some y):a.eval x=scV k y:=by
 unfold CZ at hp;split at hp
 ·rename_i sh' y' hx;obtain⟨u,_,h1,h2⟩:=(aN h hx (by simp)).one;rw[←h2 rfl];exact aeZ (w:=w) (F:=g.F) hk (yL (w:=w) (g:=g) hp ((qH rfl).1 h1))
 ·cases hp
theorem Uu (h:Rel E C s a w g) {x:Operand} {p:Pl} {c:CV} (hm:YJ E s x=some (p,c)):p.sub=none/\aW s p 1=some [c]/\jE w g (dJ p.root p.cell) c (a.eval x)/\((aC a w g p.root).drop p.cell).take 1= [a.eval x]:=by
 unfold YJ at hm;split at hm
 ·rename_i q hx;split at hm
  ·rename_i c' hs hc;cases hm;obtain⟨ho,hv,hsub,hval⟩:=aN h hx (by simp);obtain⟨hag,hcells⟩:=hval _ hc;obtain⟨u,e2,hr,e3⟩:=oN h hc;rw[e3]at hcells;rw[aJ hag]at hcells;simp only[aa5,and_true]at hcells;subst hcells;exact⟨hs,hc,hr,e3⟩
  ·cases hm
 ·cases hm
theorem ais {k:Sh} (hk:k.scalar=true) (x:El k):TV s a w g .hand (.val false [⟨k,.pure,x⟩]) (scV k x):=
 zh w g .hand (c:=⟨k,.pure,x⟩) rfl (FU (w:=w) (F:=g.F) hk x).2.1 (FU hk x).1 (FU (w:=w) (F:=g.F) hk x).2.2
theorem YU (hT:wE P E.ty) {t:TypeId} {m x:Operand} {ok:Bool} (ho:o.op= .lookup t m x ok):qA P E C o:=by
 intro s a w g us d Q h hdst hd hp;simp only[plan,ho,hdst,YG]at hp;split at hp
 ·rename_i p k e l hm;obtain⟨hty,hp⟩:=aX hp;obtain⟨hk,he,kt,et,hu,hku,hz⟩:=YL hT hty;split at hp
  ·rename_i y hy;obtain⟨_,_,hr,_⟩:=Uu h hm;have hx:=JL h hk hy
   have key:(Instr.lookup t (a.eval m) (a.eval x) ok).run P w= .ok (if ok then .tuple #[scV e ((og (keq k) y (l9 l)).getD (kM e)),.bool (og (keq k) y (l9 l)).isSome]else scV e ((og (keq k) y (l9 l)).getD (kM e))) w:=by
    rw[hx];rcases(show SS w g _ (.mp k e) l _ from hr)with⟨hv,rfl⟩|⟨b,l',rfl,hv,_,⟨es,c,hb,hes⟩,_⟩
    ·rw[hv];have hf:Instr.findNow (descOf k) (scV k y) [] 0=some none:=rfl;simp[Instr.lookup,run_underlying hu,run_checkKey hku (BL hk y),run_findKey hku hf,hz,Result.andThen,l9,og]
    ·rw[hv];rcases TF (e:=e) hk y l' es.toList 0 hes with⟨k1,k2,_⟩|⟨z,j,q,k1,k2,_⟩
     ·simp[Instr.lookup,run_underlying hu,run_getObj_map hb,run_checkKey hku (BL hk y),run_findKey hku k2,hz,Result.andThen,l9,k1]
     ·simp[Instr.lookup,run_underlying hu,run_getObj_map hb,run_checkKey hku (BL hk y),run_findKey hku k2,Result.andThen,l9,k1]
   have hex:(execOp a.eval o).run P w= .ok (.value (if ok then .tuple #[scV e ((og (keq k) y (l9 l)).getD (kM e)),.bool (og (keq k) y (l9 l)).isSome]else scV e ((og (keq k) y (l9 l)).getD (kM e)))) w:=by
    simp only[execOp,ho,Sem.run_bind,key,Result.andThen_ok,Sem.run_pure]
   cases ok with
   |false=>
    obtain rfl:=ak hp;exact bK (mk:= .hand) h hdst hd hex rfl (ais he _)
   |true=>
    obtain rfl:=ak hp;refine bK (mk:= .hand) h hdst hd hex rfl ⟨_,rfl,scV e _,_,rfl,⟨(FU (w:=w) (F:=g.F) he _).2.1,?_⟩,.bool _,[],rfl,⟨rfl,_,[],rfl,rfl,rfl⟩,rfl⟩;rw[(FU (w:=w) (F:=g.F) he _).2.2];exact⟨_,[],rfl,(FU he _).1,rfl⟩
  ·exact(aj hp).elim
 ·exact(aj hp).elim
theorem adg (hT:wE P E.ty) {op:BinOp} {t t':TypeId} {x y:Operand} (ho:o.op= .binOp op t x y t'):qA P E C o:=by
 cases hy:Vs y with
 |false=>exact YT hT ho hy
 |true=>
  intro s a w g us d Q h hdst hd hp;simp only[plan,ho,hdst,hy,cond_true]at hp;obtain⟨hty,hp⟩:=aX hp;obtain⟨kt,et,hu⟩:=Vy hT hty
  obtain rfl:y= .const (.map none):=by
   unfold Vs at hy;split at hy
   ·rfl
   ·cases hy
  unfold YO at hp;split at hp
  ·rename_i p k e l hm _;obtain rfl:=ak hp;obtain⟨_,_,hr,_⟩:=Uu h hm;refine bK (mk:= .hand) h hdst hd ?_ rfl (sV _)
   have heq:(Op.equal t (a.eval x) (.map none)).run P w= .ok (Option.isNone l) w:=by
    unfold Op.equal Op.maxDepth;rw[show(10000:Nat)=9999+1 from rfl,Op.equalIn];rcases(show SS w g _ (.mp k e) l _ from hr)with⟨hv,rfl⟩|⟨b,l',rfl,hv,_⟩<;>(rw[hv];simp only[Sem.run_bind,run_underlying hu,Result.andThen_ok,Sem.run_pure];rfl)
   have ge:eqGuard .eql t x (.const (.map none)) (a.eval x) (.map none)=pure ():=by
    rcases(show SS w g _ (.mp k e) l _ from hr)with⟨hv,_⟩|⟨b,l',_,hv,_⟩<;>rw[hv]<;>rfl
   simp only[execOp,ho];have ec:a.eval (.const (.map none))= .map none:=rfl
   have hbin:binOp .eql t (a.eval x) (.map none)=(do pure (Value.bool (←Op.equal t (a.eval x) (.map none)))):=by
    rcases(show SS w g _ (.mp k e) l _ from hr)with⟨hv,_⟩|⟨b,l',_,hv,_⟩<;>rw[hv]<;>rfl
   rw[ec,ge,hbin];simp only[Sem.run_bind,Sem.run_pure,Result.andThen_ok,heq]
  ·exact(aj hp).elim
theorem WY (hT:wE P E.ty) {t t':TypeId} {x:Operand} (ho:o.op= .convert t' t x):qA P E C o:=by
 cases hb:Z4 E t'&&LY E t with
 |false=>exact UA hT ho hb
 |true=>
  intro s a w g us d Q h hdst hd hp;simp only[plan,ho,hdst,hb,cond_true]at hp;simp only[aad]at hb;have hus:=Ik hT hb.2
  obtain⟨e,hue,he8⟩: ∃e,P.underlying t'=some (.slice e)/\P.underlying e=some (.int .u8):=by
   have h1:=hb.1;unfold Z4 at h1;split at h1
   ·rename_i e hi;obtain⟨info,de,z,hat⟩:=hT.at_ hi;obtain⟨e',j,rfl,he,_⟩:=hat.slice (sh:= .sl [.int .u8]) rfl rfl rfl;cases he;split at h1
    ·rename_i h2;exact⟨_,hat.und,Oy hT h2⟩
    ·cases h1
   ·cases h1
  unfold PV at hp;obtain⟨cs,hpk,hp⟩:=aU hp;split at hp
  ·rename_i tg l;obtain⟨hle,hp⟩:=aX hp;obtain rfl:=ak hp;have hrd:=OV h hpk;have hnd:tg≠ .dead:=by rintro rfl;cases hle
   have hrd:(∃A k,a.eval x= .slice A 0 k/\List.length l=0)\/ ∃(ad:Addr) (k:Nat) (cs:List Value),a.eval x= .slice (some ad) (List.length l) k/\List.length l<=k/\ad.spot=none/\(true=true->uO w g.F (.sl [.int .u8]) l cs)/\ ∀j,j<cs.length->w.cell? ⟨ad.block,ad.off+j,none⟩=cs[j]? :=hrd hnd
   have key:(convert t' t (a.eval x)).run P w= .ok (.string (wo l)) w:=by
    rcases hrd with⟨A,k,hv,hl⟩|⟨ad,k,cs,hv,_,hsp,hel,hcell⟩
    ·obtain rfl:l= []:=aav hl;rw[hv]
     cases A with
     |none=>exact run_convert_bytes_nil w t' e hue he8 0 k t hus
     |some ad=>
      obtain⟨b,off,sp⟩:=ad;rw[run_convert_bytes_string w t' t e _ 0 k hue he8 hus,run_bytesToString w _ 0 k [] (by simp[loadCells,loadCellsFrom])];rfl
    ·obtain⟨b,off,sp⟩:=ad;simp only at hsp;subst hsp;rw[hv];have hels:=hel rfl
     have hcs: ∀(l:List Int) (cs:List Value),eH (dO w g.F [.int .u8]) l cs->cs=l.map (Value.int .u8):=by
      intro l
      induction l with
      |nil=>intro cs h;exact h
      |cons n l ih=>
       rintro cs ⟨c1,c2,rfl,h1,h2⟩;obtain⟨v,rfl,hv⟩:=(show∃v,c1= [v]/\jo w g.F (.int .u8) n v from h1);rw[show v= .int .u8 n from hv,ih c2 h2];rfl
     have hce:=hcs l cs hels
     have run:=λ(l:List Int) (hcell: ∀j,j<(l.map (Value.int .u8)).length->w.cell? ⟨b,off+j,none⟩=(l.map (Value.int .u8))[j]?)=>run_convert_bytes_arg w t' e hue he8 b off l.length k l rfl (λ i hi=>by
      rw[hcell i (by simpa using hi)];simp[List.getD,aac hi]) t hus
     exact run l (by rw[hce]at hcell;exact hcell)
   refine bK (mk:= .hand) h hdst hd ?_ rfl (ZC _);simp only[execOp,ho,Sem.run_bind,key,Result.andThen_ok,Sem.run_pure]
  ·exact(aj hp).elim
theorem aeH (h:Rel E C s a w g) {d:Nat} (hd:DOk E d) (k e:Sh):
 ∃g',Rel E C (s.dM [.tm d (.val false [⟨.mp k e,.own,some []⟩])]) (a.put (some d) (.map (some w.heap.size))) (w.alloc (.map #[] 0)) g':=by
 have hown: ∀b ow,g.own b=some ow->b<w.heap.size:=λ b ow e=>(h.base.own b ow e).2;have hF: ∀b o,g.F b o->b<w.heap.size:=λ b o e=>(h.base.fz b o e).2;have f:=Fr.new (K:=λ o=> ∀i,o≠ .hand i) hown hF (ρ:=id) (λ _ _=>rfl) (.map #[] 0) (.hand 0);have r1:=h.world f (h.base.new _ _ (λ _ _ _ e=>by cases e) _) rfl;obtain⟨g2,r2,_,_⟩:=r1.xI hd (v:= .map (some w.heap.size)) (ag:=false) (cs:=[⟨.mp k e,.own,some []⟩]) rfl ⟨_,[],rfl,.inr ⟨w.heap.size,[],rfl,rfl,by simp[Gh.new],⟨#[],0,mM,rfl⟩,λ o ho=>by have:=hF _ _ ho;omega⟩,rfl⟩;exact⟨g2,r2⟩
theorem W9 (hT:wE P E.ty) {t:TypeId} {r:Option Operand} (ho:o.op= .makeMap t r):qA P E C o:=by
 intro s a w g us d Q h hdst hd hp
 cases r with
 |some r=>simp only[plan,ho,hdst]at hp;exact(aj hp).elim
 |none=>
  simp only[plan,ho,hdst]at hp;split at hp
  ·rename_i c hc;obtain rfl:=ak hp;unfold agB at hc;split at hc
   ·rename_i k e f1 kt et hi;simp only[cond_eq_ite]at hc;split at hc
    ·cases hc;obtain⟨g2,r2⟩:=aeH h hd k e;unfold Oper.wp
     have hex:(execOp a.eval o).run P w= .ok (.value (.map (some w.heap.size))) (w.alloc (.map #[] 0)):=by
      have hrun:(Instr.makeMap t none).run P w= .ok (.map (some w.heap.size)) (w.alloc (.map #[] 0)):=rfl;simp only[execOp,ho,Sem.run_bind,Option.map_none,hrun,Result.andThen_ok,Sem.run_pure]
     rw[hex,Oper.upon_value,hdst];exact⟨g2,r2⟩
    ·cases hc
   ·cases hc
  ·exact(aj hp).elim
theorem Ri (hT:wE P E.ty) {t:TypeId} {m x y:Operand} (ho:o.op= .mapUpdate t m x y) (hd:o.dst=none) (h:Rel E C s a w g) {us:List Upd} (hp:(Xc E s t m x y).run=some us):
 o.wp P a w (λ a' w'=> ∃g',Rel E C (s.dM us) a' w' g') Q:=by
 unfold Xc at hp;split at hp
 ·rename_i p k e l hm;obtain⟨hty,hp⟩:=aX hp;obtain⟨hk,he,kt,et,hu,hku,hz⟩:=YL hT hty;split at hp
  ·rename_i u v hx hv;obtain⟨l',hl',hp⟩:=yU hp;obtain rfl:l=some l':=hl';have hu2:=Eb hp;obtain⟨hsub,hpl,hr,hroot⟩:=Uu h hm;have ex:=JL h hk hx;have ey:=JL h he hv;rcases(show SS w g _ (.mp k e) (some l') _ from hr)with⟨_,h0⟩|⟨b,l2,h0,hval,hown,⟨es,c,hb,hes⟩,hf⟩
   ·cases h0
   cases h0
   have hrun: ∃es' c',(Instr.mapUpdate t (a.eval m) (a.eval x) (a.eval y)).run P w= .ok () (Xg w b (.map es' c'))/\es'.toList.map (λ q=>(q.key,q.val))=(E5 (keq k) u v l').map λ p=>(scV k p.1,scV e p.2):=by
    rw[hval,ex,ey];rcases TF (e:=e) hk u l' es.toList 0 hes with⟨k1,k2,k3⟩|⟨z,j,q,k1,k2,k3,k4,k5⟩
    ·refine⟨es.push {key:=scV k u,val:=scV e v,born:=c},c+1,?_,?_⟩
     ·simp[Instr.mapUpdate,run_underlying hu,run_getObj_map hb,run_checkKey hku (BL hk u),run_findKey hku k2,run_setObj_map _ hb,Result.andThen,Xg]
     ·rw[k3];simp[hes]
    ·have hj:es[j]? =some q:=by simpa using k3
     refine⟨es.modify j λ q=>{q with key:=scV k u,val:=scV e v},c,?_,?_⟩
     ·simp[Instr.mapUpdate,run_underlying hu,run_getObj_map hb,run_checkKey hku (BL hk u),run_findKey hku k2,hj,k4,run_keyThatStays (BL hk u),run_setObj_map _ hb,Result.andThen,Xg]
     ·rw[←k5 v,Array.toList_modify]
   obtain⟨es',c',hrun,hes'⟩:=hrun
   have hex:(execOp a.eval o).run P w= .ok .skip (Xg w b (.map es' c')):=by
    simp only[execOp,ho,Sem.run_bind,hrun,Result.andThen_ok,Sem.run_pure]
   unfold Oper.wp;rw[hex,Oper.upon_skip,hd];refine⟨g,?_⟩;refine jQ h (ds:=[⟨.mp k e,.own,some (E5 (keq k) u v l')⟩]) hpl hu2 rfl ⟨Nq hb hf,λ b' ow k e=>⟨e,(yE hb).2 b' ?_,λ _ h=>h⟩⟩ (h.base.Xg hown hb hf) rfl ?_ (zu.of λ d hd _=> .inr (by rw[aam.1 hd];rfl))
   ·rintro rfl;rw[hown]at e;cases e;exact k.1 p.cell (aaq _) (by simp) rfl
   ·show aF _ g _ p.cell _ (((aC a w g p.root).drop p.cell).take 1);rw[hroot];exact⟨_,[],rfl,.inr ⟨b,_,rfl,hval,hown,⟨es',c',(yE hb).1,hes'⟩,hf⟩,rfl⟩
  ·exact(aj hp).elim
 ·exact(aj hp).elim
end
end Go.AM
end
