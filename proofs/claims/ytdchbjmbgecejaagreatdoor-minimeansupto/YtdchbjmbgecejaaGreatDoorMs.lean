import Derived.Test.YtdchbjmbgecejaaGreatDoorMt
import Derived.Test.YtdchbjmbgecejaaGreatDoorMj
import Derived.Test.YtdchbjmbgecejaaGreatDoorMd
noncomputable section
namespace Go.Bk
open Go Go.AM
set_option linter.unusedVariables false
def U2 (S:Int) (fin:List Int) (rs:List Rule) (a:Aut):Prop:=Wf a.1 a.2.1 a.2.2∧a.1≤S∧(Det rs→Det a.2.2)∧(Sy rs→Sy a.2.2)∧ ∀t,Acc a.2.2 a.2.1 t ↔ Acc rs fin t
theorem WY {S:Int} {fin:List Int} {rs:List Rule} {U R:List Bool} {a:Aut} (hw:Wf S fin rs) (hcl:Closed rs R) (hu:Useful fin rs R U) (h:wo S fin rs U a):U2 S fin rs a:=by
 refine⟨h.1.1,h.1.2,fun hd=>ZQ hw h hd,fun hs r' hr'=> ?_,Zy hw hcl hu h⟩
 obtain⟨_,ν,_,_,hR⟩:=h
 obtain⟨r,h1,_,_,rfl⟩:=(hR r').1 hr'
 exact hs r h1
abbrev NW (Us:Nat→Int×List Int×List Rule→Option (List Bool)):Prop:= ∀(S:Int) (fin:List Int) (rs:List Rule),Wf S fin rs→Sp Us (S,fin,rs) (fun U=>U.length=S.toNat∧ ∃R,Closed rs R∧Useful fin rs R U)
abbrev aa9 (Ke:Nat→Int×List Int×List Rule×List Bool→Option (Int×List Int×List Rule)):Prop:= ∀(S:Int) (fin:List Int) (rs:List Rule) (keep:List Bool),Wf S fin rs→keep.length=S.toNat→Sp Ke (S,fin,rs,keep) (wo S fin rs keep)
theorem aaw {Ke:Nat→Int×List Int×List Rule×List Bool→Option (Int×List Int×List Rule)} {Us:Nat→Int×List Int×List Rule→Option (List Bool)} (hK:aa9 Ke) (hU:NW Us) (S:Int) (fin:List Int) (rs:List Rule) (hw:Wf S fin rs):
 Sp (fun n=>xC.P (Ke n) (Us n) n) (S,fin,rs) (U2 S fin rs):=by
 show Tt (fun n=>xC.P (Ke n) (Us n) n (S,fin,rs)) _
 unfold xC.P;dsimp only
 refine Tt.bind (hU S fin rs hw) ?_
 rintro U ⟨hl,R,hR,hu⟩
 exact Tt.bind (hK S fin rs U hw hl) fun a ha=>Tt.pure (WY hw hR hu ha)
theorem aaS {Ke:Nat→Int×List Int×List Rule×List Bool→Option (Int×List Int×List Rule)} {Us:Nat→Int×List Int×List Rule→Option (List Bool)} {V:Nat→List Int×Int×List Int×List Rule→Option Bool} (hK:aa9 Ke) (hU:NW Us) (al:List Int) (S:Int) (fin:List Int) (rs:List Rule) (hv:gY al (S,fin,rs))
 (hV:Sp V (al,S,fin,rs) (fun r=>r=true ↔ gY al (S,fin,rs))):
 Sp (fun n=>wW.P (Ke n) (V n) (Us n) n) (al,S,fin,rs) (fun r=>r.2.2.2=0∧Wf r.1 r.2.1 r.2.2.1∧r.1≤S∧ ∀t,Acc r.2.2.1 r.2.1 t ↔ Acc rs fin t):=by
 have hw:=hv.wf
 show Tt (fun n=>wW.P (Ke n) (V n) (Us n) n (al,S,fin,rs)) _
 unfold wW.P;dsimp only
 refine Tt.bind hV fun b hb=> ?_
 rw[hb.2 hv]
 refine Tt.no rfl (Tt.bind (hU S fin rs hw) ?_)
 rintro U ⟨hl,R,hR,hu⟩
 refine Tt.bind (hK S fin rs U hw hl) fun a ha=> ?_
 have h:=WY hw hR hu ha
 exact Tt.pure ⟨rfl,h.1,h.2.1,h.2.2.2.2⟩
def Yy (fin:List Int) (rs:List Rule) (M:Aut):Prop:=Uni M.2.2∧(∀t q,Reach M.2.2 t q→0≤q)∧(∀t,Acc M.2.2 M.2.1 t ↔ Acc rs fin t)∧M.2.1.length≤1000∧M.2.2.length≤100000∧ ∀r∈M.2.2,r.2.1.length≤3
theorem RV {S:Int} {fin:List Int} {rs rs':List Rule} {ν:List Int} (hw:Wf S fin rs) (hi: ∀s t,iy S s→iy S t→0≤iat ν s→iat ν s=iat ν t→s=t) (hc: ∀r∈rs,(∀s∈r.2.1,0≤iat ν s)→0≤iat ν r.2.2) (hI:Img (iat ν) rs rs'):
 (∀t s,Reach rs t s→0≤iat ν s)∧ ∀t c,Reach rs' t c ↔ ∃s,Reach rs t s∧iat ν s=c:=by
 have pos: ∀t s,Reach rs t s→0≤iat ν s:=by
  intro t
  induction t using uQ with
  |h a ks ih=>
   intro s hs
   obtain⟨r,hr,h1,h2,h3,h4⟩:=dU.1 hs
   rw[←h2]
   refine hc r hr fun f hf=> ?_
   obtain⟨i,hi,e⟩:=List.getElem_of_mem hf
   have hk:i<ks.length:=by omega
   exact ih _ (List.getElem_mem hk) f (h4 i _ f (List.getElem?_eq_getElem hk) (by rw[List.getElem?_eq_getElem hi,e]))
 refine⟨pos,fun t=> ?_⟩
 induction t using uQ with
 |h a ks ih=>
  intro c
  constructor
  ·intro hq
   obtain⟨r',hr',h1,h2,h3,h4⟩:=dU.1 hq
   obtain⟨r,a1,rfl⟩:=(hI r').1 hr'
   simp only[List.length_map]at h3
   refine⟨r.2.2,dU.2 ⟨r,a1,h1,rfl,h3,fun i k f hk hf=> ?_⟩,h2⟩
   obtain⟨s,b1,b2⟩:=(ih k (List.mem_of_getElem? hk) (iat ν f)).1 (h4 i k _ hk (by rw[List.getElem?_map,hf];rfl))
   have:=hi s f (D8 hw b1) ((hw.2.2.2.2.2 r a1).2.1 f (List.mem_of_getElem? hf)) (pos k s b1) b2
   rwa [←this]
  ·rintro⟨s,hs,rfl⟩
   obtain⟨r,hr,h1,h2,h3,h4⟩:=dU.1 hs
   refine dU.2 ⟨_,(hI _).2 ⟨r,hr,rfl⟩,h1,by rw[h2],by simpa using h3,fun i k f hk hf=> ?_⟩
   simp only[List.getElem?_map,Option.map_eq_some_iff]at hf
   obtain⟨f0,e,rfl⟩:=hf
   exact(ih k (List.mem_of_getElem? hk) _).2 ⟨f0,h4 i k f0 hk e,rfl⟩
abbrev ae3 (Ma:Nat→Int×List Int×List Rule×Int×List Int→Option (Int×List Int×List Rule)):Prop:= ∀(S:Int) (fin:List Int) (rs:List Rule) (m:Int) (to:List Int),Wf S fin rs→to.length=S.toNat→
 Sp Ma (S,fin,rs,m,to) (fun a=>a.1=m∧adG (iat to) fin a.2.1∧Img (iat to) rs a.2.2∧a.2.1.length≤fin.length∧a.2.2.length≤rs.length)
theorem Vq {Le:Nat→Int×List Int×List Rule→Option (Int×List Int×List Rule)} {De:Nat→List Int×Int×List Int×List Rule→Option (Int×List Int×List Rule×Int)} {Ro Cl:Nat→Int×List Int×List Rule→Option (List Int)} {Ma:Nat→Int×List Int×List Rule×Int×List Int→Option (Int×List Int×List Rule)}
 (hLe: ∀S fin rs,Wf S fin rs→Sp Le (S,fin,rs) (U2 S fin rs))
 (hRo: ∀S fin rs,Wf S fin rs→Sp Ro (S,fin,rs) (fun num=>num.length=S.toNat∧(∀s t,iy S s→iy S t→0≤iat num s→iat num s=iat num t→s=t)∧(∀v∈num,v<S)∧ ∀r∈rs,(∀s∈r.2.1,0≤iat num s)→0≤iat num r.2.2))
 (hCl: ∀S fin rs,Wf S fin rs→S≤300→Sy rs→Det rs→Sp Cl (S,fin,rs) (fun cl=>cl.length=S.toNat∧(∀v∈cl,iy S v)∧ZH S fin rs (iat cl))) (hMa:ae3 Ma)
 (al:List Int) (S:Int) (fin:List Int) (rs:List Rule) (hDe:Sp De (al,S,fin,rs) (fun r=>r.2.2.2=0→Vo fin rs (r.1,r.2.1,r.2.2.1))):
 Sp (fun n=>jv.P (Le n) (De n) (Ro n) (Cl n) (Ma n) n) (al,S,fin,rs) (fun r=>r.2.2.2=0→Yy fin rs (r.1,r.2.1,r.2.2.1)):=by
 show Tt (fun n=>jv.P (Le n) (De n) (Ro n) (Cl n) (Ma n) n (al,S,fin,rs)) _
 unfold jv.P;dsimp only
 refine Tt.bind hDe fun d hd=>Tt.ite (fun hc=>Tt.pure fun h=> ?_) (fun hc=> ?_)
 ·dsimp only at h
  rw[h]at hc;cases hc
 obtain⟨dw,d300,du,da,ds⟩:=hd (by simpa using hc)
 dsimp only at dw d300 du da ds
 refine Tt.bind (hLe _ _ _ dw) fun a ha=> ?_
 obtain⟨w,wle,wu,ws,wa⟩:=ha
 refine Tt.bind (hCl _ _ _ w (by omega) (ws ds) (wu du)) fun cl hcl=> ?_
 obtain⟨c1,c2,c3⟩:=hcl
 have hS0:=w.1
 have hS1:=w.2.1
 refine Tt.bind (R:=fun t=> ∃m:Int,t=((0:Int),([]:List Int),([]:List Rule),a.1,a.2.1,a.2.2,cl,m)∧0≤m∧m≤a.1∧ ∀v∈cl,v<m)
  (Tt.loop (L:=fun n=>jv.L1) (Lp.count cl.length (fun i t=> ∃m:Int,t=((0:Int),([]:List Int),([]:List Rule),a.1,a.2.1,a.2.2,cl,m,cl,((cl.length:Nat):Int),(i:Int))∧0≤m∧m≤a.1∧ ∀v∈cl.take i,v<m) ?_ ?_ ⟨0,rfl,by omega,by omega,by simp⟩)) ?_
 ·rintro i t hi ⟨m,rfl,m0,m1,m2⟩
  unfold jv.L1;dsimp only
  have hv:=c2 _ (List.getElem_mem hi)
  have hv1:=hv.1;have hv2:=hv.2
  refine Bd.yes (bf (by omega)) (Bd.nth hi (Bd.again ⟨max m (cl[i]+1),by rw[aI (by omega),o7 _ (by omega) (by omega)],by omega,by omega,fun v hv=> ?_⟩))
  rw[List.take_add_one,List.getElem?_eq_getElem hi,List.mem_append]at hv
  rcases hv with hv|hv
  ·have:=m2 v hv;omega
  ·simp only[Option.toList_some,List.mem_singleton]at hv
   omega
 ·rintro t ⟨m,rfl,m0,m1,m2⟩
  unfold jv.L1;dsimp only
  rw[List.take_length]at m2
  exact Bd.no (decide_eq_false (by omega)) (Bd.done ⟨m,rfl,m0,m1,m2⟩)
 rintro _ ⟨m,rfl,m0,m1,m2⟩
 dsimp only
 refine Tt.bind (hMa a.1 a.2.1 a.2.2 m cl w c1) fun q hq=> ?_
 obtain⟨q1,q2,q3,q4,q5⟩:=hq
 have hcm: ∀s,iy a.1 s→iy m (iat cl s):=fun s hs=>by
  have hlt:s.toNat<cl.length:=by have:=hs.1;have:=hs.2;omega
  have hm:=List.getElem_mem hlt
  rw[yc hlt]at hm
  exact⟨(c2 _ hm).1,m2 _ hm⟩
 have hqw:Wf q.1 q.2.1 q.2.2:=by
  refine⟨by omega,by omega,by have:=w.2.2.1;omega,by have:=w.2.2.2.1;omega,fun x hx=> ?_,fun r' hr'=> ?_⟩
  ·obtain⟨s,h1,rfl⟩:=(q2 x).1 hx
   rw[q1];exact hcm s (w.2.2.2.2.1 s h1)
  ·obtain⟨r,h1,rfl⟩:=(q3 r').1 hr'
   obtain⟨g1,g2,g3⟩:=w.2.2.2.2.2 r h1
   rw[q1]
   refine⟨hcm _ g1,fun x hx=> ?_,by simpa using g3⟩
   obtain⟨s,hs,rfl⟩:=List.mem_map.1 hx
   exact hcm s (g2 s hs)
 refine Tt.bind (hRo _ _ _ hqw) fun num hnum=> ?_
 obtain⟨n1,n2,n3,n4⟩:=hnum
 refine Tt.bind (hMa q.1 q.2.1 q.2.2 m num hqw n1) fun M hM=>Tt.pure fun _=> ?_
 obtain⟨_,M2,M3,M4,M5⟩:=hM
 obtain⟨pos,reach⟩:=RV hqw n2 n4 M3
 have qr:=EJ w c3 q3
 have qa:=ZJ w c3 q3 q2
 refine⟨fun t x y hx hy=> ?_,fun t x hx=> ?_,fun t=> ?_,by have:=w.2.2.1;dsimp only;omega,by have:=w.2.2.2.1;dsimp only;omega,fun r' hr'=> ?_⟩
 ·obtain⟨s,h1,rfl⟩:=(reach t x).1 hx
  obtain⟨s',h2,rfl⟩:=(reach t y).1 hy
  obtain⟨p,h3,rfl⟩:=(qr t s).1 h1
  obtain⟨p',h4,rfl⟩:=(qr t s').1 h2
  rw[(wu du).uni t p p' h3 h4]
 ·obtain⟨s,h1,rfl⟩:=(reach t x).1 hx
  exact pos t s h1
 ·refine Iff.trans ?_ ((qa t).trans ((wa t).trans (da t)))
  constructor
  ·rintro⟨c,h1,h2⟩
   obtain⟨s,h3,rfl⟩:=(reach t c).1 h1
   obtain⟨f,h4,h5⟩:=(M2 _).1 h2
   have:=n2 s f (D8 hqw h3) (hqw.2.2.2.2.1 f h4) (pos t s h3) h5
   exact⟨s,h3,by rw[this];exact h4⟩
  ·rintro⟨s,h1,h2⟩
   exact⟨iat num s,(reach t _).2 ⟨s,h1,rfl⟩,(M2 _).2 ⟨s,h2,rfl⟩⟩
 ·obtain⟨r,h1,rfl⟩:=(M3 r').1 hr'
  simpa using(hqw.2.2.2.2.2 r h1).2.2
end Go.Bk
end
noncomputable section
namespace Go.Bk
open Go Go.AM
set_option linter.unusedVariables false
theorem Yj {F:Nat→List Int×Int×List (RT Int)×Int→Option (Bool×Int)} (hF: ∀n x,F (n+1) x=jW.P (F n) n x) (al:List Int) (t:RT Int):
 nds t≤1000000000→ ∀left:Int,0≤left→left≤1000→Sp F (al,t.a,t.kids,left) (fun r=>r.1=true→0≤r.2∧r.2≤1000):=by
 induction t using uQ with
 |h a ks ih=>
  intro hn left h0 h1
  refine Sp.step hF ?_
  show Tt (fun n=>jW.P (F n) n (al,a,ks,left)) _
  unfold jW.P;dsimp only
  rw[o7 (left-1) (by omega) (by omega)]
  have hkl:=E5 (a:=a) (ks:=ks)
  have cont:0≤left-1→ ∀c:Bool,Tt (fun n=>bif (left-1,al,a,ks,c).2.2.2.2 then some (false,(left-1,al,a,ks,c).1)
   else(dD (jW.L1 (F n)) n (left-1,al,ks,((ks.length:Nat):Int),(0:Int))).bind fun q=>match q with|Sum.inl x7=>some (true,x7)|Sum.inr r=>some r) (fun r=>r.1=true→0≤r.2∧r.2≤1000):=by
   intro hl c
   refine Tt.ite (fun _=>Tt.pure fun h=>by cases h) (fun _=> ?_)
   refine Tt.bind (R:=fun q:Sum Int (Bool×Int)=>(∃l,q= .inl l∧0≤l∧l≤1000)∨ ∃l,q= .inr (false,l))
    (Tt.loop (L:=fun n=>jW.L1 (F n)) (Lp.count ks.length (fun i s=> ∃l:Int,s=(l,al,ks,((ks.length:Nat):Int),(i:Int))∧0≤l∧l≤1000) ?_ ?_ ⟨_,rfl,hl,by omega⟩)) ?_
   ·rintro i s hi ⟨l,rfl,l0,l1⟩
    unfold jW.L1;dsimp only
    have hk:=List.getElem_mem hi
    refine Bd.yes (bf (by omega)) (Bd.nth hi (Bd.bind (ih _ hk (by have:=Fj (a:=a) hk;omega) l l0 l1) fun r hr=> ?_))
    refine Bd.ite (fun hc=>Bd.ay (Bd.done (.inr ⟨r.2,rfl⟩))) (fun hc=> ?_)
    have:=hr (by simpa using hc)
    exact Bd.again ⟨r.2,by rw[aI (by omega)],this.1,this.2⟩
   ·rintro s ⟨l,rfl,l0,l1⟩
    unfold jW.L1;dsimp only
    exact Bd.no (decide_eq_false (by omega)) (Bd.done (.inl ⟨l,rfl,l0,l1⟩))
   ·rintro _ (⟨l,rfl,l0,l1⟩|⟨l,rfl⟩)
    ·exact Tt.pure fun _=>⟨l0,l1⟩
    ·exact Tt.pure fun h=>by cases h
  refine Tt.eG (fun hc=>Tt.ay (Tt.yes rfl (Tt.pure fun h=>by cases h))) (fun hc=> ?_)
  have hc:=dec_not hc
  have hl:0≤left-1:=by omega
  refine Tt.eG (fun _=>Tt.ay (cont hl true)) (fun h2=>Tt.eG (fun _=>Tt.ay (cont hl true)) (fun h3=>Tt.fG ?_))
  have h2:=dec_not h2
  have h3:=dec_not h3
  exact Tt.aeB (by omega) (by omega) fun e _ _=>Tt.ay (cont hl _)
theorem OH {VA:Nat→List Int→Option Bool} {F:Nat→List Int×Int×List (RT Int)×Int→Option (Bool×Int)} {al:List Int} {t:RT Int} {Q:Bool→Prop} (hV:Sp VA al Q) (hF:Sp F (al,t.a,t.kids,(300:Int)) (fun _=>True)):
 Sp (fun n=>wZ.P (VA n) (F n) n) (al,t.a,t.kids) (fun _=>True):=by
 show Tt (fun n=>wZ.P (VA n) (F n) n (al,t.a,t.kids)) _
 unfold wZ.P;dsimp only
 exact Tt.fG (Tt.bind hV fun b _=>Tt.eG (fun _=>Tt.fG (Tt.bind hF fun _ _=>Tt.ay (Tt.pure trivial))) (fun _=>Tt.ay (Tt.pure trivial)))
theorem YT {V:Nat→List Int×Int×List Int×List Rule→Option Bool} {T:Nat→List Int×Int×List (RT Int)→Option Bool} {al:List Int} {S:Int} {fin:List Int} {rs:List Rule} {t:RT Int} (hV:Sp V (al,S,fin,rs) (fun r=>r=true ↔ gY al (S,fin,rs)))
 (hT:Sp T (al,t.a,t.kids) (fun _=>True)):Sp (fun n=>xg.P (V n) (T n) n) (al,S,fin,rs,t.a,t.kids) (fun r=>r=0→gY al (S,fin,rs)):=by
 show Tt (fun n=>xg.P (V n) (T n) n (al,S,fin,rs,t.a,t.kids)) _
 unfold xg.P;dsimp only
 refine Tt.fG (Tt.bind hV fun b hb=>Tt.eG (fun _=>Tt.ay (Tt.yes rfl (Tt.pure fun h=>by cases h))) (fun hc=>Tt.fG (Tt.bind hT fun c _=>Tt.ay (Tt.ite (fun _=>Tt.pure fun h=>by cases h) (fun _=>Tt.pure fun _=>hb.1 (by simpa using hc))))))
def ZG (S:Int) (rs:List Rule) (t:RT Int) (row:List Bool):Prop:=row.length=S.toNat∧ ∀q,iy S q→(bat row q=true ↔ Reach rs t q)
theorem abN {R:List Bool} {s q:Int} (h:s.toNat<R.length) (hs:0≤s) (hq:0≤q):bat (R.set s.toNat true) q=(decide (q=s)||bat R q):=by
 unfold bat
 rw[List.getElem?_set]
 by_cases e:q=s
 ·subst e;rw[if_pos rfl,if_pos h];simp
 ·rw[if_neg (by omega)];simp[e]
theorem aav {F:Nat→Int×List Int×List Rule×List (List Int)×Int×List (RT Int)→Option (List (Option (List Bool)))} (hF: ∀n x,F (n+1) x=gK.P (F n) n x) (al:List Int) (S:Int) (fin:List Int) (rs:List Rule) (by_:List (List Int)) (hw:Wf S fin rs) (hAr:Ar al rs) (hby:aaC al rs by_) (t:RT Int):
 Shp al t→nds t≤1000000000→Sp F (S,fin,rs,by_,t.a,t.kids) (fun r=> ∃row rest,r=some row::rest∧ZG S rs t row∧r.length≤nds t):=by
 have h0:=hw.1
 have hS:=hw.2.1
 have hr:=hw.2.2.2.2.2
 induction t using uQ with
 |h a ks ih=>
  intro hsh hn
  refine Sp.step hF ?_
  show Tt (fun n=>gK.P (F n) n (S,fin,rs,by_,a,ks)) _
  unfold gK.P;dsimp only
  refine Tt.chk (yX h0 (by omega)) ?_
  have hnd:nds (.mk a ks)=1+Dc ks:=by simp[nds,Nat.add_comm]
  refine Tt.bind (R:=fun x=> ∃(rest:List (Option (List Bool))) (kids:List (List Bool)),x=(by_,S,fin,rs,a,ks,some (List.replicate S.toNat false)::rest,kids)∧rest.length≤Dc ks∧kids.length=ks.length∧ ∀(j:Nat) (row:List Bool) (k:RT Int),kids[j]? =some row→ks[j]? =some k→ZG S rs k row)
   (Tt.loop (L:=fun n=>gK.L1 (F n)) (Lp.count ks.length (fun i x=> ∃(rest:List (Option (List Bool))) (kids:List (List Bool)),x=(by_,S,fin,rs,a,ks,some (List.replicate S.toNat false)::rest,kids,ks,((ks.length:Nat):Int),(i:Int))∧rest.length≤Dc (ks.take i)∧kids.length=i∧
    ∀(j:Nat) (row:List Bool) (k:RT Int),kids[j]? =some row→ks[j]? =some k→ZG S rs k row) ?_ ?_ ⟨[],[],rfl,by simp,rfl,by simp⟩)) ?_
  ·rintro i x hi ⟨rest,kids,rfl,hrest,hkl,hk⟩
   unfold gK.L1;dsimp only
   have hkm:=List.getElem_mem hi
   have hnk:=Fj (a:=a) hkm
   have hnt:Dc (ks.take (i+1))=Dc (ks.take i)+nds ks[i]:=by
    have: ∀l:List (RT Int),∀x,Dc (l++[x])=Dc l+nds x:=by
     intro l x
     induction l with
     |nil=>simp[Dc]
     |cons y l ih=>simp only[List.cons_append,Dc,ih];omega
    rw[List.take_add_one,List.getElem?_eq_getElem hi]
    exact this _ _
   have hnle:Dc (ks.take (i+1))≤Dc ks:=by
    have: ∀(l:List (RT Int)) (m:Nat),Dc (l.take m)≤Dc l:=by
     intro l
     induction l with
     |nil=>intro m;simp
     |cons y l ih=>
      intro m
      cases m with
      |zero=>simp[Dc]
      |succ m=>simp only[List.take_succ_cons,Dc];have:=ih m;omega
    exact this ks _
   have hkls:=E5 (a:=a) (ks:=ks)
   refine Bd.yes (bf (by omega)) (Bd.nth hi (Bd.bind (ih _ hkm (hsh.kid _ hkm) (by omega)) ?_))
   rintro _ ⟨row,rest',rfl,hrow,hrl⟩
   rw[List.length_cons]at hrl
   refine Bd.chk (rng (by omega) (by rw[List.length_cons];omega)) ?_
   have e0:rowAt? (some row::rest') (Int.toNat 0)=some row:=rfl
   rw[e0]
   refine Bd.ay (Bd.ay (Bd.chk (qG (by simp;omega)) (Bd.chk (qG ?_) (Bd.again ⟨rest++none::rest',kids++[row],by rw[aI (by omega)];rfl,?_,by simp;omega,fun j row' k hj hkj=> ?_⟩))))
   ·show List.length (some _::rest)+List.length (none::rest')≤_
    rw[List.length_cons,List.length_cons];omega
   ·rw[List.length_append,List.length_cons,hnt];omega
   ·rcases Nat.lt_or_ge j kids.length with h|h
    ·rw[List.getElem?_append_left h]at hj
     exact hk j row' k hj hkj
    ·have hlt:=(List.getElem?_eq_some_iff.1 hj).1
     simp at hlt
     have:j=i:=by omega
     subst this
     rw[List.getElem?_append_right (by omega),hkl,Nat.sub_self]at hj
     rw[List.getElem?_eq_getElem hi]at hkj
     have hj:row=row':=by simpa using hj
     cases hkj
     rw[←hj];exact hrow
  ·rintro x ⟨rest,kids,rfl,hrest,hkl,hk⟩
   unfold gK.L1;dsimp only
   rw[List.take_length]at hrest
   exact Bd.no (decide_eq_false (by omega)) (Bd.done ⟨rest,kids,rfl,hrest,hkl,hk⟩)
  rintro _ ⟨rest,kids,rfl,hrest,hkl,hk⟩
  dsimp only
  have ha0:=hsh.nonneg
  have har:=hsh.ar
  have hal:=(List.getElem?_eq_some_iff.1 har).1
  have hbl:a.toNat<by_.length:=by have:=hby.1;omega
  have hrow:=hby.2 a.toNat by_[a.toNat] (List.getElem?_eq_getElem hbl)
  rw[wP ha0 (by omega)]
  refine Tt.ay ?_
  have hkls:=E5 (a:=a) (ks:=ks)
  have hrl:=hw.2.2.2.1
  let Fit:Rule→Prop:=fun r=> ∀(j:Nat) (f:Int),r.2.1[j]? =some f→ ∃row,kids[j]? =some row∧bat row f=true
  have hval: ∀v∈by_[a.toNat],∃(j:Nat) (r:Rule),v=(j:Int)∧rs[j]? =some r∧r.1=a∧r.2.1.length=ks.length:=by
   intro v hv
   obtain⟨j,r,e1,e2,e3⟩:=(hrow.2 v).1 hv
   have e3:r.1=a:=by omega
   have:=(hAr r (List.mem_of_getElem? e2)).2
   rw[e3,har]at this
   have:=Option.some.inj this
   exact⟨j,r,e1,e2,e3,by omega⟩
  refine Tt.bind (R:=fun x=> ∃row,x=some row::rest∧row.length=S.toNat∧ ∀q,iy S q→(bat row q=true ↔ ∃v∈by_[a.toNat],∃r,At rs v r∧Fit r∧r.2.2=q))
   (Tt.loop (L:=fun n=>gK.L3 n) (Lp.count by_[a.toNat].length (fun i x=> ∃row,x=(S,fin,rs,some row::rest,kids,by_[a.toNat],((by_[a.toNat].length:Nat):Int),(i:Int))∧row.length=S.toNat∧ ∀q,iy S q→(bat row q=true ↔ ∃v∈by_[a.toNat].take i,∃r,At rs v r∧Fit r∧r.2.2=q)) ?_ ?_ ?_)) ?_
  ·rintro i x hi ⟨row,rfl,hrl2,hrw⟩
   unfold gK.L3;dsimp only
   obtain⟨j,r,ej,hj,hra,hrlen⟩:=hval _ (List.getElem_mem hi)
   have hjl:j<rs.length:=(List.getElem?_eq_some_iff.1 hj).1
   have hrj:rs[j]=r:=(List.getElem?_eq_some_iff.1 hj).2
   obtain⟨hto,hfr,hf3⟩:=hr r (List.mem_of_getElem? hj)
   have hil:by_[a.toNat].length≤100000:=by omega
   have htk: ∀P:Int→Prop,(∃v∈by_[a.toNat].take (i+1),P v) ↔ (∃v∈by_[a.toNat].take i,P v)∨P (j:Int):=by
    intro P
    rw[List.take_add_one,List.getElem?_eq_getElem hi,ej]
    constructor
    ·rintro⟨v,h1,h2⟩
     rcases List.mem_append.1 h1 with h|h
     ·exact .inl ⟨v,h,h2⟩
     ·simp only[Option.toList_some,List.mem_singleton]at h
      exact .inr (h▸h2)
    ·rintro(⟨v,h1,h2⟩|h)
     ·exact⟨v,List.mem_append_left _ h1,h2⟩
     ·exact⟨_,List.mem_append_right _ (by simp),h⟩
   have hone: ∀q,(∃r',At rs (j:Int) r'∧Fit r'∧r'.2.2=q) ↔ Fit r∧r.2.2=q:=by
    intro q
    constructor
    ·rintro⟨r',⟨j',e,h1⟩,h2,h3⟩
     have:j'=j:=by omega
     subst this
     rw[hj]at h1;cases h1
     exact⟨h2,h3⟩
    ·rintro⟨h1,h2⟩;exact⟨r,⟨j,rfl,hj⟩,h1,h2⟩
   refine Bd.yes (bf (by omega)) (Bd.nth hi ?_)
   rw[ej,dZ hjl,hrj]
   refine Bd.ay ?_
   refine Bd.label (s:=(S,fin,rs,some row::rest,kids,r.1,r.2.1,r.2.2,by_[a.toNat],((by_[a.toNat].length:Nat):Int),(i:Int),r.2.1,((r.2.1.length:Nat):Int),(0:Int)))
    (I0:=fun s'=>s'=(S,fin,rs,some row::rest,kids,by_[a.toNat],((by_[a.toNat].length:Nat):Int),IntKind.wrap .i64 ((i:Int)+1))∧ ¬Fit r) (Q:=fun v=>v=(S,fin,rs,some row::rest,kids,r.1,r.2.1,r.2.2,by_[a.toNat],((by_[a.toNat].length:Nat):Int),(i:Int))∧Fit r)
    (Lbl.count (L:=gK.L2) r.2.1.length (fun p x=>x=(S,fin,rs,some row::rest,kids,r.1,r.2.1,r.2.2,by_[a.toNat],((by_[a.toNat].length:Nat):Int),(i:Int),r.2.1,((r.2.1.length:Nat):Int),(p:Int))∧ ∀(j:Nat) (f:Int),j<p→r.2.1[j]? =some f→ ∃row,kids[j]? =some row∧bat row f=true) ?_ ?_ ⟨rfl,fun j f h=>absurd h (by omega)⟩) ?_ ?_ (fun _ _ _=>rfl)
   ·rintro p x hp ⟨rfl,hall⟩
    have hpk:p<kids.length:=by omega
    have hkp:=hk p kids[p] ks[p] (List.getElem?_eq_getElem hpk) (List.getElem?_eq_getElem (by omega))
    have hfp:=hfr _ (List.getElem_mem hp)
    have hre:(decide (0≤(p:Int))&&decide ((p:Int)<((List.length kids:Nat):Int)))=true:=rng (by omega) (by omega)
    have hat:at? kids (Int.toNat (p:Int))=some kids[p]:=by rw[Int.toNat_natCast];exact List.getElem?_eq_getElem hpk
    have hnb:=Fa hkp.1 hfp
    cases hb:bat kids[p] r.2.1[p]with
    |false=>
     refine .inr ⟨_,⟨rfl,fun hf=> ?_⟩,fun k r'=> ?_⟩
     ·obtain⟨row',h1,h2⟩:=hf p _ (List.getElem?_eq_getElem hp)
      rw[List.getElem?_eq_getElem hpk]at h1;cases h1
      rw[hb]at h2;cases h2
     ·unfold gK.L2;dsimp only
      rw[bf (show(p:Int)<((r.2.1.length:Nat):Int) by omega),cond_true,dZ hp,Option.bind_some,hre,cond_true,hat,Option.bind_some,hnb,Option.bind_some,hb,Bool.not_false,cond_true]
    |true=>
     refine .inl ⟨_,⟨rfl,fun j f hj hf=> ?_⟩,fun k r'=> ?_⟩
     ·rcases Nat.lt_or_eq_of_le (Nat.le_of_lt_succ hj)with h|rfl
      ·exact hall j f h hf
      ·rw[List.getElem?_eq_getElem hp]at hf;cases hf
       exact⟨_,List.getElem?_eq_getElem hpk,hb⟩
     ·unfold gK.L2;dsimp only
      rw[bf (show(p:Int)<((r.2.1.length:Nat):Int) by omega),cond_true,dZ hp,Option.bind_some,hre,cond_true,hat,Option.bind_some,hnb,Option.bind_some,hb,Bool.not_true,cond_false,aI (by omega)]
   ·rintro x ⟨rfl,hall⟩
    refine⟨_,⟨rfl,fun j f hf=>hall j f (List.getElem?_eq_some_iff.1 hf).1 hf⟩,fun k r'=> ?_⟩
    unfold gK.L2;dsimp only
    rw[decide_eq_false (by omega)];rfl
   ·rintro _ ⟨rfl,hfit⟩
    dsimp only
    have hlt:r.2.2.toNat<row.length:=by have:=hto.1;have:=hto.2;omega
    have e0:rowAt? (some row::rest) (Int.toNat 0)=some row:=rfl
    refine Bd.chk (rng (by omega) (by rw[List.length_cons];omega)) ?_
    rw[e0]
    refine Bd.ay (Bd.ay (Bd.chk (rng hto.1 (by have:=hto.1;omega)) (Bd.ay (Bd.at hlt fun _ _ _=>Bd.again ⟨row.set r.2.2.toNat true,by rw[aI (by omega)];rfl,by simpa using hrl2,fun q hq=> ?_⟩))))
    rw[abN hlt hto.1 hq.1,Bool.or_eq_true,decide_eq_true_eq,htk,hone,hrw q hq]
    constructor
    ·rintro(h|h)
     ·exact .inr ⟨hfit,h.symm⟩
     ·exact .inl h
    ·rintro(h|⟨_,h⟩)
     ·exact .inr h
     ·exact .inl h.symm
   ·rintro s' ⟨rfl,hnf⟩
    refine⟨row,by rw[aI (by omega)],hrl2,fun q hq=> ?_⟩
    rw[htk,hone,hrw q hq]
    exact⟨.inl,fun h=>h.resolve_right fun h=>hnf h.1⟩
  ·rintro x ⟨row,rfl,hrl2,hrw⟩
   unfold gK.L3;dsimp only
   rw[List.take_length]at hrw
   exact Bd.no (decide_eq_false (by omega)) (Bd.done ⟨row,rfl,hrl2,hrw⟩)
  ·refine⟨List.replicate S.toNat false,rfl,by simp,fun q hq=> ?_⟩
   unfold bat
   rw[List.getElem?_replicate]
   split<;>simp
  ·rintro _ ⟨row,rfl,hrl2,hrw⟩
   refine Tt.pure ⟨row,rest,rfl,⟨hrl2,fun q hq=> ?_⟩,by rw[List.length_cons,hnd];omega⟩
   rw[hrw q hq,dU]
   constructor
   ·rintro⟨v,hv,r,⟨j,ej,hj⟩,hfit,hq2⟩
    obtain⟨j',r',e1,e2,e3,e4⟩:=hval v hv
    have:j'=j:=by omega
    subst this
    rw[hj]at e2;cases e2
    refine⟨r,List.mem_of_getElem? hj,e3,hq2,e4,fun i k f hki hf=> ?_⟩
    obtain⟨row',h1,h2⟩:=hfit i f hf
    exact((hk i row' k h1 hki).2 f ((hr r (List.mem_of_getElem? hj)).2.1 f (List.mem_of_getElem? hf))).1 h2
   ·rintro⟨r,h1,h2,h3,h4,h5⟩
    obtain⟨j,hj,rfl⟩:=List.getElem_of_mem h1
    refine⟨(j:Int),(hrow.2 _).2 ⟨j,_,rfl,List.getElem?_eq_getElem hj,by omega⟩,_,⟨j,rfl,List.getElem?_eq_getElem hj⟩,fun i f hf=> ?_,h3⟩
    have hil:i<ks.length:=by have:=(List.getElem?_eq_some_iff.1 hf).1;omega
    refine⟨kids[i],List.getElem?_eq_getElem (by omega),?_⟩
    exact((hk i _ ks[i] (List.getElem?_eq_getElem (by omega)) (List.getElem?_eq_getElem hil)).2 f ((hr _ h1).2.1 f (List.mem_of_getElem? hf))).2 (h5 i _ f (List.getElem?_eq_getElem hil) hf)
theorem WV {B:Nat→List Int×Int×List Int×List Rule→Option (List (List Int))} {As:Nat→List Int×Int×List Int×List Rule×Int×List (RT Int)→Option Int} {Se:Nat→Int×List Int×List Rule×List (List Int)×Int×List (RT Int)→Option (List (Option (List Bool)))}
 (al:List Int) (S:Int) (fin:List Int) (rs:List Rule) (t:RT Int) (hAs:Sp As (al,S,fin,rs,t.a,t.kids) (fun r=>r=0→gY al (S,fin,rs))) (hB:gY al (S,fin,rs)→Sp B (al,S,fin,rs) (aaC al rs))
 (hSe:gY al (S,fin,rs)→ ∀by_,aaC al rs by_→Sp Se (S,fin,rs,by_,t.a,t.kids) (fun r=> ∃row rest,r=some row::rest∧ZG S rs t row∧r.length≤nds t)):
 Sp (fun n=>kR.P (B n) (As n) (Se n) n) (al,S,fin,rs,t.a,t.kids) (fun r=>r.2=0→ ∀q,q∈r.1 ↔ Reach rs t q):=by
 show Tt (fun n=>kR.P (B n) (As n) (Se n) n (al,S,fin,rs,t.a,t.kids)) _
 unfold kR.P;dsimp only
 refine Tt.bind hAs fun e he=>Tt.ite (fun hc=>Tt.pure fun h=> ?_) (fun hc=> ?_)
 ·dsimp only at h
  rw[h]at hc;cases hc
 have hv:=he (by simpa using hc)
 have hw:=hv.wf
 dsimp only at hw
 refine Tt.bind (hB hv) fun by_ hby=>Tt.bind (hSe hv by_ hby) ?_
 rintro _ ⟨row,rest,rfl,⟨hr1,hr2⟩,_⟩
 refine Tt.chk (rng (by omega) (by rw[List.length_cons];omega)) ?_
 rw[show rowAt? (some row::rest) (Int.toNat 0)=some row from rfl]
 refine Tt.ay ?_
 have hS:=hw.2.1
 have h0:=hw.1
 refine Tt.bind (R:=fun r:List Int=> ∀q,q∈r ↔ iy S q∧bat row q=true)
  (Tt.loop (L:=fun n=>kR.L1) (Lp.count row.length (fun i x=> ∃l:List Int,x=(l,row,((row.length:Nat):Int),(i:Int))∧l.length≤i∧ ∀q,q∈l ↔ 0≤q∧q<(i:Int)∧bat row q=true) ?_ ?_ ⟨[],rfl,by simp,fun q=>⟨fun h=>by simp at h,fun h=>absurd h.1 (by have:=h.2.1;omega)⟩⟩)) fun r hr=>Tt.pure fun _ q=> ?_
 ·rintro i x hi ⟨l,rfl,hl,hm⟩
  unfold kR.L1;dsimp only
  refine Bd.yes (bf (by omega)) (Bd.chk (rng (by omega) (by omega)) ?_)
  rw[Int.toNat_natCast]
  refine Bd.at hi fun b _ hb=> ?_
  have hbi:bat row (i:Int)=b:=by unfold bat;rw[Int.toNat_natCast,hb];rfl
  refine Bd.eG (fun hc=> ?_) (fun hc=> ?_)
  ·refine Bd.nM (qG (by simp;omega)) (Bd.ay (Bd.again ⟨_,by rw[aI (by omega)],by simp;omega,fun q=> ?_⟩))
   simp only[List.append_eq,List.mem_append,List.mem_singleton,hm]
   constructor
   ·rintro(⟨h1,h2,h3⟩|rfl)
    ·exact⟨h1,by omega,h3⟩
    ·exact⟨by omega,by omega,by rw[hbi];exact hc⟩
   ·rintro⟨h1,h2,h3⟩
    by_cases e:q=(i:Int)
    ·exact .inr e
    ·exact .inl ⟨h1,by omega,h3⟩
  ·refine Bd.ay (Bd.again ⟨l,by rw[aI (by omega)],by omega,fun q=> ?_⟩)
   rw[hm]
   constructor
   ·rintro⟨h1,h2,h3⟩;exact⟨h1,by omega,h3⟩
   ·rintro⟨h1,h2,h3⟩
    have:q≠(i:Int):=by rintro rfl;rw[hbi,hc]at h3;cases h3
    exact⟨h1,by omega,h3⟩
 ·rintro x ⟨l,rfl,hl,hm⟩
  unfold kR.L1;dsimp only
  exact Bd.no (decide_eq_false (by omega)) (Bd.done fun q=>(hm q).trans ⟨fun h=>⟨⟨h.1,by have:=h.2.1;omega⟩,h.2.2⟩,fun h=>⟨h.1.1,by have:=h.1.2;omega,h.2⟩⟩)
 ·rw[hr]
  exact⟨fun h=>(hr2 q h.1).1 h.2,fun h=>⟨D8 hw h,(hr2 q (D8 hw h)).2 h⟩⟩
def RU (M:Aut) (t:RT Int) (c:Int):Prop:=(0≤c∧ ∀q,Reach M.2.2 t q ↔ q=c)∨(c= -1∧ ∀q,¬Reach M.2.2 t q)
theorem Uy {St:Nat→List Int×Int×List Int×List Rule×Int×List (RT Int)→Option (List Int×Int)} {V:Nat→List Int×Int×List Int×List Rule→Option Bool} {Mi:Nat→List Int×Int×List Int×List Rule→Option (Int×List Int×List Rule×Int)} {T:Nat→List Int×Int×List (RT Int)→Option Bool}
 (al:List Int) (S:Int) (fin:List Int) (rs:List Rule) (t:RT Int) (rM:Int×List Int×List Rule×Int) (hV:Sp V (al,S,fin,rs) (fun r=>r=true ↔ gY al (S,fin,rs))) (hT:Sp T (al,t.a,t.kids) (fun _=>True))
 (hMi:gY al (S,fin,rs)→Sp Mi (al,S,fin,rs) (fun r=>r=rM)) (hM:gY al (S,fin,rs)→rM.2.2.2=0→Yy fin rs (rM.1,rM.2.1,rM.2.2.1))
 (hSt:gY al (S,fin,rs)→rM.2.2.2=0→Sp St (al,rM.1,rM.2.1,rM.2.2.1,t.a,t.kids) (fun r=>r.2=0→ ∀q,q∈r.1 ↔ Reach rM.2.2.1 t q)):
 Sp (fun n=>xH.P (St n) (V n) (Mi n) (T n) n) (al,S,fin,rs,t.a,t.kids) (fun r=>r.2=0→gY al (S,fin,rs)∧rM.2.2.2=0∧RU (rM.1,rM.2.1,rM.2.2.1) t r.1):=by
 show Tt (fun n=>xH.P (St n) (V n) (Mi n) (T n) n (al,S,fin,rs,t.a,t.kids)) _
 unfold xH.P;dsimp only
 refine Tt.fG (Tt.bind hV fun b hb=>Tt.eG (fun _=>Tt.ay (Tt.yes rfl (Tt.pure fun h=>by cases h))) (fun hc=>Tt.fG (Tt.bind hT fun c _=>Tt.ay (Tt.ite (fun _=>Tt.pure fun h=>by cases h) (fun _=> ?_)))))
 have hv:=hb.1 (by simpa using hc)
 dsimp only
 refine Tt.bind (hMi hv) fun r hr=> ?_
 rw[hr]
 refine Tt.ite (fun hc=>Tt.pure fun h=> ?_) (fun hc=> ?_)
 ·dsimp only at h
  rw[h]at hc;cases hc
 have h0:rM.2.2.2=0:=by simpa using hc
 obtain⟨mu,mp,_⟩:=hM hv h0
 refine Tt.bind (hSt hv h0) fun l hl=>Tt.ite (fun hc=>Tt.pure fun h=> ?_) (fun hc=> ?_)
 ·dsimp only at h
  rw[h]at hc;cases hc
 have hl:=hl (by simpa using hc)
 refine Tt.ite (fun hc=>Tt.pure fun _=>⟨hv,h0,.inr ⟨rfl,fun q hq=> ?_⟩⟩) (fun hc=> ?_)
 ·have h1:l.1= []:=List.eq_nil_of_length_eq_zero (by have:=zU hc;omega)
  have:=(hl q).2 hq
  rw[h1]at this;cases this
 ·have hpos:0<l.1.length:=by have:=dec_not hc;omega
  rw[show(0:Int)=((0:Nat):Int)from rfl,dZ hpos]
  have hr0:=(hl _).1 (List.getElem_mem hpos)
  exact Tt.pure fun _=>⟨hv,h0,.inl ⟨mp t _ hr0,fun q=>⟨fun hq=>mu t _ _ hq hr0,fun e=>e▸hr0⟩⟩⟩
end Go.Bk
end
noncomputable section
namespace Go.Bk
open Go Go.AM
set_option linter.unusedVariables false
def JV (x:RT Int):List Int→RT Int→RT Int
 | [],_=>x
 |i::p,t=>match t.kids[i.toNat]? with
  |some k=> .mk t.a (t.kids.set i.toNat (JV x p k))
  |none=>t
theorem Et {t u:RT Int} {i:Int} {p:List Int} (h:look t (i::p)=some u): ∃k,0≤i∧i<((t.kids.length:Nat):Int)∧t.kids[i.toNat]? =some k∧look k p=some u:=by
 have h:(nth? t.kids i).bind (fun k=>look k p)=some u:=h
 obtain⟨k,h1,h2⟩:=Option.bind_eq_some_iff.1 h
 unfold nth? at h1
 rw[cond_eq_ite]at h1
 split at h1
 ·rename_i h0
  have h0:=of_decide_eq_true h0
  exact⟨k,h0,by have:=(List.getElem?_eq_some_iff.1 h1).1;omega,h1,h2⟩
 ·cases h1
theorem Em {x t k:RT Int} {i:Int} {p:List Int} (h:t.kids[i.toNat]? =some k):JV x (i::p) t= .mk t.a (t.kids.set i.toNat (JV x p k)):=by
 show(match t.kids[i.toNat]? with|some k=>RT.mk t.a (t.kids.set i.toNat (JV x p k))|none=>t)=_
 rw[h]
theorem Lu {F:Nat→Int×List (RT Int)×List Int×Int×List (RT Int)→Option (Int×List (RT Int))} (hF: ∀n x,F (n+1) x=lT.P (F n) n x) (x:RT Int): ∀(p:List Int) (t u:RT Int),look t p=some u→nds t≤1000000000→p.length≤1000000→
 Sp F (t.a,t.kids,p,x.a,x.kids) (fun r=>r=((JV x p t).a,(JV x p t).kids))
 | [],t,u,h,hn,hp=>by
   refine Sp.step hF ?_
   show Tt (fun n=>lT.P (F n) n (t.a,t.kids,[],x.a,x.kids)) _
   unfold lT.P;dsimp only
   exact Tt.yes rfl (Tt.pure rfl)
 |i::p,t,u,h,hn,hp=>by
  obtain⟨k,h0,h1,h2,h3⟩:=Et h
  have hkm:=List.mem_of_getElem? h2
  have hnk:nds k≤nds t:=by
   have:=Fj (a:=t.a) hkm
   rwa [F6]at this
  have hl:t.kids.length≤nds t:=by
   have:=E5 (a:=t.a) (ks:=t.kids)
   rwa [F6]at this
  refine Sp.step hF ?_
  show Tt (fun n=>lT.P (F n) n (t.a,t.kids,i::p,x.a,x.kids)) _
  unfold lT.P;dsimp only
  rw[List.length_cons]at hp
  refine Tt.no (decide_eq_false (by rw[List.length_cons];omega)) (Tt.chk (qG (by simp;omega)) ?_)
  rw[show nth? (i::p) (0:Int)=some i from rfl]
  have hat:at? (List.append ([]:List (RT Int)) t.kids) i.toNat=some k:=h2
  have hre:(decide (0≤i)&&decide (i<((List.length (List.append ([]:List (RT Int)) t.kids):Nat):Int)))=true:=rng h0 h1
  refine Tt.ay (Tt.ay (Tt.chk hre ?_))
  rw[hat]
  refine Tt.ay (Tt.chk (by rw[List.length_cons];simp;omega) ?_)
  have e:List.drop (Int.toNat 1) (List.take (Int.toNat ((List.length (i::p):Nat):Int)) (i::p))=p:=by
   rw[Int.toNat_natCast,List.take_length];rfl
  rw[e]
  refine Tt.bind (Lu hF x p k u h3 (by omega) (by omega)) ?_
  rintro _ rfl
  refine Tt.chk hre (Tt.ay (Tt.pure ?_))
  rw[Em h2,F6];rfl
theorem UA (x:RT Int): ∀(p:List Int) (t:RT Int),nds (JV x p t)≤nds t+nds x
 | [],t=>by show nds x≤_;omega
 |i::p,t=>by
  cases h:t.kids[i.toNat]? with
  |none=>
   have:JV x (i::p) t=t:=by
    show(match t.kids[i.toNat]? with|some k=>RT.mk t.a (t.kids.set i.toNat (JV x p k))|none=>t)=_
    rw[h]
   rw[this];omega
  |some k=>
   rw[Em h]
   have ih:=UA x p k
   have hs: ∀(l:List (RT Int)) (j:Nat) (y:RT Int),l[j]? =some k→Dc (l.set j y)+nds k=Dc l+nds y:=by
    intro l
    induction l with
    |nil=>intro j y h;cases h
    |cons z l ihl=>
     intro j y h
     cases j with
     |zero=>
      have h:z=k:=by simpa using h
      subst h
      simp only[List.set_cons_zero,Dc];omega
     |succ j=>
      have:=ihl j y (by simpa using h)
      simp only[List.set_cons_succ,Dc];omega
   have h1:=hs t.kids i.toNat (JV x p k) h
   have h2:nds t=Dc t.kids+1:=by cases t;rfl
   show Dc (t.kids.set i.toNat (JV x p k))+1≤_
   omega
theorem Uz {al:List Int} {x:RT Int} (hx:Shp al x): ∀(p:List Int) (t:RT Int),Shp al t→Shp al (JV x p t)
 | [],_,_=>hx
 |i::p,t,ht=>by
  cases h:t.kids[i.toNat]? with
  |none=>
   have:JV x (i::p) t=t:=by
    show(match t.kids[i.toNat]? with|some k=>RT.mk t.a (t.kids.set i.toNat (JV x p k))|none=>t)=_
    rw[h]
   rw[this];exact ht
  |some k=>
   rw[Em h]
   have ht':Shp al (.mk t.a t.kids):=by rw[F6];exact ht
   refine .mk _ _ ht'.nonneg (by rw[List.length_set];exact ht'.ar) fun y hy=> ?_
   rcases List.mem_or_eq_of_mem_set hy with h2|rfl
   ·exact ht'.kid y h2
   ·exact Uz hx p k (ht'.kid k (List.mem_of_getElem? h))
theorem U1 {al:List Int}: ∀(p:List Int) (t u:RT Int),look t p=some u→Shp al t→Shp al u∧nds u≤nds t
 | [],t,u,h,ht=>by
   have h:t=u:=Option.some.inj h
   subst h;exact⟨ht,Nat.le_refl _⟩
 |i::p,t,u,h,ht=>by
  obtain⟨k,_,_,h2,h3⟩:=Et h
  have ht':Shp al (.mk t.a t.kids):=by rw[F6];exact ht
  have hkm:=List.mem_of_getElem? h2
  obtain⟨a1,a2⟩:=U1 p k u h3 (ht'.kid k hkm)
  have:=Fj (a:=t.a) hkm
  rw[F6]at this
  exact⟨a1,by omega⟩
theorem Ll {rs:List Rule} {x:RT Int}: ∀(p:List Int) (t u:RT Int),look t p=some u→(∀c,Reach rs x c ↔ Reach rs u c)→ ∀c,Reach rs (JV x p t) c ↔ Reach rs t c
 | [],t,u,h,hx,c=>by
   have h:t=u:=Option.some.inj h
   subst h;exact hx c
 |i::p,t,u,h,hx,c=>by
  obtain⟨k,h0,h1,h2,h3⟩:=Et h
  have ih:=Ll p k u h3 hx
  rw[Em h2]
  have hil:i.toNat<t.kids.length:=by omega
  have e:Reach rs t c ↔ Reach rs (.mk t.a t.kids) c:=by rw[F6]
  rw[e,dU,dU]
  have kid: ∀(j:Nat) (y:RT Int) (f:Int),(t.kids.set i.toNat (JV x p k))[j]? =some y→ ∃y0,t.kids[j]? =some y0∧(Reach rs y f ↔ Reach rs y0 f):=by
   intro j y f hy
   rw[List.getElem?_set]at hy
   split at hy
   ·rename_i e
    subst e
    have hy:JV x p k=y:=by simpa [hil]using hy
    subst hy
    exact⟨k,h2,ih f⟩
   ·exact⟨y,hy,Iff.rfl⟩
  constructor
  ·rintro⟨r,a1,a2,a3,a4,a5⟩
   rw[List.length_set]at a4
   refine⟨r,a1,a2,a3,a4,fun j y f hy hf=> ?_⟩
   obtain⟨y',e'⟩: ∃y',(t.kids.set i.toNat (JV x p k))[j]? =some y':=⟨_,List.getElem?_eq_getElem (by rw[List.length_set];exact(List.getElem?_eq_some_iff.1 hy).1)⟩
   obtain⟨y0,b1,b2⟩:=kid j y' f e'
   rw[hy]at b1;cases b1
   exact b2.1 (a5 j y' f e' hf)
  ·rintro⟨r,a1,a2,a3,a4,a5⟩
   refine⟨r,a1,a2,a3,by rw[List.length_set];exact a4,fun j y f hy hf=> ?_⟩
   obtain⟨y0,b1,b2⟩:=kid j y f hy
   exact b2.2 (a5 j y0 f b1 hf)
theorem LY {al:List Int} {rs:List Rule} (hAr: ∀r∈rs,∀t:RT Int,r.2.1.length=t.kids.length→ ∀i,i<t.kids.length→i<r.2.1.length): ∀(p:List Int) (t u:RT Int),look t p=some u→(∀c,¬Reach rs u c)→ ∀c,¬Reach rs t c
 | [],t,u,h,hx,c=>by
   have h:t=u:=Option.some.inj h
   subst h;exact hx c
 |i::p,t,u,h,hx,c=>by
  obtain⟨k,h0,h1,h2,h3⟩:=Et h
  have ih:=LY (al:=al) hAr p k u h3 hx
  intro hc
  have hc:Reach rs (.mk t.a t.kids) c:=by rw[F6];exact hc
  obtain⟨r,a1,a2,a3,a4,a5⟩:=dU.1 hc
  have hil:i.toNat<r.2.1.length:=by omega
  exact ih _ (a5 i.toNat k _ h2 (List.getElem?_eq_getElem hil))
theorem ZV (t:RT Int) (p:List Int) (hp:p.length≤1000000):Sp mW.P (t.a,t.kids,p) (fun r=>(∃u,look t p=some u∧r=(u.a,u.kids,true))∨r.2.2=false):=by
 show Tt (fun n=>mW.P n (t.a,t.kids,p)) _
 unfold mW.P;dsimp only
 refine Tt.bind (R:=fun q:Sum (Int×List (RT Int)×Int×List (RT Int)) (Int×List (RT Int)×Bool)=>(∃u,look t p=some u∧q= .inl (u.a,u.kids,(0:Int),([]:List (RT Int))))∨q= .inr ((0:Int),([]:List (RT Int)),false))
  (Tt.loop (L:=fun _=>mW.L1) (Lp.count p.length (fun i s=> ∃v:RT Int,s=(v.a,v.kids,(0:Int),([]:List (RT Int)),p,((p.length:Nat):Int),(i:Int))∧look t p=look v (p.drop i)) ?_ ?_ ⟨t,rfl,rfl⟩)) ?_
 ·rintro i s hi ⟨v,rfl,hv⟩
  unfold mW.L1;dsimp only
  rw[List.drop_eq_getElem_cons hi]at hv
  refine Bd.yes (bf (by omega)) (Bd.nth hi ?_)
  refine Bd.eG (fun _=>Bd.ay (Bd.yes rfl (Bd.ay (Bd.done (.inr rfl))))) (fun h0=>Bd.ay (Bd.ite (fun _=>Bd.ay (Bd.done (.inr rfl))) (fun h1=> ?_)))
  have h0:=dec_not h0
  have h1: ¬((v.kids.length:Nat):Int)≤p[i]:=dec_not h1
  have hlt:p[i].toNat<v.kids.length:=by omega
  dsimp only
  have en:nth? v.kids p[i]=some v.kids[p[i].toNat]:=wP (by omega) (by omega)
  rw[en]
  refine Bd.ay (Bd.again ⟨v.kids[p[i].toNat],by rw[aI (by omega)],hv.trans ?_⟩)
  show(nth? v.kids p[i]).bind (fun k=>look k _)=_
  rw[en];rfl
 ·rintro s ⟨v,rfl,hv⟩
  unfold mW.L1;dsimp only
  rw[List.drop_length]at hv
  exact Bd.no (decide_eq_false (by omega)) (Bd.done (.inl ⟨v,hv,rfl⟩))
 ·rintro _ (⟨u,h,rfl⟩|rfl)
  ·exact Tt.pure (.inl ⟨u,h,rfl⟩)
  ·exact Tt.pure (.inr rfl)
theorem O6 {Aw:Nat→Unit→Option Bool} {Fw:Nat→List Int×List Aut→Option Bool} {Cl:Nat→List Int×Int×List Int×List Rule×Int×List (RT Int)→Option (Int×Int)} {F0:Nat→Int×List (RT Int)×Int→Option Bool} {Fi:Nat→Int×List (RT Int)×List Int→Option (Int×List (RT Int)×Bool)}
 {Re:Nat→Int×List (RT Int)×List Int×Int×List (RT Int)→Option (Int×List (RT Int))} {V0:Nat→List Int×Int×List (RT Int)→Option Bool} {Ha:Nat→Int×List Int×List Rule×Int×List (RT Int)→Option Bool}
 (b:List Int) (S:Int) (fin:List Int) (rs:List Rule) (t x:RT Int) (pos:List Int) (hnt:nds t≤1100000) (hnx:nds x≤1100000) (hAw:Sp Aw () (fun r=>r=true)) (hFw:Sp Fw (b,[(S,fin,rs)]) (fun r=>r=true→TJ b (S,fin,rs)))
 (hF0: ∀t:RT Int,nds t≤1100000→Sp F0 (t.a,t.kids,(400:Int)) (fun _=>True)) (hV0: ∀t:RT Int,nds t≤1100000→Sp V0 (b,t.a,t.kids) (fun r=>r=true→Shp b t))
 (hFi:pos.length≤1000000→Sp Fi (t.a,t.kids,pos) (fun r=>(∃u,look t pos=some u∧r=(u.a,u.kids,true))∨r.2.2=false))
 (hRe: ∀u,look t pos=some u→pos.length≤1000000→Sp Re (t.a,t.kids,pos,x.a,x.kids) (fun r=>r=((JV x pos t).a,(JV x pos t).kids)))
 (hHa:gY b (S,fin,rs)→ ∀t:RT Int,Shp b t→nds t≤2200000→Sp Ha (S,fin,rs,t.a,t.kids) (fun r=>r=true ↔ Acc rs fin t))
 (hCl:TJ b (S,fin,rs)→ ∃M:Aut,∀t:RT Int,Shp b t→nds t≤1100000→Sp Cl (b,S,fin,rs,t.a,t.kids) (fun r=>r.2=0→gY b (S,fin,rs)∧Yy fin rs M∧RU M t r.1)):
 Sp (fun n=>nR.P (Aw n) (Fw n) (Cl n) (F0 n) (Fi n) (Re n) (V0 n) (Ha n) n) (b,S,fin,rs,t.a,t.kids,x.a,x.kids,pos) (fun r=>r=true):=by
 have aw:Tt (fun n=>(Aw n ()).bind fun r=>some r) (fun r=>r=true):=Tt.bind hAw fun r hr=>Tt.pure hr
 show Tt (fun n=>nR.P (Aw n) (Fw n) (Cl n) (F0 n) (Fi n) (Re n) (V0 n) (Ha n) n (b,S,fin,rs,t.a,t.kids,x.a,x.kids,pos)) _
 unfold nR.P;dsimp only
 refine Tt.fG (Tt.bind hFw fun f1 hf1=>Tt.eG (fun _=>Tt.ay (Tt.yes rfl aw)) (fun g1=> ?_))
 refine Tt.fG (Tt.bind (hF0 t hnt) fun f2 _=>Tt.eG (fun _=>Tt.ay (Tt.yes rfl aw)) (fun _=> ?_))
 refine Tt.fG (Tt.bind (hF0 x hnx) fun f3 _=>Tt.eG (fun _=>Tt.ay (Tt.yes rfl aw)) (fun _=> ?_))
 refine Tt.eG (fun _=>Tt.ay (Tt.yes rfl aw)) (fun g4=> ?_)
 refine Tt.fG (Tt.bind (hV0 t hnt) fun f4 hf4=>Tt.eG (fun _=>Tt.ay (Tt.yes rfl aw)) (fun g5=> ?_))
 refine Tt.fG (Tt.bind (hV0 x hnx) fun f5 hf5=>Tt.ay (Tt.ite (fun _=>aw) (fun g6=> ?_)))
 have hsx:Shp b x:=hf5 (by simpa using g6)
 have hst:Shp b t:=hf4 (by simpa using g5)
 have hpl:pos.length≤1000000:=by have:=dec_not g4;omega
 dsimp only
 obtain⟨M,hM⟩:=hCl (hf1 (by simpa using g1))
 refine Tt.bind (hFi hpl) fun fd hfd=>Tt.ite (fun _=>aw) (fun g7=> ?_)
 rcases hfd with⟨u,hu,rfl⟩|hfd
 rotate_left
 ·rw[hfd]at g7;cases g7
 dsimp only
 obtain⟨hsu,hnu⟩:=U1 pos t u hu hst
 refine Tt.bind (hM u hsu (by omega)) fun c1 hc1=>Tt.bind (hM x hsx hnx) fun c2 hc2=>Tt.eG (fun _=>Tt.ay (Tt.yes rfl aw)) (fun g8=>Tt.ay (Tt.ite (fun _=>aw) (fun g9=> ?_)))
 obtain⟨hv,hmin,k1⟩:=hc1 (by simpa using g8)
 obtain⟨_,_,k2⟩:=hc2 (by simpa using g9)
 obtain⟨mu,mp,ma,_⟩:=hmin
 dsimp only
 have main: ∀h:Bool,(h=true ↔ Acc rs fin t)→c1.1=c2.1→Tt (fun n=>(Re n (t.a,t.kids,pos,x.a,x.kids)).bind fun r17=>(Ha n (S,fin,rs,r17.1,r17.2)).bind fun r18=>bif h==r18 then((Aw n ()).bind fun r19=>some r19)else some false) (fun r=>r=true):=by
  intro h hh hcc
  refine Tt.bind (hRe u hu hpl) ?_
  rintro _ rfl
  dsimp only
  refine Tt.bind (hHa hv (JV x pos t) (Uz hsx pos t hst) (by have:=UA x pos t;omega)) fun h2 hh2=> ?_
  have hcx: ∀c,Reach M.2.2 x c ↔ Reach M.2.2 u c:=by
   intro c
   rcases k1 with⟨a0,a1⟩|⟨a0,a1⟩<;>rcases k2 with⟨b0,b1⟩|⟨b0,b1⟩
   ·rw[a1,b1,hcc]
   ·omega
   ·omega
   ·exact⟨fun h=>absurd h (b1 c),fun h=>absurd h (a1 c)⟩
  have hacc:Acc rs fin (JV x pos t) ↔ Acc rs fin t:=by
   rw[←ma,←ma]
   have:=Ll pos t u hu hcx
   exact⟨fun⟨q,h1,h2⟩=>⟨q,(this q).1 h1,h2⟩,fun⟨q,h1,h2⟩=>⟨q,(this q).2 h1,h2⟩⟩
  have:h=h2:=by
   have:=hh.trans (hacc.symm.trans hh2.symm)
   cases h<;>cases h2<;>simp_all
  exact Tt.yes (by rw[this];simp) aw
 have rest: ∀h:Bool,(h=true ↔ Acc rs fin t)→Tt (fun n=>(bif !decide (c1.1=c2.1)then((Aw n ()).bind fun r16=>some r16)else(Re n (t.a,t.kids,pos,x.a,x.kids)).bind fun r17=>(Ha n (S,fin,rs,r17.1,r17.2)).bind fun r18=>bif h==r18 then((Aw n ()).bind fun r19=>some r19)else some false).bind fun x20=>some x20) (fun r=>r=true):=by
  intro h hh
  refine Tt.bind (R:=fun r=>r=true) (Tt.ite (fun _=>aw) (fun hc=>main h hh ?_)) fun r hr=>Tt.pure hr
  simpa using hc
 refine Tt.bind (hHa hv t hst (by omega)) fun h hh=>Tt.eG (fun gn=>Tt.ay (Tt.ite (fun hc=> ?_) (fun _=>rest h hh))) (fun _=>Tt.ay (Tt.no rfl (rest h hh)))
 exfalso
 have hc:h=true:=hc
 have gn:=zU gn
 obtain⟨q,h1,h2⟩:=(ma t).2 (hh.1 hc)
 rcases k1 with⟨a0,_⟩|⟨_,a1⟩
 ·omega
 ·exact LY (al:=b) (fun r _ t e i hi=>by omega) pos t u hu a1 q h1
end Go.Bk
end
noncomputable section
namespace Go.Bk
open Go Go.AM
set_option linter.unusedVariables false
theorem Ve {α:Type} {f:α→Nat}: ∀{l:List α} {x:α},x∈l→f x≤sumW f l
 |a::l,x,h=>by
  simp only[sumW]
  rcases List.mem_cons.mp h with rfl|h
  ·omega
  ·have:=Ve (f:=f) h;omega
theorem NK {α:Type} {f:α→Nat} (h: ∀x,1≤f x): ∀l:List α,l.length≤sumW f l
 | []=>by simp[sumW]
 |a::l=>by
  have:=NK h l
  have:=h a
  simp only[sumW,List.length_cons];omega
mutual
theorem ac1 (f:Int→Nat): ∀t:RT Int,nds t≤RT.wt f t
 | .mk a ks=>by
   have:=Nh f ks
   simp only[nds,RT.wt];omega
theorem Nh (f:Int→Nat): ∀ks:List (RT Int),Dc ks≤RT.wts f ks
 | []=>by simp[Dc,RT.wts]
 |k::ks=>by
  have:=ac1 f k
  have:=Nh f ks
  simp only[Dc,RT.wts];omega
end
theorem adb (l:List Int):l.length+1≤wt (.sl [.int .i64]) l:=by
 have:=NK (f:=wtA [.int .i64]) (fun x=>Nat.le_refl _) l
 exact Nat.succ_le_succ this
theorem Zn (l:List Rule):l.length+1≤wt (.sl [.int .i64,.sl [.int .i64],.int .i64]) l∧ ∀r∈l,r.2.1.length≤wt (.sl [.int .i64,.sl [.int .i64],.int .i64]) l:=by
 have h1: ∀r:Rule,1≤wtA [.int .i64,.sl [.int .i64],.int .i64] r:=fun r=>by
  show 1≤1+_
  omega
 have:=NK (f:=wtA [.int .i64,.sl [.int .i64],.int .i64]) h1 l
 refine⟨Nat.succ_le_succ this,fun r hr=> ?_⟩
 have h2:=Ve (f:=wtA [.int .i64,.sl [.int .i64],.int .i64]) hr
 have h3:r.2.1.length+1≤wtA [.int .i64,.sl [.int .i64],.int .i64] r:=by
  have:=adb r.2.1
  show _≤1+(wt (.sl [.int .i64]) r.2.1+1)
  omega
 exact Nat.le_trans (Nat.le_trans (Nat.le_succ _) h3) (Nat.le_trans h2 (Nat.le_succ _))
theorem Xy (s:Int) (ks:List (RT Int)):nds (.mk s ks)≤wt (.rsl [.int .i64]) ks:=by
 have:=Nh (wtA [.int .i64]) ks
 exact Nat.succ_le_succ this
end Go.Bk
end
