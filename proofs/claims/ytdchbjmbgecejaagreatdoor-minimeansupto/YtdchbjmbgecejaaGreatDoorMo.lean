import Derived.Test.YtdchbjmbgecejaaGreatDoorMj
noncomputable section
namespace Go.Bk
open Go Go.AM
set_option linter.unusedVariables false
def iat (l:List Int) (s:Int):Int:=l[s.toNat]?.getD 0
theorem Rh {l:List Int} {s:Int} {v:Int} (h:l[s.toNat]? =some v):iat l s=v:=by unfold iat;rw[h];rfl
theorem yc {l:List Int} {s:Int} (h:s.toNat<l.length):l[s.toNat]=iat l s:=by unfold iat;rw[List.getElem?_eq_getElem h];rfl
def Ren (kp:Int→Prop) (ν:Int→Int) (rs rs':List Rule):Prop:=
 ∀r',r'∈rs' ↔ ∃r∈rs,kp r.2.2∧(∀s∈r.2.1,kp s)∧r'=(r.1,r.2.1.map ν,ν r.2.2)
def aer (kp:Int→Prop) (ν:Int→Int) (fin fin':List Int):Prop:= ∀q,q∈fin' ↔ ∃s∈fin,kp s∧q=ν s
abbrev Gl (F:Nat→List Rule→Option (List Rule)):Prop:= ∀x:List Rule,x.length≤100000→(∀r∈x,r.2.1.length≤3)→Sp F x (fun r=>r.length≤x.length∧ ∀y,y∈r ↔ y∈x)
theorem ad5 {l z:List Int} (h:z.length=l.length):List.append (List.append (List.take 0 z) (List.take (Nat.min l.length (z.length-0)) l)) (List.drop (0+Nat.min l.length (z.length-0)) z)=l:=by
 have h1:Nat.min l.length (z.length-0)=l.length:=by rw[h,Nat.sub_zero];exact Nat.min_self _
 rw[h1,Nat.zero_add,←h,List.drop_length,h,List.take_length]
 simp
theorem YW {l:List Int} {f:Int→Int} {i:Nat} (h:i<l.length):List.set ((l.take i).map f++l.drop i) i (f l[i])=(l.take (i+1)).map f++l.drop (i+1):=by
 have hl:((l.take i).map f).length=i:=by simp;omega
 rw[List.set_append_right _ _ (by omega),hl,Nat.sub_self,List.drop_eq_getElem_cons h,List.set_cons_zero,List.take_add_one,List.getElem?_eq_getElem h,List.map_append,List.append_assoc]
 rfl
theorem ac4 {l:List Int} {f:Int→Int} {i:Nat} (h:i<l.length):((l.take i).map f++l.drop i)[i]? =some l[i]:=by
 have hl:((l.take i).map f).length=i:=by simp;omega
 rw[List.getElem?_append_right (by omega),hl,Nat.sub_self,List.drop_eq_getElem_cons h];rfl
def wo (S:Int) (fin:List Int) (rs:List Rule) (keep:List Bool) (a:Aut):Prop:=
 (Wf a.1 a.2.1 a.2.2∧a.1≤S)∧ ∃ν:Int→Int,(∀s s',iy S s→iy S s'→bat keep s=true→bat keep s'=true→ν s=ν s'→s=s')∧aer (fun s=>bat keep s=true) ν fin a.2.1∧Ren (fun s=>bat keep s=true) ν rs a.2.2
theorem abC {F:Nat→List Rule→Option (List Rule)} {C:Nat→List Int×List Bool→Option Bool} (hF:Gl F) (hC:YD C (!·)) (S:Int) (fin:List Int) (rs:List Rule) (keep:List Bool) (h:Wf S fin rs) (hk:keep.length=S.toNat):
 Sp (fun n=>fK.P (F n) (C n) n) (S,fin,rs,keep) (wo S fin rs keep):=by
 obtain⟨h0,hS,hfl,hrl,hfin,hr⟩:=h
 show Tt (fun n=>fK.P (F n) (C n) n (S,fin,rs,keep)) _
 unfold fK.P;dsimp only
 refine Tt.chk (yX h0 (by omega)) ?_
 refine Tt.bind (R:=fun t=> ∃(num:List Int) (c:Int),num.length=S.toNat∧0≤c∧c≤S∧(∀s,iy S s→bat keep s=true→iy c (iat num s))∧(∀s s',iy S s→iy S s'→bat keep s=true→bat keep s'=true→iat num s=iat num s'→s=s')∧
  t=(S,fin,rs,keep,(0:Int),([]:List Int),([]:List Rule),c,([]:List Int),([]:List Rule),num))
  (Tt.loop (Lp.count keep.length (fun i t=> ∃(num:List Int) (c:Int),num.length=S.toNat∧0≤c∧c≤(i:Int)∧(∀s,iy (i:Int) s→bat keep s=true→iy c (iat num s))∧(∀s s',iy (i:Int) s→iy (i:Int) s'→bat keep s=true→bat keep s'=true→iat num s=iat num s'→s=s')∧
   t=(S,fin,rs,keep,(0:Int),([]:List Int),([]:List Rule),c,([]:List Int),([]:List Rule),num,keep,((keep.length:Nat):Int),(i:Int))) ?_ ?_ ?_)) ?_
 ·rintro i t hi ⟨num,c,hn,hc0,hci,hI,hJ,rfl⟩
  unfold fK.L1;dsimp only
  have hbi:bat keep (i:Int)=keep[i]:=by unfold bat;rw[Int.toNat_natCast,List.getElem?_eq_getElem hi];rfl
  refine Bd.yes (bf (by omega)) (Bd.nth hi (Bd.eG (fun hki=> ?_) (fun hki=> ?_)))
  ·refine Bd.nM (rng (by omega) (by omega)) (Bd.fG ?_)
   rw[Int.toNat_natCast]
   refine Bd.at (by omega) fun e _ _=>Bd.ay (Bd.again ?_)
   have hset: ∀s:Int,iy ((i+1:Nat):Int) s→iat (num.set i c) s=if s=(i:Int)then c else iat num s:=by
    intro s hs
    unfold iat
    rw[List.getElem?_set]
    by_cases e:s=(i:Int)
    ·subst e;rw[if_pos rfl,Int.toNat_natCast,if_pos rfl,if_pos (by omega)];rfl
    ·rw[if_neg e,if_neg (by have:=hs.1;omega)]
   have hlt: ∀s:Int,iy ((i+1:Nat):Int) s→s≠(i:Int)→iy (i:Int) s:=fun s hs e=>⟨hs.1,by have:=hs.2;omega⟩
   refine⟨num.set i c,c+1,by simpa using hn,by omega,by omega,fun s hs hb=> ?_,fun s s' hs hs' hb hb' e=> ?_,by rw[aI (by omega),o7 _ (by omega) (by omega)]⟩
   ·rw[hset s hs]
    split
    ·exact⟨hc0,by omega⟩
    ·rename_i e
     obtain⟨a1,a2⟩:=hI s (hlt s hs e) hb
     exact⟨a1,by omega⟩
   ·rw[hset s hs,hset s' hs']at e
    split at e<;>split at e
    ·rename_i e1 e2;rw[e1,e2]
    ·rename_i e1 e2
     have:=(hI s' (hlt s' hs' e2) hb').2;omega
    ·rename_i e1 e2
     have:=(hI s (hlt s hs e1) hb).2;omega
    ·rename_i e1 e2
     exact hJ s s' (hlt s hs e1) (hlt s' hs' e2) hb hb' e
  ·have hlt: ∀s:Int,iy ((i+1:Nat):Int) s→bat keep s=true→iy (i:Int) s:=fun s hs hb=>⟨hs.1,by
    have:=hs.2
    have:s≠(i:Int):=by rintro rfl;rw[hbi,hki]at hb;cases hb
    omega⟩
   exact Bd.ay (Bd.again ⟨num,c,hn,hc0,by omega,fun s hs hb=>hI s (hlt s hs hb) hb,fun s s' hs hs' hb hb' e=>hJ s s' (hlt s hs hb) (hlt s' hs' hb') hb hb' e,by rw[aI (by omega)]⟩)
 ·rintro t ⟨num,c,hn,hc0,hci,hI,hJ,rfl⟩
  unfold fK.L1;dsimp only
  have e:((keep.length:Nat):Int)=S:=by omega
  rw[e]at hI hJ
  exact Bd.no (decide_eq_false (by omega)) (Bd.done ⟨num,c,hn,hc0,by omega,hI,hJ,rfl⟩)
 ·exact⟨_,0,by simp,by omega,by omega,fun s hs=>absurd hs.1 (by have:=hs.2;omega),fun s s' hs=>absurd hs.1 (by have:=hs.2;omega),rfl⟩
 rintro _ ⟨num,c,hn,hc0,hcS,hI,hJ,rfl⟩
 dsimp only
 have hnl: ∀s,iy S s→s.toNat<num.length:=fun s hs=>by have:=hs.1;have:=hs.2;omega
 refine Tt.bind (R:=fun t=> ∃fin':List Int,fin'.length≤fin.length∧aer (fun s=>bat keep s=true) (iat num) fin fin'∧t=(S,fin,rs,keep,(0:Int),([]:List Int),([]:List Rule),c,fin',([]:List Rule),num))
  (Tt.loop (Lp.count fin.length (fun i t=> ∃fin':List Int,fin'.length≤i∧aer (fun s=>bat keep s=true) (iat num) (fin.take i) fin'∧t=(S,fin,rs,keep,(0:Int),([]:List Int),([]:List Rule),c,fin',([]:List Rule),num,fin,((fin.length:Nat):Int),(i:Int))) ?_ ?_ ⟨[],by simp,fun q=>by simp,rfl⟩)) ?_
 ·rintro i t hi ⟨fin',hf1,hf2,rfl⟩
  unfold fK.L2;dsimp only
  have hs:=hfin fin[i] (List.getElem_mem hi)
  refine Bd.yes (bf (by omega)) (Bd.nth hi ?_)
  rw[Fa hk hs]
  refine Bd.ay (Bd.eG (fun hb=> ?_) (fun hb=> ?_))
  ·refine Bd.nM (rng hs.1 (by have:=hs.1;have:=hs.2;omega)) (Bd.fG (Bd.at (hnl _ hs) fun v _ hv=>Bd.nM (qG (by simp;omega)) (Bd.ay (Bd.again ⟨fin'++[v],by simp;omega,fun q=> ?_,by rw[aI (by omega)];rfl⟩))))
   rw[List.mem_append,hf2,List.take_add_one,List.getElem?_eq_getElem hi,List.mem_singleton,←Rh hv]
   constructor
   ·rintro(⟨s,h1,h2,h3⟩|h)
    ·exact⟨s,List.mem_append_left _ h1,h2,h3⟩
    ·exact⟨fin[i],List.mem_append_right _ (by simp),hb,h⟩
   ·rintro⟨s,h1,h2,h3⟩
    rcases List.mem_append.1 h1 with h1|h1
    ·exact .inl ⟨s,h1,h2,h3⟩
    ·simp only[Option.toList_some,List.mem_singleton]at h1
     rw[h1]at h3
     exact .inr h3
  ·refine Bd.ay (Bd.again ⟨fin',by omega,fun q=> ?_,by rw[aI (by omega)]⟩)
   rw[hf2,List.take_add_one,List.getElem?_eq_getElem hi]
   constructor
   ·rintro⟨s,h1,h2,h3⟩
    exact⟨s,List.mem_append_left _ h1,h2,h3⟩
   ·rintro⟨s,h1,h2,h3⟩
    rcases List.mem_append.1 h1 with h1|h1
    ·exact⟨s,h1,h2,h3⟩
    ·simp only[Option.toList_some,List.mem_singleton]at h1
     rw[h1,hb]at h2;cases h2
 ·rintro t ⟨fin',hf1,hf2,rfl⟩
  unfold fK.L2;dsimp only
  rw[List.take_length]at hf2
  exact Bd.no (decide_eq_false (by omega)) (Bd.done ⟨fin',hf1,hf2,rfl⟩)
 rintro _ ⟨fin',hf1,hf2,rfl⟩
 dsimp only
 refine Tt.bind (R:=fun t=> ∃rs':List Rule,rs'.length≤rs.length∧Ren (fun s=>bat keep s=true) (iat num) rs rs'∧t=((0:Int),([]:List Int),([]:List Rule),c,fin',rs'))
  (Tt.loop (Lp.count rs.length (fun i t=> ∃rs':List Rule,rs'.length≤i∧Ren (fun s=>bat keep s=true) (iat num) (rs.take i) rs'∧t=(keep,(0:Int),([]:List Int),([]:List Rule),c,fin',rs',num,rs,((rs.length:Nat):Int),(i:Int))) ?_ ?_ ⟨[],by simp,fun q=>by simp,rfl⟩)) ?_
 ·rintro i t hi ⟨rs',hf1,hf2,rfl⟩
  unfold fK.L4;dsimp only
  obtain⟨hto,hfr,hfl3⟩:=hr rs[i] (List.getElem_mem hi)
  have skip: ¬(bat keep rs[i].2.2=true∧ ∀s∈rs[i].2.1,bat keep s=true)→Ren (fun s=>bat keep s=true) (iat num) (rs.take (i+1)) rs':=by
   intro hn q
   rw[hf2,List.take_add_one,List.getElem?_eq_getElem hi]
   constructor
   ·rintro⟨s,h1,h2⟩
    exact⟨s,List.mem_append_left _ h1,h2⟩
   ·rintro⟨s,h1,h2,h3,h4⟩
    rcases List.mem_append.1 h1 with h1|h1
    ·exact⟨s,h1,h2,h3,h4⟩
    ·simp only[Option.toList_some,List.mem_singleton]at h1
     subst h1
     exact absurd ⟨h2,h3⟩ hn
  have main:bat keep rs[i].2.2=true→(∀s∈rs[i].2.1,bat keep s=true)→Ren (fun s=>bat keep s=true) (iat num) (rs.take (i+1)) (rs'++[(rs[i].1,rs[i].2.1.map (iat num),iat num rs[i].2.2)]):=by
   intro hb1 hb2 q
   rw[List.mem_append,hf2,List.take_add_one,List.getElem?_eq_getElem hi,List.mem_singleton]
   constructor
   ·rintro(⟨s,h1,h2⟩|h)
    ·exact⟨s,List.mem_append_left _ h1,h2⟩
    ·exact⟨rs[i],List.mem_append_right _ (by simp),hb1,hb2,h⟩
   ·rintro⟨s,h1,h2,h3,h4⟩
    rcases List.mem_append.1 h1 with h1|h1
    ·exact .inl ⟨s,h1,h2,h3,h4⟩
    ·simp only[Option.toList_some,List.mem_singleton]at h1
     rw[h1]at h4
     exact .inr h4
  refine Bd.yes (bf (by omega)) (Bd.nth hi (Bd.fG ?_))
  rw[Fa hk hto]
  refine Bd.ay (Bd.eG (fun hb=> ?_) (fun hb=> ?_))
  ·have hb:bat keep rs[i].2.2=false:=by simpa using hb
   exact Bd.ay (Bd.yes rfl (Bd.again ⟨rs',by omega,skip (fun h=>by rw[hb]at h;cases h.1),by dsimp only;rw[aI (by omega)]⟩))
  ·have hb:bat keep rs[i].2.2=true:=by simpa using hb
   refine Bd.fG (Bd.bind (hC S rs[i].2.1 keep hk hfr (by omega)) ?_)
   intro b hbb
   refine Bd.ay (Bd.ite (fun hc=> ?_) (fun hc=> ?_))
   ·have hc:b=true:=hc
    refine Bd.again ⟨rs',by omega,skip fun h=> ?_,by dsimp only;rw[aI (by omega)]⟩
    rw[hc]at hbb
    obtain⟨s,hs,hn⟩:=List.any_eq_true.1 hbb.symm
    rw[h.2 s hs]at hn;cases hn
   ·have hc:b=false:=hc
    rw[hc]at hbb
    have hall:=YD.all hbb.symm
    dsimp only
    refine Bd.chk (yX (by omega) (by omega)) (Bd.chk (rng hto.1 (by have:=hto.1;have:=hto.2;omega)) (Bd.at (hnl _ hto) fun v _ hv=> ?_))
    rw[ad5 (by rw[List.length_replicate,Int.toNat_natCast])]
    refine Bd.bind (R:=fun t=>t=(keep,(0:Int),([]:List Int),([]:List Rule),c,fin',rs',num,rs[i].1,rs[i].2.1.map (iat num),v,rs,((rs.length:Nat):Int),(i:Int)))
     (Tt.loop (L:=fun n=>fK.L3) (Lp.count rs[i].2.1.length (fun j t=>t=(keep,(0:Int),([]:List Int),([]:List Rule),c,fin',rs',num,rs[i].1,(rs[i].2.1.take j).map (iat num)++rs[i].2.1.drop j,v,rs,((rs.length:Nat):Int),(i:Int),((rs[i].2.1.length:Nat):Int),(j:Int))) ?_ ?_ rfl)) ?_
    ·rintro j t hj rfl
     unfold fK.L3;dsimp only
     have hl:((rs[i].2.1.take j).map (iat num)++rs[i].2.1.drop j).length=rs[i].2.1.length:=by simp;omega
     have hs:=hfr _ (List.getElem_mem hj)
     refine Bd.yes (bf (by omega)) (Bd.chk (rng (by omega) (by omega)) ?_)
     rw[Int.toNat_natCast]
     refine Bd.at (by omega) fun e _ he=> ?_
     rw[ac4 hj]at he;cases he
     refine Bd.chk (rng hs.1 (by have:=hs.1;have:=hs.2;omega)) (Bd.at (hnl _ hs) fun v2 _ hv2=> ?_)
     refine Bd.chk (rng (by omega) (by omega)) (Bd.at (by omega) fun e2 _ _=>Bd.again ?_)
     rw[aI (by omega),←Rh hv2,YW hj]
    ·rintro t rfl
     unfold fK.L3;dsimp only
     rw[List.take_length,List.drop_length,List.append_nil]
     exact Bd.no (decide_eq_false (by omega)) (Bd.done rfl)
    ·rintro _ rfl
     dsimp only
     refine Bd.chk (qG (by simp;omega)) (Bd.again ⟨_,?_,main hb hall,by rw[aI (by omega),Rh hv];rfl⟩)
     simp;omega
 ·rintro t ⟨rs',hf1,hf2,rfl⟩
  unfold fK.L4;dsimp only
  rw[List.take_length]at hf2
  exact Bd.no (decide_eq_false (by omega)) (Bd.done ⟨rs',hf1,hf2,rfl⟩)
 rintro _ ⟨rs',hl',hf3,rfl⟩
 dsimp only
 refine Tt.bind (hF rs' (by omega) fun r' hr'=> ?_) ?_
 ·obtain⟨r,h1,_,_,e⟩:=(hf3 r').1 hr'
  rw[e];simpa using(hr r h1).2.2
 ·rintro out ⟨ho1,ho2⟩
  have hren:Ren (fun s=>bat keep s=true) (iat num) rs out:=fun r'=>(ho2 r').trans (hf3 r')
  refine Tt.pure ⟨⟨⟨hc0,by dsimp only;omega,by dsimp only;omega,by dsimp only;omega,fun q hq=> ?_,fun r' hr'=> ?_⟩,hcS⟩,iat num,hJ,hf2,hren⟩
  ·obtain⟨s,h1,h2,e⟩:=(hf2 q).1 hq
   rw[e];exact hI s (hfin s h1) h2
  ·obtain⟨r,h1,h2,h3,e⟩:=(hren r').1 hr'
   obtain⟨b1,b2,b3⟩:=hr r h1
   rw[e]
   refine⟨hI _ b1 h2,fun q hq=> ?_,by simpa using b3⟩
   obtain⟨s,hs,e⟩:=List.mem_map.1 hq
   rw[←e];exact hI s (b2 s hs) (h3 s hs)
def Uni (rs:List Rule):Prop:= ∀t q q',Reach rs t q→Reach rs t q'→q=q'
theorem Closed.reach {rs:List Rule} {R:List Bool} (h:Closed rs R) (t:RT Int): ∀q,Reach rs t q→bat R q=true:=by
 induction t using uQ with
 |h a ks ih=>
  intro q hq
  obtain⟨r,hr,h1,h2,h3,h4⟩:=dU.1 hq
  rw[←h2]
  refine h r hr fun s hs=> ?_
  obtain⟨i,hi,e⟩:=List.getElem_of_mem hs
  have hik:i<ks.length:=by omega
  exact ih ks[i] (List.getElem_mem hik) s (h4 i ks[i] s (List.getElem?_eq_getElem hik) (by rw[List.getElem?_eq_getElem hi,e]))
theorem V4 {S:Int} {fin:List Int} {rs rs':List Rule} {keep:List Bool} {ν:Int→Int} (hr: ∀r∈rs,iy S r.2.2∧ ∀q∈r.2.1,iy S q)
 (hν: ∀s s',iy S s→iy S s'→bat keep s=true→bat keep s'=true→ν s=ν s'→s=s') (hR:Ren (fun s=>bat keep s=true) ν rs rs') (t:RT Int):
 ∀q,Reach rs' t q→ ∃s,iy S s∧bat keep s=true∧q=ν s∧Reach rs t s:=by
 induction t using uQ with
 |h a ks ih=>
  intro q hq
  obtain⟨r',hr',h1,h2,h3,h4⟩:=dU.1 hq
  obtain⟨r,a1,a2,a3,e⟩:=(hR r').1 hr'
  subst e
  simp only[List.length_map]at h3
  refine⟨r.2.2,(hr r a1).1,a2,h2.symm,dU.2 ⟨r,a1,h1,rfl,h3,fun i k f hk hf=> ?_⟩⟩
  have hfm:f∈r.2.1:=List.mem_of_getElem? hf
  obtain⟨s,b1,b2,b3,b4⟩:=ih k (List.mem_of_getElem? hk) (ν f) (h4 i k (ν f) hk (by rw[List.getElem?_map,hf];rfl))
  rwa [hν f s ((hr r a1).2 f hfm) b1 (a3 f hfm) b2 b3]
theorem Xu {fin:List Int} {rs rs':List Rule} {R keep:List Bool} {ν:Int→Int} (hcl:Closed rs R) (hU:Useful fin rs R keep) (hR:Ren (fun s=>bat keep s=true) ν rs rs') (t:RT Int):
 ∀s,Reach rs t s→bat keep s=true→Reach rs' t (ν s):=by
 induction t using uQ with
 |h a ks ih=>
  intro s hs hb
  obtain⟨r,hr,h1,h2,h3,h4⟩:=dU.1 hs
  subst h2
  have hfr: ∀f∈r.2.1,∃(i:Nat) (k:RT Int),ks[i]? =some k∧r.2.1[i]? =some f:=fun f hf=>by
   obtain⟨i,hi,e⟩:=List.getElem_of_mem hf
   exact⟨i,ks[i],List.getElem?_eq_getElem (by omega),by rw[List.getElem?_eq_getElem hi,e]⟩
  have hall:=hU.2 r hr hb fun f hf=>by
   obtain⟨i,k,e1,e2⟩:=hfr f hf
   exact hcl.reach k f (h4 i k f e1 e2)
  refine dU.2 ⟨_,(hR _).2 ⟨r,hr,hb,hall,rfl⟩,h1,rfl,by simpa using h3,fun i k f hk hf=> ?_⟩
  simp only[List.getElem?_map,Option.map_eq_some_iff]at hf
  obtain⟨f0,e,rfl⟩:=hf
  exact ih k (List.mem_of_getElem? hk) f0 (h4 i k f0 hk e) (hall f0 (List.mem_of_getElem? e))
theorem Zy {S:Int} {fin:List Int} {rs:List Rule} {keep R:List Bool} {a:Aut} (hw:Wf S fin rs) (hcl:Closed rs R) (hU:Useful fin rs R keep) (h:wo S fin rs keep a) (t:RT Int):Acc a.2.2 a.2.1 t ↔ Acc rs fin t:=by
 obtain⟨_,ν,hν,hf,hR⟩:=h
 have hr: ∀r∈rs,iy S r.2.2∧ ∀q∈r.2.1,iy S q:=fun r h=>⟨(hw.2.2.2.2.2 r h).1,(hw.2.2.2.2.2 r h).2.1⟩
 constructor
 ·rintro⟨q,h1,h2⟩
  obtain⟨s,b1,b2,b3,b4⟩:=V4 (fin:=fin) hr hν hR t q h1
  obtain⟨s',c1,c2,c3⟩:=(hf q).1 h2
  have:s=s':=hν s s' b1 (hw.2.2.2.2.1 s' c1) b2 c2 (b3.symm.trans c3)
  exact⟨s,b4,this▸c1⟩
 ·rintro⟨s,h1,h2⟩
  have hb:=hU.1 s h2 (hcl.reach t s h1)
  exact⟨ν s,Xu hcl hU hR t s h1 hb,(hf _).2 ⟨s,h2,hb,rfl⟩⟩
theorem ZQ {S:Int} {fin:List Int} {rs:List Rule} {keep:List Bool} {a:Aut} (hw:Wf S fin rs) (h:wo S fin rs keep a) (hd: ∀r∈rs,∀r'∈rs,r.1=r'.1→r.2.1=r'.2.1→r.2.2=r'.2.2):
 ∀r∈a.2.2,∀r'∈a.2.2,r.1=r'.1→r.2.1=r'.2.1→r.2.2=r'.2.2:=by
 obtain⟨_,ν,hν,hf,hR⟩:=h
 intro x hx y hy e1 e2
 obtain⟨r,a1,a2,a3,rfl⟩:=(hR x).1 hx
 obtain⟨r',b1,b2,b3,rfl⟩:=(hR y).1 hy
 have hl:r.2.1.length=r'.2.1.length:=by have:=congrArg List.length e2;simpa using this
 have he:r.2.1=r'.2.1:=List.ext_getElem hl fun i hi hi'=>by
  have:=congrArg (fun l=>l[i]?) e2
  simp only[List.getElem?_map,List.getElem?_eq_getElem hi,List.getElem?_eq_getElem hi',Option.map_some,Option.some.injEq]at this
  have m1:=List.getElem_mem hi
  have m2:=List.getElem_mem hi'
  exact hν _ _ ((hw.2.2.2.2.2 r a1).2.1 _ m1) ((hw.2.2.2.2.2 r' b1).2.1 _ m2) (a3 _ m1) (b3 _ m2) this
 show ν r.2.2=ν r'.2.2
 rw[hd r a1 r' b1 e1 he]
end Go.Bk
end
noncomputable section
namespace Go.Bk
open Go Go.AM
set_option linter.unusedVariables false
def dval (l:List Int):Nat:=l.foldl (fun a d=>10*a+(d.toNat-48)) 0
theorem DK: ∀(f u:Nat),u<10^(f+1)→dval (AV f u)=u
 |0,u,h=>by simp[AV,dval];omega
 |f+1,u,h=>by
  unfold AV
  cases hb:Nat.blt u 10 with
  |true=>rw[cond_true];simp[dval];omega
  |false=>
   rw[cond_false]
   have h1:u/10<10^(f+1):=by rw[Nat.pow_succ]at h;omega
   have:=DK f (u/10) h1
   unfold dval at this ⊢
   rw[List.foldl_append,this]
   simp;omega
theorem Ap: ∀(f u:Nat),∀c∈AV f u,(48:Int)≤c∧c≤57
 |0,u,c,h=>by simp only[AV,List.mem_singleton]at h;omega
 |f+1,u,c,h=>by
  unfold AV at h
  cases hb:Nat.blt u 10 with
  |true=>
   rw[hb,cond_true,List.mem_singleton]at h
   have:u<10:=Nat.le_of_ble_eq_true hb
   omega
  |false=>
   rw[hb,cond_false,List.mem_append,List.mem_singleton]at h
   rcases h with h|h
   ·exact Ap f _ c h
   ·omega
theorem JQ: ∀(f u:Nat),(AV f u).length≤f+1
 |0,u=>by simp[AV]
 |f+1,u=>by
  unfold AV
  cases hb:Nat.blt u 10 with
  |true=>rw[cond_true];simp
  |false=>rw[cond_false];have:=JQ f (u/10);simp;omega
def acG (c:Int):Prop:=c=45∨(48≤c∧c≤57)
theorem zO (v:Int): ∀c∈dig v,acG c:=by
 intro c h
 unfold dig at h
 cases hv:decide (v<0)with
 |true=>
  rw[hv,cond_true,List.mem_cons]at h
  rcases h with h|h
  ·exact .inl h
  ·exact .inr (Ap _ _ c h)
 |false=>rw[hv,cond_false]at h;exact .inr (Ap _ _ c h)
theorem MZ (v:Int):(dig v).length≤22:=by
 unfold dig
 cases hv:decide (v<0)with
 |true=>rw[cond_true];have:=JQ 20 v.natAbs;simp;omega
 |false=>rw[cond_false];have:=JQ 20 v.toNat;omega
def I64 (v:Int):Prop:= -9223372036854775808≤v∧v<9223372036854775808
theorem WR {v w:Int} (hv:I64 v) (hw:I64 w) (h:dig v=dig w):v=w:=by
 have hp:(10:Nat)^(20+1)=1000000000000000000000:=by decide
 obtain⟨v0,v1⟩:=hv
 obtain⟨w0,w1⟩:=hw
 unfold dig at h
 cases e1:decide (v<0)<;>cases e2:decide (w<0)<;>rw[e1,e2]at h<;>simp only[cond_true,cond_false]at h
 ·have a:=congrArg dval h
  rw[DK 20 _ (by omega),DK 20 _ (by omega)]at a
  have:=of_decide_eq_false e1;have:=of_decide_eq_false e2;omega
 ·have:=Ap 20 v.toNat 45 (by rw[h];simp)
  omega
 ·have:=Ap 20 w.toNat 45 (by rw[←h];simp)
  omega
 ·have a:=congrArg dval (List.cons.inj h).2
  rw[DK 20 _ (by omega),DK 20 _ (by omega)]at a
  have:=of_decide_eq_true e1;have:=of_decide_eq_true e2;omega
def enc (l:List (Int×Int)):List Int:=l.flatMap fun p=>p.1::dig p.2
theorem run_eq {P:Int→Prop}: ∀(A B X Y:List Int),(∀c∈A,P c)→(∀c∈B,P c)→(∀c,X.head? =some c→ ¬P c)→(∀c,Y.head? =some c→ ¬P c)→A++X=B++Y→A=B∧X=Y
 | [],[],X,Y,_,_,_,_,h=>⟨rfl,h⟩
 | [],b::B,X,Y,_,hB,hX,_,h=>by
   have h:X=b::(B++Y):=h
   exact absurd (hB b (by simp)) (hX b (by rw[h];rfl))
 |a::A,[],X,Y,hA,_,_,hY,h=>by
  have h:a::(A++X)=Y:=h
  exact absurd (hA a (by simp)) (hY a (by rw[←h];rfl))
 |a::A,b::B,X,Y,hA,hB,hX,hY,h=>by
  have h:a::(A++X)=b::(B++Y):=h
  obtain⟨e,h⟩:=List.cons.inj h
  obtain⟨e2,e3⟩:=run_eq A B X Y (fun c hc=>hA c (by simp[hc])) (fun c hc=>hB c (by simp[hc])) hX hY h
  exact⟨by rw[e,e2],e3⟩
def Zb (l:List (Int×Int)):Prop:= ∀p∈l,¬acG p.1∧I64 p.2
theorem Hg {l:List (Int×Int)} (h:Zb l): ∀c,(enc l).head? =some c→ ¬acG c:=by
 cases l with
 |nil=>intro c hc;simp[enc]at hc
 |cons p l=>intro c hc;simp[enc]at hc;rw[←hc];exact(h p (by simp)).1
theorem Yo: ∀(l l':List (Int×Int)),Zb l→Zb l'→enc l=enc l'→l=l'
 | [],[],_,_,_=>rfl
 | [],p::l',_,_,h=>by simp[enc]at h
 |p::l,[],_,_,h=>by simp[enc]at h
 |p::l,p'::l',h1,h2,h=>by
  have h:p.1::(dig p.2++enc l)=p'.1::(dig p'.2++enc l'):=by simpa [enc]using h
  obtain⟨e,h⟩:=List.cons.inj h
  have s1:Zb l:=fun q hq=>h1 q (by simp[hq])
  have s2:Zb l':=fun q hq=>h2 q (by simp[hq])
  obtain⟨e2,e3⟩:=run_eq (P:=acG) _ _ _ _ (zO _) (zO _) (Hg s1) (Hg s2) h
  have:=WR (h1 p (by simp)).2 (h2 p' (by simp)).2 e2
  rw[Yo l l' s1 s2 e3,Prod.ext e this]
theorem Vg {v v':Int} {l l':List (Int×Int)} (hv:I64 v) (hv':I64 v') (h1:Zb l) (h2:Zb l') (h:dig v++enc l=dig v'++enc l'):v=v'∧l=l':=by
 obtain⟨e2,e3⟩:=run_eq (P:=acG) _ _ _ _ (zO _) (zO _) (Hg h1) (Hg h2) h
 exact⟨WR hv hv' e2,Yo l l' h1 h2 e3⟩
theorem bytes_inj {l l':List Int} (h1: ∀c∈l,0≤c∧c<256) (h2: ∀c∈l',0≤c∧c<256) (h:uZ l=uZ l'):l=l':=by
 have h:(l.map fun n=>UInt8.ofNat n.toNat)=l'.map fun n=>UInt8.ofNat n.toNat:=by
  have:=congrArg (fun b=>b.data.toList) h
  simpa [uZ]using this
 have inj: ∀c d:Int,0≤c∧c<256→0≤d∧d<256→UInt8.ofNat c.toNat=UInt8.ofNat d.toNat→c=d:=by
  intro c d hc hd e
  have:=congrArg UInt8.toNat e
  simp only[UInt8.toNat_ofNat']at this
  omega
 have key: ∀l l':List Int,(∀c∈l,0≤c∧c<256)→(∀c∈l',0≤c∧c<256)→(l.map fun n=>UInt8.ofNat n.toNat)=(l'.map fun n=>UInt8.ofNat n.toNat)→l=l':=by
  intro l
  induction l with
  |nil=>intro l' _ _ h;cases l' with
   |nil=>rfl
   |cons b l'=>cases h
  |cons a l ih=>intro l' h1 h2 h;cases l' with
   |nil=>cases h
   |cons b l'=>
    obtain⟨e1,e2⟩:=List.cons.inj h
    rw[inj a b (h1 a (by simp)) (h2 b (by simp)) e1,ih l' (fun c hc=>h1 c (List.mem_cons_of_mem _ hc)) (fun c hc=>h2 c (List.mem_cons_of_mem _ hc)) e2]
 exact key l l' h1 h2 h
theorem Eb {v:Int} {l:List (Int×Int)} (h: ∀p∈l,0≤p.1∧p.1<256): ∀c∈dig v++enc l,0≤c∧c<256:=by
 have hd: ∀v,∀c∈dig v,0≤c∧c<256:=fun v c hc=>by rcases zO v c hc with h|h<;>omega
 intro c hc
 rcases List.mem_append.1 hc with hc|hc
 ·exact hd v c hc
 ·obtain⟨p,hp,hc⟩:=List.mem_flatMap.1 hc
  rcases List.mem_cons.1 hc with rfl|hc
  ·exact h p hp
  ·exact hd _ c hc
theorem XY (l:List (Int×Int)):(enc l).length≤23*l.length:=by
 induction l with
 |nil=>simp[enc]
 |cons p l ih=>
  have e:enc (p::l)=(p.1::dig p.2)++enc l:=rfl
  have:=MZ p.2
  rw[e,List.length_append,List.length_cons,List.length_cons]
  omega
abbrev aes (A:Nat→List Int×Int×Int→Option (List Int)):Prop:= ∀b v,b.length≤1000000000→I64 v→Sp A (b,v,(10:Int)) (fun r=>r=b++dig v)
def OM (s:Int) (l:List Int):ByteArray:=uZ (dig s++enc (l.map fun q=>((44:Int),q)))
theorem Oz (l:List (Int×Int)) (c v:Int):enc (l++[(c,v)])=(enc l++[c])++dig v:=by
 unfold enc
 rw[List.flatMap_append,List.append_assoc]
 simp
theorem abS {A:Nat→List Int×Int×Int→Option (List Int)} (hA:aes A) (s:Int) (l:List Int) (hs:I64 s) (hl: ∀q∈l,I64 q) (hll:l.length≤1000000):Sp (fun n=>qB.P (A n) n) (s,l) (fun r=>r=OM s l):=by
 show Tt (fun n=>qB.P (A n) n (s,l)) _
 unfold qB.P;dsimp only
 refine Tt.bind (hA [] s (by simp) hs) ?_
 rintro _ rfl
 refine Tt.bind (R:=fun b=>b=dig s++enc (l.map fun q=>((44:Int),q)))
  (Tt.loop (L:=fun n=>qB.L1 (A n)) (Lp.count l.length (fun i t=>t=(dig s++enc ((l.take i).map fun q=>((44:Int),q)),l,((l.length:Nat):Int),(i:Int))) ?_ ?_ (by simp[enc]))) fun b hb=>Tt.pure (by rw[hb];rfl)
 ·rintro i t hi rfl
  unfold qB.L1;dsimp only
  have hb:(dig s++enc ((l.take i).map fun q=>((44:Int),q))).length≤22+23*i:=by
   have:=MZ s
   have:=XY ((l.take i).map fun q=>((44:Int),q))
   rw[List.length_map,List.length_take]at this
   rw[List.length_append];omega
  refine Bd.yes (bf (by omega)) (Bd.nth hi (Bd.chk (qG (by rw[List.length_singleton];omega)) (Bd.bind (hA _ l[i] (by show List.length (_++_)≤_;rw[List.length_append,List.length_singleton];omega) (hl _ (List.getElem_mem hi))) ?_)))
  rintro _ rfl
  refine Bd.again ?_
  rw[aI (by omega),List.take_add_one,List.getElem?_eq_getElem hi,List.map_append]
  show(_++_++_,_)=(_++enc (_++[((44:Int),l[i])]),_)
  rw[Oz]
  simp
 ·rintro t rfl
  unfold qB.L1;dsimp only
  rw[List.take_length]
  exact Bd.no (decide_eq_false (by omega)) (Bd.done rfl)
theorem key_inj {s s':Int} {l l':List Int} (hs:I64 s) (hs':I64 s') (hl: ∀q∈l,I64 q) (hl': ∀q∈l',I64 q) (h:OM s l=OM s' l'):s=s'∧l=l':=by
 have b: ∀l:List Int,∀p∈l.map (fun q=>((44:Int),q)),0≤p.1∧p.1<256:=fun l p hp=>by obtain⟨q,_,rfl⟩:=List.mem_map.1 hp;exact⟨show(0:Int)≤44 by decide,show(44:Int)<256 by decide⟩
 have se: ∀l:List Int,(∀q∈l,I64 q)→Zb (l.map (fun q=>((44:Int),q))):=fun l h p hp=>by
  obtain⟨q,hq,rfl⟩:=List.mem_map.1 hp
  exact⟨fun h=>by rcases h with h|h<;>omega,h q hq⟩
 obtain⟨e1,e2⟩:=Vg hs hs' (se l hl) (se l' hl') (bytes_inj (Eb (b l)) (Eb (b l')) h)
 refine⟨e1,?_⟩
 have:=congrArg (List.map Prod.snd) e2
 rw[List.map_map,List.map_map]at this
 have e:(Prod.snd∘fun q:Int=>((44:Int),q))=id:=rfl
 rwa [e,List.map_id,List.map_id]at this
def Det (rs:List Rule):Prop:= ∀r∈rs,∀r'∈rs,r.1=r'.1→r.2.1=r'.2.1→r.2.2=r'.2.2
theorem Det.uni {rs:List Rule} (h:Det rs):Uni rs:=by
 intro t
 induction t using uQ with
 |h a ks ih=>
  intro q q' hq hq'
  obtain⟨r,hr,h1,h2,h3,h4⟩:=dU.1 hq
  obtain⟨r',hr',g1,g2,g3,g4⟩:=dU.1 hq'
  rw[←h2,←g2]
  refine h r hr r' hr' (h1.trans g1.symm) (List.ext_getElem (h3.trans g3.symm) fun i hi hi'=> ?_)
  have hk:i<ks.length:=by omega
  exact ih _ (List.getElem_mem hk) _ _ (h4 i _ _ (List.getElem?_eq_getElem hk) (List.getElem?_eq_getElem hi)) (g4 i _ _ (List.getElem?_eq_getElem hk) (List.getElem?_eq_getElem hi'))
theorem Gy {V:Nat→List Int×Int×List Int×List Rule→Option Bool} {K:Nat→Int×List Int→Option ByteArray} (hK: ∀s l,I64 s→(∀q∈l,I64 q)→l.length≤1000000→Sp K (s,l) (fun r=>r=OM s l))
 (al:List Int) (S:Int) (fin:List Int) (rs:List Rule) (hV:Sp V (al,S,fin,rs) (fun r=>r=true ↔ gY al (S,fin,rs))):
 Sp (fun n=>dR.P (V n) (K n) n) (al,S,fin,rs) (fun r=>(gY al (S,fin,rs)∧r.2=0∧(r.1=true→Det rs))∨(¬gY al (S,fin,rs)∧r.2=1)):=by
 show Tt (fun n=>dR.P (V n) (K n) n (al,S,fin,rs)) _
 unfold dR.P;dsimp only
 refine Tt.bind hV fun b hb=> ?_
 by_cases hv:gY al (S,fin,rs)
 ·have hb:b=true:=hb.2 hv
  subst hb
  refine Tt.no rfl ?_
  have hw:=hv.wf
  have i64: ∀r∈rs,I64 r.1∧ ∀q∈r.2.1,I64 q:=fun r hr=>by
   have h1:=hv.rule hr
   have h2:=hv.1.1
   have h3:=hw.2.2.2.2.2 r hr
   have h4:=hw.2.1
   refine⟨⟨by have:=h1.1;omega,by have:=h1.2.1;omega⟩,fun q hq=> ?_⟩
   have h5:=h3.2.1 q hq
   dsimp only at h4 h5
   exact⟨by have:=h5.1;omega,by have:=h5.2;omega⟩
  refine Tt.bind (R:=fun t=>(t= .inl ()∧Det rs)∨t= .inr (false,(0:Int)))
   (Tt.loop (L:=fun n=>dR.L1 (K n)) (Lp.count rs.length (fun i t=> ∃m:List (ByteArray×Bool),t=(some m,rs,((rs.length:Nat):Int),(i:Int))∧(∀(j:Nat) (r:Rule),j<i→rs[j]? =some r→nV seq (OM r.1 r.2.1) m=some true)∧
    ∀(j k:Nat) (r r':Rule),j<k→k<i→rs[j]? =some r→rs[k]? =some r'→ ¬(r.1=r'.1∧r.2.1=r'.2.1)) ?_ ?_ ⟨[],rfl,fun j r h=>absurd h (by omega),fun j k r r' h h'=>absurd h' (by omega)⟩)) ?_
  ·rintro i t hi ⟨m,rfl,hm,hd⟩
   unfold dR.L1;dsimp only
   obtain⟨h1,h2⟩:=i64 rs[i] (List.getElem_mem hi)
   have h3:=(hw.2.2.2.2.2 rs[i] (List.getElem_mem hi)).2.2
   have h4:=hw.2.2.2.1
   dsimp only at h4
   refine Bd.yes (bf (by omega)) (Bd.nth hi (Bd.bind (hK _ _ h1 h2 (by omega)) ?_))
   rintro _ rfl
   refine Bd.ite (fun hc=>Bd.done (.inr rfl)) (fun hc=> ?_)
   refine Bd.again ⟨_,by rw[aI (by omega)],fun j r hj hr=> ?_,fun j k r r' hjk hk hr hr'=> ?_⟩
   ·rw[rX Dn]
    split
    ·rfl
    ·rename_i hne
     rcases Nat.lt_or_eq_of_le (Nat.le_of_lt_succ hj)with h|rfl
     ·exact hm j r h hr
     ·rw[List.getElem?_eq_getElem hi]at hr
      cases hr
      exact absurd rfl hne
   ·rcases Nat.lt_or_eq_of_le (Nat.le_of_lt_succ hk)with h|rfl
    ·exact hd j k r r' hjk h hr hr'
    ·rintro⟨e1,e2⟩
     rw[List.getElem?_eq_getElem hi]at hr'
     cases hr'
     have:=hm j r hjk hr
     rw[e1,e2]at this
     rw[show mD (some m)=m from rfl,this]at hc
     cases hc
  ·rintro t ⟨m,rfl,hm,hd⟩
   unfold dR.L1;dsimp only
   refine Bd.no (decide_eq_false (by omega)) (Bd.done (.inl ⟨rfl,fun r hr r' hr' e1 e2=> ?_⟩))
   obtain⟨j,hj,rfl⟩:=List.getElem_of_mem hr
   obtain⟨k,hk,rfl⟩:=List.getElem_of_mem hr'
   rcases Nat.lt_trichotomy j k with h|rfl|h
   ·exact absurd ⟨e1,e2⟩ (hd j k _ _ h hk (List.getElem?_eq_getElem hj) (List.getElem?_eq_getElem hk))
   ·rfl
   ·exact absurd ⟨e1.symm,e2.symm⟩ (hd k j _ _ h hj (List.getElem?_eq_getElem hk) (List.getElem?_eq_getElem hj))
  ·rintro _ (⟨rfl,h⟩|rfl)
   ·exact Tt.pure (.inl ⟨hv,rfl,fun _=>h⟩)
   ·exact Tt.pure (.inl ⟨hv,rfl,fun h=>by cases h⟩)
 ·have hb:b=false:=by cases b with|false=>rfl|true=>exact absurd (hb.1 rfl) hv
  subst hb
  exact Tt.yes rfl (Tt.pure (.inr ⟨hv,rfl⟩))
end Go.Bk
end
noncomputable section
namespace Go.Bk
open Go Go.AM
set_option linter.unusedVariables false
theorem wrap_u64 {n:Nat} (h:n<18446744073709551616):IntKind.wrap .u64 (n:Int)=(n:Int):=by
 simp only[IntKind.wrap,IntKind.signed,IntKind.bits,Bool.false_and,Bool.false_eq_true,if_false]
 omega
theorem wrap_u8 {n:Nat} (h:n<256):IntKind.wrap .u8 (n:Int)=(n:Int):=by
 simp only[IntKind.wrap,IntKind.signed,IntKind.bits,Bool.false_and,Bool.false_eq_true,if_false]
 omega
theorem DV {n:Nat} (h:n<18446744073709551616):(BitVec.ofInt (IntKind.bits .u64) (n:Int)).toNat=n:=by
 show(BitVec.ofInt 64 (n:Int)).toNat=n
 rw[BitVec.toNat_ofInt];omega
theorem YA {x:Nat} (h:x<256):Go.bits .and .u64 (x:Int) 1=((x % 2:Nat):Int):=by
 have e:(BitVec.ofInt (IntKind.bits .u64) (x:Int) &&& BitVec.ofInt (IntKind.bits .u64) 1).toNat=x % 2:=by
  rw[BitVec.toNat_and,DV (by omega)]
  have:=DV (n:=1) (by omega)
  rw[show((1:Nat):Int)=1 from rfl]at this
  rw[this,Nat.and_one_is_mod]
 show IntKind.wrap .u64 (((BitVec.ofInt (IntKind.bits .u64) (x:Int) &&& BitVec.ofInt (IntKind.bits .u64) 1).toNat:Nat):Int)=_
 rw[e,wrap_u64 (by omega)]
theorem aa4 {a b:Nat} (ha:a<256) (hb:b<256):Go.bits .or .u64 (a:Int) (b:Int)=((a ||| b:Nat):Int):=by
 have e:(BitVec.ofInt (IntKind.bits .u64) (a:Int) ||| BitVec.ofInt (IntKind.bits .u64) (b:Int)).toNat=a ||| b:=by
  rw[BitVec.toNat_or,DV (by omega),DV (by omega)]
 show IntKind.wrap .u64 (((BitVec.ofInt (IntKind.bits .u64) (a:Int) ||| BitVec.ofInt (IntKind.bits .u64) (b:Int)).toNat:Nat):Int)=_
 have:a ||| b<2^8:=Nat.or_lt_two_pow ha hb
 rw[e,wrap_u64 (by omega)]
def yF (s:List Int):Prop:= ∃w:Nat,w<256∧s= [(w:Int)]
def CU (s:List Int) (v:Int):Bool:=(s[0]?.getD 0).toNat.testBit v.toNat
theorem Es (w:Nat) (v:Int):CU [(w:Int)] v=w.testBit v.toNat:=rfl
theorem abM {s s':List Int} (h:yF s) (h':yF s') (hm: ∀v:Int,0≤v→v<8→CU s v=CU s' v):s=s':=by
 obtain⟨w,hw,rfl⟩:=h
 obtain⟨w',hw',rfl⟩:=h'
 have:w=w':=Nat.eq_of_testBit_eq fun i=>by
  rcases Nat.lt_or_ge i 8 with h|h
  ·exact hm (i:Int) (by omega) (by omega)
  ·have h2:256≤2^i:=Nat.pow_le_pow_right (n:=2) (by omega) (show 8≤i from h)
   rw[Nat.testBit_lt_two_pow (by omega),Nat.testBit_lt_two_pow (by omega)]
 rw[this]
theorem WZ {s:List Int} (h:yF s) {v:Int} (hv:CU s v=true) (h0:0≤v):v<8:=by
 obtain⟨w,hw,rfl⟩:=h
 rcases Int.lt_or_le v 8 with h|h
 ·exact h
 ·rw[Es,Nat.testBit_lt_two_pow]at hv
  ·cases hv
  ·have h2:256≤2^v.toNat:=Nat.pow_le_pow_right (n:=2) (by omega) (show 8≤v.toNat by omega)
   omega
theorem adU {v:Int} (h0:0≤v) (h8:v<8):IntKind.wrap .i64 (Int.tdiv v 64)=0:=by
 rw[Int.tdiv_eq_ediv_of_nonneg h0,Int.ediv_eq_zero_of_lt h0 (by omega)];rfl
theorem aed {v:Int} (h0:0≤v) (h8:v<8):Int.tmod v 64=v:=by
 rw[Int.tmod_eq_emod_of_nonneg h0,Int.emod_eq_of_lt h0 (by omega)]
theorem Yl (n w v:Nat) (hw:w<256) (hv:v<64):kN.P n ([(w:Int)],(v:Int))=some (CU [(w:Int)] (v:Int)):=by
 unfold kN.P;dsimp only
 have d:IntKind.wrap .i64 (Int.tdiv (v:Int) 64)=0:=by
  rw[Int.tdiv_eq_ediv_of_nonneg (by omega),Int.ediv_eq_zero_of_lt (by omega) (by omega)];rfl
 have m:Int.tmod (v:Int) 64=(v:Int):=by rw[Int.tmod_eq_emod_of_nonneg (by omega),Int.emod_eq_of_lt (by omega) (by omega)]
 rw[d,m]
 have e1:nth? [(w:Int)] 0=some (w:Int):=rfl
 have e2:(w:Int)/2^Int.toNat (v:Int)=((w/2^v:Nat):Int):=by rw[Int.toNat_natCast];push_cast;rfl
 have e3:w/2^v<256:=Nat.lt_of_le_of_lt (Nat.div_le_self ..) hw
 rw[e1,Option.bind_some,e2,YA e3,bf (show(0:Int)≤(v:Int) by omega),bf (show(v:Int)≤((IntKind.bits .u64:Nat):Int) by show(v:Int)≤((64:Nat):Int);omega),Es,Int.toNat_natCast,Nat.testBit_eq_decide_div_mod_eq]
 rw[show(!decide ((64:Int)=0))=true from rfl]
 simp only[Bool.and_self,cond_true]
 congr 1
 by_cases h:w/2^v % 2=1
 ·rw[h];rfl
 ·rw[decide_eq_false (by omega),decide_eq_false h]
theorem aa3 (s:List Int) (v:Int) (hs:yF s) (h0:0≤v) (h8:v<8):Sp kN.P (s,v) (fun r=>r=CU s v):=by
 obtain⟨w,hw,rfl⟩:=hs
 obtain⟨k,rfl⟩: ∃k:Nat,v=(k:Int):=⟨v.toNat,by omega⟩
 exact⟨_,rfl,.all fun n=>Yl n w k hw (by omega)⟩
def keyS (s:List Int):ByteArray:=uZ ((List.range 8).map fun i=>IntKind.wrap .u8 ((s[0]?.getD 0)/2^(8*i)))
theorem V9 (s:List Int) (hs:yF s):Sp eX.P s (fun r=>r=keyS s):=by
 obtain⟨w,hw,rfl⟩:=hs
 show Tt (fun n=>eX.P n [(w:Int)]) _
 unfold eX.P
 refine Tt.chk (show(decide ((0:Int)≤0)&&decide ((0:Int)≤IntKind.wrap .i64 ((8:Int)*(1:Int)))&&decide (IntKind.wrap .i64 ((8:Int)*(1:Int))≤((au:Nat):Int)))=true by decide) ?_
 refine Tt.bind (R:=fun b=>b=(List.range 8).map fun i=>IntKind.wrap .u8 ((w:Int)/2^(8*i)))
  (Tt.loop (Lp.count 1 (fun i t=>t=((List.range (8*i)).map (fun i=>IntKind.wrap .u8 ((w:Int)/2^(8*i))),[(w:Int)],(1:Int),(i:Int))) ?_ ?_ (by simp))) fun b hb=>Tt.pure (by rw[hb];rfl)
 ·rintro i t hi rfl
  obtain rfl:i=0:=by omega
  unfold eX.L2;dsimp only
  refine Bd.yes (show decide ((0:Int)<1)=true by decide) ?_
  rw[show nth? [(w:Int)] ((0:Nat):Int)=some (w:Int)from rfl]
  refine Bd.ay (Bd.bind (R:=fun t=>t=((List.range 8).map (fun i=>IntKind.wrap .u8 ((w:Int)/2^(8*i))),[(w:Int)],(1:Int),((0:Nat):Int)))
   (Tt.loop (L:=fun n=>eX.L1) (Lp.count 8 (fun j t=>t=((List.range j).map (fun i=>IntKind.wrap .u8 ((w:Int)/2^(8*i))),(w:Int),[(w:Int)],(1:Int),((0:Nat):Int),(j:Int))) ?_ ?_ rfl)) ?_)
  ·rintro j t hj rfl
   unfold eX.L1;dsimp only
   have e:IntKind.wrap .i64 ((8:Int)*(j:Int))=((8*j:Nat):Int):=by rw[o7 _ (by omega) (by omega)];omega
   rw[e]
   refine Bd.yes (bf (by omega)) (Bd.chk (by
    rw[bf (show(0:Int)≤((8*j:Nat):Int) by omega),bf (show((8*j:Nat):Int)≤((IntKind.bits .u64:Nat):Int) by show((8*j:Nat):Int)≤((64:Nat):Int);omega)];rfl) (Bd.chk (qG (by simp;omega)) (Bd.again ?_)))
   rw[aI (by omega),Int.toNat_natCast,List.range_succ,List.map_append]
   rfl
  ·rintro t rfl
   unfold eX.L1;dsimp only
   exact Bd.no (show decide ((8:Int)<8)=false by decide) (Bd.done rfl)
  ·rintro _ rfl
   dsimp only
   exact Bd.again (by rw[aI (by omega)])
 ·rintro t rfl
  unfold eX.L2;dsimp only
  exact Bd.no (show decide ((1:Int)<1)=false by decide) (Bd.done rfl)
theorem Zh {s s':List Int} (h:yF s) (h':yF s') (e:keyS s=keyS s'):s=s':=by
 obtain⟨w,hw,rfl⟩:=h
 obtain⟨w',hw',rfl⟩:=h'
 have b: ∀w:Nat,∀c∈(List.range 8).map fun i=>IntKind.wrap .u8 ((([(w:Int)]:List Int)[0]?.getD 0)/2^(8*i)),0≤c∧c<256:=by
  intro w c hc
  obtain⟨i,_,rfl⟩:=List.mem_map.1 hc
  simp only[IntKind.wrap,IntKind.signed,IntKind.bits,Bool.false_and,Bool.false_eq_true,if_false]
  omega
 have:=bytes_inj (b w) (b w') e
 have h0:=congrArg (fun l=>l[0]?) this
 have e0: ∀w:Nat,w<256→((List.range 8).map fun i=>IntKind.wrap .u8 ((([(w:Int)]:List Int)[0]?.getD 0)/2^(8*i)))[0]? =some (w:Int):=by
  intro w hw
  show some (IntKind.wrap .u8 ((w:Int)/2^(8*0)))=_
  rw[Nat.mul_zero,Int.pow_zero,Int.ediv_one,wrap_u8 hw]
 rw[e0 w hw,e0 w' hw']at h0
 rw[Option.some.inj h0]
theorem aaO {W:Nat→List Int×Int→Option Bool} (hW: ∀n x,W (n+1) x=kN.P n x) (s:List Int) (hs:yF s):
 Sp (fun n=>gQ.P (W n) n) s (fun r=>r.length≤64∧ ∀v,v∈r ↔ 0≤v∧v<8∧CU s v=true):=by
 have hlen:s.length=1:=by obtain⟨w,_,rfl⟩:=hs;rfl
 have hall: ∀v:Nat,v<64→Sp W (s,(v:Int)) (fun r=>r=CU s (v:Int)):=by
  intro v hv
  obtain⟨w,hw,rfl⟩:=hs
  exact Sp.step hW ⟨_,rfl,.all fun n=>Yl n w v hw hv⟩
 show Tt (fun n=>gQ.P (W n) n s) _
 unfold gQ.P
 rw[hlen]
 refine Tt.bind (R:=fun r:List Int=>r.length≤64∧ ∀v,v∈r ↔ 0≤v∧v<64∧CU s v=true)
  (Tt.loop (L:=fun n=>gQ.L1 (W n)) (Lp.count 64 (fun i t=> ∃out:List Int,t=(s,out,(64:Int),(i:Int))∧out.length≤i∧ ∀v,v∈out ↔ 0≤v∧v<(i:Int)∧CU s v=true) ?_ ?_ ⟨[],rfl,by simp,fun v=>⟨fun h=>by simp at h,fun h=>absurd h.1 (by have:=h.2.1;omega)⟩⟩)) fun r hr=>Tt.pure ⟨hr.1,fun v=> ?_⟩
 ·rintro i t hi ⟨out,rfl,ho,hm⟩
  unfold gQ.L1;dsimp only
  refine Bd.yes (bf (by omega)) (Bd.bind (hall i hi) ?_)
  rintro _ rfl
  refine Bd.eG (fun hc=> ?_) (fun hc=> ?_)
  ·refine Bd.nM (qG (by simp;omega)) (Bd.ay (Bd.again ⟨_,by rw[aI (by omega)],by simp;omega,fun v=> ?_⟩))
   simp only[List.append_eq,List.mem_append,List.mem_singleton,hm]
   constructor
   ·rintro(⟨h1,h2,h3⟩|rfl)
    ·exact⟨h1,by omega,h3⟩
    ·exact⟨by omega,by omega,hc⟩
   ·rintro⟨h1,h2,h3⟩
    by_cases e:v=(i:Int)
    ·exact .inr e
    ·exact .inl ⟨h1,by omega,h3⟩
  ·refine Bd.ay (Bd.again ⟨out,by rw[aI (by omega)],by omega,fun v=> ?_⟩)
   rw[hm]
   constructor
   ·rintro⟨h1,h2,h3⟩;exact⟨h1,by omega,h3⟩
   ·rintro⟨h1,h2,h3⟩
    have:v≠(i:Int):=by rintro rfl;rw[hc]at h3;cases h3
    exact⟨h1,by omega,h3⟩
 ·rintro t ⟨out,rfl,ho,hm⟩
  unfold gQ.L1;dsimp only
  exact Bd.no (show decide ((64:Int)<64)=false by decide) (Bd.done ⟨ho,hm⟩)
 ·rw[hr.2]
  exact⟨fun⟨h1,h2,h3⟩=>⟨h1,WZ hs h3 h1,h3⟩,fun⟨h1,h2,h3⟩=>⟨h1,by omega,h3⟩⟩
end Go.Bk
end
noncomputable section
namespace Go.Bk
open Go Go.AM
set_option linter.unusedVariables false
abbrev KM:=Option (List (ByteArray×Int))
def KOk (sets:List (List Int)) (m:KM):Prop:=
 (∀s∈sets,yF s)∧ ∃mm,m=some mm∧(∀(n:Nat) (s:List Int),sets[n]? =some s→nV seq (keyS s) mm=some (n:Int))∧ ∀(s:List Int) (v:Int),yF s→nV seq (keyS s) mm=some v→ ∃n:Nat,v=(n:Int)∧sets[n]? =some s
theorem KOk.inj {sets:List (List Int)} {m:KM} (h:KOk sets m) {n n':Nat} {s:List Int} (h1:sets[n]? =some s) (h2:sets[n']? =some s):n=n':=by
 obtain⟨_,mm,_,hk,_⟩:=h
 have:=Option.some.inj ((hk n s h1).symm.trans (hk n' s h2))
 omega
def At (rs:List Rule) (v:Int) (r:Rule):Prop:= ∃j:Nat,v=(j:Int)∧rs[j]? =some r
theorem ad1 {K:Nat→List Int→Option ByteArray} (hK: ∀s,yF s→Sp K s (fun r=>r=keyS s)) (S:Int) (fin:List Int) (rs:List Rule) (by_ sets:List (List Int)) (m:KM) (rl:List Rule) (old done:Int) (full:Bool) (idx:List Int)
 (hS:S≤8) (hidx: ∀i∈idx,∃r,At rs i r∧iy S r.2.2) (hne:idx≠[]) (hk:KOk sets m) (hsl:sets.length≤1000) (hil:idx.length≤1000000):
 Sp (fun n=>fM.P (K n) n) (S,fin,rs,by_,sets,m,rl,old,done,full,idx) (fun r=> ∃(n:Nat) (z:List (List Int)) (m':KM) (s:List Int),r=((n:Int),S,fin,rs,by_,sets++z,m',rl,old,done,full)∧z.length≤1∧(∀x∈z,x=s)∧KOk (sets++z) m'∧(sets++z)[n]? =some s∧
  ∀v:Int,0≤v→(CU s v=true ↔ ∃i∈idx,∃r,At rs i r∧r.2.2=v)):=by
 have hS1:1≤S:=by
  obtain⟨i,hi⟩:=List.exists_mem_of_ne_nil idx hne
  obtain⟨r,_,h⟩:=hidx i hi
  have:=h.1;have:=h.2;omega
 show Tt (fun n=>fM.P (K n) n (S,fin,rs,by_,sets,m,rl,old,done,full,idx)) _
 unfold fM.P;dsimp only
 have hl0:idx.length≠0:=fun e=>hne (List.eq_nil_of_length_eq_zero e)
 refine Tt.no (decide_eq_false (by omega)) (Tt.chk rfl ?_)
 have hw:IntKind.wrap .i64 (Int.tdiv (IntKind.wrap .i64 (S+63)) 64)=1:=by
  have e1:IntKind.wrap .i64 (S+63)=S+63:=o7 _ (by omega) (by omega)
  have:(S+63)/64=1:=by omega
  rw[e1,Int.tdiv_eq_ediv_of_nonneg (by omega),this];rfl
 rw[hw]
 refine Tt.chk (by decide) ?_
 refine Tt.bind (R:=fun t=> ∃s,t=(S,fin,rs,by_,sets,m,rl,old,done,full,s)∧yF s∧ ∀v:Int,0≤v→(CU s v=true ↔ ∃i∈idx,∃r,At rs i r∧r.2.2=v))
  (Tt.loop (L:=fun n=>fM.L1) (Lp.count idx.length (fun p t=> ∃s,t=(S,fin,rs,by_,sets,m,rl,old,done,full,s,idx,((idx.length:Nat):Int),(p:Int))∧yF s∧ ∀v:Int,0≤v→(CU s v=true ↔ ∃i∈idx.take p,∃r,At rs i r∧r.2.2=v)) ?_ ?_ ?_)) ?_
 ·rintro p t hp ⟨s,rfl,⟨w,hw,rfl⟩,hm⟩
  unfold fM.L1;dsimp only
  obtain⟨r,⟨j,hj,hjr⟩,hto⟩:=hidx idx[p] (List.getElem_mem hp)
  have hjl:j<rs.length:=(List.getElem?_eq_some_iff.1 hjr).1
  have hrj:rs[j]=r:=(List.getElem?_eq_some_iff.1 hjr).2
  refine Bd.yes (bf (by omega)) (Bd.nth hp ?_)
  rw[hj,dZ hjl,hrj]
  have h0:=hto.1
  have h8:r.2.2<8:=by have:=hto.2;omega
  obtain⟨k,hk2⟩: ∃k:Nat,r.2.2=(k:Int):=⟨r.2.2.toNat,by omega⟩
  refine Bd.ay (Bd.chk rfl ?_)
  rw[adU h0 h8,aed h0 h8]
  have hp2:2^k<2^8:=Nat.pow_lt_pow_right (by omega) (by omega)
  refine Bd.chk rfl (Bd.at (by show 0<1;omega) fun e5 _ he5=>Bd.chk rfl (Bd.chk (by
   rw[hk2,bf (show(0:Int)≤(k:Int) by omega),bf (show(k:Int)≤((IntKind.bits .u64:Nat):Int) by show(k:Int)≤((64:Nat):Int);omega)];rfl) (Bd.chk rfl (Bd.at (by show 0<1;omega) fun e6 _ _=>Bd.again ?_))))
  have he5:e5=(w:Int):=(Option.some.inj he5).symm
  subst he5
  have e1:IntKind.wrap .u64 ((1:Int)*2^Int.toNat r.2.2)=((2^k:Nat):Int):=by
   rw[hk2,Int.toNat_natCast,Int.one_mul,show((2:Int)^k)=((2^k:Nat):Int) by push_cast;rfl,wrap_u64 (by omega)]
  rw[e1,aa4 hw (by omega)]
  refine⟨[((w ||| 2^k:Nat):Int)],by rw[aI (by omega)];rfl,⟨_,Nat.or_lt_two_pow (n:=8) hw hp2,rfl⟩,fun v hv=> ?_⟩
  rw[Es,Nat.testBit_or,Bool.or_eq_true,Nat.testBit_two_pow,←Es,hm v hv,List.take_add_one,List.getElem?_eq_getElem hp]
  constructor
  ·rintro(⟨i,h1,h2⟩|h)
   ·exact⟨i,List.mem_append_left _ h1,h2⟩
   ·have:=of_decide_eq_true h
    exact⟨idx[p],List.mem_append_right _ (by simp),r,⟨j,hj,hjr⟩,by omega⟩
  ·rintro⟨i,h1,r',⟨j',e,hr'⟩,h2⟩
   rcases List.mem_append.1 h1 with h1|h1
   ·exact .inl ⟨i,h1,r',⟨j',e,hr'⟩,h2⟩
   ·simp only[Option.toList_some,List.mem_singleton]at h1
    have:j'=j:=by rw[h1,hj]at e;omega
    subst this
    rw[hjr]at hr';cases hr'
    exact .inr (bf (by omega))
 ·rintro t ⟨s,rfl,hs,hm⟩
  unfold fM.L1;dsimp only
  rw[List.take_length]at hm
  exact Bd.no (decide_eq_false (by omega)) (Bd.done ⟨s,rfl,hs,hm⟩)
 ·refine⟨[((0:Nat):Int)],rfl,⟨0,by omega,rfl⟩,fun v _=> ?_⟩
  rw[Es];simp
 rintro _ ⟨s,rfl,hs,hm⟩
 dsimp only
 refine Tt.bind (hK s hs) ?_
 rintro _ rfl
 obtain⟨hall,mm,rfl,hk1,hk2⟩:=hk
 refine Tt.eG (fun hc=> ?_) (fun hc=> ?_)
 ·refine Tt.fG (Tt.ay (Tt.nM (qG (by simp;omega)) (Tt.ay (Tt.pure ⟨sets.length,[s],_,s,rfl,by simp,by simp,⟨fun x hx=> ?_,_,rfl,fun n x hn=> ?_,fun x v hx hv=> ?_⟩,by simp,hm⟩))))
  ·rcases List.mem_append.1 hx with h|h
   ·exact hall x h
   ·rw[List.mem_singleton.1 h];exact hs
  ·have hnone:nV seq (keyS s) mm=none:=by simpa [mD]using hc
   rw[rX Dn]
   rcases Nat.lt_or_ge n sets.length with h|h
   ·rw[List.getElem?_append_left h]at hn
    rw[if_neg]
    ·exact hk1 n x hn
    ·intro e
     rw[←e,hk1 n x hn]at hnone;cases hnone
   ·rw[List.getElem?_append_right h]at hn
    have h0:n-sets.length=0:=by
     rcases Nat.eq_zero_or_pos (n-sets.length)with h|h
     ·exact h
     ·rw[List.getElem?_eq_none (by simp;omega)]at hn;cases hn
    rw[h0]at hn
    have hn:s=x:=by simpa using hn
    rw[if_pos (by rw[hn])]
    congr 1;omega
  ·rw[rX Dn]at hv
   split at hv
   ·rename_i e
    have:=Zh hx hs e
    subst this
    refine⟨sets.length,(Option.some.inj hv).symm,by simp⟩
   ·obtain⟨n,e,h⟩:=hk2 x v hx hv
    exact⟨n,e,by rw[List.getElem?_append_left (List.getElem?_eq_some_iff.1 h).1];exact h⟩
 ·have hsome:(nV seq (keyS s) mm).isSome=true:=by simpa [mD]using hc
  obtain⟨v,hv⟩:=Option.isSome_iff_exists.1 hsome
  obtain⟨n,e,h⟩:=hk2 s v hs hv
  refine Tt.ay (Tt.pure ⟨n,[],some mm,s,?_,by simp,by simp,by rw[List.append_nil];exact⟨hall,mm,rfl,hk1,hk2⟩,by rw[List.append_nil];exact h,hm⟩)
  rw[List.append_nil,show mD (some mm)=mm from rfl,hv,e];rfl
def WB (sets:List (List Int)) (f:Int) (l:List Int) (r:Rule):Prop:=r.1=f∧ ∀(j:Nat) (x q:Int),l[j]? =some x→r.2.1[j]? =some q→ ∃s,sets[x.toNat]? =some s∧CU s q=true
def Fits (sets:List (List Int)) (f:Int) (l:List Int) (r:Rule):Prop:=r.2.1.length=l.length∧WB sets f l r
theorem Jd {sets z:List (List Int)} {f:Int} {l:List Int} {r:Rule} (h: ∀x∈l,iy ((sets.length:Nat):Int) x):WB (sets++z) f l r ↔ WB sets f l r:=by
 have e: ∀x∈l,(sets++z)[x.toNat]? =sets[x.toNat]? :=fun x hx=>List.getElem?_append_left (by have:=(h x hx).1;have:=(h x hx).2;omega)
 constructor
 ·rintro⟨h1,h2⟩
  exact⟨h1,fun j x q hx hq=>by rw[←e x (List.mem_of_getElem? hx)];exact h2 j x q hx hq⟩
 ·rintro⟨h1,h2⟩
  exact⟨h1,fun j x q hx hq=>by rw[e x (List.mem_of_getElem? hx)];exact h2 j x q hx hq⟩
theorem uM {sets z:List (List Int)} {f:Int} {l:List Int} {r:Rule} (h: ∀x∈l,iy ((sets.length:Nat):Int) x):Fits (sets++z) f l r ↔ Fits sets f l r:=and_congr Iff.rfl (Jd h)
theorem AQ {sets:List (List Int)} {f:Int} {l l2:List Int} {r:Rule} (h:WB sets f (l++l2) r):WB sets f l r:=
 ⟨h.1,fun j x q hx hq=>h.2 j x q (by rw[List.getElem?_append_left (List.getElem?_eq_some_iff.1 hx).1];exact hx) hq⟩
theorem Q8 {sets:List (List Int)} {f:Int} {l:List Int} {x:Int} {r:Rule} {q:Int} (hq:r.2.1[l.length]? =some q):WB sets f (l++[x]) r ↔ WB sets f l r∧ ∃s,sets[x.toNat]? =some s∧CU s q=true:=by
 constructor
 ·intro h
  exact⟨AQ h,h.2 l.length x q (by simp) hq⟩
 ·rintro⟨h1,h2⟩
  refine⟨h1.1,fun j y q' hy hq'=> ?_⟩
  rcases Nat.lt_or_ge j l.length with h|h
  ·rw[List.getElem?_append_left h]at hy
   exact h1.2 j y q' hy hq'
  ·have hj:j=l.length:=by
    have:=(List.getElem?_eq_some_iff.1 hy).1
    simp at this;omega
   subst hj
   have hy:y=x:=by simpa using hy.symm
   rw[hq]at hq';cases hq'
   rw[hy];exact h2
def acU (al:List Int) (rs:List Rule) (sets:List (List Int)) (rl:List Rule):Prop:=
 ∀r'∈rl,0≤r'.1∧al[r'.1.toNat]? =some ((r'.2.1.length:Nat):Int)∧(∀x∈r'.2.1,iy ((sets.length:Nat):Int) x)∧iy ((sets.length:Nat):Int) r'.2.2∧(∃r∈rs,Fits sets r'.1 r'.2.1 r)∧
  ∃s,sets[r'.2.2.toNat]? =some s∧ ∀v:Int,0≤v→(CU s v=true ↔ ∃r∈rs,Fits sets r'.1 r'.2.1 r∧r.2.2=v)
theorem acU.more {al:List Int} {rs:List Rule} {sets z:List (List Int)} {rl:List Rule} (h:acU al rs sets rl):acU al rs (sets++z) rl:=by
 intro r' hr'
 obtain⟨h1,h2,h3,h4,⟨r,h5,h6⟩,s,h7,h8⟩:=h r' hr'
 have le: ∀x,iy ((sets.length:Nat):Int) x→iy (((sets++z).length:Nat):Int) x:=fun x hx=>⟨hx.1,by have:=hx.2;rw[List.length_append];omega⟩
 refine⟨h1,h2,fun x hx=>le x (h3 x hx),le _ h4,⟨r,h5,(uM h3).2 h6⟩,s,by rw[List.getElem?_append_left (List.getElem?_eq_some_iff.1 h7).1];exact h7,fun v hv=> ?_⟩
 rw[h8 v hv]
 exact⟨fun⟨r,a,b,c⟩=>⟨r,a,(uM h3).2 b,c⟩,fun⟨r,a,b,c⟩=>⟨r,a,(uM h3).1 b,c⟩⟩
abbrev Sb:=Int×List Int×List Rule×List (List Int)×List (List Int)×KM×List Rule×Int×Int×Bool×List Int
def Cov (rs:List Rule) (sets:List (List Int)) (rl:List Rule) (sym:Int) (l:List Int):Prop:=(∃r∈rs,Fits sets sym l r)→ ∃q,(sym,l,q)∈rl
def SOk (S:Int) (al:List Int) (rs:List Rule) (sets:List (List Int)) (m:KM) (rl:List Rule) (full:Bool):Prop:=
 KOk sets m∧acU al rs sets rl∧sets.length≤301∧rl.length≤20001∧(full=false→sets.length≤300∧rl.length≤20000)∧ ∀s∈sets,∀v:Int,0≤v→CU s v=true→v<S
def OU (al:List Int) (rs:List Rule) (sym:Int) (rank:Nat) (frm:List Int) (fresh full:Bool) (S:Int) (fin:List Int) (by_:List (List Int)) (old done:Int) (sets:List (List Int)) (rl:List Rule) (r:Sb):Prop:=
 ∃(z:List (List Int)) (m':KM) (y:List Rule) (full':Bool),r=(S,fin,rs,by_,sets++z,m',rl++y,old,done,full',frm)∧SOk S al rs (sets++z) m' (rl++y) full'∧(full'=false→full=false)∧
  (full'=false→ ∀l2,frm.length+l2.length=rank→(∀x∈l2,iy done x)→(fresh=true∨ ∃x∈l2,old≤x)→Cov rs (sets++z) (rl++y) sym (frm++l2))
abbrev LsT:=Int×List Int×List Rule×List (List Int)×List (List Int)×KM×List Rule×Int×Int×Bool×Int×Int×List Int×List Int×Bool
theorem Zi {W:Nat→List Int×Int→Option Bool} {T:Nat→Sb→Option (Int×Int×List Int×List Rule×List (List Int)×List (List Int)×KM×List Rule×Int×Int×Bool)} {C:Nat→List Int→Option (List Int×List Int)} {F:Nat→LsT→Option Sb}
 (hF: ∀n x,F (n+1) x=bH.P (W n) (F n) (T n) (C n) n x) (hW: ∀s v,yF s→0≤v→v<8→Sp W (s,v) (fun r=>r=CU s v)) (hC: ∀l:List Int,l.length≤1000000→Sp C l (fun r=>r=(l,l)))
 (al:List Int) (S:Int) (fin:List Int) (rs:List Rule) (by_:List (List Int)) (hS:S≤8) (hrl:rs.length≤100000) (hr: ∀r∈rs,iy S r.2.2∧(∀q∈r.2.1,iy S q)) (hAr:Ar al rs)
 (hT: ∀(sets:List (List Int)) (m:KM) (rl:List Rule) (old done:Int) (full:Bool) (idx:List Int),(∀i∈idx,∃r,At rs i r∧iy S r.2.2)→idx≠[]→KOk sets m→sets.length≤1000→idx.length≤1000000→
  Sp T (S,fin,rs,by_,sets,m,rl,old,done,full,idx) (fun r=> ∃(n:Nat) (z:List (List Int)) (m':KM) (s:List Int),r=((n:Int),S,fin,rs,by_,sets++z,m',rl,old,done,full)∧z.length≤1∧(∀x∈z,x=s)∧KOk (sets++z) m'∧(sets++z)[n]? =some s∧
   ∀v:Int,0≤v→(CU s v=true ↔ ∃i∈idx,∃r,At rs i r∧r.2.2=v)))
 (sym:Int) (rank:Nat) (hsym:0≤sym) (hrank:al[sym.toNat]? =some (rank:Int)) (hr3:rank≤3) (old done:Int) (ho:0≤old) (hod:old≤done):
 ∀(d:Nat) (frm idx:List Int) (fresh full:Bool) (sets:List (List Int)) (m:KM) (rl:List Rule),frm.length+d=rank→(∀x∈frm,iy done x)→done≤((sets.length:Nat):Int)→SOk S al rs sets m rl full→idx.length≤rs.length→
  (∀v,v∈idx ↔ ∃r,At rs v r∧WB sets sym frm r)→
  Sp F (S,fin,rs,by_,sets,m,rl,old,done,full,sym,(rank:Int),frm,idx,fresh) (OU al rs sym rank frm fresh full S fin by_ old done sets rl):=by
 have hrlen: ∀(v:Int) (r:Rule),At rs v r→r.1=sym→r.2.1.length=rank:=fun v r ⟨j,_,hj⟩ e=>by
  have:=(hAr r (List.mem_of_getElem? hj)).2
  rw[e,hrank]at this
  have:=Option.some.inj this
  omega
 intro d
 induction d with
 |zero=>
  intro frm idx fresh full sets m rl hd hfrm hdone hok hil hidx
  refine Sp.step hF ?_
  show Tt (fun n=>bH.P (W n) (F n) (T n) (C n) n (S,fin,rs,by_,sets,m,rl,old,done,full,sym,(rank:Int),frm,idx,fresh)) _
  unfold bH.P;dsimp only
  have hs301:=hok.2.2.1
  have stop:(full=true∨idx= [])→OU al rs sym rank frm fresh full S fin by_ old done sets rl (S,fin,rs,by_,sets,m,rl,old,done,full,frm):=by
   intro h
   refine⟨[],m,[],full,by rw[List.append_nil,List.append_nil],by rw[List.append_nil,List.append_nil];exact hok,id,fun hf l2 h1 h2 h3 ⟨r,h4,h5⟩=> ?_⟩
   rw[List.append_nil]at h5
   rcases h with h|h
   ·rw[h]at hf;cases hf
   ·obtain⟨j,hj,rfl⟩:=List.getElem_of_mem h4
    have:=(hidx (j:Int)).2 ⟨_,⟨j,rfl,List.getElem?_eq_getElem hj⟩,AQ h5.2⟩
    rw[h]at this;cases this
  refine Tt.eG (fun hc=>Tt.ay (Tt.yes rfl (Tt.pure (stop (.inl hc))))) (fun hc=>Tt.ay (Tt.ite (fun hi=>Tt.pure (stop (.inr ?_))) (fun hi=> ?_)))
  ·have hi:=of_decide_eq_true hi
   exact List.eq_nil_of_length_eq_zero (by omega)
  subst hc
  have hi:=of_decide_eq_false hi
  dsimp only
  refine Tt.yes (bf (by omega)) (Tt.bind (hC frm (by omega)) ?_)
  rintro _ rfl
  refine Tt.bind (hT sets m rl old done false idx (fun i h=> ?_) (fun h=>hi (by rw[h];rfl)) hok.1 (by omega) (by omega)) ?_
  ·obtain⟨r,h1,h2⟩:=(hidx i).1 h
   obtain⟨j,e,hj⟩:=h1
   exact⟨r,⟨j,e,hj⟩,(hr r (List.mem_of_getElem? hj)).1⟩
  rintro _ ⟨n,z,m',s,rfl,hz,hzs,hk',hn,hm⟩
  dsimp only
  have hrl20:=hok.2.2.2.2.1 rfl
  refine Tt.chk (qG (by simp;omega)) ?_
  have hnl:n<(sets++z).length:=(List.getElem?_eq_some_iff.1 hn).1
  have hfr2: ∀x∈frm,iy ((sets.length:Nat):Int) x:=fun x hx=>⟨(hfrm x hx).1,by have:=(hfrm x hx).2;omega⟩
  have hfit: ∀r,(r∈rs∧Fits (sets++z) sym frm r) ↔ ∃i∈idx,At rs i r:=by
   intro r
   constructor
   ·rintro⟨h1,h2⟩
    obtain⟨j,hj,rfl⟩:=List.getElem_of_mem h1
    have ha:At rs (j:Int) rs[j]:=⟨j,rfl,List.getElem?_eq_getElem hj⟩
    exact⟨(j:Int),(hidx _).2 ⟨_,ha,((uM hfr2).1 h2).2⟩,ha⟩
   ·rintro⟨i,h1,h2⟩
    obtain⟨r',h3,h4⟩:=(hidx i).1 h1
    have:r'=r:=by
     obtain⟨j,e,hj⟩:=h2
     obtain⟨j',e',hj'⟩:=h3
     have:j=j':=by omega
     subst this
     rw[hj]at hj';exact(Option.some.inj hj').symm
    subst this
    have hl:=hrlen i _ h2 h4.1
    obtain⟨j,e,hj⟩:=h2
    exact⟨List.mem_of_getElem? hj,(uM hfr2).2 ⟨by omega,h4⟩⟩
  have hnew:acU al rs (sets++z) (rl++[(sym,frm,(n:Int))]):=by
   intro r' hr'
   rcases List.mem_append.1 hr' with h|h
   ·exact hok.2.1.more r' h
   ·rw[List.mem_singleton.1 h]
    obtain⟨i0,hi0⟩:=List.exists_mem_of_ne_nil idx (fun h=>hi (by rw[h];rfl))
    obtain⟨r0,ha0,_⟩:=(hidx i0).1 hi0
    obtain⟨hr0,hf0⟩:=(hfit r0).2 ⟨i0,hi0,ha0⟩
    refine⟨hsym,by rw[hrank];dsimp only;congr 2;omega,fun x hx=>⟨(hfr2 x hx).1,by have:=(hfr2 x hx).2;rw[List.length_append];omega⟩,⟨by dsimp only;omega,by dsimp only;omega⟩,⟨r0,hr0,hf0⟩,s,by dsimp only;rw[Int.toNat_natCast];exact hn,fun v hv=> ?_⟩
    rw[hm v hv]
    constructor
    ·rintro⟨i,h1,r,h2,h3⟩
     obtain⟨a,b⟩:=(hfit r).2 ⟨i,h1,h2⟩
     exact⟨r,a,b,h3⟩
    ·rintro⟨r,a,b,h3⟩
     obtain⟨i,h1,h2⟩:=(hfit r).1 ⟨a,b⟩
     exact⟨i,h1,r,h2,h3⟩
  have hmem: ∀s∈sets++z,∀v:Int,0≤v→CU s v=true→v<S:=by
   intro x hx v hv hs
   rcases List.mem_append.1 hx with h|h
   ·exact hok.2.2.2.2.2 x h v hv hs
   ·rw[hzs x h]at hs
    obtain⟨i,_,r,⟨j,_,hj⟩,e⟩:=(hm v hv).1 hs
    rw[←e];exact(hr r (List.mem_of_getElem? hj)).1.2
  have fin2: ∀fl:Bool,(fl=false→(sets++z).length≤300∧rl.length+1≤20000)→OU al rs sym rank frm fresh false S fin by_ old done sets rl (S,fin,rs,by_,sets++z,m',List.append rl [(sym,frm,(n:Int))],old,done,fl,frm):=by
   intro fl hfl
   refine⟨z,m',[(sym,frm,(n:Int))],fl,rfl,⟨hk',hnew,by rw[List.length_append];omega,by rw[List.length_append];simp;omega,fun h=>⟨(hfl h).1,by rw[List.length_append];exact(hfl h).2⟩,hmem⟩,fun _=>rfl,fun _ l2 h1 _ _ _=> ?_⟩
   have:l2= []:=List.eq_nil_of_length_eq_zero (by omega)
   rw[this,List.append_nil]
   exact⟨(n:Int),List.mem_append_right _ (by simp)⟩
  have elen:(List.append rl [(sym,frm,(n:Int))]).length=rl.length+1:=by
   show(rl++_).length=_
   rw[List.length_append];rfl
  refine Tt.eG (fun h1=>Tt.ay (Tt.pure (fin2 true fun h=>by cases h))) (fun h1=>Tt.ay (Tt.pure (fin2 _ fun h=> ?_)))
  have h1:=of_decide_eq_false h1
  have h:=of_decide_eq_false h
  rw[elen]at h1
  omega
 |succ d ih=>
  intro frm idx fresh full sets m rl hd hfrm hdone hok hil hidx
  refine Sp.step hF ?_
  show Tt (fun n=>bH.P (W n) (F n) (T n) (C n) n (S,fin,rs,by_,sets,m,rl,old,done,full,sym,(rank:Int),frm,idx,fresh)) _
  unfold bH.P;dsimp only
  have hs301:=hok.2.2.1
  have stop:(full=true∨idx= [])→OU al rs sym rank frm fresh full S fin by_ old done sets rl (S,fin,rs,by_,sets,m,rl,old,done,full,frm):=by
   intro h
   refine⟨[],m,[],full,by rw[List.append_nil,List.append_nil],by rw[List.append_nil,List.append_nil];exact hok,id,fun hf l2 h1 h2 h3 ⟨r,h4,h5⟩=> ?_⟩
   rw[List.append_nil]at h5
   rcases h with h|h
   ·rw[h]at hf;cases hf
   ·obtain⟨j,hj,rfl⟩:=List.getElem_of_mem h4
    have:=(hidx (j:Int)).2 ⟨_,⟨j,rfl,List.getElem?_eq_getElem hj⟩,AQ h5.2⟩
    rw[h]at this;cases this
  refine Tt.eG (fun hc=>Tt.ay (Tt.yes rfl (Tt.pure (stop (.inl hc))))) (fun hc=>Tt.ay (Tt.ite (fun hi=>Tt.pure (stop (.inr ?_))) (fun hi=> ?_)))
  ·have hi:=of_decide_eq_true hi
   exact List.eq_nil_of_length_eq_zero (by omega)
  subst hc
  dsimp only
  refine Tt.no (decide_eq_false (by omega)) ?_
  have main: ∀first:Nat,(first:Int)≤done→(∀x:Int,0≤x→x<(first:Int)→fresh=false∧d=0∧x<old)→
   Tt (fun n=>(dD (bH.L2 (W n) n (F n)) n (S,fin,rs,by_,sets,m,rl,old,done,false,sym,(rank:Int),frm,idx,fresh,(first:Int))).bind fun x21=>some (x21.1,x21.2.1,x21.2.2.1,x21.2.2.2.1,x21.2.2.2.2.1,x21.2.2.2.2.2.1,x21.2.2.2.2.2.2.1,x21.2.2.2.2.2.2.2.1,x21.2.2.2.2.2.2.2.2.1,x21.2.2.2.2.2.2.2.2.2.1,x21.2.2.2.2.2.2.2.2.2.2))
    (OU al rs sym rank frm fresh false S fin by_ old done sets rl):=by
   intro first hfd hfirst
   refine Tt.bind (R:=OU al rs sym rank frm fresh false S fin by_ old done sets rl) (Tt.loop (L:=fun n=>bH.L2 (W n) n (F n)) (Lp.measure (fun t=> ∃(x:Nat) (z:List (List Int)) (m':KM) (y:List Rule) (full':Bool),t=(S,fin,rs,by_,sets++z,m',rl++y,old,done,full',sym,(rank:Int),frm,idx,fresh,(x:Int))∧(x:Int)≤done∧
    SOk S al rs (sets++z) m' (rl++y) full'∧(full'=false→ ∀(x':Int) (l2:List Int),(first:Int)≤x'→x'<(x:Int)→frm.length+1+l2.length=rank→(∀x∈l2,iy done x)→(fresh=true∨old≤x'∨ ∃x∈l2,old≤x)→Cov rs (sets++z) (rl++y) sym (frm++x'::l2)))
    (fun t=>(done-t.2.2.2.2.2.2.2.2.2.2.2.2.2.2.2).toNat) ?_ ?_)) fun r hr=>Tt.pure hr
   ·rintro _ ⟨x,z,m',y,full',rfl,hxd,hok',hcov⟩
    unfold bH.L2;dsimp only
    have hz301:=hok'.2.2.1
    have hslen:sets.length≤(sets++z).length:=by rw[List.length_append];omega
    by_cases hx:(x:Int)<done
    ·have hxl:x<(sets++z).length:=by omega
     have hsx:yF (sets++z)[x]:=hok'.1.1 _ (List.getElem_mem hxl)
     have hfr2: ∀x∈frm,iy ((sets.length:Nat):Int) x:=fun x hx=>⟨(hfrm x hx).1,by have:=(hfrm x hx).2;omega⟩
     have hq: ∀v∈idx,∃r q,At rs v r∧WB (sets++z) sym frm r∧r.2.1[frm.length]? =some q∧iy S q:=by
      intro v hv
      obtain⟨r,h1,h2⟩:=(hidx v).1 hv
      have hl:=hrlen v r h1 h2.1
      have hlt:frm.length<r.2.1.length:=by omega
      refine⟨r,r.2.1[frm.length],h1,(Jd hfr2).2 h2,List.getElem?_eq_getElem hlt,?_⟩
      obtain⟨j,_,hj⟩:=h1
      exact(hr r (List.mem_of_getElem? hj)).2 _ (List.getElem_mem hlt)
     refine Bd.yes (bf hx) ?_
     refine Bd.bind (R:=fun t=> ∃left:List Int,t=(S,fin,rs,by_,sets++z,m',rl++y,old,done,full',sym,(rank:Int),frm,idx,fresh,(x:Int),left)∧left.length≤idx.length∧ ∀v,v∈left ↔ ∃r,At rs v r∧WB (sets++z) sym (frm++[(x:Int)]) r)
      (Tt.loop (L:=fun n=>bH.L1 (W n)) (Lp.count idx.length (fun p t=> ∃left:List Int,t=(S,fin,rs,by_,sets++z,m',rl++y,old,done,full',sym,(rank:Int),frm,idx,fresh,(x:Int),left,idx,((idx.length:Nat):Int),(p:Int))∧left.length≤p∧
       ∀v,v∈left ↔ v∈idx.take p∧ ∃r,At rs v r∧WB (sets++z) sym (frm++[(x:Int)]) r) ?_ ?_ ⟨[],rfl,by simp,by simp⟩)) ?_
     ·rintro p t hp ⟨left,rfl,hll,hlm⟩
      unfold bH.L1;dsimp only
      obtain⟨r,q,⟨j,ej,hj⟩,h2,h3,h4⟩:=hq idx[p] (List.getElem_mem hp)
      have hjl:j<rs.length:=(List.getElem?_eq_some_iff.1 hj).1
      have hrj:rs[j]=r:=(List.getElem?_eq_some_iff.1 hj).2
      have hlt:frm.length<r.2.1.length:=(List.getElem?_eq_some_iff.1 h3).1
      have hqe:r.2.1[frm.length]=q:=(List.getElem?_eq_some_iff.1 h3).2
      refine Bd.yes (bf (by omega)) (Bd.nth hp (Bd.chk (rng (by omega) (by omega)) ?_))
      rw[Int.toNat_natCast]
      refine Bd.at hxl fun e12 _ he12=> ?_
      rw[List.getElem?_eq_getElem hxl]at he12
      cases he12
      rw[ej,dZ hjl,hrj]
      refine Bd.ay ?_
      rw[dZ hlt,hqe]
      have htk: ∀v,v∈idx.take (p+1) ↔ v∈idx.take p∨v=(j:Int):=fun v=>by
       rw[List.take_add_one,List.getElem?_eq_getElem hp,List.mem_append,ej];simp
      have hjfit:(∃r,At rs (j:Int) r∧WB (sets++z) sym (frm++[(x:Int)]) r) ↔ CU (sets++z)[x] q=true:=by
       constructor
       ·rintro⟨r',⟨j',e',hj'⟩,hf⟩
        have:j'=j:=by omega
        subst this
        rw[hj]at hj';cases hj'
        obtain⟨s,hs,hm⟩:=((Q8 h3).1 hf).2
        rw[Int.toNat_natCast,List.getElem?_eq_getElem hxl]at hs
        cases hs;exact hm
       ·intro hm
        exact⟨r,⟨j,rfl,hj⟩,(Q8 h3).2 ⟨h2,_,by rw[Int.toNat_natCast];exact List.getElem?_eq_getElem hxl,hm⟩⟩
      refine Bd.ay (Bd.bind (hW _ q hsx h4.1 (by have:=h4.2;omega)) ?_)
      rintro _ rfl
      refine Bd.eG (fun hc=> ?_) (fun hc=> ?_)
      ·refine Bd.nM (qG (by simp;omega)) (Bd.ay (Bd.again ⟨_,by rw[aI (by omega)],by simp;omega,fun v=> ?_⟩))
       simp only[List.append_eq,List.mem_append,List.mem_singleton,hlm,htk]
       constructor
       ·rintro(⟨a,b⟩|rfl)
        ·exact⟨.inl a,b⟩
        ·exact⟨.inr rfl,hjfit.2 hc⟩
       ·rintro⟨a|a,b⟩
        ·exact .inl ⟨a,b⟩
        ·exact .inr a
      ·refine Bd.ay (Bd.again ⟨left,by rw[aI (by omega)],by omega,fun v=> ?_⟩)
       rw[hlm,htk]
       constructor
       ·rintro⟨a,b⟩;exact⟨.inl a,b⟩
       ·rintro⟨a|a,b⟩
        ·exact⟨a,b⟩
        ·rw[a,hjfit,hc]at b;cases b
     ·rintro t ⟨left,rfl,hll,hlm⟩
      unfold bH.L1;dsimp only
      rw[List.take_length]at hlm
      refine Bd.no (decide_eq_false (by omega)) (Bd.done ⟨left,rfl,hll,fun v=>(hlm v).trans ⟨fun h=>h.2,fun h=>⟨?_,h⟩⟩⟩)
      obtain⟨r,h1,h2⟩:=h
      exact(hidx v).2 ⟨r,h1,(Jd hfr2).1 (AQ h2)⟩
     rintro _ ⟨left,rfl,hll,hlm⟩
     dsimp only
     refine Bd.nM (qG (by simp;omega)) ?_
     have call:=fun fresh2=>ih (frm++[(x:Int)]) left fresh2 full' (sets++z) m' (rl++y) (by rw[List.length_append];simp;omega) (fun w hw=>by
      rcases List.mem_append.1 hw with h|h
      ·exact hfrm w h
      ·rw[List.mem_singleton.1 h];exact⟨by omega,hx⟩) (by omega) hok' (by omega) hlm
     have hpre:pre frm (frm++[(x:Int)])=true:=by
      unfold pre;rw[List.take_left];exact bf rfl
     have next: ∀fresh2:Bool,((fresh2=true ↔ (fresh=true∨old≤(x:Int))))→ ∀r,OU al rs sym rank (frm++[(x:Int)]) fresh2 full' S fin by_ old done (sets++z) (rl++y) r→
      ∃(z2:List (List Int)) (m2:KM) (y2:List Rule) (full2:Bool),r=(S,fin,rs,by_,sets++z2,m2,rl++y2,old,done,full2,frm++[(x:Int)])∧SOk S al rs (sets++z2) m2 (rl++y2) full2∧
       (full2=false→ ∀(x':Int) (l2:List Int),(first:Int)≤x'→x'<((x+1:Nat):Int)→frm.length+1+l2.length=rank→(∀x∈l2,iy done x)→(fresh=true∨old≤x'∨ ∃x∈l2,old≤x)→Cov rs (sets++z2) (rl++y2) sym (frm++x'::l2)):=by
      rintro fresh2 hf2 r ⟨z2,m2,y2,full2,rfl,hok2,hmono,hcov2⟩
      refine⟨z++z2,m2,y++y2,full2,by rw[List.append_assoc,List.append_assoc],by rw[←List.append_assoc,←List.append_assoc];exact hok2,fun hfl x' l2 h1 h2 h3 h4 h5=> ?_⟩
      rw[←List.append_assoc,←List.append_assoc]
      by_cases hxx:x'=(x:Int)
      ·subst hxx
       have:=hcov2 hfl l2 (by rw[List.length_append];simp;omega) h4 (by
        rcases h5 with h|h|h
        ·exact .inl (hf2.2 (.inl h))
        ·exact .inl (hf2.2 (.inr h))
        ·exact .inr h)
       have e:frm++[(x:Int)]++l2=frm++(x:Int)::l2:=by simp
       rw[e]at this;exact this
      ·have hfl':=hmono hfl
       intro⟨r,h6,h7⟩
       have hx1:x'<(x:Int):=by omega
       have h8: ∀w∈frm++x'::l2,iy (((sets++z).length:Nat):Int) w:=by
        intro w hw
        have:iy done w:=by
         rcases List.mem_append.1 hw with h|h
         ·exact hfrm w h
         ·rcases List.mem_cons.1 h with rfl|h
          ·exact⟨by omega,by omega⟩
          ·exact h4 w h
        exact⟨this.1,by have:=this.2;omega⟩
       obtain⟨q,hq⟩:=hcov hfl' x' l2 h1 hx1 h3 h4 h5 ⟨r,h6,(uM h8).1 h7⟩
       exact⟨q,List.mem_append_left _ hq⟩
     refine Bd.eG (fun hf=> ?_) (fun hf=> ?_)
     ·refine Bd.fG (Bd.bind (call true) ?_)
      intro r hr
      obtain⟨z2,m2,y2,full2,rfl,hok2,hcov2⟩:=next true (by simp[hf]) r hr
      dsimp only
      exact Bd.nM hpre (Bd.ay (Bd.again ⟨⟨x+1,z2,m2,y2,full2,by rw[aI (by omega)],by omega,hok2,hcov2⟩,by dsimp only;rw[aI (by omega)];omega⟩))
     ·refine Bd.fG (Bd.bind (call (decide (old≤(x:Int)))) ?_)
      intro r hr
      obtain⟨z2,m2,y2,full2,rfl,hok2,hcov2⟩:=next _ (by simp[hf]) r hr
      dsimp only
      exact Bd.nM hpre (Bd.ay (Bd.again ⟨⟨x+1,z2,m2,y2,full2,by rw[aI (by omega)],by omega,hok2,hcov2⟩,by dsimp only;rw[aI (by omega)];omega⟩))
    ·refine Bd.no (decide_eq_false hx) (Bd.done ⟨z,m',y,full',rfl,hok',fun _=>rfl,fun hfl l2 h1 h2 h3=> ?_⟩)
     cases l2 with
     |nil=>rw[List.length_nil]at h1;omega
     |cons x' l3=>
      rw[List.length_cons]at h1
      have hx':=h2 x' (by simp)
      by_cases hlt:x'<(first:Int)
      ·obtain⟨a1,a2,a3⟩:=hfirst x' hx'.1 hlt
       have:l3= []:=List.eq_nil_of_length_eq_zero (by omega)
       subst this
       rcases h3 with h|⟨w,h,hw⟩
       ·rw[a1]at h;cases h
       ·rw[List.mem_singleton.1 h]at hw;omega
      ·exact hcov hfl x' l3 (by omega) (by have:=hx'.2;omega) (by omega) (fun w hw=>h2 w (by simp[hw])) (by
        rcases h3 with h|⟨w,h,hw⟩
        ·exact .inl h
        ·rcases List.mem_cons.1 h with rfl|h
         ·exact .inr (.inl hw)
         ·exact .inr (.inr ⟨w,h,hw⟩))
   ·exact⟨first,[],m,[],false,by rw[List.append_nil,List.append_nil],hfd,by rw[List.append_nil,List.append_nil];exact hok,fun _ x' l2 h1 h2=>absurd h1 (by omega)⟩
  have m0:=main 0 (by omega) fun x h0 h1=>absurd h0 (by omega)
  refine Tt.eG (fun hf=> ?_) (fun hf=> ?_)
  ·refine Tt.ay (Tt.eG (fun hg=> ?_) (fun hg=> ?_))
   ·refine Tt.ay ?_
    have e:((old.toNat:Nat):Int)=old:=by omega
    have hg:=of_decide_eq_true hg
    rw[o7 _ (by omega) (by omega)]at hg
    have:=main old.toNat (by omega) fun x h0 h1=>⟨by simpa using hf,by omega,by omega⟩
    rw[e]at this
    exact this
   ·exact Tt.ay m0
  ·exact Tt.ay (Tt.eG (fun hg=>by cases hg) (fun hg=>Tt.ay m0))
end Go.Bk
end
noncomputable section
namespace Go.Bk
open Go Go.AM
set_option linter.unusedVariables false
abbrev ZF (Fi:Nat→Int×List Int×List Rule→Option (List Bool)):Prop:= ∀(S:Int) (fin:List Int) (rs:List Rule),0≤S→S≤300→fin.length≤1000000→(∀q∈fin,iy S q)→
 Sp Fi (S,fin,rs) (fun r=>r.length=S.toNat∧ ∀q:Int,iy S q→(bat r q=true ↔ q∈fin))
theorem acC {Fi:Nat→Int×List Int×List Rule→Option (List Bool)} (h: ∀n x,Fi (n+1) x=lq.P n x):ZF Fi:=fun S fin rs h0 h1 h2 h3=>
 Sp.step h ((YS S fin rs h0 h1 (by rw[I5];omega) h3).mono fun r hr=>⟨hr.1,fun q hq=>by
  have:=(hr.2 q hq).2
  unfold at? at this
  rw[EG,this];simp⟩)
def Sy (rs:List Rule):Prop:= ∀r∈rs,I64 r.1
def Vo (fin:List Int) (rs:List Rule) (D:Aut):Prop:=Wf D.1 D.2.1 D.2.2∧D.1≤300∧Det D.2.2∧(∀t,Acc D.2.2 D.2.1 t ↔ Acc rs fin t)∧Sy D.2.2
theorem Uf {al:List Int} {S:Int} {fin fin':List Int} {rs rl:List Rule} {sets:List (List Int)} {m:KM} {full:Bool} (hw:Wf S fin rs) (hAr:Ar al rs) (hok:SOk S al rs sets m rl full)
 (hcov: ∀(sym:Nat) (k:Nat),al[sym]? =some (k:Int)→ ∀l:List Int,l.length=k→(∀x∈l,iy ((sets.length:Nat):Int) x)→Cov rs sets rl (sym:Int) l)
 (hfin: ∀n:Int,n∈fin' ↔ ∃s,0≤n∧sets[n.toNat]? =some s∧ ∃v:Int,0≤v∧CU s v=true∧v∈fin):Det rl∧ ∀t,Acc rl fin' t ↔ Acc rs fin t:=by
 obtain⟨hk,hrl,_,_,_,hmem⟩:=hok
 have h0: ∀r∈rs,∀q∈r.2.1,0≤q:=fun r hr q hq=>((hw.2.2.2.2.2 r hr).2.1 q hq).1
 have sound: ∀t q,Reach rl t q→iy ((sets.length:Nat):Int) q∧ ∃s,sets[q.toNat]? =some s∧ ∀v:Int,0≤v→(CU s v=true ↔ Reach rs t v):=by
  intro t
  induction t using uQ with
  |h a ks ih=>
   intro q hq
   obtain⟨r',hr',h1,h2,h3,h4⟩:=dU.1 hq
   obtain⟨b1,b2,b3,b4,b5,s,b6,b7⟩:=hrl r' hr'
   rw[←h2]
   refine⟨b4,s,b6,fun v hv=> ?_⟩
   rw[b7 v hv]
   constructor
   ·rintro⟨r,c1,⟨c2,c3,c4⟩,c5⟩
    refine dU.2 ⟨r,c1,c3.trans h1,c5,by omega,fun i k f hk hf=> ?_⟩
    have hil:i<r'.2.1.length:=by have:=(List.getElem?_eq_some_iff.1 hf).1;omega
    obtain⟨s',e1,e2⟩:=c4 i _ f (List.getElem?_eq_getElem hil) hf
    obtain⟨_,s2,e3,e4⟩:=ih k (List.mem_of_getElem? hk) _ (h4 i k _ hk (List.getElem?_eq_getElem hil))
    rw[e1]at e3;cases e3
    exact(e4 f (h0 r c1 f (List.mem_of_getElem? hf))).1 e2
   ·intro h
    obtain⟨r,c1,c2,c3,c4,c5⟩:=dU.1 h
    refine⟨r,c1,⟨by omega,c2.trans h1.symm,fun j x f hx hf=> ?_⟩,c3⟩
    have hjl:j<ks.length:=by have:=(List.getElem?_eq_some_iff.1 hx).1;omega
    have hkj:=List.getElem?_eq_getElem hjl
    obtain⟨_,s2,e3,e4⟩:=ih _ (List.getElem_mem hjl) x (h4 j _ x hkj hx)
    exact⟨s2,e3,(e4 f (h0 r c1 f (List.mem_of_getElem? hf))).2 (c5 j _ f hkj hf)⟩
 have full: ∀t v,Reach rs t v→ ∃q,Reach rl t q:=by
  intro t
  induction t using uQ with
  |h a ks ih=>
   intro v hv
   obtain⟨r,c1,c2,c3,c4,c5⟩:=dU.1 hv
   have hch: ∀i:Nat,∃q:Int,∀h:i<ks.length,Reach rl ks[i] q:=by
    intro i
    by_cases h:i<ks.length
    ·have hlt:i<r.2.1.length:=by omega
     obtain⟨q,hq⟩:=ih _ (List.getElem_mem h) _ (c5 i _ _ (List.getElem?_eq_getElem h) (List.getElem?_eq_getElem hlt))
     exact⟨q,fun _=>hq⟩
    ·exact⟨0,fun h'=>absurd h' h⟩
   obtain⟨g,hg⟩: ∃g:Nat→Int,∀i,∀h:i<ks.length,Reach rl ks[i] (g i):=⟨fun i=>(hch i).choose,fun i=>(hch i).choose_spec⟩
   let l:List Int:=(List.range ks.length).map g
   have hll:l.length=ks.length:=by simp[l]
   have hlg: ∀i,i<ks.length→l[i]? =some (g i):=fun i hi=>by
    simp only[l,List.getElem?_map,List.getElem?_range hi,Option.map_some]
   obtain⟨d1,d2⟩:=hAr r c1
   have hsym:((r.1.toNat:Nat):Int)=r.1:=by omega
   have hcv:=hcov r.1.toNat r.2.1.length d2 l (by omega) fun x hx=>by
    obtain⟨i,hi,rfl⟩:=List.mem_map.1 hx
    exact(sound _ _ (hg i (List.mem_range.1 hi))).1
   rw[hsym]at hcv
   obtain⟨q,hq⟩:=hcv ⟨r,c1,by omega,rfl,fun j x f hx hf=>by
    have hj:j<ks.length:=by have:=(List.getElem?_eq_some_iff.1 hx).1;omega
    rw[hlg j hj]at hx
    cases hx
    obtain⟨_,s,e1,e2⟩:=sound _ _ (hg j hj)
    exact⟨s,e1,(e2 f (h0 r c1 f (List.mem_of_getElem? hf))).2 (c5 j _ f (List.getElem?_eq_getElem hj) hf)⟩⟩
   refine⟨q,dU.2 ⟨_,hq,c2,rfl,hll,fun i k f hk hf=> ?_⟩⟩
   have hi:=(List.getElem?_eq_some_iff.1 hk).1
   rw[hlg i hi]at hf
   cases hf
   have:=hg i hi
   rwa [(List.getElem?_eq_some_iff.1 hk).2]at this
 have pos: ∀t v,Reach rs t v→0≤v:=fun t v h=>by
  cases t with
  |mk a ks=>
   obtain⟨r,c1,_,c3,_⟩:=dU.1 h
   rw[←c3];exact(hw.2.2.2.2.2 r c1).1.1
 refine⟨fun r hr r' hr' e1 e2=> ?_,fun t=>⟨?_,?_⟩⟩
 ·obtain⟨_,_,_,a1,_,s,a2,a3⟩:=hrl r hr
  obtain⟨_,_,_,b1,_,s',b2,b3⟩:=hrl r' hr'
  rw[←e1,←e2]at b3
  have:s=s':=abM (hk.1 _ (List.mem_of_getElem? a2)) (hk.1 _ (List.mem_of_getElem? b2)) fun v h0 _=>by
   cases e:CU s v<;>cases e':CU s' v<;>first|rfl|skip
   ·have:=(a3 v h0).2 ((b3 v h0).1 e');rw[e]at this;cases this
   ·have:=(b3 v h0).2 ((a3 v h0).1 e);rw[e']at this;cases this
  subst this
  have:=hk.inj a2 b2
  have:=a1.1;have:=b1.1;omega
 ·rintro⟨q,h1,h2⟩
  obtain⟨s,_,e1,v,e2,e3,e4⟩:=(hfin q).1 h2
  obtain⟨_,s',a2,a3⟩:=sound t q h1
  rw[e1]at a2;cases a2
  exact⟨v,(a3 v e2).1 e3,e4⟩
 ·rintro⟨v,h1,h2⟩
  obtain⟨q,hq⟩:=full t v h1
  obtain⟨a1,s,a2,a3⟩:=sound t q hq
  have hv:=pos t v h1
  exact⟨q,hq,(hfin q).2 ⟨s,a1.1,a2,v,hv,(a3 v hv).2 h1,h2⟩⟩
theorem Cov.more {rs:List Rule} {sets z:List (List Int)} {rl y:List Rule} {sym:Int} {l:List Int} (h:Cov rs sets rl sym l) (hl: ∀x∈l,iy ((sets.length:Nat):Int) x):Cov rs (sets++z) (rl++y) sym l:=fun⟨r,h1,h2⟩=>by
 obtain⟨q,hq⟩:=h ⟨r,h1,(uM hl).1 h2⟩
 exact⟨q,List.mem_append_left _ hq⟩
abbrev ae8 (al:List Int) (S:Int) (fin:List Int) (rs:List Rule) (Ls:Nat→LsT→Option Sb):Prop:=
 ∀(by_:List (List Int)) (sym:Int) (rank:Nat),0≤sym→al[sym.toNat]? =some (rank:Int)→ ∀(old done:Int),0≤old→old≤done→ ∀(idx:List Int) (fresh full:Bool) (sets:List (List Int)) (m:KM) (rl:List Rule),done≤((sets.length:Nat):Int)→SOk S al rs sets m rl full→idx.length≤rs.length→
  (∀v,v∈idx ↔ ∃r,At rs v r∧r.1=sym)→Sp Ls (S,fin,rs,by_,sets,m,rl,old,done,full,sym,(rank:Int),[],idx,fresh) (OU al rs sym rank [] fresh full S fin by_ old done sets rl)
theorem XQ {B:Nat→List Int×Int×List Int×List Rule→Option (List (List Int))} {Fi:Nat→Int×List Int×List Rule→Option (List Bool)} {So:Nat→List Rule→Option (List Rule)} {V:Nat→List Int×Int×List Int×List Rule→Option Bool} {Li:Nat→List Int→Option (List Int)}
 {Ls:Nat→LsT→Option Sb} {C:Nat→List Int×List Bool→Option Bool} (hFi:ZF Fi) (hSo:Gl So) (hLi: ∀s,yF s→Sp Li s (fun r=>r.length≤64∧ ∀v,v∈r ↔ 0≤v∧v<8∧CU s v=true)) (hC:YD C id)
 (al:List Int) (S:Int) (fin:List Int) (rs:List Rule) (hS:S≤8) (hV:Sp V (al,S,fin,rs) (fun r=>r=true ↔ gY al (S,fin,rs)))
 (hB:gY al (S,fin,rs)→Sp B (al,S,fin,rs) (aaC al rs)) (hLs:gY al (S,fin,rs)→ae8 al S fin rs Ls):
 Sp (fun n=>dH.P (B n) (Fi n) (So n) (V n) (Li n) (Ls n) (C n) n) (al,S,fin,rs) (fun r=>r.2.2.2.2=0→Vo fin rs (r.1,r.2.1,r.2.2.1)):=by
 show Tt (fun n=>dH.P (B n) (Fi n) (So n) (V n) (Li n) (Ls n) (C n) n (al,S,fin,rs)) _
 unfold dH.P;dsimp only
 refine Tt.bind hV fun b hb=>Tt.ite (fun hc=>Tt.pure fun h=>by cases h) (fun hc=> ?_)
 have hv:gY al (S,fin,rs):=hb.1 (by simpa using hc)
 have hw:=hv.wf
 have hAr:=hv.ar
 dsimp only at hw hAr
 have hB:=hB hv
 have hLs:=hLs hv
 have hal:=hv.1
 have hal1:=hal.1
 refine Tt.bind hB fun by_ hby=> ?_
 obtain⟨hby1,hby2⟩:=hby
 refine Tt.bind (R:=fun t=>t=Sum.inr ((0:Int),([]:List Int),([]:List Rule),([]:List (List Int)),(3:Int))∨ ∃(sets:List (List Int)) (m:KM) (rl:List Rule) (old done:Int),t=Sum.inl (S,fin,rs,(0:Int),([]:List Int),([]:List Rule),S,fin,rs,by_,sets,m,rl,old,done,false)∧SOk S al rs sets m rl false∧
  ∀(sym:Nat) (k:Nat),al[sym]? =some (k:Int)→ ∀l:List Int,l.length=k→(∀x∈l,iy ((sets.length:Nat):Int) x)→Cov rs sets rl (sym:Int) l)
  (Tt.loop (L:=fun n=>dH.L2 (Ls n) n) (Lp.measure (fun t=> ∃(rd:Int) (sets:List (List Int)) (m:KM) (rl:List Rule) (old done:Int),t=(al,S,fin,rs,(0:Int),([]:List Int),([]:List Rule),rd,S,fin,rs,by_,sets,m,rl,old,done,false)∧SOk S al rs sets m rl false∧
   0≤rd∧rd≤old+1∧0≤old∧old≤done∧done≤((sets.length:Nat):Int)∧((rd≠0→done=((sets.length:Nat):Int))∧(rd=0→done=0))∧(rd≠0→ ∀sym:Nat,al[sym]? =some 0→Cov rs sets rl (sym:Int) [])∧
   ∀(sym:Nat) (k:Nat),al[sym]? =some ((k+1:Nat):Int)→ ∀l:List Int,l.length=k+1→(∀x∈l,iy old x)→Cov rs sets rl (sym:Int) l)
   (fun t=>(302-t.2.2.2.2.2.2.2.2.2.2.2.2.2.2.2.1).toNat*2+if t.2.2.2.2.2.2.2.1=0 then 1 else 0) ?_ ?_)) ?_
 ·rintro _ ⟨rd,sets,m,rl,old,done,rfl,hok,h0,hrd,ho,hod,hds,hrs,hz,hp⟩
  unfold dH.L2;dsimp only
  have hlen:=hok.2.2.1
  have body:(rd=0∨old<done)→Bd (fun n k=>(dD (dH.L1 (Ls n)) n (al,S,fin,rs,(0:Int),([]:List Int),([]:List Rule),rd,S,fin,rs,by_,sets,m,rl,old,done,false,al,((al.length:Nat):Int),(0:Int))).bind fun x12=>
   bif x12.2.2.2.2.2.2.2.2.2.2.2.2.2.2.2.2.2 then((some ((0:Int),([]:List Int),([]:List Rule),([]:List (List Int)),(3:Int))).bind fun r=>some (Sum.inr r))
   else k (x12.1,x12.2.1,x12.2.2.1,x12.2.2.2.1,x12.2.2.2.2.1,x12.2.2.2.2.2.1,x12.2.2.2.2.2.2.1,IntKind.wrap .i64 (x12.2.2.2.2.2.2.2.1+(1:Int)),x12.2.2.2.2.2.2.2.2.1,x12.2.2.2.2.2.2.2.2.2.1,x12.2.2.2.2.2.2.2.2.2.2.1,x12.2.2.2.2.2.2.2.2.2.2.2.1,x12.2.2.2.2.2.2.2.2.2.2.2.2.1,x12.2.2.2.2.2.2.2.2.2.2.2.2.2.1,x12.2.2.2.2.2.2.2.2.2.2.2.2.2.2.1,x12.2.2.2.2.2.2.2.2.2.2.2.2.2.2.2.2.1,((List.length x12.2.2.2.2.2.2.2.2.2.2.2.2.1:Nat):Int),x12.2.2.2.2.2.2.2.2.2.2.2.2.2.2.2.2.2))
   (fun s'=>(∃(rd':Int) (sets:List (List Int)) (m:KM) (rl:List Rule) (old' done:Int),s'=(al,S,fin,rs,(0:Int),([]:List Int),([]:List Rule),rd',S,fin,rs,by_,sets,m,rl,old',done,false)∧SOk S al rs sets m rl false∧
    0≤rd'∧rd'≤old'+1∧0≤old'∧old'≤done∧done≤((sets.length:Nat):Int)∧((rd'≠0→done=((sets.length:Nat):Int))∧(rd'=0→done=0))∧(rd'≠0→ ∀sym:Nat,al[sym]? =some 0→Cov rs sets rl (sym:Int) [])∧
    ∀(sym:Nat) (k:Nat),al[sym]? =some ((k+1:Nat):Int)→ ∀l:List Int,l.length=k+1→(∀x∈l,iy old' x)→Cov rs sets rl (sym:Int) l)∧s'.2.2.2.2.2.2.2.1=rd+1∧s'.2.2.2.2.2.2.2.2.2.2.2.2.2.2.2.1=done)
   (fun t=>t=Sum.inr ((0:Int),([]:List Int),([]:List Rule),([]:List (List Int)),(3:Int))∨ ∃(sets:List (List Int)) (m:KM) (rl:List Rule) (old done:Int),t=Sum.inl (S,fin,rs,(0:Int),([]:List Int),([]:List Rule),S,fin,rs,by_,sets,m,rl,old,done,false)∧SOk S al rs sets m rl false∧
    ∀(sym:Nat) (k:Nat),al[sym]? =some (k:Int)→ ∀l:List Int,l.length=k→(∀x∈l,iy ((sets.length:Nat):Int) x)→Cov rs sets rl (sym:Int) l):=by
   intro hg
   refine Bd.bind (R:=fun t=> ∃(z:List (List Int)) (m':KM) (y:List Rule) (full':Bool),t=(al,S,fin,rs,(0:Int),([]:List Int),([]:List Rule),rd,S,fin,rs,by_,sets++z,m',rl++y,old,done,full')∧SOk S al rs (sets++z) m' (rl++y) full'∧
    (full'=false→ ∀(sym k:Nat),al[sym]? =some (k:Int)→(k=0 ↔ rd=0)→ ∀l:List Int,l.length=k→(∀x∈l,iy done x)→(k=0∨ ∃x∈l,old≤x)→Cov rs (sets++z) (rl++y) (sym:Int) l))
    (Tt.loop (L:=fun n=>dH.L1 (Ls n)) (Lp.count al.length (fun i t=> ∃(z:List (List Int)) (m':KM) (y:List Rule) (full':Bool),t=(al,S,fin,rs,(0:Int),([]:List Int),([]:List Rule),rd,S,fin,rs,by_,sets++z,m',rl++y,old,done,full',al,((al.length:Nat):Int),(i:Int))∧SOk S al rs (sets++z) m' (rl++y) full'∧
     (full'=false→ ∀(sym k:Nat),sym<i→al[sym]? =some (k:Int)→(k=0 ↔ rd=0)→ ∀l:List Int,l.length=k→(∀x∈l,iy done x)→(k=0∨ ∃x∈l,old≤x)→Cov rs (sets++z) (rl++y) (sym:Int) l)) ?_ ?_
     ⟨[],m,[],false,by rw[List.append_nil,List.append_nil];rfl,by rw[List.append_nil,List.append_nil];exact hok,fun _ sym k h=>absurd h (by omega)⟩)) ?_
   ·rintro i t hi ⟨z,m',y,full',rfl,hok',hc'⟩
    unfold dH.L1;dsimp only
    have hdz:done≤(((sets++z).length:Nat):Int):=by rw[List.length_append];omega
    obtain⟨k0,hk0⟩: ∃k:Nat,al[i]=(k:Int):=⟨al[i].toNat,by have:=(hal.2 i hi).1;omega⟩
    have hai:al[i]? =some (k0:Int):=by rw[List.getElem?_eq_getElem hi,hk0]
    refine Bd.yes (bf (by omega)) (Bd.nth hi ?_)
    rw[hk0]
    refine Bd.eG (fun he=> ?_) (fun he=> ?_)
    ·have hiff:k0=0 ↔ rd=0:=by
      have:decide ((k0:Int)=0)=decide (rd=0):=by simpa using he
      have:=decide_eq_decide.1 this
      omega
     refine Bd.fG ?_
     have hib:i<by_.length:=by omega
     rw[dZ hib]
     have hrow:=hby2 i by_[i] (List.getElem?_eq_getElem hib)
     refine Bd.ay (Bd.fG (Bd.bind (hLs by_ (i:Int) k0 (by omega) (by rw[Int.toNat_natCast];exact hai) old done ho hod by_[i] (decide ((k0:Int)=0)) full' (sets++z) m' (rl++y) hdz hok' hrow.1 fun v=>(hrow.2 v).trans ⟨?_,?_⟩) ?_))
     ·rintro⟨j,r,e,h1,h2⟩;exact⟨r,⟨j,e,h1⟩,h2⟩
     ·rintro⟨r,⟨j,e,h1⟩,h2⟩;exact⟨j,r,e,h1,h2⟩
     rintro _ ⟨z2,m2,y2,full2,rfl,hok2,hmono,hcov2⟩
     refine Bd.ay (Bd.again ⟨z++z2,m2,y++y2,full2,?_,by rw[←List.append_assoc,←List.append_assoc];exact hok2,fun hf sym k hsym hk hkr l hl hld hlo=> ?_⟩)
     ·dsimp only
      rw[aI (by omega),List.append_assoc,List.append_assoc]
     ·rw[←List.append_assoc,←List.append_assoc]
      rcases Nat.lt_or_eq_of_le (Nat.le_of_lt_succ hsym)with h|rfl
      ·exact(hc' (hmono hf) sym k h hk hkr l hl hld hlo).more fun x hx=>⟨(hld x hx).1,by have:=(hld x hx).2;omega⟩
      ·rw[hai]at hk
       have hk:k0=k:=by have:=Option.some.inj hk;omega
       subst hk
       refine hcov2 hf l (by simpa using hl) hld ?_
       rcases hlo with h|h
       ·exact .inl (bf (by omega))
       ·exact .inr h
    ·have hiff: ¬(k0=0 ↔ rd=0):=by
      intro h
      have:(decide ((k0:Int)=0)==decide (rd=0))=true:=by
       rw[beq_iff_eq];exact decide_eq_decide.2 (by omega)
      rw[this]at he;cases he
     refine Bd.ay (Bd.again ⟨z,m',y,full',by dsimp only;rw[aI (by omega)],hok',fun hf sym k hsym hk hkr l hl hld hlo=> ?_⟩)
     rcases Nat.lt_or_eq_of_le (Nat.le_of_lt_succ hsym)with h|rfl
     ·exact hc' hf sym k h hk hkr l hl hld hlo
     ·rw[hai]at hk
      have hk:k0=k:=by have:=Option.some.inj hk;omega
      subst hk
      exact absurd hkr hiff
   ·rintro t ⟨z,m',y,full',rfl,hok',hc'⟩
    unfold dH.L1;dsimp only
    exact Bd.no (decide_eq_false (by omega)) (Bd.done ⟨z,m',y,full',rfl,hok',fun hf sym k hk=>hc' hf sym k (List.getElem?_eq_some_iff.1 hk).1 hk⟩)
   ·rintro _ ⟨z,m',y,full',rfl,hok',hc'⟩
    refine Bd.ite (fun hf=>Bd.ay (Bd.done (.inl rfl))) (fun hf=> ?_)
    have hf:full'=false:=hf
    subst hf
    have hdz:done≤(((sets++z).length:Nat):Int):=by rw[List.length_append];omega
    have hrdb:rd≤302:=by omega
    have hw1:IntKind.wrap .i64 (rd+1)=rd+1:=o7 _ (by omega) (by omega)
    have leS: ∀x,iy done x→iy ((sets.length:Nat):Int) x:=fun x h=>⟨h.1,by have:=h.2;omega⟩
    refine Bd.again ⟨⟨rd+1,sets++z,m',rl++y,done,(((sets++z).length:Nat):Int),by dsimp only;rw[hw1],hok',by omega,?_,by omega,hdz,Int.le_refl _,⟨fun _=>rfl,fun h=>by omega⟩,fun _ sym hs=> ?_,fun sym k hs l hl hld=> ?_⟩,by dsimp only;rw[hw1],rfl⟩
    ·omega
    ·by_cases hr0:rd=0
     ·exact hc' rfl sym 0 hs (by omega) [] rfl (by simp) (.inl rfl)
     ·exact(hz hr0 sym hs).more (by simp)
    ·by_cases hr0:rd=0
     ·have h0:=hrs.2 hr0
      have hx:=hld l[0] (List.getElem_mem (by omega))
      exact absurd hx.1 (by have:=hx.2;omega)
     ·by_cases hex: ∃x∈l,old≤x
      ·exact hc' rfl sym (k+1) hs (by omega) l hl hld (.inr hex)
      ·refine(hp sym k hs l hl fun x hx=>⟨(hld x hx).1,?_⟩).more fun x hx=>leS x (hld x hx)
       rcases Int.lt_or_le x old with h|h
       ·exact h
       ·exact absurd ⟨x,hx,h⟩ hex
  have meas: ∀s':List Int×Int×List Int×List Rule×Int×List Int×List Rule×Int×Int×List Int×List Rule×List (List Int)×List (List Int)×KM×List Rule×Int×Int×Bool,(rd=0∨old<done)→s'.2.2.2.2.2.2.2.1=rd+1→s'.2.2.2.2.2.2.2.2.2.2.2.2.2.2.2.1=done→
   (302-s'.2.2.2.2.2.2.2.2.2.2.2.2.2.2.2.1).toNat*2+(if s'.2.2.2.2.2.2.2.1=0 then 1 else 0)<(302-old).toNat*2+if rd=0 then 1 else 0:=by
   intro s' hg e1 e2
   rw[e1,e2,if_neg (by omega)]
   split<;>omega
  refine Bd.eG (fun h=> ?_) (fun h=> ?_)
  ·have hg:rd=0∨old<done:= .inl (zU h)
   exact Bd.ay (Bd.yes rfl ((body hg).mono (fun s' hs=>⟨hs.1,meas s' hg hs.2.1 hs.2.2⟩) fun t ht=>ht))
  ·have hr0:rd≠0:=dec_not h
   refine Bd.ay (Bd.ite (fun h2=> ?_) (fun h2=> ?_))
   ·have hg:rd=0∨old<done:= .inr (zU h2)
    exact(body hg).mono (fun s' hs=>⟨hs.1,meas s' hg hs.2.1 hs.2.2⟩) fun t ht=>ht
   ·have h2: ¬old<done:=dec_not h2
    have e1:=hrs.1 hr0
    refine Bd.done (.inr ⟨sets,m,rl,old,done,rfl,hok,fun sym k hk l hl hld=> ?_⟩)
    cases k with
    |zero=>
     have:l= []:=List.eq_nil_of_length_eq_zero hl
     rw[this];exact hz hr0 sym hk
    |succ k=>exact hp sym k hk l hl fun x hx=>⟨(hld x hx).1,by have:=(hld x hx).2;omega⟩
 ·refine⟨0,[],some [],[],0,0,rfl,⟨⟨by simp,[],rfl,fun n s h=>by simp at h,fun s v h h2=>by simp[nV]at h2⟩,fun r h=>by simp at h,by simp,by simp,fun _=>⟨by simp,by simp⟩,by simp⟩,by omega,by omega,by omega,by omega,by simp,⟨fun h=>absurd rfl h,fun _=>rfl⟩,fun h=>absurd rfl h,fun sym k hk l hl hld=> ?_⟩
  have hx:=hld l[0] (List.getElem_mem (by omega))
  exact absurd hx.1 (by have:=hx.2;omega)
 rintro _ (rfl|⟨sets,m,rl,old,done,rfl,hok,hcov⟩)
 ·exact Tt.pure fun h=>by cases h
 dsimp only
 have hrl20:=(hok.2.2.2.2.1 rfl)
 have hr3: ∀r∈rl,r.2.1.length≤3:=fun r hr=>by
  obtain⟨a1,a2,_⟩:=hok.2.1 r hr
  obtain⟨hlt,e⟩:=List.getElem?_eq_some_iff.1 a2
  have:=(hal.2 _ hlt).2
  omega
 refine Tt.bind (hSo rl (by omega) hr3) fun rl' hrl'=> ?_
 obtain⟨hl1,hl2⟩:=hrl'
 have hok':SOk S al rs sets m rl' false:=⟨hok.1,fun r hr=>hok.2.1 r ((hl2 r).1 hr),hok.2.2.1,by omega,fun _=>⟨hrl20.1,by omega⟩,hok.2.2.2.2.2⟩
 refine Tt.bind (hFi S fin rs hw.1 (by omega) (by have:=hw.2.2.1;omega) hw.2.2.2.2.1) fun R hR=> ?_
 obtain⟨hR1,hR2⟩:=hR
 refine Tt.bind (R:=fun t=> ∃(fin':List Int) (sl:List (List Int)),t=((0:Int),([]:List Int),([]:List Rule),((sets.length:Nat):Int),fin',rl',sl)∧fin'.length≤sets.length∧ ∀n:Int,n∈fin' ↔ ∃s,0≤n∧sets[n.toNat]? =some s∧ ∃v:Int,0≤v∧CU s v=true∧v∈fin)
  (Tt.loop (L:=fun n=>dH.L3 (Li n) (C n)) (Lp.count sets.length (fun i t=> ∃(fin':List Int) (sl:List (List Int)),t=((0:Int),([]:List Int),([]:List Rule),((sets.length:Nat):Int),fin',rl',R,sl,S,fin,rs,by_,sets,m,rl,old,done,false,((sets.length:Nat):Int),(i:Int))∧fin'.length≤i∧sl.length≤i∧
   ∀n:Int,n∈fin' ↔ ∃s,0≤n∧n<(i:Int)∧sets[n.toNat]? =some s∧ ∃v:Int,0≤v∧CU s v=true∧v∈fin) ?_ ?_ ⟨[],[],rfl,by simp,by simp,fun n=>⟨fun h=>by simp at h,fun⟨s,h1,h2,_⟩=>absurd h1 (by omega)⟩⟩)) ?_
 ·rintro i t hi ⟨fin',sl,rfl,hf1,hf2,hf3⟩
  unfold dH.L3;dsimp only
  have hsi:=hok.1.1 _ (List.getElem_mem hi)
  refine Bd.yes (bf (by omega)) (Bd.chk (rng (by omega) (by omega)) ?_)
  rw[Int.toNat_natCast]
  refine Bd.at hi fun s _ hs=> ?_
  rw[List.getElem?_eq_getElem hi]at hs
  cases hs
  refine Bd.bind (hLi _ hsi) fun l hl=> ?_
  obtain⟨hll0,hl⟩:=hl
  have hlS: ∀v∈l,iy S v:=fun v hv=>by
   obtain⟨a1,a2,a3⟩:=(hl v).1 hv
   exact⟨a1,hok.2.2.2.2.2 _ (List.getElem_mem hi) v a1 a3⟩
  have hll:l.length≤1000000:=by omega
  refine Bd.chk (qG (by simp;omega)) (Bd.bind (hC S l R hR1 hlS hll) fun b hb=> ?_)
  have hbiff:b=true ↔ ∃v:Int,0≤v∧CU sets[i] v=true∧v∈fin:=by
   rw[hb,List.any_eq_true]
   constructor
   ·rintro⟨v,h1,h2⟩
    obtain⟨a1,a2,a3⟩:=(hl v).1 h1
    exact⟨v,a1,a3,(hR2 v (hlS v h1)).1 h2⟩
   ·rintro⟨v,h1,h2,h3⟩
    have hm:v∈l:=(hl v).2 ⟨h1,WZ hsi h2 h1,h2⟩
    exact⟨v,hm,(hR2 v (hlS v hm)).2 h3⟩
  refine Bd.eG (fun hc=> ?_) (fun hc=> ?_)
  ·refine Bd.nM (qG (by simp;omega)) (Bd.ay (Bd.again ⟨_,_,by rw[aI (by omega)],by simp;omega,by simp;omega,fun n=> ?_⟩))
   simp only[List.append_eq,List.mem_append,List.mem_singleton,hf3]
   constructor
   ·rintro(⟨s,h1,h2,h3⟩|rfl)
    ·exact⟨s,h1,by omega,h3⟩
    ·exact⟨sets[i],by omega,by omega,by rw[Int.toNat_natCast];exact List.getElem?_eq_getElem hi,hbiff.1 hc⟩
   ·rintro⟨s,h1,h2,h3⟩
    by_cases e:n=(i:Int)
    ·exact .inr e
    ·exact .inl ⟨s,h1,by omega,h3⟩
  ·refine Bd.ay (Bd.again ⟨fin',_,by rw[aI (by omega)],by omega,by simp;omega,fun n=> ?_⟩)
   rw[hf3]
   constructor
   ·rintro⟨s,h1,h2,h3⟩
    exact⟨s,h1,by omega,h3⟩
   ·rintro⟨s,h1,h2,h3,h4⟩
    have:n≠(i:Int):=by
     rintro rfl
     rw[Int.toNat_natCast,List.getElem?_eq_getElem hi]at h3
     cases h3
     rw[hbiff.2 h4]at hc;cases hc
    exact⟨s,h1,by omega,h3,h4⟩
 ·rintro t ⟨fin',sl,rfl,hf1,hf2,hf3⟩
  unfold dH.L3;dsimp only
  refine Bd.no (decide_eq_false (by omega)) (Bd.done ⟨fin',sl,rfl,hf1,fun n=>(hf3 n).trans ⟨fun⟨s,h1,h2,h3⟩=>⟨s,h1,h3⟩,fun⟨s,h1,h3⟩=>⟨s,h1,?_,h3⟩⟩⟩)
  have:=(List.getElem?_eq_some_iff.1 h3.1).1
  omega
 ·rintro _ ⟨fin',sl,rfl,hf1,hf2⟩
  dsimp only
  obtain⟨hu,hacc⟩:=Uf (fin':=fin') hw hAr hok' (fun sym k hk l hl hld ⟨r,h1,h2⟩=>by
   obtain⟨q,hq⟩:=hcov sym k hk l hl hld ⟨r,h1,h2⟩
   exact⟨q,(hl2 _).2 hq⟩) hf2
  refine Tt.pure fun _=>⟨⟨by dsimp only;omega,by dsimp only;omega,by dsimp only;omega,by dsimp only;omega,fun q hq=> ?_,fun r hr=> ?_⟩,by dsimp only;omega,hu,hacc,fun r hr=> ?_⟩
  ·obtain⟨s,h1,h2,_⟩:=(hf2 q).1 hq
   have:=(List.getElem?_eq_some_iff.1 h2).1
   exact⟨h1,by dsimp only;omega⟩
  ·have h:=hok'.2.1 r hr
   exact⟨h.2.2.2.1,h.2.2.1,hr3 r ((hl2 r).1 hr)⟩
  ·have h:=hok'.2.1 r hr
   have:=(List.getElem?_eq_some_iff.1 h.2.1).1
   exact⟨by have:=h.1;omega,by have:=h.1;omega⟩
theorem adk {Cp:Nat→Int×List Int×List Rule→Option (Int×List Int×List Rule)} {De:Nat→List Int×Int×List Int×List Rule→Option (Bool×Int)} {Tr:Nat→List Int×Int×List Int×List Rule→Option (Int×List Int×List Rule×Int)}
 {Su:Nat→List Int×Int×List Int×List Rule→Option (Int×List Int×List Rule×List (List Int)×Int)} (al:List Int) (S:Int) (fin:List Int) (rs:List Rule) (hv:gY al (S,fin,rs)) (hS:S≤8)
 (hCp:Sp Cp (S,fin,rs) (fun r=>r=(S,fin,rs))) (hDe:Sp De (al,S,fin,rs) (fun r=>(gY al (S,fin,rs)∧r.2=0∧(r.1=true→Det rs))∨(¬gY al (S,fin,rs)∧r.2=1)))
 (hTr:Sp Tr (al,S,fin,rs) (fun r=>r.2.2.2=0∧Wf r.1 r.2.1 r.2.2.1∧r.1≤S∧ ∀t,Acc r.2.2.1 r.2.1 t ↔ Acc rs fin t))
 (hSu: ∀(S':Int) (fin':List Int) (rs':List Rule),S'≤8→Wf S' fin' rs'→Sp Su (al,S',fin',rs') (fun r=>r.2.2.2.2=0→Vo fin' rs' (r.1,r.2.1,r.2.2.1))):
 Sp (fun n=>xX.P (Cp n) (De n) (Tr n) (Su n) n) (al,S,fin,rs) (fun r=>r.2.2.2=0→Vo fin rs (r.1,r.2.1,r.2.2.1)):=by
 show Tt (fun n=>xX.P (Cp n) (De n) (Tr n) (Su n) n (al,S,fin,rs)) _
 unfold xX.P;dsimp only
 refine Tt.bind hDe fun r hr=> ?_
 rcases hr with⟨_,h0,hd⟩|⟨h,_⟩
 ·refine Tt.no (by rw[h0];rfl) (Tt.ite (fun hc=> ?_) (fun hc=> ?_))
  ·refine Tt.bind hCp ?_
   rintro _ rfl
   refine Tt.pure fun _=>⟨hv.wf,by have:=hv.2.2.1;dsimp only at this ⊢;omega,hd hc,fun t=>Iff.rfl,fun r hr=> ?_⟩
   have h1:=hv.rule hr
   have h2:=hv.1.1
   exact⟨by have:=h1.1;omega,by have:=h1.2.1;omega⟩
  ·refine Tt.bind hTr fun r2 hr2=> ?_
   obtain⟨e0,hw,hle,ha⟩:=hr2
   refine Tt.no (by rw[e0];rfl) (Tt.bind (hSu _ _ _ (by omega) hw) fun r3 hr3=>Tt.pure fun h=> ?_)
   obtain⟨d1,d2,d3,d4,d5⟩:=hr3 h
   exact⟨d1,d2,d3,fun t=>(d4 t).trans (ha t),d5⟩
 ·exact absurd hv h
end Go.Bk
end
