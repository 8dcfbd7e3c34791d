import Derived.Test.YtdchbjmbgecejaaGreatDoorMo
import Derived.Test.YtdchbjmbgecejaaGreatDoorMk
noncomputable section
namespace Go.Bk
open Go Go.AM
set_option linter.unusedVariables false
theorem G9 {α β:Type} {q:α→α→Bool} (x:α) (y:β): ∀l:List (α×β),nV q x l=none→(ED q x y l).length=l.length+1
 | [],_=>rfl
 |p::l,h=>by
  simp only[nV,cond_eq_ite]at h
  split at h
  ·cases h
  ·rename_i hn
   simp only[ED,cond_eq_ite]
   rw[if_neg hn,List.length_cons,List.length_cons,G9 x y l h]
def adu {α:Type} (q:α→α→Bool) (x1:Option (List (α×Int))×List Int×List α×Int×Int) (rec2:Option (List (α×Int))×List Int×List α×Int×Int→Option (Option (List (α×Int))×List Int)):Option (Option (List (α×Int))×List Int):=
 bif decide (x1.2.2.2.2<x1.2.2.2.1)then
  (nth? x1.2.2.1 x1.2.2.2.2).bind fun e3=>
   (bif !(Option.isSome (nV q e3 (mD x1.1)))then
    ((x1.1).bind fun m4=>some (some (ED q e3 ((U4 x1.1:Nat):Int) m4),x1.2.1,((U4 x1.1:Nat):Int),x1.2.2.1,x1.2.2.2.1,x1.2.2.2.2))
   else some (x1.1,x1.2.1,Option.getD (nV q e3 (mD x1.1)) (0:Int),x1.2.2.1,x1.2.2.2.1,x1.2.2.2.2)).bind fun x5=>
   bif decide (List.length x5.2.1+List.length ([x5.2.2.1]:List Int)≤au)then
    rec2 (x5.1,List.append x5.2.1 ([x5.2.2.1]:List Int),x5.2.2.2.1,x5.2.2.2.2.1,IntKind.wrap .i64 (x5.2.2.2.2.2+(1:Int)))
   else none
 else some (x1.1,x1.2.1)
def MOk {α:Type} (q:α→α→Bool) (mm:List (α×Int)):Prop:=(∀a v,nV q a mm=some v→0≤v∧v<((mm.length:Nat):Int))∧ ∀a b v,nV q a mm=some v→nV q b mm=some v→a=b
theorem MOk.put {α:Type} [DecidableEq α] {q:α→α→Bool} (hq: ∀a b,q a b=true ↔ a=b) {mm:List (α×Int)} (h:MOk q mm) {x:α} (hx:nV q x mm=none):MOk q (ED q x ((mm.length:Nat):Int) mm):=by
 have hl:=G9 (q:=q) x ((mm.length:Nat):Int) mm hx
 refine⟨fun a v ha=> ?_,fun a b v ha hb=> ?_⟩
 ·rw[hl]
  rw[rX hq]at ha
  split at ha
  ·cases ha;omega
  ·have:=h.1 a v ha;omega
 ·rw[rX hq]at ha hb
  split at ha<;>split at hb
  ·rename_i e1 e2;rw[e1,e2]
  ·cases ha;have:=(h.1 b _ hb).2;omega
  ·cases hb;have:=(h.1 a _ ha).2;omega
  ·exact h.2 a b v ha hb
def aad {α:Type} (x:List α) (r:List Int×Int):Prop:=
 r.1.length=x.length∧0≤r.2∧r.2≤((x.length:Nat):Int)∧(∀v∈r.1,0≤v∧v<r.2)∧(∀v:Int,0≤v→v<r.2→v∈r.1)∧ ∀(i j:Nat) (a b:α) (u v:Int),x[i]? =some a→x[j]? =some b→r.1[i]? =some u→r.1[j]? =some v→(u=v ↔ a=b)
theorem Z4 {α:Type} [DecidableEq α] {q:α→α→Bool} (hq: ∀a b,q a b=true ↔ a=b) (x:List α) (hl:x.length≤1000000):
 Tt (fun n=>(dD (adu q) n ((some []:Option (List (α×Int))),([]:List Int),x,((x.length:Nat):Int),(0:Int))).bind fun x6=>some (x6.2,((U4 x6.1:Nat):Int))) (aad x):=by
 refine Tt.bind (R:=fun t=>aad x (t.2,((U4 t.1:Nat):Int)))
  (Tt.loop (L:=fun _=>adu q) (Lp.count x.length (fun i t=> ∃(mm:List (α×Int)) (out:List Int),t=(some mm,out,x,((x.length:Nat):Int),(i:Int))∧out.length=i∧mm.length≤i∧MOk q mm∧(∀v:Int,0≤v→v<((mm.length:Nat):Int)→v∈out)∧
   ∀(j:Nat) (a:α) (v:Int),x[j]? =some a→out[j]? =some v→nV q a mm=some v) ?_ ?_ ?_)) fun r hr=>Tt.pure hr
 ·rintro i t hi ⟨mm,out,rfl,ho,hm,hk,hs,hg⟩
  unfold adu;dsimp only
  have hold: ∀(j:Nat) (a:α) (v w:Int),x[j]? =some a→(out++[w])[j]? =some v→(j<i∧out[j]? =some v)∨(j=i∧a=x[i]∧v=w):=by
   intro j a v w hj hv
   rcases Nat.lt_or_ge j out.length with h|h
   ·rw[List.getElem?_append_left h]at hv;exact .inl ⟨by omega,hv⟩
   ·have hlt:=(List.getElem?_eq_some_iff.1 hv).1
    simp at hlt
    have:j=i:=by omega
    subst this
    rw[List.getElem?_append_right (by omega),ho,Nat.sub_self]at hv
    rw[List.getElem?_eq_getElem hi]at hj
    exact .inr ⟨rfl,(Option.some.inj hj).symm,by simpa using hv.symm⟩
  refine Bd.yes (bf (by omega)) (Bd.nth hi ?_)
  refine Bd.eG (fun hc=> ?_) (fun hc=> ?_)
  ·have hnone:nV q x[i] mm=none:=by simpa [mD]using hc
   have hml:=G9 (q:=q) x[i] ((mm.length:Nat):Int) mm hnone
   refine Bd.ay (Bd.ay (Bd.chk (qG (by dsimp only;simp;omega)) (Bd.again ⟨ED q x[i] ((mm.length:Nat):Int) mm,out++[((mm.length:Nat):Int)],by dsimp only;rw[aI (by omega)];rfl,by simp;omega,by rw[hml];omega,hk.put hq hnone,fun v h0 h1=> ?_,fun j a v hj hv=> ?_⟩)))
   ·rw[hml]at h1
    by_cases e:v=((mm.length:Nat):Int)
    ·rw[e];exact List.mem_append_right _ (by simp)
    ·exact List.mem_append_left _ (hs v h0 (by omega))
   ·rw[rX hq]
    rcases hold j a v _ hj hv with⟨h,h2⟩|⟨h,h2,h3⟩
    ·split
     ·rename_i e
      have:=hg j a v hj h2
      rw[e,hnone]at this;cases this
     ·exact hg j a v hj h2
    ·rw[if_pos h2,h3]
  ·have hsome:(nV q x[i] mm).isSome=true:=by simpa [mD]using hc
   obtain⟨w,hw⟩:=Option.isSome_iff_exists.1 hsome
   have e1:Option.getD (nV q x[i] (mD (some mm))) (0:Int)=w:=by rw[show mD (some mm)=mm from rfl,hw];rfl
   refine Bd.ay (Bd.chk (qG (by dsimp only;simp;omega)) (Bd.again ⟨mm,out++[w],by dsimp only;rw[aI (by omega),e1];rfl,by simp;omega,by omega,hk,fun v h0 h1=>List.mem_append_left _ (hs v h0 h1),fun j a v hj hv=> ?_⟩))
   rcases hold j a v _ hj hv with⟨h,h2⟩|⟨h,h2,h3⟩
   ·exact hg j a v hj h2
   ·rw[h2,h3];exact hw
 ·rintro t ⟨mm,out,rfl,ho,hm,hk,hs,hg⟩
  unfold adu;dsimp only
  refine Bd.no (decide_eq_false (by omega)) (Bd.done ⟨ho,by show(0:Int)≤((mm.length:Nat):Int);omega,by show((mm.length:Nat):Int)≤_;omega,fun v hv=> ?_,hs,fun i j a b u v hi hj hu hv=> ?_⟩)
  ·obtain⟨i,hi,rfl⟩:=List.getElem_of_mem hv
   exact hk.1 x[i] _ (hg i _ _ (List.getElem?_eq_getElem (by have hi:i<out.length:=hi;omega)) (List.getElem?_eq_getElem hi))
  ·have h1:=hg i a u hi hu
   have h2:=hg j b v hj hv
   constructor
   ·intro e;subst e;exact hk.2 a b u h1 h2
   ·intro e;subst e;rw[h1]at h2;exact Option.some.inj h2
 ·exact⟨[],[],rfl,rfl,by simp,⟨fun a v h=>by simp[nV]at h,fun a b v h=>by simp[nV]at h⟩,fun v h0 h1=>absurd h1 (by simp;omega),fun j a v _ h=>by simp at h⟩
theorem KA (x:List Bool) (hl:x.length≤1000000):Sp kF.P x (aad x):=Z4 Zt x hl
theorem GH (x:List ByteArray) (hl:x.length≤1000000):Sp jE.P x (aad x):=Z4 Dn x hl
def Occ (rs:List Rule) (r:Rule) (i:Nat) (s:Int):Prop:=r∈rs∧r.2.1[i]? =some s
def adl (S:Int) (rs:List Rule) (U:List (List (Int×Int))):Prop:=
 U.length=S.toNat∧(∀l∈U,l.length≤3*rs.length∧ ∀p∈l,0≤p.1∧p.1≤300000∧iy S p.2)∧ ∃κ:Int→List Int→Int,
  (∀r i s r' i' s',Occ rs r i s→Occ rs r' i' s'→κ r.1 (r.2.1.set i (-1))=κ r'.1 (r'.2.1.set i' (-1))→r.1=r'.1∧r.2.1.set i (-1)=r'.2.1.set i' (-1))∧
  ∀(s:Int) (l:List (Int×Int)),0≤s→U[s.toNat]? =some l→ ∀c to,(c,to)∈l ↔ ∃r i,Occ rs r i s∧c=κ r.1 (r.2.1.set i (-1))∧to=r.2.2
abbrev acw (F:Nat→List (Int×Int)→Option (List (Int×Int))):Prop:= ∀x:List (Int×Int),x.length≤1000000→(∀p∈x,0≤p.1∧p.1≤300000)→(∀p∈x,∀p'∈x,p.1=p'.1→p=p')→Sp F x (fun r=>r.length=x.length∧ ∀y,y∈r ↔ y∈x)
def UI (rs:List Rule) (dn:Nat→Nat→Prop) (V:List (List (Int×Int))) (mm:List (ByteArray×Int)):Prop:=
 (∀(s:Int) (l:List (Int×Int)),0≤s→V[s.toNat]? =some l→ ∀c to,(c,to)∈l→ ∃(j i:Nat) (r:Rule),dn j i∧rs[j]? =some r∧r.2.1[i]? =some s∧nV seq (OM r.1 (r.2.1.set i (-1))) mm=some c∧to=r.2.2)∧
 ∀(j i:Nat) (r:Rule) (s:Int),dn j i→rs[j]? =some r→r.2.1[i]? =some s→ ∃l c,V[s.toNat]? =some l∧(c,r.2.2)∈l∧nV seq (OM r.1 (r.2.1.set i (-1))) mm=some c
theorem UI.step {rs:List Rule} {dn:Nat→Nat→Prop} {V:List (List (Int×Int))} {mm m3:List (ByteArray×Int)} (h:UI rs dn V mm) (hm: ∀key c,nV seq key mm=some c→nV seq key m3=some c) {k p:Nat} {r0:Rule} {s0 c0:Int} (h0:0≤s0) (hr0:rs[k]? =some r0) (hs0:r0.2.1[p]? =some s0)
 (hc0:nV seq (OM r0.1 (r0.2.1.set p (-1))) m3=some c0) (hl:s0.toNat<V.length):UI rs (fun j i=>dn j i∨(j=k∧i=p)) (V.set s0.toNat (List.append V[s0.toNat] [(c0,r0.2.2)])) m3:=by
 obtain⟨hA,hB⟩:=h
 refine⟨fun s l hs hVl c to hct=> ?_,fun j i r s hd hr hsi=> ?_⟩
 ·rw[List.getElem?_set]at hVl
  split at hVl
  ·rename_i e
   cases hVl
   have es:s0=s:=by omega
   subst es
   simp only[List.append_eq,List.mem_append,List.mem_singleton,Prod.mk.injEq]at hct
   rcases hct with hct|⟨rfl,rfl⟩
   ·obtain⟨j,i,r,a1,a2,a3,a4,a5⟩:=hA s0 _ hs (List.getElem?_eq_getElem hl) c to hct
    exact⟨j,i,r,.inl a1,a2,a3,hm _ _ a4,a5⟩
   ·exact⟨k,p,r0,.inr ⟨rfl,rfl⟩,hr0,hs0,hc0,rfl⟩
  ·obtain⟨j,i,r,a1,a2,a3,a4,a5⟩:=hA s l hs hVl c to hct
   exact⟨j,i,r,.inl a1,a2,a3,hm _ _ a4,a5⟩
 ·rw[List.getElem?_set]
  rcases hd with hd|⟨rfl,rfl⟩
  ·obtain⟨l,c,a1,a2,a3⟩:=hB j i r s hd hr hsi
   split
   ·rename_i e
    rw[e]at hl
    rw[List.getElem?_eq_getElem hl]at a1
    cases a1
    exact⟨_,c,rfl,by simp only[List.append_eq,List.mem_append];left;simpa [e]using a2,hm _ _ a3⟩
   ·exact⟨l,c,a1,a2,hm _ _ a3⟩
  ·rw[hr0]at hr;cases hr
   rw[hs0]at hsi;cases hsi
   rw[if_pos rfl,if_pos hl]
   exact⟨_,c0,rfl,by simp,hc0⟩
theorem UI.congr {rs:List Rule} {dn dn':Nat→Nat→Prop} {V:List (List (Int×Int))} {mm:List (ByteArray×Int)} (h:UI rs dn V mm) (hd: ∀j i r s,rs[j]? =some r→r.2.1[i]? =some s→(dn' j i ↔ dn j i)):UI rs dn' V mm:=by
 refine⟨fun s l hs hVl c to hct=> ?_,fun j i r s hdn hr hsi=>h.2 j i r s ((hd j i r s hr hsi).1 hdn) hr hsi⟩
 obtain⟨j,i,r,a1,a2,a3,a4⟩:=h.1 s l hs hVl c to hct
 exact⟨j,i,r,(hd j i r s a2 a3).2 a1,a2,a3,a4⟩
def abP (S:Int) (V:List (List (Int×Int))) (b:Nat):Prop:=V.length=S.toNat∧ ∀l∈V,l.length≤b∧ ∀p∈l,0≤p.1∧p.1≤300000∧iy S p.2
theorem aaF {K:Nat→Int×List Int→Option ByteArray} {Cl:Nat→List Int→Option (List Int)} {So:Nat→List (Int×Int)→Option (List (Int×Int))} (hK: ∀s l,I64 s→(∀q∈l,I64 q)→l.length≤1000000→Sp K (s,l) (fun r=>r=OM s l))
 (hCl: ∀l:List Int,l.length≤1000000→Sp Cl l (fun r=>r=l)) (hSo:acw So) (S:Int) (fin:List Int) (rs:List Rule) (hw:Wf S fin rs) (hsy: ∀r∈rs,I64 r.1) (hdet:Det rs):
 Sp (fun n=>gy.P (K n) (Cl n) (So n) n) (S,fin,rs) (fun x=> ∃U,x=rows U∧adl S rs U):=by
 obtain⟨h0,hS,hfl,hrl,hfin,hr⟩:=hw
 have i64q: ∀r∈rs,∀q∈r.2.1,I64 q:=fun r h q hq=>by
  have:=(hr r h).2.1 q hq
  exact⟨by have:=this.1;omega,by have:=this.2;omega⟩
 have i64s: ∀r∈rs,∀i:Nat,∀q∈r.2.1.set i (-1),I64 q:=fun r h i q hq=>by
  rcases List.mem_or_eq_of_mem_set hq with h2|rfl
  ·exact i64q r h q h2
  ·exact⟨by omega,by omega⟩
 show Tt (fun n=>gy.P (K n) (Cl n) (So n) n (S,fin,rs)) _
 unfold gy.P;dsimp only
 refine Tt.chk (yX h0 (by omega)) ?_
 refine Tt.bind (R:=fun x=> ∃(U:List (List (Int×Int))) (mm:List (ByteArray×Int)),x=rows U∧MOk seq mm∧mm.length≤3*rs.length∧abP S U (3*rs.length)∧UI rs (fun j _=>j<rs.length) U mm)
  (Tt.loop (L:=fun n=>gy.L2 (Cl n) (K n) n) (Lp.count rs.length (fun k t=> ∃(U:List (List (Int×Int))) (mm:List (ByteArray×Int)),t=(some mm,rows U,rs,((rs.length:Nat):Int),(k:Int))∧MOk seq mm∧mm.length≤3*k∧abP S U (3*k)∧UI rs (fun j _=>j<k) U mm) ?_ ?_ ?_)) ?_
 ·rintro k t hk ⟨U,mm,rfl,hm,hml,hU,hui⟩
  unfold gy.L2;dsimp only
  obtain⟨hto,hfr,hfl3⟩:=hr rs[k] (List.getElem_mem hk)
  have hrm:=List.getElem_mem hk
  have hrk:=List.getElem?_eq_getElem hk
  refine Bd.yes (bf (by omega)) (Bd.nth hk ?_)
  refine Bd.bind (R:=fun t=> ∃(V:List (List (Int×Int))) (m2:List (ByteArray×Int)),t=(some m2,rows V,rs,((rs.length:Nat):Int),(k:Int))∧MOk seq m2∧m2.length≤3*k+3∧abP S V (3*k+3)∧UI rs (fun j _=>j<k+1) V m2)
   (Tt.loop (L:=fun n=>gy.L1 (Cl n) (K n)) (Lp.count rs[k].2.1.length (fun p t=> ∃(V:List (List (Int×Int))) (m2:List (ByteArray×Int)),t=(some m2,rows V,rs[k].1,rs[k].2.1,rs[k].2.2,rs,((rs.length:Nat):Int),(k:Int),rs[k].2.1,((rs[k].2.1.length:Nat):Int),(p:Int))∧MOk seq m2∧m2.length≤3*k+p∧abP S V (3*k+p)∧
    UI rs (fun j i=>j<k∨(j=k∧i<p)) V m2) ?_ ?_ ⟨U,mm,rfl,hm,by omega,hU,hui.congr fun j i r s _ _=>by omega⟩)) ?_
  ·rintro p t hp ⟨V,m2,rfl,g1,g2,g3,g4⟩
   unfold gy.L1;dsimp only
   have hsp:=hfr _ (List.getElem_mem hp)
   have hsl:rs[k].2.1[p].toNat<V.length:=by have:=hsp.1;have:=hsp.2;have:=g3.1;omega
   refine Bd.yes (bf (by omega)) (Bd.nth hp (Bd.bind (hCl rs[k].2.1 (by omega)) ?_))
   rintro _ rfl
   refine Bd.chk (rng (by omega) (by omega)) ?_
   rw[Int.toNat_natCast]
   refine Bd.at hp fun _ _ _=>Bd.bind (hK _ _ (hsy _ hrm) (i64s _ hrm p) (by rw[List.length_set];omega)) ?_
   rintro _ rfl
   have tail: ∀(m3:List (ByteArray×Int)) (c0:Int),MOk seq m3→m3.length≤3*k+(p+1)→nV seq (OM rs[k].1 (rs[k].2.1.set p (-1))) m3=some c0→(∀key c,nV seq key m2=some c→nV seq key m3=some c)→
    Bd (fun n rec=>bif decide (0≤rs[k].2.1[p])&&decide (rs[k].2.1[p]<((List.length (rows V):Nat):Int))then
     (rowAt? (rows V) (Int.toNat rs[k].2.1[p])).bind fun e12=>(rowAt? (rows V) (Int.toNat rs[k].2.1[p])).bind fun e13=>
     bif decide (List.length e13+List.length ([(c0,rs[k].2.2)]:List (Int×Int))≤au)then
     bif decide (0≤rs[k].2.1[p])&&decide (rs[k].2.1[p]<((List.length (List.set (rows V) (Int.toNat rs[k].2.1[p]) none):Nat):Int))then
     rec (some m3,List.set (List.set (rows V) (Int.toNat rs[k].2.1[p]) none) (Int.toNat rs[k].2.1[p]) (some (List.append e13 ([(c0,rs[k].2.2)]:List (Int×Int)))),rs[k].1,rs[k].2.1,rs[k].2.2,rs,((rs.length:Nat):Int),(k:Int),rs[k].2.1,((rs[k].2.1.length:Nat):Int),IntKind.wrap .i64 ((p:Int)+(1:Int)))
     else none else none else none)
    (fun t=> ∃(V:List (List (Int×Int))) (m2:List (ByteArray×Int)),t=(some m2,rows V,rs[k].1,rs[k].2.1,rs[k].2.2,rs,((rs.length:Nat):Int),(k:Int),rs[k].2.1,((rs[k].2.1.length:Nat):Int),((p+1:Nat):Int))∧MOk seq m2∧m2.length≤3*k+(p+1)∧abP S V (3*k+(p+1))∧UI rs (fun j i=>j<k∨(j=k∧i<p+1)) V m2)
    (fun t=> ∃(V:List (List (Int×Int))) (m2:List (ByteArray×Int)),t=(some m2,rows V,rs,((rs.length:Nat):Int),(k:Int))∧MOk seq m2∧m2.length≤3*k+3∧abP S V (3*k+3)∧UI rs (fun j _=>j<k+1) V m2):=by
    intro m3 c0 q1 q2 q3 q4
    have hrow:=g3.2 _ (List.getElem_mem hsl)
    refine Bd.chk (rng hsp.1 (by rw[rW];have:=hsp.1;omega)) (Bd.row hsl (Bd.row hsl (Bd.chk (qG (by simp;omega)) (Bd.chk (rng hsp.1 (by rw[List.length_set,rW];have:=hsp.1;omega)) (Bd.again ?_)))))
    rw[DX]
    refine⟨_,m3,by rw[aI (by omega)],q1,q2,⟨by rw[List.length_set];exact g3.1,fun l hl=> ?_⟩,(g4.step q4 hsp.1 hrk (List.getElem?_eq_getElem hp) q3 hsl).congr fun j i r s _ _=>by omega⟩
    rcases List.mem_or_eq_of_mem_set hl with h|rfl
    ·have:=g3.2 l h;exact⟨by omega,this.2⟩
    ·refine⟨by simp;omega,fun x hx=> ?_⟩
     simp only[List.append_eq,List.mem_append,List.mem_singleton]at hx
     rcases hx with hx|rfl
     ·exact hrow.2 x hx
     ·have:=q1.1 _ _ q3
      exact⟨this.1,by have:=this.2;dsimp only;omega,hto⟩
   refine Bd.eG (fun hc=> ?_) (fun hc=> ?_)
   ·have hnone:nV seq (OM rs[k].1 (rs[k].2.1.set p (-1))) m2=none:=by simpa [mD]using hc
    have hml:=G9 (q:=seq) (OM rs[k].1 (rs[k].2.1.set p (-1))) ((m2.length:Nat):Int) m2 hnone
    refine Bd.ay (Bd.ay ?_)
    refine tail (ED seq (OM rs[k].1 (rs[k].2.1.set p (-1))) ((m2.length:Nat):Int) m2) ((m2.length:Nat):Int) (g1.put Dn hnone) (by rw[hml];omega) (by rw[rX Dn,if_pos rfl]) fun key c h=> ?_
    rw[rX Dn,if_neg]
    ·exact h
    ·rintro rfl;rw[hnone]at h;cases h
   ·have hsome:(nV seq (OM rs[k].1 (rs[k].2.1.set p (-1))) m2).isSome=true:=by simpa [mD]using hc
    obtain⟨w,hw⟩:=Option.isSome_iff_exists.1 hsome
    refine Bd.ay ?_
    have:=tail m2 w g1 (by omega) hw fun _ _ h=>h
    have e1:Option.getD (nV seq (OM rs[k].1 (rs[k].2.1.set p (-1))) (mD (some m2))) (0:Int)=w:=by rw[show mD (some m2)=m2 from rfl,hw];rfl
    dsimp only
    rw[e1]
    exact this
  ·rintro t ⟨V,m2,rfl,g1,g2,g3,g4⟩
   unfold gy.L1;dsimp only
   refine Bd.no (decide_eq_false (by omega)) (Bd.done ⟨V,m2,rfl,g1,by omega,⟨g3.1,fun l hl=>⟨by have:=(g3.2 l hl).1;omega,(g3.2 l hl).2⟩⟩,g4.congr fun j i r s hj hi=> ?_⟩)
   constructor
   ·intro h
    rcases Nat.lt_or_eq_of_le (Nat.le_of_lt_succ h)with h|rfl
    ·exact .inl h
    ·rw[hrk]at hj;cases hj
     exact .inr ⟨rfl,(List.getElem?_eq_some_iff.1 hi).1⟩
   ·omega
  ·rintro _ ⟨V,m2,rfl,g1,g2,g3,g4⟩
   exact Bd.again ⟨V,m2,by dsimp only;rw[aI (by omega)],g1,by omega,g3,g4⟩
 ·rintro t ⟨U,mm,rfl,hm,hml,hU,hui⟩
  unfold gy.L2;dsimp only
  exact Bd.no (decide_eq_false (by omega)) (Bd.done ⟨U,mm,rfl,hm,hml,hU,hui⟩)
 ·refine⟨List.replicate S.toNat [],[],by rw[Ht];rfl,⟨fun a v h=>by simp[nV]at h,fun a b v h=>by simp[nV]at h⟩,by simp,⟨by simp,fun l hl=>by rw[(List.mem_replicate.1 hl).2];simp⟩,⟨fun s l hs hl c to h=> ?_,fun j i r s h=>absurd h (by omega)⟩⟩
  rw[List.getElem?_replicate]at hl
  split at hl
  ·cases hl;cases h
  ·cases hl
 rintro _ ⟨U,mm,rfl,hm,hml,⟨hU1,hU2⟩,hA,hB⟩
 have huniq: ∀(i:Nat) (hi:i<U.length),∀p∈U[i],∀p'∈U[i],p.1=p'.1→p=p':=by
  intro i hi p hp p' hp' e
  have ei:U[((i:Nat):Int).toNat]? =some U[i]:=by rw[Int.toNat_natCast];exact List.getElem?_eq_getElem hi
  obtain⟨j,k,r,_,a1,a2,a3,a4⟩:=hA (i:Int) _ (by omega) ei p.1 p.2 hp
  obtain⟨j',k',r',_,b1,b2,b3,b4⟩:=hA (i:Int) _ (by omega) ei p'.1 p'.2 hp'
  rw[←e]at b3
  have m1:=List.mem_of_getElem? a1
  have m2:=List.mem_of_getElem? b1
  obtain⟨e1,e2⟩:=key_inj (hsy _ m1) (hsy _ m2) (i64s _ m1 k) (i64s _ m2 k') (hm.2 _ _ _ a3 b3)
  have hk:k<r.2.1.length:=(List.getElem?_eq_some_iff.1 a2).1
  have hk':k'<r'.2.1.length:=(List.getElem?_eq_some_iff.1 b2).1
  have hl:r.2.1.length=r'.2.1.length:=by have:=congrArg List.length e2;simpa using this
  have hkk:k=k':=by
   apply Classical.byContradiction
   intro hne
   have h1:(r.2.1.set k (-1))[k]? =(r'.2.1.set k' (-1))[k]? :=congrArg (fun l:List Int=>l[k]?) e2
   rw[List.getElem?_set_self (by omega),List.getElem?_set_ne (fun e=>hne e.symm)]at h1
   have:=((hr r' m2).2.1 (-1) (List.mem_of_getElem? h1.symm)).1
   omega
  subst hkk
  have hf:r.2.1=r'.2.1:=by
   apply List.ext_getElem?
   intro x
   by_cases hx:x=k
   ·rw[hx,a2,b2]
   ·have h1:(r.2.1.set k (-1))[x]? =(r'.2.1.set k (-1))[x]? :=congrArg (fun l:List Int=>l[x]?) e2
    rwa [List.getElem?_set_ne (fun e=>hx e.symm),List.getElem?_set_ne (fun e=>hx e.symm)]at h1
  exact Prod.ext e (by rw[a4,b4];exact hdet r m1 r' m2 e1 hf)
 refine Tt.bind (R:=fun x=> ∃V:List (List (Int×Int)),x=rows V∧V.length=S.toNat∧ ∀(s:Nat) (l:List (Int×Int)),V[s]? =some l→ ∃l0,U[s]? =some l0∧l.length=l0.length∧ ∀y,y∈l ↔ y∈l0)
  (Tt.loop (L:=fun n=>gy.L3 (So n)) (Lp.count S.toNat (fun i t=> ∃V:List (List (Int×Int)),t=(rows V,((S.toNat:Nat):Int),(i:Int))∧V.length=S.toNat∧(∀s,i≤s→V[s]? =U[s]?)∧ ∀(s:Nat) (l:List (Int×Int)),V[s]? =some l→ ∃l0,U[s]? =some l0∧l.length=l0.length∧ ∀y,y∈l ↔ y∈l0) ?_ ?_ ?_)) ?_
 ·rintro i t hi ⟨V,rfl,hV1,hV2,hV3⟩
  unfold gy.L3;dsimp only
  have hil:i<V.length:=by omega
  have hiu:i<U.length:=by omega
  have hvi:V[i]=U[i]:=by
   have:=hV2 i (Nat.le_refl _)
   rw[List.getElem?_eq_getElem hil,List.getElem?_eq_getElem hiu]at this
   exact Option.some.inj this
  have hui:=hU2 _ (List.getElem_mem hiu)
  refine Bd.yes (bf (by omega)) (Bd.chk (rng (by omega) (by rw[rW];omega)) ?_)
  rw[Int.toNat_natCast]
  refine Bd.row hil (Bd.row hil ?_)
  rw[hvi]
  refine Bd.bind (hSo U[i] (by omega) (fun p hp=>⟨(hui.2 p hp).1,(hui.2 p hp).2.1⟩) fun p hp p' hp' e=>huniq i hiu p hp p' hp' e) ?_
  rintro l' ⟨hl1,hl2⟩
  refine Bd.again ⟨V.set i l',by rw[DX,aI (by omega)],by simpa using hV1,fun s hs=> ?_,fun s l hl=> ?_⟩
  ·rw[List.getElem?_set_ne (by omega)];exact hV2 s (by omega)
  ·rw[List.getElem?_set]at hl
   split at hl
   ·rename_i e
    cases hl
    exact⟨U[i],by rw[←e];exact List.getElem?_eq_getElem hiu,hl1,hl2⟩
   ·exact hV3 s l hl
 ·rintro t ⟨V,rfl,hV1,hV2,hV3⟩
  unfold gy.L3;dsimp only
  exact Bd.no (decide_eq_false (by omega)) (Bd.done ⟨V,rfl,hV1,hV3⟩)
 ·exact⟨U,by rw[rW,hU1];rfl,hU1,fun _ _=>rfl,fun s l hl=>⟨l,hl,rfl,fun _=>Iff.rfl⟩⟩
 rintro _ ⟨V,rfl,hV1,hV3⟩
 refine Tt.pure ⟨V,rfl,hV1,fun l hl=> ?_,fun f l=>(nV seq (OM f l) mm).getD 0,fun r i s r' i' s' ⟨o1,o2⟩ ⟨o3,o4⟩ he=> ?_,fun s l hs hl c to=> ?_⟩
 ·obtain⟨i,hi,rfl⟩:=List.getElem_of_mem hl
  obtain⟨l0,e1,e2,e3⟩:=hV3 i _ (List.getElem?_eq_getElem hi)
  have:=hU2 l0 (List.mem_of_getElem? e1)
  exact⟨by omega,fun p hp=>this.2 p ((e3 p).1 hp)⟩
 ·obtain⟨j,hj,rfl⟩:=List.getElem_of_mem o1
  obtain⟨j',hj',rfl⟩:=List.getElem_of_mem o3
  obtain⟨_,c,_,_,a3⟩:=hB j i _ s hj (List.getElem?_eq_getElem hj) o2
  obtain⟨_,c',_,_,b3⟩:=hB j' i' _ s' hj' (List.getElem?_eq_getElem hj') o4
  dsimp only at he
  rw[a3,b3]at he
  have he:c=c':=he
  subst he
  exact key_inj (hsy _ o1) (hsy _ o3) (i64s _ o1 i) (i64s _ o3 i') (hm.2 _ _ c a3 b3)
 ·obtain⟨l0,e1,e2,e3⟩:=hV3 s.toNat l hl
  rw[e3]
  constructor
  ·intro h
   obtain⟨j,i,r,a1,a2,a3,a4,a5⟩:=hA s l0 hs e1 c to h
   exact⟨r,i,⟨List.mem_of_getElem? a2,a3⟩,by dsimp only;rw[a4];rfl,a5⟩
  ·rintro⟨r,i,⟨o1,o2⟩,hc,rfl⟩
   obtain⟨j,hj,rfl⟩:=List.getElem_of_mem o1
   obtain⟨l2,c',b1,b2,b3⟩:=hB j i _ s hj (List.getElem?_eq_getElem hj) o2
   rw[e1]at b1;cases b1
   dsimp only at hc
   rw[b3]at hc
   have hc:c=c':=hc
   rw[hc];exact b2
end Go.Bk
end
noncomputable section
namespace Go.Bk
open Go Go.AM
set_option linter.unusedVariables false
def YN (c:Int):List Int:=(List.range c.toNat).map fun i:Nat=>(i:Int)
theorem Du {c v:Int}:v∈YN c ↔ 0≤v∧v<c:=by
 unfold YN
 rw[List.mem_map]
 constructor
 ·rintro⟨i,hi,rfl⟩
  have:=List.mem_range.1 hi
  omega
 ·rintro⟨h0,h1⟩
  exact⟨v.toNat,List.mem_range.2 (by omega),by omega⟩
theorem AX (c:Int):(YN c).Nodup:=by
 unfold YN
 rw[List.nodup_iff_pairwise_ne,List.pairwise_map]
 exact(List.nodup_iff_pairwise_ne.1 List.nodup_range).imp fun h e=>h (by omega)
theorem Hl (c:Int):(YN c).length=c.toNat:=by unfold YN;simp
theorem pig {out cls:List Int} {c m:Int} (hl:out.length=cls.length) (hc0:0≤c) (hm0:0≤m) (ho: ∀v∈out,0≤v∧v<c) (hc: ∀v:Int,0≤v→v<m→v∈cls)
 (hf: ∀(i j:Nat) (u:Int) (a b:Int),out[i]? =some u→out[j]? =some u→cls[i]? =some a→cls[j]? =some b→a=b):
 m≤c∧(c=m→ ∀(i j:Nat) (u v a:Int),out[i]? =some u→out[j]? =some v→cls[i]? =some a→cls[j]? =some a→u=v):=by
 classical
 let f:Int→Int:=fun v=>if h: ∃i:Nat,out[i]? =some v then(cls[h.choose]?).getD 0 else 0
 have hfv: ∀(i:Nat) (u a:Int),out[i]? =some u→cls[i]? =some a→f u=a:=by
  intro i u a h1 h2
  have hex: ∃i:Nat,out[i]? =some u:=⟨i,h1⟩
  have hs:=hex.choose_spec
  have hlt:=(List.getElem?_eq_some_iff.1 hs).1
  have e:f u=(cls[hex.choose]?).getD 0:=dif_pos hex
  have hcl:=List.getElem?_eq_getElem (show hex.choose<cls.length by omega)
  rw[e,hcl]
  exact hf _ i u _ a hs h1 hcl h2
 have sur: ∀w∈YN m,∃(i:Nat) (u:Int),out[i]? =some u∧cls[i]? =some w:=by
  intro w hw
  obtain⟨h0,h1⟩:=Du.1 hw
  obtain⟨i,hi,e⟩:=List.getElem_of_mem (hc w h0 h1)
  exact⟨i,out[i],List.getElem?_eq_getElem (by omega),by rw[List.getElem?_eq_getElem hi,e]⟩
 refine⟨?_,fun hcm i j u v a h1 h2 h3 h4=> ?_⟩
 ·have:=(AX m).length_le_of_subset (l₂:=(YN c).map f) fun w hw=>by
   obtain⟨i,u,h1,h2⟩:=sur w hw
   exact List.mem_map.2 ⟨u,Du.2 (ho u (List.mem_of_getElem? h1)),hfv i u w h1 h2⟩
  rw[List.length_map,Hl,Hl]at this
  omega
 ·apply Classical.byContradiction
  intro hne
  have hv:=ho v (List.mem_of_getElem? h2)
  have hvm:v∈YN c:=Du.2 hv
  have:=(AX m).length_le_of_subset (l₂:=((YN c).erase v).map f) fun w hw=>by
   obtain⟨k,x,g1,g2⟩:=sur w hw
   by_cases e:x=v
   ·subst e
    have:w=a:=hf k j x w a g1 h2 g2 h4
    refine List.mem_map.2 ⟨u,((AX c).mem_erase_iff).2 ⟨hne,Du.2 (ho u (List.mem_of_getElem? h1))⟩,?_⟩
    rw[hfv i u a h1 h3,this]
   ·exact List.mem_map.2 ⟨x,((AX c).mem_erase_iff).2 ⟨e,Du.2 (ho x (List.mem_of_getElem? g1))⟩,hfv k x w g1 g2⟩
  rw[List.length_map,List.length_erase_of_mem hvm,Hl,Hl]at this
  omega
def jQ (cl:List Int) (l:List (Int×Int)):List (Int×Int):=l.flatMap fun p=>[((32:Int),p.1),((58:Int),iat cl p.2)]
def aeI (cl:List Int) (c:Int) (l:List (Int×Int)):ByteArray:=uZ (dig c++enc (jQ cl l))
theorem YK (cl:List Int) (l:List (Int×Int)):(jQ cl l).length=2*l.length:=by
 induction l with
 |nil=>rfl
 |cons p l ih=>
  have e:jQ cl (p::l)= [((32:Int),p.1),((58:Int),iat cl p.2)]++jQ cl l:=rfl
  rw[e,List.length_append,ih,List.length_cons,List.length_cons,List.length_cons,List.length_nil];omega
theorem Uw (cl:List Int): ∀l l':List (Int×Int),jQ cl l=jQ cl l'→ ∀p∈l,∃p'∈l',p'.1=p.1∧iat cl p.2=iat cl p'.2
 | [],_,_,p,hp=>by cases hp
 |q::l,[],h,_,_=>by cases h
 |q::l,q'::l',h,p,hp=>by
  have h:((32:Int),q.1)::((58:Int),iat cl q.2)::jQ cl l=((32:Int),q'.1)::((58:Int),iat cl q'.2)::jQ cl l':=h
  simp only[List.cons.injEq,Prod.mk.injEq,true_and]at h
  obtain⟨e1,e2,e3⟩:=h
  rcases List.mem_cons.1 hp with rfl|hp
  ·exact⟨q',by simp,e1.symm,e2⟩
  ·obtain⟨p',h1,h2⟩:=Uw cl l l' e3 p hp
   exact⟨p',by simp[h1],h2⟩
def ZH (S:Int) (fin:List Int) (rs:List Rule) (h:Int→Int):Prop:=
 (∀s t,iy S s→iy S t→h s=h t→(s∈fin ↔ t∈fin))∧
 ∀s t,iy S s→iy S t→h s=h t→ ∀r i,Occ rs r i s→ ∃r'∈rs,r'.1=r.1∧r'.2.1=r.2.1.set i t∧h r'.2.2=h r.2.2
theorem aaM {S:Int} {fin:List Int} {rs:List Rule} {U:List (List (Int×Int))} {h:Int→Int} (hw:Wf S fin rs) (hU:adl S rs U)
 (hc: ∀s t l l',iy S s→iy S t→h s=h t→U[s.toNat]? =some l→U[t.toNat]? =some l'→ ∀p∈l,∃p'∈l',p'.1=p.1∧h p.2=h p'.2):
 ∀s t,iy S s→iy S t→h s=h t→ ∀r i,Occ rs r i s→ ∃r'∈rs,r'.1=r.1∧r'.2.1=r.2.1.set i t∧h r'.2.2=h r.2.2:=by
 intro s t hs ht hst r i ho
 obtain⟨hU1,hU2,κ,hκ,hm⟩:=hU
 have lt: ∀s,iy S s→s.toNat<U.length:=fun s hs=>by have:=hs.1;have:=hs.2;omega
 have es:=List.getElem?_eq_getElem (lt s hs)
 have et:=List.getElem?_eq_getElem (lt t ht)
 obtain⟨p',h1,h2,h3⟩:=hc s t _ _ hs ht hst es et (κ r.1 (r.2.1.set i (-1)),r.2.2) ((hm s _ hs.1 es _ _).2 ⟨r,i,ho,rfl,rfl⟩)
 obtain⟨r',i',ho',e1,e2⟩:=(hm t _ ht.1 et p'.1 p'.2).1 h1
 obtain⟨a1,a2⟩:=hκ r i s r' i' t ho ho' (h2.symm.trans e1)
 have hil:i<r.2.1.length:=(List.getElem?_eq_some_iff.1 ho.2).1
 have hil':i'<r'.2.1.length:=(List.getElem?_eq_some_iff.1 ho'.2).1
 have hlen:r.2.1.length=r'.2.1.length:=by have:=congrArg List.length a2;simpa using this
 have hii:i=i':=by
  apply Classical.byContradiction
  intro hne
  have:(r.2.1.set i (-1))[i]? =(r'.2.1.set i' (-1))[i]? :=congrArg (fun l:List Int=>l[i]?) a2
  rw[List.getElem?_set_self (by omega),List.getElem?_set_ne (fun e=>hne e.symm)]at this
  have hm:=List.mem_of_getElem? this.symm
  have:=((hw.2.2.2.2.2 r' ho'.1).2.1 (-1) hm).1
  omega
 subst hii
 refine⟨r',ho'.1,a1.symm,?_,?_⟩
 ·apply List.ext_getElem?
  intro j
  rw[List.getElem?_set]
  split
  ·rename_i e
   subst e
   exact ho'.2
  ·rename_i e
   have:(r.2.1.set i (-1))[j]? =(r'.2.1.set i (-1))[j]? :=congrArg (fun l:List Int=>l[j]?) a2
   rw[List.getElem?_set_ne e,List.getElem?_set_ne e]at this
   exact this.symm
 ·rw[←e2];exact h3.symm
theorem VX {Fi:Nat→Int×List Int×List Rule→Option (List Bool)} {NB:Nat→List Bool→Option (List Int×Int)} {NS:Nat→List ByteArray→Option (List Int×Int)} {Us:Nat→Int×List Int×List Rule→Option (List (Option (List (Int×Int))))} {A:Nat→List Int×Int×Int→Option (List Int)}
 (hFi:ZF Fi) (hNB: ∀x:List Bool,x.length≤1000000→Sp NB x (aad x)) (hNS: ∀x:List ByteArray,x.length≤1000000→Sp NS x (aad x)) (hA:aes A) (S:Int) (fin:List Int) (rs:List Rule) (hw:Wf S fin rs) (hS:S≤300)
 (hUs:Sp Us (S,fin,rs) (fun x=> ∃U,x=rows U∧adl S rs U)):
 Sp (fun n=>dL.P (Fi n) (NB n) (NS n) (Us n) (A n) n) (S,fin,rs) (fun cl=>cl.length=S.toNat∧(∀v∈cl,iy S v)∧ZH S fin rs (iat cl)):=by
 have h0:=hw.1
 show Tt (fun n=>dL.P (Fi n) (NB n) (NS n) (Us n) (A n) n (S,fin,rs)) _
 unfold dL.P;dsimp only
 refine Tt.bind (hFi S fin rs h0 hS (by have:=hw.2.2.1;omega) hw.2.2.2.2.1) fun R hR=> ?_
 obtain⟨hR1,hR2⟩:=hR
 refine Tt.bind (hNB R (by omega)) fun nb hnb=> ?_
 obtain⟨b1,b2,b3,b4,b5,b6⟩:=hnb
 refine Tt.bind hUs ?_
 rintro _ ⟨U,rfl,hU⟩
 rw[Ei]
 refine Tt.ay ?_
 have gS: ∀(l:List Int) (s:Int),l.length=S.toNat→iy S s→l[s.toNat]? =some (iat l s):=fun l s hl hs=>by
  have hlt:s.toNat<l.length:=by have:=hs.1;have:=hs.2;omega
  rw[List.getElem?_eq_getElem hlt,yc hlt]
 refine Tt.bind (R:=fun t=> ∃cl:List Int,t=Sum.inr cl∧cl.length=S.toNat∧(∀v∈cl,iy S v)∧ZH S fin rs (iat cl))
  (Tt.loop (L:=fun n=>dL.L3 (A n) n (NS n)) (Lp.measure (fun t=> ∃(cl:List Int) (m:Int),t=(S,fin,rs,cl,m,U)∧cl.length=S.toNat∧0≤m∧m≤S∧(∀v∈cl,0≤v∧v<m)∧(∀v:Int,0≤v→v<m→v∈cl)∧
   ∀s t,iy S s→iy S t→iat cl s=iat cl t→(s∈fin ↔ t∈fin)) (fun t=>(S-t.2.2.2.2.1).toNat) ?_ ?_)) ?_
 ·rintro _ ⟨cl,m,rfl,hcl,hm0,hmS,hv,hs,hf⟩
  unfold dL.L3;dsimp only
  refine Bd.chk (yX h0 (by omega)) ?_
  rw[List.length_replicate]
  have hUl:=hU.1
  have hi64: ∀v∈cl,I64 v:=fun v h=>⟨by have:=(hv v h).1;omega,by have:=(hv v h).2;omega⟩
  have hiat: ∀s,iy S s→iat cl s∈cl:=fun s hs=>List.mem_of_getElem? (gS cl s hcl hs)
  refine Bd.bind (R:=fun t=> ∃keys:List ByteArray,t=(S,fin,rs,m,U,keys)∧keys.length=S.toNat∧ ∀(s:Nat) (k:ByteArray),keys[s]? =some k→ ∃c l,cl[s]? =some c∧U[s]? =some l∧k=aeI cl c l)
   (Tt.loop (L:=fun n=>dL.L2 (A n) n) (Lp.count S.toNat (fun i t=> ∃keys:List ByteArray,t=(S,fin,rs,cl,m,U,keys,((S.toNat:Nat):Int),(i:Int))∧keys.length=S.toNat∧ ∀(s:Nat) (k:ByteArray),s<i→keys[s]? =some k→ ∃c l,cl[s]? =some c∧U[s]? =some l∧k=aeI cl c l) ?_ ?_ ⟨_,rfl,by simp,fun s k h=>absurd h (by omega)⟩)) ?_
  ·rintro i t hi ⟨keys,rfl,hk1,hk2⟩
   unfold dL.L2;dsimp only
   have hic:i<cl.length:=by omega
   have hiu:i<U.length:=by omega
   have hrow:=hU.2.1 _ (List.getElem_mem hiu)
   have hrl:=hw.2.2.2.1
   refine Bd.yes (bf (by omega)) (Bd.nth hic (Bd.bind (hA [] cl[i] (by simp) (hi64 _ (List.getElem_mem hic))) ?_))
   rintro _ rfl
   refine Bd.chk (rng (by omega) (by omega)) ?_
   rw[Int.toNat_natCast]
   refine Bd.at hiu fun row _ hrow2=> ?_
   rw[List.getElem?_eq_getElem hiu]at hrow2
   cases hrow2
   refine Bd.bind (R:=fun t=>t=(S,fin,rs,cl,m,U,keys,(i:Int),dig cl[i]++enc (jQ cl U[i]),((S.toNat:Nat):Int),(i:Int)))
    (Tt.loop (L:=fun n=>dL.L1 (A n)) (Lp.count U[i].length (fun p t=>t=(S,fin,rs,cl,m,U,keys,(i:Int),dig cl[i]++enc (jQ cl (U[i].take p)),((S.toNat:Nat):Int),(i:Int),U[i],((U[i].length:Nat):Int),(p:Int))) ?_ ?_ (by simp[jQ,enc]))) ?_
   ·rintro p t hp rfl
    unfold dL.L1;dsimp only
    have hpr:=hrow.2 _ (List.getElem_mem hp)
    have hb:(dig cl[i]++enc (jQ cl (U[i].take p))).length≤22+46*p:=by
     have:=MZ cl[i]
     have:=XY (jQ cl (U[i].take p))
     rw[YK,List.length_take]at this
     rw[List.length_append];omega
    have hpl:p≤300000:=by omega
    refine Bd.yes (bf (by omega)) (Bd.nth hp (Bd.chk (qG (by rw[List.length_singleton];omega)) (Bd.bind (hA _ U[i][p].1 (by show List.length (_++_)≤_;rw[List.length_append,List.length_singleton];omega) ⟨by omega,by omega⟩) ?_)))
    rintro _ rfl
    have hd1:=MZ U[i][p].1
    have hcs:=gS cl U[i][p].2 hcl hpr.2.2
    have hlt:=(List.getElem?_eq_some_iff.1 hcs).1
    have en:nth? cl U[i][p].2=some (iat cl U[i][p].2):=by
     rw[wP hpr.2.2.1 (by have:=hpr.2.2.1;omega),yc hlt]
    have hl2:(List.append (dig cl[i]++enc (jQ cl (U[i].take p))) [(32:Int)]++dig U[i][p].1).length≤22+46*p+23:=by
     rw[List.length_append]
     show List.length (_++_)+_≤_
     rw[List.length_append,List.length_singleton];omega
    refine Bd.chk (qG (by rw[List.length_singleton];omega)) ?_
    rw[en]
    refine Bd.ay (Bd.bind (hA _ (iat cl U[i][p].2) (by show List.length (_++_)≤_;rw[List.length_append,List.length_singleton];omega) (hi64 _ (hiat _ hpr.2.2))) ?_)
    rintro _ rfl
    refine Bd.again ?_
    have e:jQ cl (U[i].take (p+1))=(jQ cl (U[i].take p)++[((32:Int),U[i][p].1)])++[((58:Int),iat cl U[i][p].2)]:=by
     unfold jQ
     rw[List.take_add_one,List.getElem?_eq_getElem hp,List.flatMap_append]
     simp
    rw[aI (by omega),e,Oz,Oz]
    simp
   ·rintro t rfl
    unfold dL.L1;dsimp only
    rw[List.take_length]
    exact Bd.no (decide_eq_false (by omega)) (Bd.done rfl)
   ·rintro _ rfl
    dsimp only
    refine Bd.chk (rng (by omega) (by omega)) ?_
    rw[Int.toNat_natCast]
    refine Bd.at (by omega) fun _ _ _=>Bd.again ⟨_,by rw[aI (by omega)],by simpa using hk1,fun s k hs hk=> ?_⟩
    rw[List.getElem?_set]at hk
    split at hk
    ·rename_i e
     subst e
     rw[if_pos (by omega)]at hk
     exact⟨cl[i],U[i],List.getElem?_eq_getElem hic,List.getElem?_eq_getElem hiu,(Option.some.inj hk).symm⟩
    ·exact hk2 s k (by omega) hk
  ·rintro t ⟨keys,rfl,hk1,hk2⟩
   unfold dL.L2;dsimp only
   exact Bd.no (decide_eq_false (by omega)) (Bd.done ⟨keys,rfl,hk1,fun s k hk=>hk2 s k (by have:=(List.getElem?_eq_some_iff.1 hk).1;omega) hk⟩)
  rintro _ ⟨keys,rfl,hk1,hk2⟩
  dsimp only
  refine Bd.bind (hNS keys (by omega)) fun nx hnx=> ?_
  obtain⟨out,c⟩:=nx
  obtain⟨n1,n2,n3,n4,n5,n6⟩:=hnx
  dsimp only at n1 n2 n3 n4 n5 n6 ⊢
  have same: ∀(i j:Nat) (u a b:Int) (l l':List (Int×Int)),out[i]? =some u→out[j]? =some u→cl[i]? =some a→cl[j]? =some b→U[i]? =some l→U[j]? =some l'→a=b∧jQ cl l=jQ cl l':=by
   intro i j u a b l l' h1 h2 h3 h4 h5 h6
   have hik:i<keys.length:=by have:=(List.getElem?_eq_some_iff.1 h1).1;omega
   have hjk:j<keys.length:=by have:=(List.getElem?_eq_some_iff.1 h2).1;omega
   have hkk:=(n6 i j _ _ u u (List.getElem?_eq_getElem hik) (List.getElem?_eq_getElem hjk) h1 h2).1 rfl
   obtain⟨c1,l1,d1,d2,d3⟩:=hk2 i _ (List.getElem?_eq_getElem hik)
   obtain⟨c2,l2,f1,f2,f3⟩:=hk2 j _ (List.getElem?_eq_getElem hjk)
   rw[h3]at d1;cases d1
   rw[h4]at f1;cases f1
   rw[h5]at d2;cases d2
   rw[h6]at f2;cases f2
   rw[d3,f3]at hkk
   have bb: ∀l:List (Int×Int),∀p∈jQ cl l,0≤p.1∧p.1<256:=fun l p hp=>by
    obtain⟨q,_,hq⟩:=List.mem_flatMap.1 hp
    simp only[List.mem_cons,List.not_mem_nil,or_false]at hq
    rcases hq with rfl|rfl
    ·exact⟨show(0:Int)≤32 by decide,show(32:Int)<256 by decide⟩
    ·exact⟨show(0:Int)≤58 by decide,show(58:Int)<256 by decide⟩
   have ss: ∀(i:Nat) (l:List (Int×Int)),U[i]? =some l→Zb (jQ cl l):=fun i l hl p hp=>by
    obtain⟨q,hq0,hq⟩:=List.mem_flatMap.1 hp
    have hq1:=(hU.2.1 l (List.mem_of_getElem? hl)).2 q hq0
    simp only[List.mem_cons,List.not_mem_nil,or_false]at hq
    rcases hq with rfl|rfl
    ·exact⟨fun h=>by rcases h with h|h<;>dsimp only at h<;>omega,by dsimp only;omega,by dsimp only;omega⟩
    ·exact⟨fun h=>by rcases h with h|h<;>dsimp only at h<;>omega,hi64 _ (hiat _ hq1.2.2)⟩
   exact Vg (hi64 _ (List.mem_of_getElem? h3)) (hi64 _ (List.mem_of_getElem? h4)) (ss i l h5) (ss j l' h6) (bytes_inj (Eb (bb l)) (Eb (bb l')) hkk)
  have getU: ∀i:Nat,i<S.toNat→ ∃l,U[i]? =some l:=fun i hi=>⟨_,List.getElem?_eq_getElem (by omega)⟩
  have hpig:=pig (out:=out) (cls:=cl) (c:=c) (m:=m) (by omega) n2 hm0 n4 hs fun i j u a b h1 h2 h3 h4=>by
   obtain⟨l,e1⟩:=getU i (by have:=(List.getElem?_eq_some_iff.1 h3).1;omega)
   obtain⟨l',e2⟩:=getU j (by have:=(List.getElem?_eq_some_iff.1 h4).1;omega)
   exact(same i j u a b l l' h1 h2 h3 h4 e1 e2).1
  have hol:out.length=S.toNat:=by omega
  have hsame: ∀s t,iy S s→iy S t→iat out s=iat out t→iat cl s=iat cl t∧ ∀l l',U[s.toNat]? =some l→U[t.toNat]? =some l'→jQ cl l=jQ cl l':=by
   intro s t hs ht e
   have g1:=gS out s hol hs
   have g2:=gS out t hol ht
   rw[e]at g1
   obtain⟨l,e1⟩:=getU s.toNat (by have:=hs.1;have:=hs.2;omega)
   obtain⟨l',e2⟩:=getU t.toNat (by have:=ht.1;have:=ht.2;omega)
   refine⟨(same _ _ _ _ _ l l' g1 g2 (gS cl s hcl hs) (gS cl t hcl ht) e1 e2).1,fun l l' e1 e2=>(same _ _ _ _ _ l l' g1 g2 (gS cl s hcl hs) (gS cl t hcl ht) e1 e2).2⟩
  have hfin': ∀s t,iy S s→iy S t→iat out s=iat out t→(s∈fin ↔ t∈fin):=fun s t hs ht e=>hf s t hs ht (hsame s t hs ht e).1
  refine Bd.ite (fun hc=> ?_) (fun hc=> ?_)
  ·have hcm:c=m:=zU hc
   refine Bd.ay (Bd.done ⟨out,rfl,hol,fun v hv=>⟨(n4 v hv).1,by have:=(n4 v hv).2;omega⟩,hfin',aaM hw hU fun s t l l' hs ht e e1 e2 p hp=> ?_⟩)
   obtain⟨p',h1,h2,h3⟩:=Uw cl l l' ((hsame s t hs ht e).2 l l' e1 e2) p hp
   have hp1:=(hU.2.1 l (List.mem_of_getElem? e1)).2 p hp
   have hp2:=(hU.2.1 l' (List.mem_of_getElem? e2)).2 p' h1
   refine⟨p',h1,h2,?_⟩
   have q1:=gS cl p.2 hcl hp1.2.2
   rw[h3]at q1
   exact hpig.2 hcm _ _ _ _ _ (gS out p.2 hol hp1.2.2) (gS out p'.2 hol hp2.2.2) q1 (gS cl p'.2 hcl hp2.2.2)
  ·have hne:c≠m:=dec_not hc
   have:=hpig.1
   exact Bd.again ⟨⟨out,c,rfl,hol,n2,by omega,n4,n5,hfin'⟩,by dsimp only;omega⟩
 ·refine⟨nb.1,nb.2,rfl,by omega,b2,by omega,b4,b5,fun s t hs ht e=> ?_⟩
  have g: ∀s,iy S s→ ∃x,R[s.toNat]? =some x∧bat R s=x:=fun s hs=>by
   have hlt:s.toNat<R.length:=by have:=hs.1;have:=hs.2;omega
   exact⟨R[s.toNat],List.getElem?_eq_getElem hlt,by unfold bat;rw[List.getElem?_eq_getElem hlt];rfl⟩
  obtain⟨x,x1,x2⟩:=g s hs
  obtain⟨y,y1,y2⟩:=g t ht
  have q1:=gS nb.1 s (by omega) hs
  have q2:=gS nb.1 t (by omega) ht
  have:=(b6 _ _ x y _ _ x1 y1 q1 q2).1 e
  rw[←hR2 s hs,←hR2 t ht,x2,y2,this]
 ·rintro _ ⟨cl,rfl,h⟩
  exact Tt.pure h
def Img (ν:Int→Int) (rs rs':List Rule):Prop:= ∀r',r'∈rs' ↔ ∃r∈rs,r'=(r.1,r.2.1.map ν,ν r.2.2)
def adG (ν:Int→Int) (fin fin':List Int):Prop:= ∀q,q∈fin' ↔ ∃s∈fin,q=ν s
theorem ZH.list {S:Int} {fin:List Int} {rs:List Rule} {h:Int→Int} (hw:Wf S fin rs) (hc:ZH S fin rs h) {r:Rule} (hr:r∈rs) {l:List Int} (hl:l.length=r.2.1.length) (hls: ∀x∈l,iy S x) (hh: ∀(i:Nat) (x y:Int),l[i]? =some x→r.2.1[i]? =some y→h x=h y):
 ∀p,p≤l.length→ ∃r'∈rs,r'.1=r.1∧r'.2.1=l.take p++r.2.1.drop p∧h r'.2.2=h r.2.2
 |0,_=>⟨r,hr,rfl,by simp,rfl⟩
 |p+1,hp=>by
  obtain⟨r1,a1,a2,a3,a4⟩:=ZH.list hw hc hr hl hls hh p (by omega)
  have hpl:p<l.length:=by omega
  have hpr:p<r.2.1.length:=by omega
  have hlt:(l.take p).length=p:=by simp;omega
  have hocc:Occ rs r1 p r.2.1[p]:=⟨a1,by rw[a3,List.getElem?_append_right (by omega),hlt,Nat.sub_self,List.drop_eq_getElem_cons hpr];rfl⟩
  obtain⟨r2,c1,c2,c3,c4⟩:=hc.2 r.2.1[p] l[p] ((hw.2.2.2.2.2 r hr).2.1 _ (List.getElem_mem hpr)) (hls _ (List.getElem_mem hpl)) (hh p _ _ (List.getElem?_eq_getElem hpl) (List.getElem?_eq_getElem hpr)).symm r1 p hocc
  refine⟨r2,c1,c2.trans a2,?_,c4.trans a4⟩
  rw[c3,a3,List.set_append_right _ _ (by omega),hlt,Nat.sub_self,List.drop_eq_getElem_cons hpr,List.set_cons_zero,List.take_add_one,List.getElem?_eq_getElem hpl,List.append_assoc]
  rfl
theorem EJ {S:Int} {fin:List Int} {rs rs':List Rule} {h:Int→Int} (hw:Wf S fin rs) (hc:ZH S fin rs h) (hI:Img h rs rs'): ∀t c,Reach rs' t c ↔ ∃s,Reach rs t s∧h s=c:=by
 intro t
 induction t using uQ with
 |h a ks ih=>
  intro c
  constructor
  ·intro hq
   obtain⟨r',hr',h1,h2,h3,h4⟩:=dU.1 hq
   obtain⟨r,a1,rfl⟩:=(hI r').1 hr'
   simp only[List.length_map]at h3
   have hch: ∀i:Nat,∃q:Int,∀hk:i<ks.length,Reach rs ks[i] q∧ ∀f,r.2.1[i]? =some f→h q=h f:=by
    intro i
    by_cases hk:i<ks.length
    ·have hlt:i<r.2.1.length:=by omega
     obtain⟨q,hq,e⟩:=(ih _ (List.getElem_mem hk) (h r.2.1[i])).1 (h4 i _ _ (List.getElem?_eq_getElem hk) (by rw[List.getElem?_map,List.getElem?_eq_getElem hlt];rfl))
     exact⟨q,fun _=>⟨hq,fun f hf=>by rw[List.getElem?_eq_getElem hlt]at hf;cases hf;exact e⟩⟩
    ·exact⟨0,fun h'=>absurd h' hk⟩
   obtain⟨g,hg⟩: ∃g:Nat→Int,∀i,∀hk:i<ks.length,Reach rs ks[i] (g i)∧ ∀f,r.2.1[i]? =some f→h (g i)=h f:=⟨fun i=>(hch i).choose,fun i=>(hch i).choose_spec⟩
   let l:List Int:=(List.range ks.length).map g
   have hll:l.length=ks.length:=by simp[l]
   have hlg: ∀i,i<ks.length→l[i]? =some (g i):=fun i hi=>by simp only[l,List.getElem?_map,List.getElem?_range hi,Option.map_some]
   have hst: ∀t q,Reach rs t q→iy S q:=fun t q hq=>by
    cases t with
    |mk a ks=>
     obtain⟨r,c1,_,c3,_⟩:=dU.1 hq
     rw[←c3];exact(hw.2.2.2.2.2 r c1).1
   obtain⟨r2,c1,c2,c3,c4⟩:=hc.list hw a1 (l:=l) (by omega) (fun x hx=>by
    obtain⟨i,hi,rfl⟩:=List.mem_map.1 hx
    exact hst _ _ (hg i (List.mem_range.1 hi)).1) (fun i x y hx hy=>by
    have hi:i<ks.length:=by have:=(List.getElem?_eq_some_iff.1 hx).1;omega
    rw[hlg i hi]at hx;cases hx
    exact(hg i hi).2 y hy) l.length (Nat.le_refl _)
   rw[List.take_length,List.drop_of_length_le (by omega),List.append_nil]at c3
   refine⟨r2.2.2,dU.2 ⟨r2,c1,c2.trans h1,rfl,by rw[c3];exact hll,fun i k f hk hf=> ?_⟩,c4.trans h2⟩
   have hi:=(List.getElem?_eq_some_iff.1 hk).1
   rw[c3,hlg i hi]at hf
   cases hf
   have:=(hg i hi).1
   rwa [(List.getElem?_eq_some_iff.1 hk).2]at this
  ·rintro⟨s,hs,rfl⟩
   obtain⟨r,hr,h1,h2,h3,h4⟩:=dU.1 hs
   refine dU.2 ⟨_,(hI _).2 ⟨r,hr,rfl⟩,h1,by rw[h2],by simpa using h3,fun i k f hk hf=> ?_⟩
   simp only[List.getElem?_map,Option.map_eq_some_iff]at hf
   obtain⟨f0,e,rfl⟩:=hf
   exact(ih k (List.mem_of_getElem? hk) _).2 ⟨f0,h4 i k f0 hk e,rfl⟩
theorem D8 {S:Int} {fin:List Int} {rs:List Rule} (hw:Wf S fin rs) {t:RT Int} {q:Int} (hq:Reach rs t q):iy S q:=by
 cases t with
 |mk a ks=>
  obtain⟨r,c1,_,c3,_⟩:=dU.1 hq
  rw[←c3];exact(hw.2.2.2.2.2 r c1).1
theorem ZJ {S:Int} {fin fin':List Int} {rs rs':List Rule} {h:Int→Int} (hw:Wf S fin rs) (hc:ZH S fin rs h) (hI:Img h rs rs') (hF:adG h fin fin') (t:RT Int):Acc rs' fin' t ↔ Acc rs fin t:=by
 constructor
 ·rintro⟨c,h1,h2⟩
  obtain⟨s,h3,rfl⟩:=(EJ hw hc hI t c).1 h1
  obtain⟨s',h4,h5⟩:=(hF _).1 h2
  exact⟨s,h3,(hc.1 s s' (D8 hw h3) (hw.2.2.2.2.1 s' h4) h5).2 h4⟩
 ·rintro⟨s,h1,h2⟩
  exact⟨h s,(EJ hw hc hI t _).2 ⟨s,h1,rfl⟩,(hF _).2 ⟨s,h2,rfl⟩⟩
end Go.Bk
end
section
set_option linter.unusedVariables false
namespace Go.Bk
open Go Go.AM
theorem Nk {α:Type} (le:α→α→Bool) (x:α): ∀l:List α,(ins le x l).Perm (x::l)
 | []=>List.Perm.refl _
 |y::l=>by
  unfold ins
  cases le x y
  ·rw[cond_false];exact((Nk le x l).cons y).trans (List.Perm.swap x y l)
  ·rw[cond_true]
theorem kD {α:Type} (le:α→α→Bool): ∀l:List α,(Ef le l).Perm l
 | []=>List.Perm.refl _
 |x::l=>(Nk le x _).trans ((kD le l).cons x)
theorem LK {α:Type} {le:α→α→Bool} (tot: ∀a b,le a b=true∨le b a=true) (tr: ∀a b c,le a b=true→le b c=true→le a c=true) (x:α): ∀l:List α,l.Pairwise (fun a b=>le a b=true)→(ins le x l).Pairwise (fun a b=>le a b=true)
 | [],_=>List.pairwise_singleton _ _
 |y::l,h=>by
  obtain⟨h1,h2⟩:=List.pairwise_cons.1 h
  unfold ins
  cases hx:le x y
  ·rw[cond_false,List.pairwise_cons]
   refine⟨fun z hz=> ?_,LK tot tr x l h2⟩
   rcases List.mem_cons.1 ((Nk le x l).mem_iff.1 hz)with rfl|hz
   ·rcases tot z y with h|h
    ·rw[hx]at h;cases h
    ·exact h
   ·exact h1 z hz
  ·rw[cond_true,List.pairwise_cons]
   refine⟨fun z hz=> ?_,h⟩
   rcases List.mem_cons.1 hz with rfl|hz
   ·exact hx
   ·exact tr _ _ _ hx (h1 z hz)
theorem vX {α:Type} {le:α→α→Bool} (tot: ∀a b,le a b=true∨le b a=true) (tr: ∀a b c,le a b=true→le b c=true→le a c=true): ∀l:List α,(Ef le l).Pairwise (fun a b=>le a b=true)
 | []=>List.Pairwise.nil
 |x::l=>LK tot tr x _ (vX tot tr l)
structure Ie {α:Type} (c:α→α→Int):Prop where
 refl: ∀a,c a a=0
 anti: ∀a b,c b a= -c a b
 tr: ∀a b d,c a b≤0→c b d≤0→c a d≤0
 eq: ∀a b,c a b=0→a=b
theorem Ie.lt {α:Type} {c:α→α→Int} (h:Ie c) {a b d:α} (h1:c a b<0) (h2:c b d≤0):c a d<0:=by
 have h3:=h.tr a b d (by omega) h2
 rcases Int.lt_or_eq_of_le h3 with h4|h4
 ·exact h4
 ·have:=h.eq a d h4;subst this
  have:=h.anti a b
  omega
theorem uU:Ie KQ:=by
 have key: ∀a b:Int,(a<b∧KQ a b= -1)∨(a=b∧KQ a b=0)∨(b<a∧KQ a b=1):=by
  intro a b
  unfold KQ
  by_cases h1:a<b
  ·simp[h1]
  ·by_cases h2:b<a
   ·simp[h1,h2]
   ·have:a=b:=by omega
    simp[this]
 refine⟨fun a=> ?_,fun a b=> ?_,fun a b d h1 h2=> ?_,fun a b h=> ?_⟩
 ·rcases key a a with h|h|h<;>omega
 ·rcases key a b with h|h|h<;>rcases key b a with h'|h'|h'<;>omega
 ·rcases key a b with h|h|h<;>rcases key b d with h'|h'|h'<;>rcases key a d with h''|h''|h''<;>omega
 ·rcases key a b with h'|h'|h'<;>omega
theorem Z8 {α β γ:Type} [DecidableEq α] {c1:α→α→Int} {c2:β→β→Int} (h1:Ie c1) (h2:Ie c2) (f:γ→α) (g:γ→β) (hfg: ∀x y,f x=f y→g x=g y→x=y):Ie fun x y:γ=>bif decide (f x=f y)then c2 (g x) (g y)else c1 (f x) (f y):=by
 have t: ∀x y,f x=f y→(bif decide (f x=f y)then c2 (g x) (g y)else c1 (f x) (f y))=c2 (g x) (g y):=fun x y h=>by simp[h]
 have n: ∀x y,f x≠f y→(bif decide (f x=f y)then c2 (g x) (g y)else c1 (f x) (f y))=c1 (f x) (f y):=fun x y h=>by simp[h]
 refine⟨fun a=> ?_,fun a b=> ?_,fun a b d ha hb=> ?_,fun a b h=> ?_⟩
 ·rw[t a a rfl];exact h2.refl _
 ·by_cases e:f a=f b
  ·rw[t a b e,t b a e.symm];exact h2.anti _ _
  ·rw[n a b e,n b a (Ne.symm e)];exact h1.anti _ _
 ·by_cases e1:f a=f b
  ·rw[t a b e1]at ha
   by_cases e2:f b=f d
   ·rw[t b d e2]at hb;rw[t a d (e1.trans e2)];exact h2.tr _ _ _ ha hb
   ·rw[n b d e2]at hb;rw[n a d (by rw[e1];exact e2),e1];exact hb
  ·rw[n a b e1]at ha
   by_cases e2:f b=f d
   ·rw[n a d (by rw[←e2];exact e1),←e2];exact ha
   ·rw[n b d e2]at hb
    have hl:c1 (f a) (f b)<0:=by
     rcases Int.lt_or_eq_of_le ha with h|h
     ·exact h
     ·exact absurd (h1.eq _ _ h) e1
    have h3:=h1.lt hl hb
    have:f a≠f d:=fun e=>by rw[e,h1.refl]at h3;omega
    rw[n a d this];omega
 ·by_cases e:f a=f b
  ·rw[t a b e]at h;exact hfg _ _ e (h2.eq _ _ h)
  ·rw[n a b e]at h;exact absurd (h1.eq _ _ h) e
theorem Xx (a b:Int) (l m:List Int):cmpL (a::l) (b::m)=bif decide (a=b)then cmpL l m else KQ a b:=rfl
theorem JF: ∀l,cmpL l l=0
 | []=>rfl
 |a::l=>by unfold cmpL;simp[JF l]
theorem Qw: ∀l m,cmpL m l= -cmpL l m
 | [],[]=>rfl
 | [],_::_=>rfl
 |_::_,[]=>rfl
 |a::l,b::m=>by
  unfold cmpL
  by_cases h:a=b
  ·subst h;simp[Qw l m]
  ·simp[h,Ne.symm h,uU.anti a b]
theorem cmpL_eq: ∀l m,cmpL l m=0→l=m
 | [],[],_=>rfl
 | [],_::_,h=>by simp[cmpL]at h
 |_::_,[],h=>by simp[cmpL]at h
 |a::l,b::m,h=>by
  unfold cmpL at h
  by_cases e:a=b
  ·subst e;simp at h;rw[cmpL_eq l m h]
  ·simp[e]at h;exact absurd (uU.eq _ _ h) e
theorem XU: ∀l m k,cmpL l m≤0→cmpL m k≤0→cmpL l k≤0
 | [],[],_,_,h=>h
 | [],_::_,[],_,h=>by simp[cmpL]at h
 | [],_::_,_::_,_,_=>by simp[cmpL]
 |_::_,[],_,h,_=>by simp[cmpL]at h
 |_::_,_::_,[],_,h=>by simp[cmpL]at h
 |a::l,b::m,c::k,h1,h2=>by
  unfold cmpL at h1 h2 ⊢
  by_cases e1:a=b
  ·subst e1
   by_cases e2:a=c
   ·subst e2;simp at h1 h2 ⊢;exact XU l m k h1 h2
   ·simp[e2]at h2 ⊢;exact h2
  ·simp only[e1,decide_false,cond_false]at h1
   by_cases e2:b=c
   ·subst e2;simp[e1];exact h1
   ·simp only[e2,decide_false,cond_false]at h2
    have hl:KQ a b<0:=by
     rcases Int.lt_or_eq_of_le h1 with h|h
     ·exact h
     ·exact absurd (uU.eq _ _ h) e1
    have h3:=uU.lt hl h2
    have:a≠c:=fun e=>by rw[e,uU.refl]at h3;omega
    simp[this];omega
theorem abO:Ie cmpL:=⟨JF,Qw,XU,cmpL_eq⟩
theorem zW:Ie JU:=by
 have h2:Ie fun x y:List Int×Int=>bif decide (x.1=y.1)then KQ x.2 y.2 else cmpL x.1 y.1:=Z8 abO uU Prod.fst Prod.snd fun x y h h'=>Prod.ext h h'
 have h3:=Z8 uU h2 (Prod.fst:Ru→Int) Prod.snd fun x y h h'=>Prod.ext h h'
 have:JU=fun x y:Ru=>bif decide (x.1=y.1)then(bif decide (x.2.1=y.2.1)then KQ x.2.2 y.2.2 else cmpL x.2.1 y.2.1)else KQ x.1 y.1:=by
  funext x y
  unfold JU
  have:decide (cmpL x.2.1 y.2.1=0)=decide (x.2.1=y.2.1):=by
   by_cases h:x.2.1=y.2.1
   ·simp[h,JF]
   ·have:cmpL x.2.1 y.2.1≠0:=fun e=>h (cmpL_eq _ _ e)
    simp[h,this]
  rw[this]
 rw[this];exact h3
theorem abu (p q:Ru):decide (JU p q≤0)=true∨decide (JU q p≤0)=true:=by
 have:=zW.anti p q
 simp only[decide_eq_true_eq];omega
theorem acK (p q r:Ru) (h1:decide (JU p q≤0)=true) (h2:decide (JU q r≤0)=true):decide (JU p r≤0)=true:=by
 simp only[decide_eq_true_eq]at *;exact zW.tr p q r h1 h2
end Go.Bk
end
noncomputable section
namespace Go.Bk
open Go Go.AM
set_option linter.unusedVariables false
theorem wrap_small {x:Int} (h0: -4611686018427387904≤x) (h1:x≤4611686018427387904):IntKind.wrap .i64 x=x:=o7 _ (by omega) (by omega)
abbrev OrF:Type:=Nat→Int×List Int×Int×Int×List Int×Int→Option Int
def adt (O:OrF):Prop:= ∀x y:Rule,x.2.1.length≤1000→y.2.1.length≤1000→Sp O (x.1,x.2.1,x.2.2,y.1,y.2.1,y.2.2) (fun v=>v=0 ↔ x=y)
def Base (D:List Rule):Prop:=D.length≤100000∧ ∀r∈D,r.2.1.length≤1000
abbrev Same {α:Type} (x y:List α):Prop:= ∀r,r∈x ↔ r∈y
theorem Wx {O:OrF} (hO:adt O) (x y:Rule) (hx:x.2.1.length≤1000) (hy:y.2.1.length≤1000):
 Sp (fun n=>og.P (O n) n) (x.1,x.2.1,x.2.2,y.1,y.2.1,y.2.2) (fun v=>v=true ↔ x=y):=by
 show Tt (fun n=>og.P (O n) n (x.1,x.2.1,x.2.2,y.1,y.2.1,y.2.2)) _
 unfold og.P;dsimp only
 exact Tt.bind (hO x y hx hy) fun v hv=>Tt.pure (by rw[decide_eq_true_eq,hv])
theorem FW {α:Type} {d:List α} {k:Nat} {y z:α} (hk:k<d.length):z∈(d.set k y).take (k+1) ↔ z∈d.take k∨z=y:=by
 rw[List.take_add_one,List.take_set_of_le (Nat.le_refl k),List.getElem?_set_self hk]
 simp
theorem jm {α:Type} {d:List α} {k:Nat} {y z:α} (hk:d[k]? =some y):z∈d.take (k+1) ↔ z∈d.take k∨z=y:=by
 rw[List.take_add_one,hk];simp
theorem Wh {O:OrF} (hO:adt O) {G:Nat→Int×List Int×Int×Int×List Int×Int→Option Bool} (hG: ∀x y:Rule,x.2.1.length≤1000→y.2.1.length≤1000→Sp G (x.1,x.2.1,x.2.2,y.1,y.2.1,y.2.2) (fun v=>v=true ↔ x=y))
 {X:List Rule} (hX:Base X):Sp (fun n=>cO.P (G n) n) X (fun r=>Same r X∧r.length≤X.length):=by
 have hX40:=hX.1
 show Tt (fun n=>cO.P (G n) n X) _
 unfold cO.P
 refine Tt.ite (fun _=>Tt.pure ⟨fun r=>Iff.rfl,Nat.le_refl _⟩) (fun h2=> ?_)
 have h2:=dec_not h2
 refine Tt.bind (R:=fun q:Sum (List Rule) (List Rule)=> ∃d,(Same d X∧d.length≤X.length)∧(q= .inl d∨q= .inr d)) (Tt.loop (Lp.measure (fun s=> ∃k:Nat,1≤k∧k≤X.length∧s=(X,(k:Int))) (fun s=>X.length-s.2.toNat) ?_ ⟨1,by omega,by omega,rfl⟩)) ?_
 rotate_left
 ·rintro _ ⟨d,hd,(rfl|rfl)⟩
  ·exact Tt.pure hd
  ·exact Tt.pure hd
 rintro _ ⟨k0,hk0,hk1,rfl⟩
 unfold cO.L2;dsimp only
 refine Bd.ite (fun h=> ?_) (fun _=>Bd.done ⟨X,⟨fun r=>Iff.rfl,Nat.le_refl _⟩,.inl rfl⟩)
 have hkl:k0<X.length:=by have:=zU h;omega
 have e1:(k0:Int)-1=((k0-1:Nat):Int):=by omega
 simp(discharger:=omega) only[wrap_small]
 rw[e1]
 refine Bd.chk (rng (by omega) (by omega)) (Bd.at (by omega) fun x hxm hx=>Bd.chk (rng (by omega) (by omega)) (Bd.at (by omega) fun y hym hy=>Bd.bind (hG x y (hX.2 x hxm) (hX.2 y hym)) fun v hv=>Bd.ite (fun hv1=> ?_) (fun _=> ?_)))
 rotate_left
 ·rw[show(k0:Int)+1=((k0+1:Nat):Int) by omega]
  exact Bd.again ⟨⟨k0+1,by omega,by omega,rfl⟩,by dsimp only;omega⟩
 have hxy:=hv.1 hv1
 subst hxy
 have hall:(decide (0≤(k0:Int))&&decide ((k0:Int)≤((List.length X:Nat):Int))&&decide (((List.length X:Nat):Int)≤((List.length X:Nat):Int)))=true:=by
  simp only[Bool.and_eq_true,decide_eq_true_eq];omega
 refine Bd.chk hall ?_
 refine Bd.bind (R:=fun t=> ∃(d:List Rule) (k:Nat),d.length=X.length∧k≤X.length∧Same (d.take k) X∧t=(d,(k:Int))) (Tt.loop (Lp.count (X.length-k0-1) (fun i s=> ∃(d:List Rule) (k:Nat),d.length=X.length∧1≤k∧k≤k0+i∧Same (d.take k) (X.take (k0+i+1))∧(∀j,k0+i≤j→d[j]? =X[j]?)∧s=(d,(k:Int),(k0:Int),(X.length:Int),((i+1:Nat):Int))) ?_ ?_ ?_)) ?_
 ·rintro i _ hi ⟨d,k,hdl,hk,hki,hsm,hun,rfl⟩
  unfold cO.L1;dsimp only
  simp only[Int.toNat_natCast]
  simp(discharger:=omega) only[wrap_small]
  rw[show((i+1:Nat):Int)-1=((i:Nat):Int) by omega]
  simp only[Int.toNat_natCast]
  refine Bd.yes (bf (by simp only[List.length_drop,List.length_take];omega)) (Bd.chk (rng (by omega) (by omega)) (Bd.at (by omega) fun x hxm hx=>Bd.chk (rng (by omega) (by omega)) (Bd.at (by omega) fun y hym hy=> ?_)))
  have hx':X[k0+(i+1)]? =some x:=by rw[←hun _ (by omega)];exact hx
  have hy':X[k0+i]? =some y:=by rw[←hun _ (by omega)];exact hy
  have hxX:x∈X:=List.mem_of_getElem? hx'
  have hyX:y∈X:=List.mem_of_getElem? hy'
  refine Bd.bind (hG x y (hX.2 x hxX) (hX.2 y hyX)) fun v hv=> ?_
  refine Bd.bind (R:=fun t=> ∃(d:List Rule) (k:Nat),d.length=X.length∧1≤k∧k≤k0+(i+1)∧Same (d.take k) (X.take (k0+(i+1)+1))∧(∀j,k0+(i+1)≤j→d[j]? =X[j]?)∧t=(d,(k:Int),(k0:Int),(X.length:Int),((i+1:Nat):Int))) (Tt.ite (fun hne=> ?_) (fun heq=> ?_)) ?_
  ·refine Tt.chk (rng (by omega) (by omega)) (Tt.atB (by omega) fun x2 _ hx2=>Tt.chk (rng (by omega) (by omega)) (Tt.atB (by omega) fun _ _ _=> ?_))
   have:x2=x:=by rw[hx]at hx2;exact(Option.some.inj hx2).symm
   subst this
   rw[show(k:Int)+1=((k+1:Nat):Int) by omega]
   refine Tt.pure ⟨d.set k x2,k+1,by simp only[List.length_set];exact hdl,by omega,by omega,fun z=> ?_,fun j hj=> ?_,rfl⟩
   ·rw[FW (by omega),jm hx',show k0+(i+1)=k0+i+1 by omega,hsm z]
   ·rw[List.getElem?_set_ne (by omega)];exact hun j (by omega)
  ·have hve:v=true:=by cases v<;>simp_all
   have hxy:=hv.1 hve
   subst hxy
   refine Tt.pure ⟨d,k,hdl,hk,by omega,fun z=> ?_,fun j hj=>hun j (by omega),rfl⟩
   rw[jm hx',show k0+(i+1)=k0+i+1 by omega,hsm z]
   constructor
   ·exact .inl
   ·rintro(h|rfl)
    ·exact h
    ·rw[jm hy'];exact .inr rfl
  ·rintro _ ⟨d,k,hdl,hk,hki,hsm,hun,rfl⟩
   dsimp only
   simp only[Int.toNat_natCast]
   rw[aI (by omega)]
   exact Bd.again ⟨d,k,hdl,hk,by omega,hsm,hun,rfl⟩
 ·rintro _ ⟨d,k,hdl,hk,hki,hsm,hun,rfl⟩
  unfold cO.L1;dsimp only
  simp only[Int.toNat_natCast]
  refine Bd.no (by simp only[decide_eq_false_iff_not,List.length_drop,List.length_take];omega) (Bd.done ⟨d,k,hdl,by omega,?_,rfl⟩)
  rw[show k0+(X.length-k0-1)+1=X.length by omega,List.take_length]at hsm
  exact hsm
 ·refine⟨X,k0,rfl,hk0,by omega,fun z=> ?_,fun j _=>rfl,by simp only[Int.toNat_natCast];rfl⟩
  rw[jm (k:=k0+0) hx]
  constructor
  ·exact .inl
  ·rintro(h|rfl)
   ·exact h
   ·have hy2:X[k0-1]? =some z:=hy
    have:=jm (z:=z) hy2
    rw[show k0-1+1=k0 by omega]at this
    exact this.2 (.inr rfl)
 ·rintro _ ⟨d,k,hdl,hk,hsm,rfl⟩
  dsimp only
  simp only[Int.toNat_natCast]
  have hlen:List.length (List.append (List.append (List.take k d) (List.replicate (List.length d-k) (((0:Int),([]:List Int),(0:Int)):Int×List Int×Int))) (List.drop (List.length d) d))=X.length:=by
   simp only[List.append_eq,List.length_append,List.length_take,List.length_replicate,List.length_drop];omega
  refine Bd.chk (by simp only[Bool.and_eq_true,decide_eq_true_eq];omega) (Bd.chk (by simp only[Bool.and_eq_true,decide_eq_true_eq];rw[hlen];omega) (Bd.done ⟨_,⟨?_,?_⟩,.inr rfl⟩))
  ·have e:List.drop (Int.toNat 0) (List.take k (List.append (List.append (List.take k d) (List.replicate (List.length d-k) (((0:Int),([]:List Int),(0:Int)):Int×List Int×Int))) (List.drop (List.length d) d)))=List.take k d:=by
    simp only[List.append_eq,List.append_assoc]
    rw[List.take_append_of_le_length (by simp only[List.length_take];omega),List.take_take,Nat.min_self]
    rfl
   rw[e];exact hsm
  ·refine Nat.le_trans (List.Sublist.length_le (List.drop_sublist _ _)) ?_
   rw[List.length_take,hlen];omega
theorem Um {X:List Int} (hX:X.length≤1000000):Sp bM.P X (fun r=>Same r X∧r.length≤X.length):=by
 have hX40:=hX
 show Tt (fun n=>bM.P n X) _
 unfold bM.P
 refine Tt.ite (fun _=>Tt.pure ⟨fun _=>Iff.rfl,Nat.le_refl _⟩) (fun h2=> ?_)
 have h2:=dec_not h2
 refine Tt.bind (R:=fun q:Sum (List Int) (List Int)=> ∃d,(Same d X∧d.length≤X.length)∧(q= .inl d∨q= .inr d)) (Tt.loop (Lp.measure (fun s=> ∃k:Nat,1≤k∧k≤X.length∧s=(X,(k:Int))) (fun s=>X.length-s.2.toNat) ?_ ⟨1,by omega,by omega,rfl⟩)) ?_
 rotate_left
 ·rintro _ ⟨d,hd,(rfl|rfl)⟩
  ·exact Tt.pure hd
  ·exact Tt.pure hd
 rintro _ ⟨k0,hk0,hk1,rfl⟩
 unfold bM.L2;dsimp only
 refine Bd.ite (fun h=> ?_) (fun _=>Bd.done ⟨X,⟨fun _=>Iff.rfl,Nat.le_refl _⟩,.inl rfl⟩)
 have hkl:k0<X.length:=by have:=zU h;omega
 have e1:(k0:Int)-1=((k0-1:Nat):Int):=by omega
 simp(discharger:=omega) only[wrap_small]
 rw[e1]
 refine Bd.chk (rng (by omega) (by omega)) (Bd.at (by omega) fun x hxm hx=>Bd.chk (rng (by omega) (by omega)) (Bd.at (by omega) fun y hym hy=>Bd.ite (fun hv1=> ?_) (fun _=> ?_)))
 rotate_left
 ·rw[show(k0:Int)+1=((k0+1:Nat):Int) by omega]
  exact Bd.again ⟨⟨k0+1,by omega,by omega,rfl⟩,by dsimp only;omega⟩
 have hxy:=zU hv1
 subst hxy
 have hall:(decide (0≤(k0:Int))&&decide ((k0:Int)≤((List.length X:Nat):Int))&&decide (((List.length X:Nat):Int)≤((List.length X:Nat):Int)))=true:=by
  simp only[Bool.and_eq_true,decide_eq_true_eq];omega
 refine Bd.chk hall ?_
 refine Bd.bind (R:=fun t=> ∃(d:List Int) (k:Nat),d.length=X.length∧k≤X.length∧Same (d.take k) X∧t=(d,(k:Int))) (Tt.loop (Lp.count (X.length-k0-1) (fun i s=> ∃(d:List Int) (k:Nat),d.length=X.length∧1≤k∧k≤k0+i∧Same (d.take k) (X.take (k0+i+1))∧(∀j,k0+i≤j→d[j]? =X[j]?)∧s=(d,(k:Int),(k0:Int),(X.length:Int),((i+1:Nat):Int))) ?_ ?_ ?_)) ?_
 ·rintro i _ hi ⟨d,k,hdl,hk,hki,hsm,hun,rfl⟩
  unfold bM.L1;dsimp only
  simp only[Int.toNat_natCast]
  simp(discharger:=omega) only[wrap_small]
  rw[show((i+1:Nat):Int)-1=((i:Nat):Int) by omega]
  simp only[Int.toNat_natCast]
  refine Bd.yes (bf (by simp only[List.length_drop,List.length_take];omega)) (Bd.chk (rng (by omega) (by omega)) (Bd.at (by omega) fun x hxm hx=>Bd.chk (rng (by omega) (by omega)) (Bd.at (by omega) fun y hym hy=> ?_)))
  have hx':X[k0+(i+1)]? =some x:=by rw[←hun _ (by omega)];exact hx
  have hy':X[k0+i]? =some y:=by rw[←hun _ (by omega)];exact hy
  have hxX:x∈X:=List.mem_of_getElem? hx'
  have hyX:y∈X:=List.mem_of_getElem? hy'
  refine Bd.bind (R:=fun t=> ∃(d:List Int) (k:Nat),d.length=X.length∧1≤k∧k≤k0+(i+1)∧Same (d.take k) (X.take (k0+(i+1)+1))∧(∀j,k0+(i+1)≤j→d[j]? =X[j]?)∧t=(d,(k:Int),(k0:Int),(X.length:Int),((i+1:Nat):Int))) (Tt.ite (fun hne=> ?_) (fun heq=> ?_)) ?_
  ·refine Tt.chk (rng (by omega) (by omega)) (Tt.atB (by omega) fun x2 _ hx2=>Tt.chk (rng (by omega) (by omega)) (Tt.atB (by omega) fun _ _ _=> ?_))
   have:x2=x:=by rw[hx]at hx2;exact(Option.some.inj hx2).symm
   subst this
   rw[show(k:Int)+1=((k+1:Nat):Int) by omega]
   refine Tt.pure ⟨d.set k x2,k+1,by simp only[List.length_set];exact hdl,by omega,by omega,fun z=> ?_,fun j hj=> ?_,rfl⟩
   ·rw[FW (by omega),jm hx',show k0+(i+1)=k0+i+1 by omega,hsm z]
   ·rw[List.getElem?_set_ne (by omega)];exact hun j (by omega)
  ·have hxy:x=y:=by simpa using heq
   subst hxy
   refine Tt.pure ⟨d,k,hdl,hk,by omega,fun z=> ?_,fun j hj=>hun j (by omega),rfl⟩
   rw[jm hx',show k0+(i+1)=k0+i+1 by omega,hsm z]
   constructor
   ·exact .inl
   ·rintro(h|rfl)
    ·exact h
    ·rw[jm hy'];exact .inr rfl
  ·rintro _ ⟨d,k,hdl,hk,hki,hsm,hun,rfl⟩
   dsimp only
   simp only[Int.toNat_natCast]
   rw[aI (by omega)]
   exact Bd.again ⟨d,k,hdl,hk,by omega,hsm,hun,rfl⟩
 ·rintro _ ⟨d,k,hdl,hk,hki,hsm,hun,rfl⟩
  unfold bM.L1;dsimp only
  simp only[Int.toNat_natCast]
  refine Bd.no (by simp only[decide_eq_false_iff_not,List.length_drop,List.length_take];omega) (Bd.done ⟨d,k,hdl,by omega,?_,rfl⟩)
  rw[show k0+(X.length-k0-1)+1=X.length by omega,List.take_length]at hsm
  exact hsm
 ·refine⟨X,k0,rfl,hk0,by omega,fun z=> ?_,fun j _=>rfl,by simp only[Int.toNat_natCast];rfl⟩
  rw[jm (k:=k0+0) hx]
  constructor
  ·exact .inl
  ·rintro(h|rfl)
   ·exact h
   ·have hy2:X[k0-1]? =some z:=hy
    have:=jm (z:=z) hy2
    rw[show k0-1+1=k0 by omega]at this
    exact this.2 (.inr rfl)
 ·rintro _ ⟨d,k,hdl,hk,hsm,rfl⟩
  dsimp only
  simp only[Int.toNat_natCast]
  have hlen:List.length (List.append (List.append (List.take k d) (List.replicate (List.length d-k) ((0:Int):Int))) (List.drop (List.length d) d))=X.length:=by
   simp only[List.append_eq,List.length_append,List.length_take,List.length_replicate,List.length_drop];omega
  refine Bd.chk (by simp only[Bool.and_eq_true,decide_eq_true_eq];omega) (Bd.chk (by simp only[Bool.and_eq_true,decide_eq_true_eq];rw[hlen];omega) (Bd.done ⟨_,⟨?_,?_⟩,.inr rfl⟩))
  ·have e:List.drop (Int.toNat 0) (List.take k (List.append (List.append (List.take k d) (List.replicate (List.length d-k) ((0:Int):Int))) (List.drop (List.length d) d)))=List.take k d:=by
    simp only[List.append_eq,List.append_assoc]
    rw[List.take_append_of_le_length (by simp only[List.length_take];omega),List.take_take,Nat.min_self]
    rfl
   rw[e];exact hsm
  ·refine Nat.le_trans (List.Sublist.length_le (List.drop_sublist _ _)) ?_
   rw[List.length_take,hlen];omega
theorem U6 (z:Int):Sp (fun n=>cmp_isNaN_int.P n) z (fun r=>r=false):=⟨_,rfl,.all fun n=>by simp only[cmp_isNaN_int.P,decide_true,Bool.not_true]⟩
theorem Z7 {N:Nat→Int→Option Bool} (hN: ∀z,Sp N z (fun r=>r=false)) (x y:Int):Sp (fun n=>cmp_Compare_int.P (N n) n) (x,y) (fun v=>v=KQ x y):=by
 show Tt (fun n=>cmp_Compare_int.P (N n) n (x,y)) _
 unfold cmp_Compare_int.P KQ
 refine Tt.bind (hN _) ?_
 rintro _ rfl
 refine Tt.bind (hN _) ?_
 rintro _ rfl
 refine Tt.no rfl (Tt.no rfl (Tt.ite (fun h=> ?_) (fun h=>Tt.ite (fun h2=> ?_) (fun h2=> ?_))))
 ·have h:decide (x<y)=true:=h
  exact Tt.pure (by rw[h];rfl)
 ·have h:decide (x<y)=false:=h
  have h2:decide (y<x)=true:=h2
  exact Tt.pure (by rw[h,h2];rfl)
 ·have h:decide (x<y)=false:=h
  have h2:decide (y<x)=false:=h2
  exact Tt.pure (by rw[h,h2];rfl)
theorem Ih {C:Nat→Int×Int→Option Int} (hC: ∀x y,Sp C (x,y) (fun v=>v=KQ x y)) (xs ys:List Int) (hx:xs.length≤1000):
 Sp (fun n=>bY.P (C n) n) (xs,ys) (fun v=>v=cmpL xs ys):=by
 show Tt (fun n=>bY.P (C n) n (xs,ys)) _
 unfold bY.P;dsimp only
 refine Tt.bind (R:=fun q:Sum (List Int×List Int) Int=>(q= .inl (xs,ys)∧cmpL [] (ys.drop xs.length)=cmpL xs ys)∨q= .inr (cmpL xs ys)) (Tt.loop (Lp.count xs.length (fun i s=>s=(xs,ys,xs,(xs.length:Int),(i:Int))∧cmpL (xs.drop i) (ys.drop i)=cmpL xs ys) ?_ ?_ ⟨rfl,rfl⟩)) ?_
 ·rintro i _ hi ⟨rfl,hk⟩
  unfold bY.L1;dsimp only
  rw[List.drop_eq_getElem_cons hi]at hk
  refine Bd.yes (bf (by omega)) (Bd.nth hi ?_)
  refine Bd.ite (fun h=> ?_) (fun h=> ?_)
  ·have h:=zU h
   rw[List.drop_eq_nil_of_le (as:=ys) (by omega)]at hk
   exact Bd.done (.inr (by rw[←hk];rfl))
  ·have h:=dec_not h
   have hiy:i<ys.length:=by omega
   rw[List.drop_eq_getElem_cons hiy,Xx]at hk
   refine Bd.nth hiy (Bd.bind (hC _ _) fun v hv=>Bd.ite (fun h=> ?_) (fun h=> ?_))
   ·have hne:v≠0:=by simpa using h
    have:xs[i]≠ys[i]:=fun e=>hne (by rw[hv,e,uU.refl])
    exact Bd.done (.inr (by rw[←hk,hv];simp[this]))
   ·have he:v=0:=by simpa using h
    rw[hv]at he
    rw[aI (by omega)]
    refine Bd.again ⟨rfl,?_⟩
    rw[←hk];simp[uU.eq _ _ he]
 ·rintro _ ⟨rfl,hk⟩
  unfold bY.L1;dsimp only
  rw[List.drop_length]at hk
  exact Bd.no (by simp only[decide_eq_false_iff_not];omega) (Bd.done (.inl ⟨rfl,hk⟩))
 ·rintro _ (⟨rfl,hk⟩|rfl)
  ·dsimp only
   refine Tt.ite (fun h=> ?_) (fun h=> ?_)
   ·have h:=zU h
    rw[List.drop_eq_getElem_cons (by omega)]at hk
    exact Tt.pure (by rw[←hk];rfl)
   ·have h:=dec_not h
    rw[List.drop_eq_nil_of_le (as:=ys) (by omega)]at hk
    exact Tt.pure (by rw[←hk];rfl)
  ·exact Tt.pure rfl
def orz:List Int→Int
 | []=>0
 |a::l=>bif decide (a=0)then orz l else a
theorem aap (xs:List Int) (hx:xs.length≤1000):Sp (fun n=>kY.P n) xs (fun v=>v=orz xs):=by
 show Tt (fun n=>kY.P n xs) _
 unfold kY.P
 refine Tt.bind (R:=fun q:Sum Int Int=>q= .inl (orz xs)∨q= .inr (orz xs)) (Tt.loop (Lp.count xs.length (fun i s=>s=((0:Int),xs,(xs.length:Int),(i:Int))∧orz (xs.drop i)=orz xs) ?_ ?_ ⟨rfl,rfl⟩)) ?_
 ·rintro i _ hi ⟨rfl,hk⟩
  unfold kY.L1;dsimp only
  rw[List.drop_eq_getElem_cons hi,show∀a l,orz (a::l)=bif decide (a=0)then orz l else a from fun _ _=>rfl]at hk
  refine Bd.yes (bf (by omega)) (Bd.nth hi (Bd.ite (fun h=> ?_) (fun h=> ?_)))
  ·have hne:xs[i]≠0:=by simpa using h
   exact Bd.done (.inr (by rw[←hk];simp[hne]))
  ·have he:xs[i]=0:=by simpa using h
   rw[aI (by omega)]
   exact Bd.again ⟨rfl,by rw[←hk];simp[he]⟩
 ·rintro _ ⟨rfl,hk⟩
  unfold kY.L1;dsimp only
  rw[List.drop_length]at hk
  exact Bd.no (by simp only[decide_eq_false_iff_not];omega) (Bd.done (.inl (by rw[←hk];rfl)))
 ·rintro _ (rfl|rfl)<;>exact Tt.pure rfl
theorem QM {C:Nat→Int×Int→Option Int} {OR:Nat→List Int→Option Int} {S:Nat→List Int×List Int→Option Int}
 (hC: ∀x y,Sp C (x,y) (fun v=>v=KQ x y)) (hOr: ∀xs:List Int,xs.length≤1000→Sp OR xs (fun v=>v=orz xs))
 (hS: ∀xs ys:List Int,xs.length≤1000→Sp S (xs,ys) (fun v=>v=cmpL xs ys)) (x y:Rule) (hx:x.2.1.length≤1000):Sp (fun n=>qU.P (C n) (OR n) (S n) n) (x.1,x.2.1,x.2.2,y.1,y.2.1,y.2.2) (fun v=>v=JU x y):=by
 obtain⟨x1,x2,x3⟩:=x
 obtain⟨y1,y2,y3⟩:=y
 show Tt (fun n=>qU.P (C n) (OR n) (S n) n (x1,x2,x3,y1,y2,y3)) _
 unfold qU.P;dsimp only
 refine Tt.bind (hC _ _) fun v1 h1=>Tt.bind (hS _ _ hx) fun v2 h2=>Tt.bind (hC _ _) fun v3 h3=>Tt.bind (hOr _ (by simp)) fun v hv=>Tt.pure ?_
 subst h1 h2 h3
 rw[hv]
 unfold JU;dsimp only
 by_cases e1:x1=y1
 ·subst e1
  simp only[orz,uU.refl,decide_true,cond_true]
  by_cases e2:cmpL x2 y2=0
  ·simp only[e2,decide_true,cond_true]
   by_cases e3:KQ x3 y3=0
   ·simp[e3]
   ·simp[e3]
  ·simp[e2]
 ·have:KQ x1 y1≠0:=fun e=>e1 (uU.eq _ _ e)
  simp[orz,this,e1]
theorem Xr {O:OrF} (h: ∀x y:Rule,x.2.1.length≤1000→Sp O (x.1,x.2.1,x.2.2,y.1,y.2.1,y.2.2) (fun v=>v=JU x y)):adt O:=fun x y hx _=>
 (h x y hx).mono fun v hv=>⟨fun e=>zW.eq _ _ (by rw[←hv,e]),fun e=>by rw[hv,e,zW.refl]⟩
theorem Xm {SF Cf:Nat→List Rule→Option (List Rule)} (hS:Gl SF) (hC: ∀X,Base X→Sp Cf X (fun r=>Same r X∧r.length≤X.length)):Gl (fun n=>qW.P (Cf n) (SF n) n):=fun x hx hr=>by
 show Tt (fun n=>qW.P (Cf n) (SF n) n x) _
 unfold qW.P
 refine Tt.bind (hS x hx hr) fun y hy=>Tt.bind (hC y ⟨by omega,fun r h=>by have:=hr r ((hy.2 r).1 h);omega⟩) fun z hz=>Tt.pure ⟨by omega,fun r=>(hz.1 r).trans (hy.2 r)⟩
end Go.Bk
end
noncomputable section
namespace Go.Bk
open Go Go.AM
set_option linter.unusedVariables false
abbrev SortI (F:Nat→List Int→Option (List Int)):Prop:= ∀x:List Int,x.length≤1000000→Sp F x (fun r=>r.length=x.length∧ ∀y,y∈r ↔ y∈x)
abbrev adf (F:Nat→List Int→Option (List Int)):Prop:= ∀x:List Int,x.length≤1000000→Sp F x (fun r=>Same r x∧r.length≤x.length)
theorem Ti {l:List Int} {s S:Int} (hl:l.length=S.toNat) (h:iy S s):nth? l s=some (iat l s):=by
 have hlt:s.toNat<l.length:=by have:=h.1;have:=h.2;omega
 rw[wP h.1 (by have:=h.1;have:=h.2;omega),yc hlt]
theorem YB {So:Nat→List Rule→Option (List Rule)} {Co SI:Nat→List Int→Option (List Int)} (hSo:Gl So) (hCo:adf Co) (hSI:SortI SI) (S:Int) (fin:List Int) (rs:List Rule) (hw:Wf S fin rs) (m:Int) (to:List Int) (hto:to.length=S.toNat):
 Sp (fun n=>dW.P (So n) (Co n) (SI n) n) (S,fin,rs,m,to) (fun a=>a.1=m∧adG (iat to) fin a.2.1∧Img (iat to) rs a.2.2∧a.2.1.length≤fin.length∧a.2.2.length≤rs.length):=by
 obtain⟨h0,hS,hfl,hrl,hfin,hr⟩:=hw
 show Tt (fun n=>dW.P (So n) (Co n) (SI n) n (S,fin,rs,m,to)) _
 unfold dW.P;dsimp only
 refine Tt.bind (R:=fun t=>t=(to,S,fin,rs,(0:Int),([]:List Int),([]:List Rule),m,fin.map (iat to),([]:List Rule)))
  (Tt.loop (L:=fun n=>dW.L1) (Lp.count fin.length (fun i t=>t=(to,S,fin,rs,(0:Int),([]:List Int),([]:List Rule),m,(fin.take i).map (iat to),([]:List Rule),fin,((fin.length:Nat):Int),(i:Int))) ?_ ?_ rfl)) ?_
 ·rintro i t hi rfl
  unfold dW.L1;dsimp only
  refine Bd.yes (bf (by omega)) (Bd.nth hi ?_)
  rw[Ti hto (hfin _ (List.getElem_mem hi))]
  refine Bd.ay (Bd.chk (qG (by simp;omega)) (Bd.again ?_))
  rw[aI (by omega),List.take_add_one,List.getElem?_eq_getElem hi,List.map_append];rfl
 ·rintro t rfl
  unfold dW.L1;dsimp only
  rw[List.take_length]
  exact Bd.no (decide_eq_false (by omega)) (Bd.done rfl)
 rintro _ rfl
 dsimp only
 refine Tt.bind (hSI _ (by simp;omega)) fun f1 hf1=> ?_
 rw[List.length_map]at hf1
 refine Tt.bind (hCo f1 (by omega)) fun f2 hf2=> ?_
 refine Tt.bind (R:=fun t=>t=((0:Int),([]:List Int),([]:List Rule),m,f2,rs.map fun r=>(r.1,r.2.1.map (iat to),iat to r.2.2)))
  (Tt.loop (L:=fun n=>dW.L3 n) (Lp.count rs.length (fun i t=>t=(to,(0:Int),([]:List Int),([]:List Rule),m,f2,(rs.take i).map (fun r=>(r.1,r.2.1.map (iat to),iat to r.2.2)),rs,((rs.length:Nat):Int),(i:Int))) ?_ ?_ rfl)) ?_
 ·rintro i t hi rfl
  unfold dW.L3;dsimp only
  obtain⟨hto2,hfr,hf3⟩:=hr rs[i] (List.getElem_mem hi)
  refine Bd.yes (bf (by omega)) (Bd.nth hi ?_)
  rw[Ti hto hto2]
  refine Bd.ay (Bd.bind (R:=fun t=>t=(to,(0:Int),([]:List Int),([]:List Rule),m,f2,(rs.take i).map (fun r=>(r.1,r.2.1.map (iat to),iat to r.2.2)),rs[i].1,rs[i].2.1.map (iat to),iat to rs[i].2.2,rs,((rs.length:Nat):Int),(i:Int)))
   (Tt.loop (L:=fun n=>dW.L2) (Lp.count rs[i].2.1.length (fun j t=>t=(to,(0:Int),([]:List Int),([]:List Rule),m,f2,(rs.take i).map (fun r=>(r.1,r.2.1.map (iat to),iat to r.2.2)),rs[i].1,(rs[i].2.1.take j).map (iat to),iat to rs[i].2.2,rs,((rs.length:Nat):Int),(i:Int),rs[i].2.1,((rs[i].2.1.length:Nat):Int),(j:Int))) ?_ ?_ rfl)) ?_)
  ·rintro j t hj rfl
   unfold dW.L2;dsimp only
   refine Bd.yes (bf (by omega)) (Bd.nth hj ?_)
   rw[Ti hto (hfr _ (List.getElem_mem hj))]
   refine Bd.ay (Bd.chk (qG (by simp;omega)) (Bd.again ?_))
   rw[aI (by omega),List.take_add_one,List.getElem?_eq_getElem hj,List.map_append];rfl
  ·rintro t rfl
   unfold dW.L2;dsimp only
   rw[List.take_length]
   exact Bd.no (decide_eq_false (by omega)) (Bd.done rfl)
  ·rintro _ rfl
   dsimp only
   refine Bd.chk (qG (by simp;omega)) (Bd.again ?_)
   rw[aI (by omega),List.take_add_one,List.getElem?_eq_getElem hi,List.map_append];rfl
 ·rintro t rfl
  unfold dW.L3;dsimp only
  rw[List.take_length]
  exact Bd.no (decide_eq_false (by omega)) (Bd.done rfl)
 rintro _ rfl
 dsimp only
 refine Tt.bind (hSo _ (by simp;omega) fun r' hr'=> ?_) fun out ho=>Tt.pure ⟨rfl,fun q=> ?_,fun r'=> ?_,by dsimp only;omega,by have:=ho.1;rw[List.length_map]at this;exact this⟩
 ·obtain⟨r,h1,rfl⟩:=List.mem_map.1 hr'
  simpa using(hr r h1).2.2
 ·rw[hf2.1,hf1.2,List.mem_map]
  exact⟨fun⟨s,h1,h2⟩=>⟨s,h1,h2.symm⟩,fun⟨s,h1,h2⟩=>⟨s,h1,h2.symm⟩⟩
 ·rw[ho.2,List.mem_map]
  exact⟨fun⟨s,h1,h2⟩=>⟨s,h1,h2.symm⟩,fun⟨s,h1,h2⟩=>⟨s,h1,h2.symm⟩⟩
def Lbl {σ σo A τ:Type} (L:(σo→Option τ)→σ→(σ→Option (Sum A τ))→Option (Sum A τ)) (s:σ) (Q:A→Prop) (I:σo→Prop):Prop:=
 (∃v,Q v∧ ∃N,∀m,N≤m→ ∀k,dD (L k) m s=some (Sum.inl v))∨(∃s',I s'∧ ∃N,∀m,N≤m→ ∀k,dD (L k) m s=(k s').bind fun r=>some (Sum.inr r))
theorem Lbl.count {σ σo A τ:Type} {L:(σo→Option τ)→σ→(σ→Option (Sum A τ))→Option (Sum A τ)} {Q:A→Prop} {I:σo→Prop} (len:Nat) (J:Nat→σ→Prop)
 (hs: ∀i s,i<len→J i s→(∃s2,J (i+1) s2∧ ∀k r,L k s r=r s2)∨(∃s',I s'∧ ∀k r,L k s r=(k s').bind fun r=>some (Sum.inr r)))
 (hf: ∀s,J len s→ ∃v,Q v∧ ∀k r,L k s r=some (Sum.inl v)) {s:σ} (h:J 0 s):Lbl L s Q I:=by
 have key: ∀d i s,i+d=len→J i s→Lbl L s Q I:=by
  intro d
  induction d with
  |zero=>
   intro i s hi h
   obtain rfl:i=len:=by omega
   obtain⟨v,hv,e⟩:=hf s h
   exact .inl ⟨v,hv,1,fun m hm k=>by
    obtain⟨m,rfl⟩: ∃j,m=j+1:=⟨m-1,by omega⟩
    exact e k _⟩
  |succ d ih=>
   intro i s hi h
   rcases hs i s (by omega) h with⟨s2,h2,e⟩|⟨s',h2,e⟩
   ·rcases ih (i+1) s2 (by omega) h2 with⟨v,hv,N,hN⟩|⟨s',hs',N,hN⟩
    ·exact .inl ⟨v,hv,N+1,fun m hm k=>by
      obtain⟨m,rfl⟩: ∃j,m=j+1:=⟨m-1,by omega⟩
      exact(e k _).trans (hN m (by omega) k)⟩
    ·exact .inr ⟨s',hs',N+1,fun m hm k=>by
      obtain⟨m,rfl⟩: ∃j,m=j+1:=⟨m-1,by omega⟩
      exact(e k _).trans (hN m (by omega) k)⟩
   ·exact .inr ⟨s',h2,1,fun m hm k=>by
     obtain⟨m,rfl⟩: ∃j,m=j+1:=⟨m-1,by omega⟩
     exact e k _⟩
 exact key len 0 s (by omega) h
theorem Bd.label {σ σo A τ:Type} {L:(σo→Option τ)→σ→(σ→Option (Sum A τ))→Option (Sum A τ)} {s:σ} {Q:A→Prop} {I I0:σo→Prop} {R:τ→Prop} {H:Nat→(σo→Option τ)→Sum A τ→Option τ} (h:Lbl L s Q I0) (hG: ∀v,Q v→Bd (fun n k=>H n k (Sum.inl v)) I R) (hI: ∀s',I0 s'→I s')
 (hr: ∀n k r,H n k (Sum.inr r)=some r):Bd (fun n k=>(dD (L k) n s).bind (H n k)) I R:=by
 rcases h with⟨v,hv,N,hN⟩|⟨s',hs',N,hN⟩
 ·rcases hG v hv with⟨s2,h1,M,hM⟩|⟨t,h1,M,hM⟩
  ·exact .inl ⟨s2,h1,max N M,fun n hn k=>by
    show(dD (L k) n s).bind _=_
    rw[hN n (by omega) k];exact hM n (by omega) k⟩
  ·exact .inr ⟨t,h1,max N M,fun n hn k=>by
    show(dD (L k) n s).bind _=_
    rw[hN n (by omega) k];exact hM n (by omega) k⟩
 ·exact .inl ⟨s',hI s' hs',N,fun n hn k=>by
   show(dD (L k) n s).bind _=_
   rw[hN n hn k]
   cases k s' with
   |none=>rfl
   |some r=>exact hr n k r⟩
def adH (S:Int) (num:List Int) (m:Int):Prop:=
 num.length=S.toNat∧0≤m∧(∀v∈num,-1≤v∧v<m)∧(∀s t,iy S s→iy S t→0≤iat num s→iat num s=iat num t→s=t)∧(num.countP (fun v=>decide (0≤v)):Int)=m
theorem count_set {l:List Int} {i:Nat} {v:Int} (h:i<l.length) (hn:l[i]<0) (hv:0≤v):(l.set i v).countP (fun v=>decide (0≤v))=l.countP (fun v=>decide (0≤v))+1:=by
 rw[List.countP_set h]
 simp only[hv,decide_true,if_true]
 rw[decide_eq_false (show¬0≤l[i] by omega)]
 simp
theorem SQ {l:List Int} {s t v:Int} (h:s.toNat<l.length) (hs:0≤s) (ht:0≤t):iat (l.set s.toNat v) t=if t=s then v else iat l t:=by
 unfold iat
 rw[List.getElem?_set]
 by_cases e:t=s
 ·subst e;rw[if_pos rfl,if_pos h,if_pos rfl];rfl
 ·rw[if_neg (by omega),if_neg e]
theorem XA {SF:Nat→List Rule→Option (List Rule)} (hSF:Gl SF) (S:Int) (fin:List Int) (rs:List Rule) (hw:Wf S fin rs):
 Sp (fun n=>bF.P (SF n) n) (S,fin,rs) (fun num=>num.length=S.toNat∧(∀s t,iy S s→iy S t→0≤iat num s→iat num s=iat num t→s=t)∧(∀v∈num,v<S)∧ ∀r∈rs,(∀s∈r.2.1,0≤iat num s)→0≤iat num r.2.2):=by
 obtain⟨h0,hS,hfl,hrl,hfin,hr⟩:=hw
 show Tt (fun n=>bF.P (SF n) n (S,fin,rs)) _
 unfold bF.P;dsimp only
 refine Tt.chk (yX h0 (by omega)) ?_
 rw[List.length_replicate]
 refine Tt.bind (R:=fun t=>t=(S,fin,rs,List.replicate S.toNat (-1:Int)))
  (Tt.loop (L:=fun n=>bF.L1) (Lp.count S.toNat (fun i t=> ∃num:List Int,t=(S,fin,rs,num,((S.toNat:Nat):Int),(i:Int))∧num.length=S.toNat∧ ∀j:Nat,j<i→num[j]? =some (-1)) ?_ ?_ ⟨_,rfl,by simp,fun j h=>absurd h (by omega)⟩)) ?_
 ·rintro i t hi ⟨num,rfl,hn,hI⟩
  unfold bF.L1;dsimp only
  refine Bd.yes (bf (by omega)) (Bd.chk (rng (by omega) (by omega)) ?_)
  rw[Int.toNat_natCast]
  refine Bd.at (by omega) fun _ _ _=>Bd.again ⟨_,by rw[aI (by omega)],by simpa using hn,fun j hj=> ?_⟩
  rw[List.getElem?_set]
  split
  ·rename_i e;rw[if_pos (by omega)]
  ·exact hI j (by omega)
 ·rintro t ⟨num,rfl,hn,hI⟩
  unfold bF.L1;dsimp only
  refine Bd.no (decide_eq_false (by omega)) (Bd.done ?_)
  have:num=List.replicate S.toNat (-1:Int):=by
   apply List.ext_getElem?
   intro j
   rw[List.getElem?_replicate]
   split
   ·rename_i h;exact hI j h
   ·rw[List.getElem?_eq_none (by omega)]
  rw[this]
 rintro _ rfl
 dsimp only
 refine Tt.bind (R:=fun num:List Int=>num.length=S.toNat∧(∀s t,iy S s→iy S t→0≤iat num s→iat num s=iat num t→s=t)∧(∀v∈num,v<S)∧ ∀r∈rs,(∀s∈r.2.1,0≤iat num s)→0≤iat num r.2.2)
  (Tt.loop (L:=fun n=>bF.L5 n (SF n)) (Lp.measure (fun t=> ∃(num:List Int) (m:Int),t=(S,fin,rs,num,m)∧adH S num m) (fun t=>(S-t.2.2.2.2).toNat) ?_ ?_)) fun num h=>Tt.pure h
 ·rintro _ ⟨num,m,rfl,hn⟩
  obtain⟨n1,n2,n3,n4,n5⟩:=hn
  unfold bF.L5;dsimp only
  have hmS:m≤S:=by have:=List.countP_le_length (p:=fun v:Int=>decide (0≤v)) (l:=num);omega
  have hnl: ∀s,iy S s→s.toNat<num.length:=fun s hs=>by have:=hs.1;have:=hs.2;omega
  by_cases hms:m<S
  ·refine Bd.yes (bf hms) ?_
   refine Bd.bind (R:=fun t=> ∃l:List Rule,t=(S,fin,rs,num,m,l)∧l.length≤rs.length∧(∀r'∈l,iy S r'.2.2∧iat num r'.2.2<0∧r'.2.1.length≤3)∧ ∀r∈rs,iat num r.2.2<0→(∀s∈r.2.1,0≤iat num s)→l≠[])
    (Tt.loop (L:=fun n=>bF.L3 n) (Lp.count rs.length (fun i t=> ∃l:List Rule,t=(S,fin,rs,num,m,l,rs,((rs.length:Nat):Int),(i:Int))∧l.length≤i∧(∀r'∈l,iy S r'.2.2∧iat num r'.2.2<0∧r'.2.1.length≤3)∧ ∀r∈rs.take i,iat num r.2.2<0→(∀s∈r.2.1,0≤iat num s)→l≠[]) ?_ ?_ ⟨[],rfl,by simp,by simp,by simp⟩)) ?_
   ·rintro i t hi ⟨l,rfl,hl1,hl2,hl3⟩
    unfold bF.L3;dsimp only
    obtain⟨hto,hfr,hf3⟩:=hr rs[i] (List.getElem_mem hi)
    have htk: ∀{P:Rule→Prop},(∀r∈rs.take i,P r)→P rs[i]→ ∀r∈rs.take (i+1),P r:=by
     intro P h1 h2 r hr
     rw[List.take_add_one,List.getElem?_eq_getElem hi,List.mem_append]at hr
     rcases hr with hr|hr
     ·exact h1 r hr
     ·simp only[Option.toList_some,List.mem_singleton]at hr
      rw[hr];exact h2
    refine Bd.yes (bf (by omega)) (Bd.nth hi (Bd.chk (rng hto.1 (by have:=hto.1;have:=hto.2;omega)) (Bd.at (hnl _ hto) fun e _ he=> ?_)))
    have hie:iat num rs[i].2.2=e:=Rh he
    refine Bd.ite (fun hc=> ?_) (fun hc=> ?_)
    ·have hc:=of_decide_eq_true hc
     exact Bd.again ⟨l,by rw[aI (by omega)],by omega,hl2,htk hl3 fun h=>by omega⟩
    ·have hc:=of_decide_eq_false hc
     refine Bd.label (s:=(S,fin,rs,num,m,l,rs[i].1,([]:List Int),rs[i].2.2,rs,((rs.length:Nat):Int),(i:Int),rs[i].2.1,((rs[i].2.1.length:Nat):Int),(0:Int))) (I0:=fun s'=>s'=(S,fin,rs,num,m,l,rs,((rs.length:Nat):Int),IntKind.wrap .i64 ((i:Int)+1))∧ ∃s∈rs[i].2.1,iat num s<0) (Q:=fun v=> ∃fr':List Int,v=(S,fin,rs,num,m,l,rs[i].1,fr',rs[i].2.2,rs,((rs.length:Nat):Int),(i:Int))∧fr'.length=rs[i].2.1.length)
      (Lbl.count (L:=bF.L2) rs[i].2.1.length (fun j t=> ∃fr':List Int,t=(S,fin,rs,num,m,l,rs[i].1,fr',rs[i].2.2,rs,((rs.length:Nat):Int),(i:Int),rs[i].2.1,((rs[i].2.1.length:Nat):Int),(j:Int))∧fr'.length=j) ?_ ?_ ⟨[],rfl,rfl⟩) ?_ ?_ (fun _ _ _=>rfl)
     ·rintro j t hj ⟨fr',rfl,hfl'⟩
      have hsj:=hfr _ (List.getElem_mem hj)
      have hgl:=hnl _ hsj
      have hx:=dZ hj
      have hre:(decide (0≤rs[i].2.1[j])&&decide (rs[i].2.1[j]<((List.length num:Nat):Int)))=true:=rng hsj.1 (by have:=hsj.1;have:=hsj.2;omega)
      have hat:at? num rs[i].2.1[j].toNat=some (iat num rs[i].2.1[j]):=by unfold at?;rw[List.getElem?_eq_getElem hgl,yc hgl]
      by_cases hneg:iat num rs[i].2.1[j]<0
      ·refine .inr ⟨_,⟨rfl,_,List.getElem_mem hj,hneg⟩,fun k r=> ?_⟩
       unfold bF.L2;dsimp only
       rw[bf (show(j:Int)<((rs[i].2.1.length:Nat):Int) by omega),cond_true,hx,Option.bind_some,hre,cond_true,hat,Option.bind_some,bf hneg,cond_true]
      ·refine .inl ⟨_,⟨fr'++[iat num rs[i].2.1[j]],rfl,by simp;omega⟩,fun k r=> ?_⟩
       unfold bF.L2;dsimp only
       rw[bf (show(j:Int)<((rs[i].2.1.length:Nat):Int) by omega),cond_true,hx,Option.bind_some,hre,cond_true,hat,Option.bind_some,decide_eq_false hneg,cond_false,cond_true,Option.bind_some,qG (by simp;omega),cond_true,aI (by omega)]
       rfl
     ·rintro t ⟨fr',rfl,hfl'⟩
      refine⟨_,⟨fr',rfl,hfl'⟩,fun k r=> ?_⟩
      unfold bF.L2;dsimp only
      rw[decide_eq_false (by omega)];rfl
     ·rintro _ ⟨fr',rfl,hfl'⟩
      dsimp only
      refine Bd.chk (qG (by simp;omega)) (Bd.again ⟨_,by rw[aI (by omega)],by simp;omega,fun r' hr'=> ?_,htk (fun r _ _ _=>by simp) (fun _ _=>by simp)⟩)
      simp only[List.append_eq,List.mem_append,List.mem_singleton]at hr'
      rcases hr' with h|rfl
      ·exact hl2 r' h
      ·exact⟨hto,by dsimp only;omega,by dsimp only;omega⟩
     ·rintro s' ⟨rfl,s,hs1,hs2⟩
      exact⟨l,by rw[aI (by omega)],by omega,hl2,htk hl3 fun _ h=>absurd (h s hs1) (by omega)⟩
   ·rintro t ⟨l,rfl,hl1,hl2,hl3⟩
    unfold bF.L3;dsimp only
    rw[List.take_length]at hl3
    exact Bd.no (decide_eq_false (by omega)) (Bd.done ⟨l,rfl,hl1,hl2,hl3⟩)
   rintro _ ⟨l,rfl,hl1,hl2,hl3⟩
   dsimp only
   refine Bd.ite (fun hc=> ?_) (fun hc=> ?_)
   ·have hl0:l= []:=List.eq_nil_of_length_eq_zero (by have:=zU hc;omega)
    refine Bd.done ⟨n1,n4,fun v hv=>by have:=(n3 v hv).2;omega,fun r hr' hf=> ?_⟩
    rcases Int.lt_or_le (iat num r.2.2) 0 with h|h
    ·exact absurd hl0 (hl3 r hr' h hf)
    ·exact h
   ·have hne:l≠[]:=fun h=>absurd (dec_not hc) (by rw[h];simp)
    refine Bd.bind (hSF l (by omega) fun r' h=>(hl2 r' h).2.2) fun l' hl'=> ?_
    obtain⟨k1,k2⟩:=hl'
    have hl2': ∀r'∈l',iy S r'.2.2∧iat num r'.2.2<0:=fun r' h=>⟨(hl2 r' ((k2 r').1 h)).1,(hl2 r' ((k2 r').1 h)).2.1⟩
    refine Bd.bind (R:=fun t=> ∃(num':List Int) (m':Int),t=(S,fin,rs,num',m')∧adH S num' m'∧(l'= []∨m<m'))
     (Tt.loop (L:=fun n=>bF.L4) (Lp.count l'.length (fun i t=> ∃(num':List Int) (m':Int),t=(S,fin,rs,num',m',l',((l'.length:Nat):Int),(i:Int))∧adH S num' m'∧m≤m'∧(i=0→num'=num)∧(0<i→m<m')) ?_ ?_ ⟨num,m,rfl,⟨n1,n2,n3,n4,n5⟩,Int.le_refl _,fun _=>rfl,fun h=>absurd h (by omega)⟩)) ?_
    ·rintro i t hi ⟨num',m',rfl,⟨p1,p2,p3,p4,p5⟩,hmm,hz,hpos⟩
     unfold bF.L4;dsimp only
     obtain⟨hto,hneg⟩:=hl2' l'[i] (List.getElem_mem hi)
     have hgl:l'[i].2.2.toNat<num'.length:=by have:=hto.1;have:=hto.2;omega
     have hre:(decide (0≤l'[i].2.2)&&decide (l'[i].2.2<((List.length num':Nat):Int)))=true:=rng hto.1 (by have:=hto.1;have:=hto.2;omega)
     refine Bd.yes (bf (by omega)) (Bd.chk (rng (by omega) (by omega)) ?_)
     rw[Int.toNat_natCast]
     refine Bd.at hi fun r hrm hre2=> ?_
     rw[List.getElem?_eq_getElem hi]at hre2
     cases hre2
     refine Bd.chk hre (Bd.at hgl fun e _ he=> ?_)
     have hie:iat num' l'[i].2.2=e:=Rh he
     have hcS:m'≤S:=by have:=List.countP_le_length (p:=fun v:Int=>decide (0≤v)) (l:=num');omega
     refine Bd.eG (fun hc=> ?_) (fun hc=> ?_)
     ·have hc:=of_decide_eq_true hc
      refine Bd.nM hre (Bd.fG (Bd.at hgl fun _ _ _=>Bd.ay (Bd.again ⟨_,m'+1,by rw[aI (by omega),o7 (m'+1) (by omega) (by omega)],⟨by simpa using p1,by omega,fun v hv=> ?_,fun s t hs ht h0 e=> ?_,?_⟩,by omega,fun h=>absurd h (by omega),fun _=>by omega⟩)))
      ·rcases List.mem_or_eq_of_mem_set hv with h|rfl
       ·have:=p3 v h;exact⟨this.1,by omega⟩
       ·exact⟨by omega,by omega⟩
      ·rw[SQ hgl hto.1 hs.1,SQ hgl hto.1 ht.1]at e
       rw[SQ hgl hto.1 hs.1]at h0
       have hb: ∀s,iy S s→iat num' s<m':=fun s hs=>(p3 _ (by
        have hlt:s.toNat<num'.length:=by have:=hs.1;have:=hs.2;omega
        rw[←yc hlt];exact List.getElem_mem hlt)).2
       split at e<;>split at e
       ·rename_i e1 e2;rw[e1,e2]
       ·have:=hb t ht;omega
       ·have:=hb s hs;omega
       ·rename_i e1 e2
        rw[if_neg e1]at h0
        exact p4 s t hs ht h0 e
      ·rw[count_set hgl (by rw[yc hgl,hie];exact hc) p2];omega
     ·have hc:=of_decide_eq_false hc
      refine Bd.ay (Bd.again ⟨num',m',by rw[aI (by omega)],⟨p1,p2,p3,p4,p5⟩,hmm,fun h=>absurd h (by omega),fun _=> ?_⟩)
      rcases Nat.eq_zero_or_pos i with rfl|hi0
      ·rw[hz rfl]at hie;omega
      ·exact hpos hi0
    ·rintro t ⟨num',m',rfl,hp,hmm,hz,hpos⟩
     unfold bF.L4;dsimp only
     refine Bd.no (decide_eq_false (by omega)) (Bd.done ⟨num',m',rfl,hp,?_⟩)
     rcases Nat.eq_zero_or_pos l'.length with h|h
     ·exact .inl (List.eq_nil_of_length_eq_zero h)
     ·exact .inr (hpos h)
    ·rintro _ ⟨num',m',rfl,hp,hlt⟩
     refine Bd.again ⟨⟨num',m',rfl,hp⟩,?_⟩
     have hmm:m<m':=by
      rcases hlt with h|h
      ·obtain⟨r,hr'⟩:=List.exists_mem_of_ne_nil l hne
       have:=(k2 r).2 hr'
       rw[h]at this;cases this
      ·exact h
     dsimp only;omega
  ·refine Bd.no (decide_eq_false hms) (Bd.done ⟨n1,n4,fun v hv=>by have:=(n3 v hv).2;omega,fun r hr' _=> ?_⟩)
   have hcl:num.countP (fun v=>decide (0≤v))=num.length:=by have:=List.countP_le_length (p:=fun v:Int=>decide (0≤v)) (l:=num);omega
   have hall:=List.countP_eq_length.1 hcl
   have hlt:=hnl _ (hr r hr').1
   have:=hall _ (List.getElem_mem hlt)
   rw[yc hlt]at this
   exact of_decide_eq_true this
 ·refine⟨_,0,rfl,by simp,Int.le_refl _,fun v hv=>by rw[(List.mem_replicate.1 hv).2];exact⟨by omega,by omega⟩,fun s t hs ht h=> ?_,?_⟩
  ·have hlt:s.toNat<(List.replicate S.toNat (-1:Int)).length:=by rw[List.length_replicate];have:=hs.1;have:=hs.2;omega
   rw[←yc hlt,List.getElem_replicate]at h
   omega
  ·rw[List.countP_replicate];simp
end Go.Bk
end
