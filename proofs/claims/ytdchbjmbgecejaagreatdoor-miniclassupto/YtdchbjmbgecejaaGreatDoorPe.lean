import Derived.Test.YtdchbjmbgecejaaGreatDoorPt
import Derived.Test.YtdchbjmbgecejaaGreatDoorPy
import Derived.Test.YtdchbjmbgecejaaGreatDoorMt
import Derived.Test.YtdchbjmbgecejaaGreatDoorMd
import Derived.WalkKit
import Derived.BigCall
import Derived.BigGuard
import Derived.Lib.AppendIntMem
import Derived.Lib.ItoaMem
set_option linter.unusedVariables false
noncomputable section
namespace Go.Proofs.YtdchbjmbgecejaaGreatDoor.Am
open Go Go.AM Go.Bk Go.Sort
set_option maxRecDepth 100000
theorem Qm {w:World} {F:Fz} (z:Int) (cs:List Value):dX w F [.int .i64] z cs ↔ cs= [Value.int .i64 z]:=by simp only[dX,jM,exists_eq_right]
theorem ado:AM.Good Tryz.prog prg.glob g78 VO:=by
 refine ae9 (es:=[.int .i64]) ⟨_,Tryz.func78,Ψ,Ψ⟩ (λ(x y:List Int) h w F b cap cur et hb hle hcm hsz hel hF hfz=> ?_) (λ(y:List Int) h=> ?_)
 ·have hxl:x.length<4611686018427387904/\y=He (λ a b=>decide (a<=b)) x:=by
   unfold VO at h;simp only[cond_eq_ite,decide_eq_true_eq]at h;split at h
   ·rename_i hl;have:=eG;exact⟨Ω,(aak h).symm⟩
   ·cases h
  obtain⟨hxl,hy⟩:=hxl;have hc:=(zl (enc:=Value.int .i64) (Qm (w:=w) (F:=F)) x _).1 hel
  have hc':cur.toList.take x.toArray.size=x.toArray.toList.map (Value.int .i64):=by
   rw[show x.toArray.size=x.length* [Sh.int .i64].length from(abX _).symm];exact hc
  have hH:Holds (Value.int .i64) w b 0 x.toArray:=holds_of hb hc';refine(Any.slices_Sort_int Tryz.lays189 b 0 cap x w hH (lt_of_heap hb) hxl).mono ?_;rintro e w' ⟨rfl,n,os,rfl⟩
  have hm:x.mergeSort (λ x y=>decide (x<=y))=y:=by
   rw[hy]
   refine List.Perm.eq_of_pairwise (le:=λ a b:Int=>decide (a<=b)=true) (λ a b _ _ h1 h2=>by simp only[decide_eq_true_eq]at h1 h2;omega)
    (List.pairwise_mergeSort (λ a b c h1 h2=>by simp only[decide_eq_true_eq]at *;omega) (λ a b=>by simp only[abT,decide_eq_true_eq];omega) x)
    (qc (λ a b=>by simp only[decide_eq_true_eq];omega) (λ a b c h1 h2=>by simp only[decide_eq_true_eq]at *;omega) x)
    ((List.mergeSort_perm x _).trans (mP _ x).symm)
  rw[hm];have hyl:y.length=x.length:=by rw[hy];exact(mP _ x).length_eq
  refine⟨rfl,_,by simp[putCells],?_,hyl,ac5 hb (Value.int .i64) y.toArray n os⟩;refine(zl (enc:=Value.int .i64) (Qm (w:=w) (F:=F)) y _).2 ?_;have hcs:cur.size=cap:=hsz.trans (abX cap);have:=WX (enc:=Value.int .i64) (d:=y.toArray) (cur:=cur) (by rw[acf,hyl,hcs];exact hle);rw[show y.toArray.size=y.length* [Sh.int .i64].length from(abX _).symm]at this;exact this
 ·have hy:y= []:=(aak (show some ([]:List Int)=some y from h)).symm;exact⟨hy,λ w=>Any.slices_Sort_int_none Tryz.lays189 none 0 w⟩
def adC:List (Nat×AM.Spec):=[(49,s49),(86,s86),(87,s87),(88,s88),(124,aja)]
def ac3:AM.Prg:=⟨QY ai1,λ _=>none,aiO aja adC⟩
theorem fnO: ∀i,adV Tryz.prog (ac3.spec i):=Hr aii adC (by
 intro x hx;simp only[adC,aaU,acL,or_false]at hx;rcases hx with rfl|rfl|rfl|rfl|rfl
 ·exact akD
 ·exact akE
 ·exact akF
 ·exact akG
 ·exact aii)
theorem ajq (n i:Nat):AM.Good Tryz.prog ac3.glob (ac3.spec i).sig (ac3.run n i):=Xc ac3 ajT mixed (λ i _=>fnO i) (λ i=>Hr (p:=λ c=> ∀e,c.ext=some e->AM.Good Tryz.prog ac3.glob c.sig e) (by intro e h;cases h) adC (by
 intro x hx e h;simp only[adC,aaU,acL,or_false]at hx;rcases hx with rfl|rfl|rfl|rfl|rfl<;>cases h) i) n i
def aiL (n:Nat) (x:Int):Option Bool:=ac3.run n 124 x
def ai9 (n:Nat) (x:Int×Int):Option Int:=ac3.run n 87 x
def aky (n:Nat) (x:LI×LI):Option Int:=ac3.run n 88 x
def akx (n:Nat) (x:List Int):Option Int:=ac3.run n 86 x
def akw (n:Nat) (x:Int×LI×Int×Int×LI×Int):Option Int:=ac3.run n 49 x
theorem ajz (n:Nat) (x:Int):aiL (n+1) x=cmp_isNaN_int.P n x:=Ψ
theorem akM (n:Nat) (x:Int×Int):ai9 (n+1) x=cmp_Compare_int.P (aiL n) n x:=Ψ
theorem akN (n:Nat) (x:LI×LI):aky (n+1) x=dI.P (ai9 n) n x:=Ψ
theorem akL (n:Nat) (x:List Int):akx (n+1) x=oC.P n x:=Ψ
theorem akK (n:Nat) (x:Int×LI×Int×Int×LI×Int):akw (n+1) x=xg.P (ai9 n) (akx n) (aky n) n x:=Ψ
theorem ac0 (x y:Rule) (hx:x.2.1.length<=1000): ∃n,akw n (x.1,x.2.1,x.2.2,y.1,y.2.1,y.2.2)=some (vI x y):=by
 have hC: ∀x y,Sp ai9 (x,y) (λ v=>v=GK x y):=λ x y=>aZ5 akM (afR (λ z=>aZ5 ajz (Xg z)) x y);obtain⟨r,rfl,N,hN⟩:=aZ5 akK (Ti hC (λ xs h=>aZ5 akL (afS xs h)) (λ xs ys h=>aZ5 akN (NK hC xs ys h)) x y hx);exact⟨N,hN N (aaw _)⟩
theorem Vp (w:World) (F:Fz) (x y:Rule) (hx:x.2.1.length<=1000) (c1 c2:List Value) (h1:dX w F [.int .i64,.sl [.int .i64],.int .i64] x c1) (h2:dX w F [.int .i64,.sl [.int .i64],.int .i64] y c2) (hfz: ∀k o,F k o->k<w.heap.size):
 Calls Tryz.prog 49 #[.agg c1.toArray,.agg c2.toArray] w λ e w'=>e= .returned (.int .i64 (vI x y))/\ ∃q os',w'=grow (w.drewN q) os':=by
 obtain⟨n,hn⟩:=ac0 x y hx;obtain⟨_,hcall⟩:=ajq n 49 (x.1,x.2.1,x.2.2,y.1,y.2.1,y.2.2) (vI x y) hn;have e1:=cells_ok (g:=zI F) .hand [.int .i64,.sl [.int .i64],.int .i64] x 0 c1 h1;have e2:=cells_ok (g:=zI F) .hand [.int .i64,.sl [.int .i64],.int .i64] y 0 c2 h2;have hC:=Calls.drawn (hcall w (zI F) [.agg c1.toArray,.agg c2.toArray] ⟨_,_,rfl,⟨rfl,aC.vY (g:=zI F) (g':=zI F) (Keeps.refl _ _) _ _ _ _ rfl e1⟩,_,_,rfl,⟨rfl,aC.vY (g:=zI F) (g':=zI F) (Keeps.refl _ _) _ _ _ _ rfl e2⟩,rfl,rfl⟩ (λ gl cs h=>by cases h) (λ b ow e=>by cases e) hfz (λ b ow cs t f e=>by cases e));refine hC.mono ?_;rintro e w' ⟨⟨v,g',rfl,hb,hr,_⟩,hd⟩;obtain⟨hag,u,ws,hu,hc,rfl⟩:=hr;have hcells:v.cells.toList= [v]:=by rw[aH hag]
 rw[hcells]at hu;obtain⟨rfl,_⟩:=abJ hu;have hc:v= .int .i64 (vI x y):=hc;subst hc;exact⟨rfl,VZ hb (hd _ rfl)⟩
theorem afU {α β:Type} {c:β->β->Int} (h:KF c) (f:α->β):SWO (ltOf λ i j=>c (f i) (f j)):=by
 refine⟨λ i=> ?_,λ i j k h1 h2=> ?_,λ i j k h1 h2=> ?_⟩
 ·have:=h.refl (f i);exact decide_eq_false (by dsimp only;omega)
 ·have h1:c (f i) (f j)<0:=of_decide_eq_true h1;have h2:c (f j) (f k)<0:=of_decide_eq_true h2;exact decide_eq_true (h.lt h1 Ω)
 ·have h1: ¬c (f i) (f j)<0:=of_decide_eq_false h1;have h2: ¬c (f j) (f k)<0:=of_decide_eq_false h2;have a1:=h.anti (f i) (f j);have a2:=h.anti (f j) (f k);have a3:=h.anti (f i) (f k);have:=h.tr (f k) (f j) (f i) Ω Ω;exact decide_eq_false (by dsimp only;omega)
theorem adg (x:List Rule) (z:List Rule) (hz:z.Perm x) (hp:z.Pairwise λ a b=> ¬vI b a<0):z=He (λ p q=>decide (vI p q<=0)) x:=by
 refine List.Perm.eq_of_pairwise (le:=λ a b:Rule=>decide (vI a b<=0)=true) (λ a b _ _ h1 h2=> ?_) (hp.imp λ{a b} h=> ?_) (qc agH aiD x) (hz.trans (mP _ x).symm)
 ·simp only[decide_eq_true_eq]at h1 h2;have:=oM.anti a b;exact oM.eq a b Ω
 ·have:=oM.anti a b;simp only[decide_eq_true_eq];omega
theorem QU:AM.Good Tryz.prog prg.glob aij xZ:=by
 refine TD (es:=[.int .i64,.sl [.int .i64],.int .i64]) (c:=49) ⟨_,Tryz.func100,Ψ,Ψ⟩ (λ(x y:List Rule) h w F b cap cur et hb hle hcm hsz hel hF hfz=> ?_) (λ(y:List Rule) h=> ?_)
 ·have hxl:x.length<4611686018427387904/\(∀p∈x,p.2.1.length<=1000)/\y=He (λ p q=>decide (vI p q<=0)) x:=by
   unfold xZ at h;simp only[cond_eq_ite,aae,decide_eq_true_eq,aaV]at h;split at h
   ·rename_i hl;have:=eG;exact⟨Ω,hl.2,(aak h).symm⟩
   ·cases h
  obtain⟨hxl,hx3,hy⟩:=hxl;by_cases hx:x= []
  ·subst hx;have hy:y= []:=hy;subst hy;refine(AnyF.slices_SortFunc_none Tryz.ahh (some ⟨b,0,none⟩) cap (.func (.func 49) #[] #[]) w).mono ?_;rintro e w' ⟨rfl,rfl⟩;exact⟨rfl,cur,rfl,hel,rfl,rfl,rfl,rfl,aaw _,hb,λ _ _ _=>rfl⟩
  ·refine sortK (es:=[.int .i64,.sl [.int .i64],.int .i64]) Tryz.ahh Ξ Tryz.isAgg69 Tryz.sizeOf69 (c:=49) (enters_of Tryz.func49 Ψ rfl) hx hxl (cmp:=vI) ?_ (λ w F i j c1 c2 h1 h2 hf=>Vp w F _ _ (hx3 _ (aaf i.isLt)) c1 c2 h1 h2 hf) ?_ hb hle hsz (IE (es:=[.int .i64,.sl [.int .i64],.int .i64]) x _ hel) hel hF hfz
   ·exact afU oM λ i:Fin x.length=>x[i]
   ·intro z hz hp;rw[hy];exact adg x z hz hp
 ·have hy:y= []:=(aak (show some ([]:List Rule)=some y from h)).symm;exact⟨hy,λ w=>AnyF.slices_SortFunc_none Tryz.ahh none 0 (.func (.func 49) #[] #[]) w⟩
theorem adM (w:World) (x1 x2 y1 y2:Int) (h:IntKind.wrap .i64 (x1-y1)=x1-y1):
 Calls Tryz.prog 136 #[.agg #[.int .i64 x1,.int .i64 x2],.agg #[.int .i64 y1,.int .i64 y2]] w λ e w'=>e= .returned (.int .i64 (x1-y1))/\ ∃q os',w'=grow (w.drewN q) os':=by
 go_enter Tryz.func136,Tryz.ntmps136
 go_wp2
 go_ret
 exact⟨rfl,0,_,by rw[alloc_eq_grow,alloc_eq_grow,grow_grow];rfl⟩
theorem adE:KF λ a b:Int=>a-b:=⟨λ a=>Ω,λ a b=>Ω,λ a b d h1 h2=>Ω,λ a b h=>Ω⟩
theorem afp (x z:List (Int×Int)) (hx: ∀p∈x,∀q∈x,p.1=q.1->p.2=q.2) (hz:z.Perm x) (hp:z.Pairwise λ a b=> ¬b.1-a.1<0):z=He (λ p q=>decide (p.1<=q.1)) x:=by
 refine List.Perm.eq_of_pairwise (le:=λ a b:Int×Int=>decide (a.1<=b.1)=true) (λ a b h1 h2 h3 h4=> ?_) (hp.imp λ{a b} h=> ?_)
  (qc (λ a b=>by simp only[decide_eq_true_eq];omega) (λ a b c h1 h2=>by simp only[decide_eq_true_eq]at *;omega) x) (hz.trans (mP _ x).symm)
 ·simp only[decide_eq_true_eq]at h3 h4;have e:a.1=b.1:=by omega
  exact ab9 e (hx a (hz.mem_iff.1 h1) b ((mP _ x).mem_iff.1 h2) e)
 ·simp only[decide_eq_true_eq];omega
theorem adN {w:World} {F:Fz} (z:Int×Int) (cs:List Value) (h:dX w F [.int .i64,.int .i64] z cs):cs= [Value.int .i64 z.1,Value.int .i64 z.2]:=by
 obtain⟨v,c,rfl,h1,u,rfl,h2⟩:=h;have h1:v= .int .i64 z.1:=h1;have h2:u= .int .i64 z.2:=h2;rw[h1,h2]
theorem Yk {F:Fz} (w:World) (p q:Int×Int) (c1 c2:List Value) (hp:0<=p.1/\p.1<=1000000000000) (hq:0<=q.1/\q.1<=1000000000000) (h1:dX w F [.int .i64,.int .i64] p c1) (h2:dX w F [.int .i64,.int .i64] q c2):
 Calls Tryz.prog 136 #[.agg c1.toArray,.agg c2.toArray] w λ e w'=>e= .returned (.int .i64 (p.1-q.1))/\ ∃q os',w'=grow (w.drewN q) os':=by
 rw[adN _ _ h1,adN _ _ h2];exact adM w _ _ _ _ (Go.Bk.wrap_small Ω Ω)
theorem Uh:AM.Good Tryz.prog prg.glob aik CY:=by
 refine TD (es:=[.int .i64,.int .i64]) (c:=136) ⟨_,Tryz.func135,Ψ,Ψ⟩ (λ(x y:List (Int×Int)) h w F b cap cur et hb hle hcm hsz hel hF hfz=> ?_) (λ(y:List (Int×Int)) h=> ?_)
 ·have hxl:x.length<4611686018427387904/\(∀p∈x,(0<=p.1/\p.1<=1000000000000)/\ ∀q∈x,p.1=q.1->p.2=q.2)/\y=He (λ p q=>decide (p.1<=q.1)) x:=by
   unfold CY at h;simp only[cond_eq_ite,aae,decide_eq_true_eq,aaV,abT,abw,decide_eq_false_iff_not]at h;split at h
   ·rename_i hl;have:=eG;exact⟨Ω,λ p hp=>⟨(hl.2 p hp).1,λ q hq e=>((hl.2 p hp).2 q hq).resolve_left λ n=>n e⟩,(aak h).symm⟩
   ·cases h
  obtain⟨hxl,hx3,hy⟩:=hxl;by_cases hx:x= []
  ·subst hx;have hy:y= []:=hy;subst hy;refine(AnyF.slices_SortFunc_none Tryz.ahi (some ⟨b,0,none⟩) cap (.func (.func 136) #[] #[]) w).mono ?_;rintro e w' ⟨rfl,rfl⟩;exact⟨rfl,cur,rfl,hel,rfl,rfl,rfl,rfl,aaw _,hb,λ _ _ _=>rfl⟩
  ·refine sortK (es:=[.int .i64,.int .i64]) Tryz.ahi Ξ Tryz.isAgg114 Tryz.sizeOf114 (c:=136) (enters_of Tryz.func136 Ψ rfl) hx hxl (cmp:=λ a b:Int×Int=>a.1-b.1) (afU adE λ i:Fin x.length=>(x[i]).1) (λ w F i j c1 c2 h1 h2 hf=>Yk w _ _ c1 c2 (hx3 _ (aaf i.isLt)).1 (hx3 _ (aaf j.isLt)).1 h1 h2) (λ z hz hp=> ?_) hb hle hsz (IE (es:=[.int .i64,.int .i64]) x _ hel) hel hF hfz
   ·rw[hy];exact afp x z (λ p hp q hq e=>(hx3 p hp).2 q hq e) hz hp
 ·have hy:y= []:=(aak (show some ([]:List (Int×Int))=some y from h)).symm;exact⟨hy,λ w=>AnyF.slices_SortFunc_none Tryz.ahi none 0 (.func (.func 136) #[] #[]) w⟩
theorem KW {w:World} {A:Option Addr} {c:Nat} {x:List Int} (hx:x.length<=ay) (h:x= []\/ ∃b off,A=some ⟨b,off,none⟩/\ ∀j,j<x.length->w.cell? ⟨b,off+j,none⟩=(x.map (Value.int .i64))[j]?):
 Calls Tryz.prog 116 #[.slice A x.length c] w λ e w'=> ∃v',e= .returned v'/\w'.ownsRow w.heap.size 3 1 v' x.length (x.map (Value.int .i64))/\RowKit.Below w.heap.size w w':=by
 have hm:=eG;rcases h with rfl|⟨b,off,rfl,hc⟩
 ·cases A with
  |none=>
   refine(Any.slices_Clone_int_nil Tryz.laysNm215 0 c w).mono ?_;rintro e w' ⟨rfl,rfl⟩;exact⟨_,rfl,World.ownsRow_nil _ _ _ _,RowKit.Below.refl _ _⟩
  |some a=>
   refine(Any.slices_Clone_int_zero Tryz.laysNm215 a c w).mono ?_;rintro e w' ⟨v',rfl,h1,_,h2⟩;exact⟨_,rfl,h1,h2⟩
 ·have hcell: ∀j,j<x.length->w.cell? ⟨b,off+j,none⟩=some (.int .i64 (x.getD j 0)):=λ j hj=>by
   rw[hc j hj,aau,abg,aac hj];rfl
  refine(Any.slices_Clone_int Tryz.laysNm215 b off x.length c x w (aaw _) Ω hcell).mono ?_;rintro e w' ⟨v',rfl,h1,_,h2⟩;rw[aar]at h1;exact⟨_,rfl,h1,h2⟩
theorem Xt:AM.Good Tryz.prog prg.glob ajo KU:=by
 intro(x:List Int) (r:List Int) hx
 have hr:x.length<=ay/\r=x:=by
  unfold KU at hx;simp only[cond_eq_ite,decide_eq_true_eq]at hx;split at hx
  ·rename_i h;exact⟨h,(aak hx).symm⟩
  ·cases hx
 obtain⟨hxl,rfl⟩:=hr;refine⟨⟨_,Tryz.func116,Ψ,Ψ⟩,λ w g vals hE hglob hown hfz hfr=> ?_⟩;obtain⟨v,ws,rfl,⟨hag,u,us,hu,hp,rfl⟩,_,rfl⟩:=hE;rw[aH hag]at hu;obtain⟨rfl,_⟩:=abJ hu;obtain⟨A,c,rfl,hlc,hA⟩:=hp
 have hcl:=KW (w:=w) (A:=A) (c:=c) (x:=r) hxl (by
  rcases hA with h0|⟨⟨b,off,sp⟩,cs,rfl,hsp,hrow,hel⟩
  ·exact .inl (aav h0)
  ·have hsp:sp=none:=hsp;subst hsp;have hcs:cs=r.map (Value.int .i64):=(zl (enc:=Value.int .i64) (Qm (w:=w) (F:=g.F)) r cs).1 hel;subst hcs;exact .inr ⟨b,off,rfl,λ j hj=>(hrow j (by rw[aaH];exact hj)).1⟩)
 refine hcl.mono ?_;rintro e w' ⟨v',rfl,h1,h2⟩;obtain⟨g',_,_,_,hb,hv⟩:=born hown hfz hfr (es:=[.int .i64]) h1 (Qn r) rfl h2;exact⟨v',g',rfl,hb,hv,trivial,λ i want j sh u hi=>by rcases i with _|i<;>simp[ajo]at hi⟩
theorem RJ:AM.Good Tryz.prog prg.glob agw zS:=by
 intro(x:List Int) (r:List Int×List Int) hx
 have hr:x.length<=ay/\r=(x,x):=by
  unfold zS at hx;simp only[cond_eq_ite,decide_eq_true_eq]at hx;split at hx
  ·rename_i h;exact⟨h,(aak hx).symm⟩
  ·cases hx
 obtain⟨hxl,rfl⟩:=hr;refine⟨⟨_,Tryz.func116,Ψ,Ψ⟩,λ w g vals hE hglob hown hfz hfr=> ?_⟩;obtain⟨v,ws,rfl,⟨hag,u,us,hu,hp,rfl⟩,_,rfl⟩:=hE;rw[aH hag]at hu;obtain⟨rfl,_⟩:=abJ hu;have hp:zK w g (.tm 0 0) false (.sl [.int .i64]) x v:=hp
 have hv0: ∃A c,v= .slice A x.length c/\(x= []\/ ∃b off,A=some ⟨b,off,none⟩/\ ∀j,j<x.length->w.cell? ⟨b,off+j,none⟩=(x.map (Value.int .i64))[j]?):=by
  rcases hp with⟨rfl,h0⟩|⟨b,c,cur,et,rfl,_,_,_,hb,_,hel,_⟩
  ·have hx0:x= []:=aav h0;subst hx0;exact⟨none,0,rfl,.inl rfl⟩
  ·refine⟨_,c,rfl,.inr ⟨b,0,rfl,λ j hj=> ?_⟩⟩;have hel:=(zl (enc:=Value.int .i64) (Qm (w:=w) (F:=g.F)) x _).1 hel;have h1:=congrArg (λ l=>l[j]?) hel;simp only[aan]at h1;rw[if_pos (show j<aP (.sl [.int .i64]) x*(Sh.sl [.int .i64]).n from Nat.lt_of_lt_of_eq hj (abX _).symm),aaW]at h1;rw[aa2,cell_of_heap hb];exact h1
 obtain⟨A,c,rfl,hA⟩:=hv0;refine(KW (w:=w) (A:=A) (c:=c) hxl hA).mono ?_;rintro e w' ⟨v',rfl,h1,h2⟩;obtain⟨g',hF,_,hne,hb,hv⟩:=born hown hfz hfr (es:=[.int .i64]) h1 (Qn x) rfl h2;have hfr2:Fr (λ _=>True) w w' g g':=⟨⟨λ b o h=>by rw[hF];exact h,hb.keeps.cell⟩,λ b ow _ e=>⟨by rw[hne b (hown b ow e)];exact e,h2.block b (hown b ow e),λ o h=>by rw[hF]at h;exact h⟩⟩;refine⟨v',g',rfl,hb,hv,⟨⟨_,rfl,rfl,_,[],rfl,?_,rfl⟩,trivial⟩,λ i want j sh u hi=>by rcases i with _|i<;>simp[agw]at hi⟩;show zK _ _ _ _ _ _ _;exact(qg rfl).2 (((qg rfl).1 hp).fr hfr2 trivial)
theorem afD: ∀(f u:Nat),u<10^(f+1)->(Lib.decDigits u).map (λ b:UInt8=>(b.toNat:Int))=EJ f u
 |0,u,h=>by
  have h:u<10:=by simpa using h
  rw[Lib.decDigits_one h];have:(48+u) % 256=48+u:=by omega
  simp[EJ,this,Nat.mod_eq_of_lt h]
 |f+1,u,h=>by
  unfold EJ;by_cases h10:u<10
  ·rw[Lib.decDigits_one h10];have:(48+u) % 256=48+u:=by omega
   have hb:Nat.blt u 10=true:=by simpa [Nat.blt_eq]using h10
   simp[hb,this]
  ·have hb:Nat.blt u 10=false:=by rw[←ab6,Nat.blt_eq];exact h10
   rw[Lib.decDigits,dif_neg h10,hb,cond_false,abt,afD f (u/10) (by
    rw[acZ]at h;exact Nat.div_lt_of_lt_mul Ω)]
   have:(48+u % 10) % 256=48+u % 10:=by omega
   simp[this]
theorem GN {u:Nat} (h:u<18446744073709551616):Lib.byteCells (Lib.decDigits u)=(EJ 20 u).map (Value.int .u8):=by
 rw[←afD 20 u (Nat.lt_trans h Ξ),abM];rfl
theorem XM {u:Nat} (h1:1<=u) (h2:u<18446744073709551616) (w:World) (ht: ∀i,i<20->w.cell? ⟨2,i,none⟩=some (.int .u64 ((10^i:Nat):Int))):
 Calls Tryz.prog 199 #[.int .u64 u] w λ e w'=>e= .returned (.int .i64 (Lib.nDigits u))/\w'=w:=by
 obtain⟨hnd,h19⟩:=Lib.numDigits_eq u h1 h2;have hL:Lib.bitLen u<=64:=Lib.bitLen_le u 64 (aaw _) h2;have hcell:=ht (Lib.l10 (Lib.bitLen u)) Ω;have hto:((u:Int)).toNat=u:=by omega
 generalize hq:Lib.l10 (Lib.bitLen u)=q at hnd h19 hcell;generalize hT:10^q=T at hnd hcell;have h20:q<20:=by omega
 have Hnd:=Lib.hid hnd;clear hnd ht
 go_enter Tryz.func199,Tryz.ntmps199
 go_wp2_with (first
  |(go_at_call 163;refine(Any.bits_Len64 {Tryz.laysM284 with} _ _ Ω Ω).mono ?_;rintro e w' ⟨rfl,rfl⟩)
  |(go_at_call 209;refine(Any.internal_strconv_log10Pow2 {Tryz.laysM284 with} _ (by first|exact hL|(rw[hto];exact hL)) _).mono ?_;rintro e w' ⟨rfl,rfl⟩)
  |(go_at_call 210;refine(Any.internal_strconv_bool2_int {Tryz.laysM284 with} _ _).mono ?_;rintro e w' ⟨rfl,rfl⟩))
 all_goals go_ret
 all_goals (
  refine⟨?_,rfl⟩;have hnd:=Hnd.out;congr 2;split at hnd<;>simp_all<;>omega)
theorem Xq {w w2:World} {F0:Fz} {X:Nat->Prop} {g:Gh} (h:Base w F0 X w g) (hB:RowKit.Below w.heap.size w w2):Base w F0 X w2 g/\Fr (λ _=>True) w w2 g g:=by
 have hk:Keeps w w2 g.F g.F:=⟨λ _ _ h=>h,λ b o hf=>by simp only[World.cell?,hB.block b (h.fz b o hf).2]⟩
 exact⟨⟨hB.os,hB.tape,hB.output,hB.size,λ b hb _=>hB.block b hb,λ b ow e=>⟨(h.own b ow e).1,abp (h.own b ow e).2 hB.size⟩,h.keeps.trans hk,λ b o hf=>⟨(h.fz b o hf).1,abp (h.fz b o hf).2 hB.size⟩,λ b ow cs t f e hc=>by
  rw[hB.block b (h.own b ow e).2]at hc;exact h.frz b ow cs t f e hc⟩,hk,λ b ow _ e=>⟨e,hB.block b (h.own b ow e).2,λ _ h=>h⟩⟩
theorem RD: ∃i,Tryz.prog.info? 5=some i/\i.zero=some (.int .u8 0)/\i.size=1/\i.bytes=1:=info_parts Ψ
def ajc (w:World) (F0:Fz) (X:Nat->Prop) (y:List Int):Ending->World->Prop:=λ e w'=> ∃v' g',e= .returned v'/\Base w F0 X w' g'/\Fg w' g' .hand 0 false [⟨.sl [.int .u8],.own,y⟩] v'
section
variable {w:World} {F0:Fz} {X:Nat->Prop} {g:Gh} {x:List Int} {v:Value} {u:Nat}
theorem Yh (hb:Base w F0 X w g) (ho:zK w g (.hand 0) false (.sl [.int .u8]) x v) (hu:u<100) (hx:x.length<=2000000000):
 Calls Tryz.prog 171 #[v,.int .u64 u,.int .i64 10] w (ajc w F0 X (x++EJ 20 u)):=by
 obtain⟨i,hi,hz,hs,hy⟩:=RD;have hm:=eG;have hl:=KY 20 u
 have hsrc:Src Tryz.prog 1 9 (.string ⟨(Lib.decDigits u).toArray⟩) (EJ 20 u).length ((EJ 20 u).map (Value.int .u8)) w:=by
  have h1:=Src.ofString (w:=w) (P:=Tryz.prog) Tryz.underlying9 ⟨(Lib.decDigits u).toArray⟩;have h2:byteCells ⟨(Lib.decDigits u).toArray⟩=(EJ 20 u).map (Value.int .u8):=GN (Nat.lt_trans hu Ξ);rw[h2]at h1
  have h3:(⟨(Lib.decDigits u).toArray⟩:ByteArray).size=(EJ 20 u).length:=by
   have:=congrArg List.length h2;rw[byteCells_length,aaH]at this;exact this
  rw[h3]at h1;exact h1
 obtain⟨v',w3,g3,hrun,hb3,hv3⟩:=Rx (P:=Tryz.prog) hb ho (ty:=110) Tryz.underlying110 hi hz hs rfl Ω Ω hsrc;clear ho hb hsrc
 go_enter Tryz.func171,Tryz.ntmps171
 go_wp2_with (first
  |(go_at_call 198;refine(Any.internal_strconv_small Tryz.lays283 u hu _).mono ?_;rintro e w' ⟨rfl,rfl⟩)
  |(at_builtin;refine PN rfl _ _ _ _ rfl hrun ?_))
 go_ret
 exact⟨v',g3,rfl,hb3,hv3⟩
theorem afo (hb:Base w F0 X w g) (ho:zK w g (.hand 0) false (.sl [.int .u8]) x v) (hu: ¬u<100) (hu64:u<18446744073709551616) (hx:x.length<=2000000000) (ht: ∀i,i<20->w.cell? ⟨2,i,none⟩=some (.int .u64 ((10^i:Nat):Int))):
 Calls Tryz.prog 171 #[v,.int .u64 u,.int .i64 10] w (ajc w F0 X (x++EJ 20 u)):=by
 obtain⟨i,hi,hz,hs,hy⟩:=RD;have hm:=eG;have hl:=KY 20 u;have hu1:1<=u:=by omega
 have hnd20:Lib.nDigits u<=20:=by have:=Lib.numDigits_eq u hu1 hu64;split at this<;>omega
 have hnl:Lib.nDigits u=(EJ 20 u).length:=by
  have:=congrArg List.length (GN hu64)
  rwa [Lib.byteCells_length,Lib.decDigits_length,aaH]at this
 have hsl: ∀W,(Instr.sliceAt 211 (.pointer (some ⟨w.heap.size,0,none⟩)) none (some (.int .i64 (Lib.nDigits u:Int))) none).run Tryz.prog W= .ok (.slice (some ⟨w.heap.size,0,none⟩) (Lib.nDigits u) 24) W:=λ W=>by
  have hal:Tryz.prog.arrayLen 211=24:=Ψ
  rw[run_sliceAt_array_h W 211 ⟨w.heap.size,0,none⟩ Ψ .i64 (Lib.nDigits u:Int) Ω (by rw[hal];omega),hal,show Tryz.prog.elem 211=5 by kernel_rfl,Tryz.sizeOf5];simp[slicedAt,Lib.add_plain]
 have hfmt:=Any.internal_strconv_formatBase10 Tryz.lays285 w.heap.size 0 24 u (Array.replicate (Lib.nDigits u) 0) (w.alloc (.cells Lib.zeros24 211)) (Lib.holds_zero0 w 211 (Lib.nDigits u) Ω) (by rw[acC];exact Lib.lt_pow_nDigits u) hu64 (by rw[acC];omega);have hH0:=Lib.hid (Lib.holds_zero0 w 211 (Lib.nDigits u) Ω);rw[acC]at hfmt
 have htA: ∀i,i<20->(w.alloc (.cells Lib.zeros24 211)).cell? ⟨2,i,none⟩=some (.int .u64 ((10^i:Nat):Int)):=λ i hi=>by
  have h1:=ht i hi
  have hlt:2<w.heap.size:=by
   unfold World.cell? at h1;split at h1
   ·rename_i hh;exact lt_of_heap hh
   ·cases h1
  rw[←h1];simp only[World.cell?,nM hlt]
 have hnum:=Lib.hid (XM hu1 hu64 _ htA);have Hnl:=Lib.hid hnl;have Hb:=Lib.hid hb;have Ho:=Lib.hid ho;have iu:(100:Int)<=(u:Int):=by omega
 clear hb ho ht htA hnl
 go_enter Tryz.func171,Tryz.ntmps171
 go_wp2_with (go_at_call 199;refine hnum.out.mono ?_;rintro e w' ⟨rfl,rfl⟩)
 go_at_call 200
 refine hfmt.mono ?_;rintro e w' ⟨rfl,k,v',dk,rfl,hF⟩
 have hcells: ∀j z,(Lib.byteCells (Lib.decDigits u))[j]? =some z->((putRow (λ(b:UInt8)=>Value.int .u8 (b.toNat:Int)) (w.alloc (.cells Lib.zeros24 211)) w.heap.size 0 dk).drewN k).cell? ((⟨w.heap.size,0,none⟩:Addr).add j)=some z:=by
  intro j z hj;obtain⟨h5,rfl⟩:=aad.1 hj;have hjl:j<(Lib.decDigits u).length:=by rwa [Lib.byteCells_length]at h5
  have hjn:j<Lib.nDigits u:=by rwa [Lib.decDigits_length]at hjl
  have e5:(Lib.byteCells (Lib.decDigits u))[j]=Value.int .u8 ((Lib.decDigits u)[j].toNat:Int):=by simp[Lib.byteCells]
  rw[e5,Lib.row_is_numeral hF j hjl,Lib.add_plain,World.cell?_drewN];exact cell?_putRow (λ(b:UInt8)=>Value.int .u8 (b.toNat:Int)) _ w.heap.size 0 _ dk hH0.out (by rw[hF.size,acC]) j (by rw[hF.size];exact hjn)
 obtain⟨os,eo⟩:=Lib.fin_at w (.cells Lib.zeros24 211) dk k 0;have hB:RowKit.Below w.heap.size w ((putRow (λ(b:UInt8)=>Value.int .u8 (b.toNat:Int)) (w.alloc (.cells Lib.zeros24 211)) w.heap.size 0 dk).drewN k):=by rw[eo];exact Lib.below_grow w.heap.size w (aaw _) k os
 generalize (putRow (λ(b:UInt8)=>Value.int .u8 (b.toNat:Int)) (w.alloc (.cells Lib.zeros24 211)) w.heap.size 0 dk).drewN k=W2 at hcells hB ⊢;have hl2:(Lib.byteCells (Lib.decDigits u)).length=(EJ 20 u).length*1:=by rw[GN hu64,aaH,abX]
 have hsrc:Src Tryz.prog 1 110 (.slice (some ⟨w.heap.size,0,none⟩) (EJ 20 u).length 24) (EJ 20 u).length ((EJ 20 u).map (Value.int .u8)) W2:=by
  have h1:=Src.ofSlice (w:=W2) (P:=Tryz.prog) (size:=1) Tryz.underlying110 ⟨w.heap.size,0,none⟩ (EJ 20 u).length 24 (Lib.byteCells (Lib.decDigits u)) hl2 hcells (λ z hz=>by simp only[Lib.byteCells,aaC]at hz;obtain⟨_,_,rfl⟩:=hz;rfl);rw[GN hu64]at h1;exact h1
 obtain⟨hb2,hf2⟩:=Xq Hb.out hB;have ho2:zK W2 g (.hand 0) false (.sl [.int .u8]) x v:=(qg rfl).2 (((qg rfl).1 Ho.out).fr hf2 trivial);obtain⟨v2,w3,g3,hrun,hb3,hv3⟩:=Rx (P:=Tryz.prog) hb2 ho2 (ty:=110) Tryz.underlying110 hi hz hs rfl Ω Ω hsrc;rw[←Hnl.out]at hrun;clear hsrc ho2 hb2 hf2 hcells hB eo hfmt
 go_wp2_with (at_builtin;refine PN rfl _ _ _ _ rfl hrun ?_)
 go_ret
 exact⟨v2,g3,rfl,hb3,hv3⟩
end
theorem adJ:AM.Good Tryz.prog prg.glob ajp ru:=by
 intro(x:List Int×Int×Int) (r:List Int) hx;obtain⟨x,z,b⟩:=x
 have hr:b=10/\0<=z/\z<18446744073709551616/\x.length<=2000000000/\r=x++EJ 20 z.toNat:=by
  unfold ru at hx;simp only[cond_eq_ite,aae,decide_eq_true_eq]at hx;split at hx
  ·rename_i h;exact⟨h.1.1.1,h.1.1.2,h.1.2,h.2,(aak hx).symm⟩
  ·cases hx
 obtain⟨rfl,hz0,hz1,hxl,rfl⟩:=hr;obtain⟨u,rfl⟩: ∃u:Nat,z=u:=⟨z.toNat,Ω⟩;refine⟨⟨_,Tryz.func171,Ψ,Ψ⟩,λ w g vals hE hglob hown hfz hfr=> ?_⟩;obtain⟨v,ws,rfl,⟨hag,p,us,hu,hp,rfl⟩,v2,ws2,rfl,⟨hag2,p2,us2,hu2,hp2,rfl⟩,v3,ws3,rfl,⟨hag3,p3,us3,hu3,hp3,rfl⟩,_,rfl⟩:=hE;rw[aH hag]at hu;rw[aH hag2]at hu2;rw[aH hag3]at hu3;obtain⟨rfl,_⟩:=abJ hu;obtain⟨rfl,_⟩:=abJ hu2;obtain⟨rfl,_⟩:=abJ hu3;have hp:zK w g (.tm 0 0) false (.sl [.int .u8]) x v:=hp;have hp2:v2= .int .u64 u:=hp2;have hp3:v3= .int .i64 10:=hp3;subst hp2 hp3
 let g1:Gh:={g with own:=λ k=>if blk v=some k then some (.hand 0)else none}
 have hbl: ∀k,blk v=some k->g.own k=some (.tm 0 0):=λ k hk=>((qg rfl).1 hp).nC hk
 have hs1: ∀k ow,g1.own k=some ow->blk v=some k:=λ k ow e=>by
  by_cases h:blk v=some k
  ·exact h
  ·have e:(if blk v=some k then some (aF.hand 0)else none)=some ow:=e;rw[if_neg h]at e;cases e
 have hb:Base w g.F (λ k=> ∃ow,g.own k=some ow) w g1:=⟨rfl,rfl,rfl,aaw _,λ _ _ _=>rfl,λ k ow e=>⟨.inl ⟨_,hbl k (hs1 k ow e)⟩,hown k _ (hbl k (hs1 k ow e))⟩,Keeps.refl _ _,λ k o hf=>⟨.inl hf,hfz k o hf⟩,λ k ow cs t f e hc=>hfr k _ cs t f (hbl k (hs1 k ow e)) hc⟩;have ho:zK w g1 (.hand 0) false (.sl [.int .u8]) x v:=(qg rfl).2 (wZ.owner (g:=g) (g':=g1) rfl (λ k hk=>if_pos hk) ((qg rfl).1 hp))
 have ht: ∀i,i<20->w.cell? ⟨2,i,none⟩=some (.int .u64 ((10^i:Nat):Int)):=by
  obtain⟨_,vs,hrow,hcs⟩:=hglob 2 _ rfl;intro i hi;have hl:=hcs.length;have hl:vs.length=20:=hl;have h1:=(hrow i Ω).1;rw[aa2]at h1
  obtain⟨z,hz,hr⟩:=hcs.get _ _ _ i ⟨.int .u64,.pure,((10^i:Nat):Int)⟩ (by
   have: ∀i,i<20->(Zc 2).bind (λ l=>l[i]?)=some ⟨.int .u64,.pure,((10^i:Nat):Int)⟩:=by
    intro i hi
    match i,hi with
    |0,_=>rfl
    |1,_=>rfl
    |2,_=>rfl
    |3,_=>rfl
    |4,_=>rfl
    |5,_=>rfl
    |6,_=>rfl
    |7,_=>rfl
    |8,_=>rfl
    |9,_=>rfl
    |10,_=>rfl
    |11,_=>rfl
    |12,_=>rfl
    |13,_=>rfl
    |14,_=>rfl
    |15,_=>rfl
    |16,_=>rfl
    |17,_=>rfl
    |18,_=>rfl
    |19,_=>rfl
    |n+20,h=>exact absurd h Ω
   exact this i hi)
  have hr:z= .int .u64 ((10^i:Nat):Int):=hr;rw[h1,hz,hr]
 have hC:Calls Tryz.prog 171 #[v,.int .u64 u,.int .i64 10] w (ajc w g.F (λ k=> ∃ow,g.own k=some ow) (x++EJ 20 u)):=by
  by_cases hu:u<100
  ·exact Yh hb ho hu hxl
  ·exact afo hb ho hu Ω hxl ht
 refine hC.mono ?_;rintro e w' ⟨v',g',rfl,h1,h2⟩;exact⟨v',g',rfl,h1,h2,trivial,λ i want j sh u hi=>by rcases i with _|_|_|i<;>simp[ajp]at hi⟩
end Go.Proofs.YtdchbjmbgecejaaGreatDoor.Am
end
