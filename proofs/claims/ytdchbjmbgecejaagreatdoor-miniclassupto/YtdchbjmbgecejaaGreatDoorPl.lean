import Derived.Test.YtdchbjmbgecejaaGreatDoorPe
import Derived.Test.YtdchbjmbgecejaaGreatDoorCards
import Derived.Test.YtdchbjmbgecejaaGreatDoorTie
import Derived.Test.YtdchbjmbgecejaaGreatDoorMd
import Derived.Deep.DeepHandedRow
import Derived.Deep.DeepWitnessRowRef
import Derived.Lib.LaidTab
set_option linter.unusedVariables false
noncomputable section
namespace Go.Proofs.YtdchbjmbgecejaaGreatDoor.Am
open Go Go.AM Go.RowKit Go.ChangeShapes
set_option maxRecDepth 100000
theorem good (n i:Nat):AM.Good Tryz.prog prg.glob (prg.spec i).sig (prg.run n i):=Xc prg ajT mixed (λ i _=>ajn i) (λ i=>Hr (p:=λ c=> ∀e,c.ext=some e->AM.Good Tryz.prog prg.glob c.sig e) (by intro e h;cases h) NP (by
 intro x d e h;simp only[NP,aaU,acL,or_false]at d;rcases d with rfl|rfl|rfl|rfl|rfl|rfl|rfl|rfl|rfl|rfl|rfl|rfl|rfl|rfl|rfl|rfl|rfl|rfl|rfl|rfl|rfl|rfl|rfl|rfl|rfl|rfl|rfl|rfl|rfl|rfl|rfl|rfl|rfl|rfl|rfl|rfl|rfl|rfl|rfl|rfl|rfl|rfl|rfl|rfl|rfl|rfl|rfl|rfl|rfl|rfl|rfl|rfl|rfl|rfl|rfl|rfl|rfl|rfl|rfl|rfl|rfl|rfl|rfl|rfl|rfl|rfl|rfl|rfl|rfl|rfl|rfl|rfl|rfl|rfl|rfl|rfl|rfl|rfl|rfl|rfl|rfl|rfl|rfl|rfl|rfl|rfl|rfl|rfl|rfl|rfl|rfl|rfl|rfl|rfl|rfl|rfl|rfl|rfl|rfl|rfl|rfl|rfl|rfl|rfl|rfl|rfl|rfl|rfl|rfl|rfl|rfl|rfl|rfl
 all_goals first|(cases h;done)|(obtain rfl:=(aak h).symm;first|exact Xt|exact RJ|exact adJ|exact ado|exact QU|exact Uh)) i) n i
theorem P8 {H:Type}: ∀l:List (DataW H),sumW Rows.uptoBulk l=Rows.uptoBulkAll l
 | []=>rfl
 |d::l=>by simp only[sumW,Rows.uptoBulkAll,P8 l]
theorem ah8 {H:Type}:V5 (Rows.uptoBulk (H:=H)):=by
 refine⟨λ l=> ?_,λ b=> ?_,?_,λ es d=> ?_,λ ps=> ?_⟩
 ·cases l<;>simp[Rows.uptoBulk]
 ·simp[Rows.uptoBulk]
 ·simp[Rows.uptoBulk]
 ·rw[P8];simp only[Rows.uptoBulk];omega
 ·rw[P8];simp only[Rows.uptoBulk];omega
theorem own:ownKnob Tryz.prog.godebug=none:=Ψ
theorem gAl:Tryz.prog.globalNamed "boskage/boskagelaw07.al" =some 0:=Ψ
theorem agx:(Tryz.prog.globals[0]?).map (·.type)=some 24:=Ψ
theorem gTab:Tryz.prog.globalNamed "internal/strconv.uint64pow10" =some 2:=Ψ
theorem aeo:(Tryz.prog.globals[2]?).map (·.type)=some 224:=Ψ
theorem laidOut:laidOutB Tryz.prog=true:=Ψ
theorem aip {w:World} {g:Gh} {mk:Nat->aF} {k:IntKind}: ∀(zs:List Int) (i:Nat),aC w g mk i (zs.map λ z=>⟨.int k,.pure,z⟩) (zs.map (Value.int k))
 | [],_=>rfl
 |z::zs,i=>⟨_,_,rfl,rfl,aip zs (i+1)⟩
theorem aiq {k:IntKind}: ∀zs:List Int,bI (zs.map λ z=>(⟨.int k,.pure,z⟩:CV))=true
 | []=>rfl
 |z::zs=>aiq (k:=k) zs
theorem afW {n:String} {e:Nat} {cs:Array Value} {W:World} (f:Tryz.prog.globalNamed n=some e) (h:W.var? Tryz.prog n=some cs) {o:Nat} {v:Value} (hv:cs[o]? =some v):W.cell? ⟨e,o,none⟩=some v/\e<W.heap.size:=by
 have d:=World.var?_cell f h o;rw[hv]at d;refine⟨d,?_⟩;unfold World.cell? at d;split at d
 ·rename_i g;exact(abz.1 g).1
 ·cases d
theorem ail {W:World} (h:laidMetH Tryz.prog Rows.miniClassUptoRow.laid W):Rj prg.glob W (zI λ b _=>b<W.heap.size):=by
 obtain⟨ps,⟨_,_,_,_,_,_,_,_,_,_,⟨_,_,_,_,_,_,_,_,_,_,⟨g3,t3,e,A,p3,q3,B,C,f,D,⟨g',t',cs,S,p,q,E,G,i,Z,_,_⟩,_⟩,_⟩,_⟩,_⟩:laidMet Tryz.prog Rows.miniClassUptoRow.laid W:=h;obtain rfl:=aak (gTab.symm.trans B);obtain rfl:=aak (aeo.symm.trans C);obtain rfl:=aak (gAl.symm.trans E);obtain rfl:=aak (agx.symm.trans G);have I:e.toList=Lib.pow10Tab.map (Value.int .u64):=Lib.cells_of_tab (k:= .u64) (zs:=Lib.pow10Tab) Tryz.underlying224 Tryz.underlying180 Ψ Ψ D;obtain⟨xs,m,_,hx,hl,K,l⟩:=DataW.trod_struct Tryz.underlying24 Z
 match xs,K with
 | [x0],_=>
   have U:=l 0 _ rfl;simp only[aaO]at U
   have L:x0.1= .slice [.lit (.int .i64 0),.lit (.int .i64 0),.lit (.int .i64 2)] []:=by
    have:=congrArg Prod.fst hx;simp only[Rows.laid_boskage_boskagelaw07_al,abo,acP,DataW.agg.injEq,abk,and_true]at this;exact this.symm
   obtain⟨v,hv,M⟩:=Zk (zs:=[0,0,2]) Tryz.underlying22 Tryz.underlying3 Ψ U L Θ;have N:cs.toList.length=1:=by rw[hl];kernel_rfl
   obtain⟨u,Y⟩:=List.length_eq_one_iff.1 N
   have O:u=v:=by
    rw[Y]at hv
    have:([u].drop 0).take (Tryz.prog.cellsOf 22)= [u]:=by
     have:Tryz.prog.cellsOf 22=1:=Ψ
     rw[this];rfl
    exact(abJ (this.symm.trans hv)).1
   subst O;obtain⟨g,Q⟩:=afW gAl i (o:=0) (v:=u) (by rw[←aaW,Y];rfl);intro gl cells d;simp only[prg,Zc,cond_eq_ite]at d;split at d
   ·rename_i R;have:=aao R;subst this;cases d;refine⟨rfl,[u],λ j y=> ?_,⟨u,[],rfl,M,rfl⟩⟩;have:j=0:=by simpa using y
    subst this;exact⟨g,Q⟩
   ·split at d
    ·rename_i R;have:=aao R;subst this;have he:cells=Lib.pow10Tab.map λ z=>⟨.int .u64,.pure,z⟩:=(aak d).symm.trans Ψ;subst he;refine⟨aiq _,_,λ j y=> ?_,aip Lib.pow10Tab 0⟩;rw[←I]at y ⊢;have t:j<e.size:=by simpa using y
     obtain⟨h1,h2⟩:=afW gTab f (o:=j) (v:=e[j]) (aa8 t);exact⟨by rw[aa2,h1,aaW,aa8 t],h2⟩
    ·cases d
def akJ:DataW Unit->Value| .lit (.int k n)=> .int k n|_=>undef
def ajf:DataW Unit->Array Value| .agg ds=>(ds.map akJ).toArray|_=> #[]
def laidWorld (os:Os):World:=
 let N:=(World.settled Tryz.prog os).heap.size
 let w0:=World.holding Tryz.prog os ⟨#[.cells #[.int .i64 0,.int .i64 0,.int .i64 2] 3], #[],[]⟩
 let put (h:Array Obj) (i:Nat) (cs:Array Value):Array Obj:=h.modify i λ| .cells _ t frozen=> .cells cs t frozen|o=>o
 {w0 with heap:=put (put (put (put w0.heap 0 #[.slice (some ⟨N,0,none⟩) 3 3]) 2 (ajf Rows.laid_internal_strconv_uint64pow10)) 3 (ajf Rows.laid_math_bits_deBruijn32tab)) 4 (ajf Rows.laid_math_bits_deBruijn64tab)}
theorem laid_met (os:Os) (args:Array Value):laidMet Tryz.prog Rows.miniClassUptoRow.laid ((laidWorld os).forCall (λ _ _=>0) ⟨#[],args,[]⟩).memory:=
 laidMet_of_run' 8 Ψ Ψ
theorem RN (plain: ∀x:g6.In,wtA _ x<=1048576->Fv _ x-> ∃n,prg.run n 6 x=some true) (H:Type) (enc:TypeId×Value->H) (W:World) (base:Nat) (args:Array Value) (ds z:List (DataW H)) (f:List MemPlace)
 (l: ∀(j:Nat) t v,Tryz.f6.params[j]? =some t->args[j]? =some v->Value.okWide Tryz.prog W .any base t v)
 (A:DataW.Whole enc Tryz.prog Tryz.f6.params.toList Rows.miniClassSpec.vars false W args.toList ds z f) (C:Rows.uptoSmall H (ds++z)=true) (D:laidMetH Tryz.prog Rows.miniClassUptoRow.laid W):
 Calls Tryz.prog 6 args W λ e W'=> ∃v,e= .returned v/\Rows.miniClassSpec.post enc Tryz.prog Tryz.f6 false true false false W args v W':=by
 obtain⟨p,q,B,E,G,I,K⟩:=id A;obtain⟨m,_⟩:=trodVars_none E;subst m
 have g:sumW Rows.uptoBulk ds<=1048576:=by
  rw[P8];have:=of_decide_eq_true C
  rwa [aaM]at this
 obtain⟨x,L,M,N⟩:=aga (ty:=prg.ty) ajT akO ah8 (base:=base) (sig:=g6) Ψ (λ k t v u hv=>l k t v (by rw[←aaW];exact u) (by rw[←aaW];exact hv)) B;obtain⟨n,O⟩:=plain x (aaP M g) N;have Q:=ZG (good n 6) (x:=x) (r:=true) rfl rfl O rfl L (ail D);refine SB laidOut rfl Tryz.underlying4 ?_ rfl A (λ _=> ?_) Q
 ·intro t u
  have:t=24\/t=27\/t=44:=by
   have h:=(show Tryz.f6.params.toList= [24,27,44]from rfl)▸u;simpa using h
  rcases this with rfl|rfl|rfl<;>exact⟨Ψ,of_decide_eq_true Ψ⟩
 ·have R:ds.length=3:=by
   have y:Tryz.f6.params.toList.length=3:=rfl
   have S: ∀{ts:List TypeId} {i:List Value} {ds:List (DataW H)} {ps:List MemPlace},DataW.TrodAll enc Tryz.prog W 0 (λ _=>true) true ts i ds ps->ds.length=ts.length:=by
    intro ts
    induction ts with
    |nil=>intro i ds ps h;cases i<;>cases ds<;>simp_all [DataW.TrodAll]
    |cons t ts U=>
     intro i ds ps h
     cases i with
     |nil=>simp[DataW.TrodAll]at h
     |cons v i=>
      cases ds with
      |nil=>simp[DataW.TrodAll]at h
      |cons d ds=>
       obtain⟨_,_,_,y,_⟩:=h;simp[U y]
   rw[S B,y]
  match ds,R with
  | [Y,Z,d3],_=>rfl
theorem YT (os:Os) {H:Type} (enc:TypeId×Value->H): ∃ps,DataW.whole enc Tryz.prog ((laidWorld os).forCall (λ _ _=>0) ⟨#[], #[.agg #[.slice none 0 0],.agg #[.int .i64 0,.slice none 0 0,.slice none 0 0],.agg #[.int .i64 0,.slice none 0 0]],[]⟩).memory Tryz.f6.params.toList Rows.miniClassSpec.vars false #[Value.agg #[.slice none 0 0],.agg #[.int .i64 0,.slice none 0 0,.slice none 0 0],.agg #[.int .i64 0,.slice none 0 0]].toList 8=
 some ([.agg [.nil],.agg [.lit (.int .i64 0),.nil,.nil],.agg [.lit (.int .i64 0),.nil]],[],ps):=⟨[],Ψ⟩
theorem Xu (plain: ∀x:g6.In,wtA _ x<=1048576->Fv _ x-> ∃n,prg.run n 6 x=some true) (os:Os) (d:os.Started) (H:Type) (enc:TypeId×Value->H) (F:Stop.Interp):
 ReturnsInHanded {} Tryz.checked os 6 .any ((Rows.OpenSpec.upto Rows.miniClassSpec).preRow enc Tryz.prog Tryz.f6 Rows.miniClassUptoRow.domain false Rows.miniClassUptoRow.laid) (((Rows.OpenSpec.upto Rows.miniClassSpec).at F).post enc Tryz.prog Tryz.f6 false true false false):=by
 obtain⟨ps,i⟩:=YT os enc
 refine returnsInHanded_of_row (C:=Tryz.checked) (s:=Rows.OpenSpec.upto Rows.miniClassSpec) own d Ψ Tryz.func6
  (witness_row_atRef (enc:=enc) (C:=Tryz.checked) false (laidWorld os) #[.agg #[.slice none 0 0],.agg #[.int .i64 0,.slice none 0 0,.slice none 0 0],.agg #[.int .i64 0,.slice none 0 0]] rfl Ψ Ψ Ψ
   (OpenSpec.preRow_of_cond 8 i Ψ (λ k l=>by cases l;kernel_rfl) Ψ (laid_met os _))) ?_
 intro W base args ds m e g p _ f _ q _ _;exact RN plain H enc W base args ds m e g p (f _ rfl) q
theorem aeh (plain: ∀x:g6.In,wtA _ x<=1048576->Fv _ x-> ∃n,prg.run n 6 x=some true):Rows.MiniClassUptoSaid:=
 OpenClaim.holds_of_cond 6 Tryz.f6 rfl rfl rfl rfl rfl rfl rfl ⟨rfl,rfl,rfl,rfl,rfl⟩ rfl rfl rfl rfl rfl Ψ Tryz.func6 Ψ
  (of_decide_eq_true Ψ) (by unfold Func.isWrapper;first|(rw[if_pos (by decide +kernel)];kernel_rfl)|(rw[if_neg (by decide +kernel)];exact⟨rfl,rfl⟩))
  (λ os d H enc _ F=>by rw[OpenClaim.pre_eq_preRow];exact Xu plain os d H enc F)
theorem YS (f:FuncId) (fn:Func) (g:Tryz.pinned.checked.prog.funcNamed "boskage/boskagelaw07.MiniClass" =some f) (d:Tryz.pinned.checked.prog.funcs[f]? =some fn):
 false=Tryz.pinned.checked.prog.looks []/\ ∀(j:Nat) t,fn.params[j]? =some t->Tryz.pinned.checked.prog.wantsStandIn t=false:=by
 obtain rfl:f=6:=aak ((show Tryz.prog.funcNamed "boskage/boskagelaw07.MiniClass" =some 6 by kernel_rfl).symm.trans g) |>.symm;obtain rfl:fn=Tryz.f6:=(aak (Tryz.func6.symm.trans d)).symm;refine⟨Ψ,λ j t e=> ?_⟩;rw[Tryz.params6]at e;have:t=24\/t=27\/t=44:=by simpa using Array.mem_of_getElem? e
 rcases this with rfl|rfl|rfl
 ·exact(show Tryz.prog.wantsStandIn 24=false by kernel_rfl)
 ·exact(show Tryz.prog.wantsStandIn 27=false by kernel_rfl)
 ·exact(show Tryz.prog.wantsStandIn 44=false by kernel_rfl)
theorem aef (plain: ∀x:g6.In,wtA _ x<=1048576->Fv _ x-> ∃n,prg.run n 6 x=some true):Rows.MiniClassUptoCardSaid:=
 Claim7.holds_tied_plain_at .later [] _ _ _ _ (aeh plain) (λ _ h=>by cases h) Ψ (λ _ h=>by cases h) miniClassUpto_row_tie rfl ⟨rfl,rfl⟩ Ψ rfl YS Ψ
end Go.Proofs.YtdchbjmbgecejaaGreatDoor.Am
end
