import Derived.Test.YtdchbjmbgecejaaGreatDoorPe
import Derived.Test.YtdchbjmbgecejaaGreatDoorCards
import Derived.Test.YtdchbjmbgecejaaGreatDoorTie
import Derived.Test.YtdchbjmbgecejaaGreatDoorMd
import Derived.Deep.DeepHandedRow
import Derived.Deep.DeepWitnessRowRef
import Derived.Lib.LaidTab
set_option linter.unusedVariables false
noncomputable section
namespace Go.Proofs.YtdchbjmbgecejaaGreatDoor.Am
open Go Go.AM Go.RowKit Go.ChangeShapes
set_option maxRecDepth 100000
theorem good (n i:Nat):AM.Good Tryz.prog prg.glob (prg.spec i).sig (prg.run n i):=VT prg ait mixed (λ i _=>ahX i) (λ i=>Ez (p:=λ c=> ∀e,c.ext=some e->AM.Good Tryz.prog prg.glob c.sig e) (by intro e h;cases h) Ky (by
 intro x hx e h;simp only[Ky,aaR,ab3,or_false]at hx;rcases hx with rfl|rfl|rfl|rfl|rfl|rfl|rfl|rfl|rfl|rfl|rfl|rfl|rfl|rfl|rfl|rfl|rfl|rfl|rfl|rfl|rfl|rfl|rfl|rfl|rfl|rfl|rfl|rfl|rfl|rfl|rfl|rfl|rfl|rfl|rfl|rfl|rfl|rfl|rfl|rfl|rfl|rfl|rfl|rfl|rfl|rfl|rfl|rfl|rfl|rfl|rfl|rfl|rfl|rfl|rfl|rfl|rfl|rfl|rfl|rfl|rfl|rfl|rfl|rfl|rfl|rfl|rfl|rfl|rfl|rfl|rfl|rfl|rfl|rfl|rfl|rfl|rfl|rfl|rfl|rfl|rfl|rfl|rfl|rfl|rfl|rfl|rfl|rfl|rfl|rfl|rfl|rfl|rfl|rfl|rfl
 all_goals first|(cases h;done)|(obtain rfl:=(aao h).symm;first|exact Wp|exact PZ|exact Zy|exact Zj|exact O9|exact Sl)) i) n i
theorem NP {H:Type}: ∀l:List (DataW H),sumW Rows.uptoBulk l=Rows.uptoBulkAll l
 | []=>rfl
 |d::l=>by simp only[sumW,Rows.uptoBulkAll,NP l]
theorem afU {H:Type}:Vf (Rows.uptoBulk (H:=H)):=by
 refine⟨λ l=> ?_,λ b=> ?_,?_,λ es sp=> ?_,λ ps=> ?_⟩
 ·cases l<;>simp[Rows.uptoBulk]
 ·simp[Rows.uptoBulk]
 ·simp[Rows.uptoBulk]
 ·rw[NP];simp only[Rows.uptoBulk];omega
 ·rw[NP];simp only[Rows.uptoBulk];omega
theorem own:ownKnob Tryz.prog.godebug=none:=by kernel_rfl
theorem gAl:Tryz.prog.globalNamed "boskage/boskagelaw07.al" =some 0:=by kernel_rfl
theorem aer:(Tryz.prog.globals[0]?).map (·.type)=some 24:=by kernel_rfl
theorem gTab:Tryz.prog.globalNamed "internal/strconv.uint64pow10" =some 2:=by kernel_rfl
theorem acS:(Tryz.prog.globals[2]?).map (·.type)=some 224:=by kernel_rfl
theorem laidOut:laidOutB Tryz.prog=true:=by kernel_rfl
theorem agm {w:World} {g:Gh} {mk:Nat->aH} {k:IntKind}: ∀(zs:List Int) (i:Nat),aF w g mk i (zs.map λ z=>⟨.int k,.pure,z⟩) (zs.map (Value.int k))
 | [],_=>rfl
 |z::zs,i=>⟨_,_,rfl,rfl,agm zs (i+1)⟩
theorem agn {k:IntKind}: ∀zs:List Int,bD (zs.map λ z=>(⟨.int k,.pure,z⟩:CV))=true
 | []=>rfl
 |z::zs=>agn (k:=k) zs
theorem ad5 {n:String} {gl:Nat} {cs:Array Value} {W:World} (hg:Tryz.prog.globalNamed n=some gl) (h:W.var? Tryz.prog n=some cs) {o:Nat} {v:Value} (hv:cs[o]? =some v):W.cell? ⟨gl,o,none⟩=some v/\gl<W.heap.size:=by
 have hc:=World.var?_cell hg h o;rw[hv]at hc;refine⟨hc,?_⟩;unfold World.cell? at hc;split at hc
 ·rename_i hh;exact(abo.1 hh).1
 ·cases hc
theorem agl {W:World} (h:laidMetH Tryz.prog Rows.miniLawsUptoRow.laid W):PE prg.glob W (yH λ b _=>b<W.heap.size):=by
 obtain⟨ps,⟨_,_,_,_,_,_,_,_,_,_,⟨_,_,_,_,_,_,_,_,_,_,⟨g3,t3,cs3,fuel3,p3,q3,hg3,ht3,hvar3,hd3,⟨g',t',cs,fuel,p,q,hg',ht',hvar,hd,_,_⟩,_⟩,_⟩,_⟩,_⟩:laidMet Tryz.prog Rows.miniLawsUptoRow.laid W:=h;obtain rfl:=aao (gTab.symm.trans hg3);obtain rfl:=aao (acS.symm.trans ht3);obtain rfl:=aao (gAl.symm.trans hg');obtain rfl:=aao (aer.symm.trans ht');have hc3:cs3.toList=Lib.pow10Tab.map (Value.int .u64):=Lib.cells_of_tab (k:= .u64) (zs:=Lib.pow10Tab) Tryz.underlying224 Tryz.underlying180 (by kernel_rfl) (by kernel_rfl) hd3;obtain⟨xs,m,_,hx,hl,hxl,hget⟩:=DataW.trod_struct Tryz.underlying24 hd
 match xs,hxl with
 | [x0],_=>
   have h0:=hget 0 _ rfl;simp only[aaM]at h0
   have hx0:x0.1= .slice [.lit (.int .i64 0),.lit (.int .i64 0),.lit (.int .i64 2)] []:=by
    have:=congrArg Prod.fst hx;simp only[Rows.laid_boskage_boskagelaw07_al,abf,acK,DataW.agg.injEq,aa5,and_true]at this;exact this.symm
   obtain⟨v,hv,hpc⟩:=Yn (zs:=[0,0,2]) Tryz.underlying22 Tryz.underlying3 (by kernel_rfl) h0 hx0 (by simp);have hcl:cs.toList.length=1:=by rw[hl];kernel_rfl
   obtain⟨u,hu⟩:=List.length_eq_one_iff.1 hcl
   have huv:u=v:=by
    rw[hu]at hv
    have:([u].drop 0).take (Tryz.prog.cellsOf 22)= [u]:=by
     have:Tryz.prog.cellsOf 22=1:=by kernel_rfl
     rw[this];rfl
    exact(abI (this.symm.trans hv)).1
   subst huv;obtain⟨hcell,hlt⟩:=ad5 gAl hvar (o:=0) (v:=u) (by rw[←aaO,hu];rfl);intro gl cells hgl;simp only[prg,Yi,cond_eq_ite]at hgl;split at hgl
   ·rename_i hb;have:=aal hb;subst this;cases hgl;refine⟨rfl,[u],λ j hj=> ?_,⟨u,[],rfl,hpc,rfl⟩⟩;have:j=0:=by simpa using hj
    subst this;exact⟨hcell,hlt⟩
   ·split at hgl
    ·rename_i hb;have:=aal hb;subst this;have he:cells=Lib.pow10Tab.map λ z=>⟨.int .u64,.pure,z⟩:=(aao hgl).symm.trans (by kernel_rfl);subst he;refine⟨agn _,_,λ j hj=> ?_,agm Lib.pow10Tab 0⟩;rw[←hc3]at hj ⊢;have hj':j<cs3.size:=by simpa using hj
     obtain⟨h1,h2⟩:=ad5 gTab hvar3 (o:=j) (v:=cs3[j]) (aa1 hj');exact⟨by rw[aaW,h1,aaO,aa1 hj'],h2⟩
    ·cases hgl
noncomputable def akA:DataW Unit->Value| .lit (.int k n)=> .int k n|_=>undef
noncomputable def ahq:DataW Unit->Array Value| .agg ds=>(ds.map akA).toArray|_=> #[]
noncomputable def laidWorld (os:Os):World:=
 let N:=(World.settled Tryz.prog os).heap.size
 let w0:=World.holding Tryz.prog os ⟨#[.cells #[.int .i64 0,.int .i64 0,.int .i64 2] 3], #[],[]⟩
 let put (h:Array Obj) (i:Nat) (cs:Array Value):Array Obj:=h.modify i λ| .cells _ t frozen=> .cells cs t frozen|o=>o
 {w0 with heap:=put (put (put (put w0.heap 0 #[.slice (some ⟨N,0,none⟩) 3 3]) 2 (ahq Rows.laid_internal_strconv_uint64pow10)) 3 (ahq Rows.laid_math_bits_deBruijn32tab)) 4 (ahq Rows.laid_math_bits_deBruijn64tab)}
theorem laid_met (os:Os) (args:Array Value):laidMet Tryz.prog Rows.miniLawsUptoRow.laid ((laidWorld os).forCall (λ _ _=>0) ⟨#[],args,[]⟩).memory:=
 laidMet_of_run' 8 (by kernel_rfl) (by kernel_rfl)
theorem OE (plain: ∀x:g5.In,wtA _ x<=1048576->CW _ x-> ∃n,prg.run n 5 x=some true) (H:Type) (enc:TypeId×Value->H) (W:World) (base:Nat) (args:Array Value) (ds gs:List (DataW H)) (before:List MemPlace)
 (hval: ∀(j:Nat) t v,Tryz.f5.params[j]? =some t->args[j]? =some v->Value.okWide Tryz.prog W .any base t v)
 (hW:DataW.Whole enc Tryz.prog Tryz.f5.params.toList Rows.miniLawsSpec.vars false W args.toList ds gs before) (hk:Rows.uptoSmall H (ds++gs)=true) (hL:laidMetH Tryz.prog Rows.miniLawsUptoRow.laid W):
 Calls Tryz.prog 5 args W λ e W'=> ∃v,e= .returned v/\Rows.miniLawsSpec.post enc Tryz.prog Tryz.f5 false true false false W args v W':=by
 obtain⟨p,q,hA,hV,hbe,hfz,hnd⟩:=id hW;obtain⟨hgs,_⟩:=trodVars_none hV;subst hgs
 have hsmall:sumW Rows.uptoBulk ds<=1048576:=by
  rw[NP];have:=of_decide_eq_true hk
  rwa [aaQ]at this
 obtain⟨x,hE,hw,hf⟩:=aec (ty:=prg.ty) ait akF afU (base:=base) (sig:=g5) (by kernel_rfl) (λ k t v ht hv=>hval k t v (by rw[←aaO];exact ht) (by rw[←aaO];exact hv)) hA;obtain⟨n,hn⟩:=plain x (aaJ hw hsmall) hf;have hC:=Yy (good n 5) (x:=x) (r:=true) rfl rfl hn rfl hE (agl hL);refine QS laidOut rfl Tryz.underlying4 ?_ rfl hW (λ _=> ?_) hC
 ·intro t ht
  have:t=24\/t=27\/t=44:=by
   have h:=(show Tryz.f5.params.toList= [24,27,27,44]from rfl)▸ht;simpa using h
  rcases this with rfl|rfl|rfl<;>exact⟨by kernel_rfl,of_decide_eq_true (by kernel_rfl)⟩
 ·have hl:ds.length=4:=by
   have h2:Tryz.f5.params.toList.length=4:=rfl
   have h3: ∀{ts:List TypeId} {vs:List Value} {ds:List (DataW H)} {ps:List MemPlace},DataW.TrodAll enc Tryz.prog W 0 (λ _=>true) true ts vs ds ps->ds.length=ts.length:=by
    intro ts
    induction ts with
    |nil=>intro vs ds ps h;cases vs<;>cases ds<;>simp_all [DataW.TrodAll]
    |cons t ts ih=>
     intro vs ds ps h
     cases vs with
     |nil=>simp[DataW.TrodAll]at h
     |cons v vs=>
      cases ds with
      |nil=>simp[DataW.TrodAll]at h
      |cons d ds=>
       obtain⟨_,_,_,h2,_⟩:=h;simp[ih h2]
   rw[h3 hA,h2]
  match ds,hl with
  | [d1,d2,d3,d4],_=>rfl
theorem WS (os:Os) {H:Type} (enc:TypeId×Value->H): ∃ps,DataW.whole enc Tryz.prog ((laidWorld os).forCall (λ _ _=>0) ⟨#[], #[.agg #[.slice none 0 0],.agg #[.int .i64 0,.slice none 0 0,.slice none 0 0],.agg #[.int .i64 0,.slice none 0 0,.slice none 0 0],.agg #[.int .i64 0,.slice none 0 0]],[]⟩).memory Tryz.f5.params.toList Rows.miniLawsSpec.vars false #[Value.agg #[.slice none 0 0],.agg #[.int .i64 0,.slice none 0 0,.slice none 0 0],.agg #[.int .i64 0,.slice none 0 0,.slice none 0 0],.agg #[.int .i64 0,.slice none 0 0]].toList 8=
 some ([.agg [.nil],.agg [.lit (.int .i64 0),.nil,.nil],.agg [.lit (.int .i64 0),.nil,.nil],.agg [.lit (.int .i64 0),.nil]],[],ps):=⟨[],by kernel_rfl⟩
theorem Uj (plain: ∀x:g5.In,wtA _ x<=1048576->CW _ x-> ∃n,prg.run n 5 x=some true) (os:Os) (started:os.Started) (H:Type) (enc:TypeId×Value->H) (F:Stop.Interp):
 ReturnsInHanded {} Tryz.checked os 5 .any ((Rows.OpenSpec.upto Rows.miniLawsSpec).preRow enc Tryz.prog Tryz.f5 Rows.miniLawsUptoRow.domain false Rows.miniLawsUptoRow.laid) (((Rows.OpenSpec.upto Rows.miniLawsSpec).at F).post enc Tryz.prog Tryz.f5 false true false false):=by
 obtain⟨ps,hx⟩:=WS os enc
 refine returnsInHanded_of_row (C:=Tryz.checked) (s:=Rows.OpenSpec.upto Rows.miniLawsSpec) own started (by kernel_rfl) Tryz.func5
  (witness_row_atRef (enc:=enc) (C:=Tryz.checked) false (laidWorld os) #[.agg #[.slice none 0 0],.agg #[.int .i64 0,.slice none 0 0,.slice none 0 0],.agg #[.int .i64 0,.slice none 0 0,.slice none 0 0],.agg #[.int .i64 0,.slice none 0 0]] rfl (by kernel_rfl) (by kernel_rfl) (by kernel_rfl)
   (OpenSpec.preRow_of_cond 8 hx (by kernel_rfl) (λ k hk=>by cases hk;kernel_rfl) (by kernel_rfl) (laid_met os _))) ?_
 intro W base args ds gs before hval hW _ hcond _ hL _ _;exact OE plain H enc W base args ds gs before hval hW (hcond _ rfl) hL
theorem YA (plain: ∀x:g5.In,wtA _ x<=1048576->CW _ x-> ∃n,prg.run n 5 x=some true):Rows.MiniLawsUptoSaid:=
 OpenClaim.holds_of_cond 5 Tryz.f5 rfl rfl rfl rfl rfl rfl rfl ⟨rfl,rfl,rfl,rfl,rfl⟩ rfl rfl rfl rfl rfl (by kernel_rfl) Tryz.func5 (by kernel_rfl)
  (of_decide_eq_true (by kernel_rfl)) (by unfold Func.isWrapper;first|(rw[if_pos (by decide +kernel)];kernel_rfl)|(rw[if_neg (by decide +kernel)];exact⟨rfl,rfl⟩))
  (λ os started H enc _ F=>by rw[OpenClaim.pre_eq_preRow];exact Uj plain os started H enc F)
theorem WR (f:FuncId) (fn:Func) (hf:Tryz.pinned.checked.prog.funcNamed "boskage/boskagelaw07.MiniLaws" =some f) (hfn:Tryz.pinned.checked.prog.funcs[f]? =some fn):
 false=Tryz.pinned.checked.prog.looks []/\ ∀(j:Nat) t,fn.params[j]? =some t->Tryz.pinned.checked.prog.wantsStandIn t=false:=by
 obtain rfl:f=5:=aao ((show Tryz.prog.funcNamed "boskage/boskagelaw07.MiniLaws" =some 5 by kernel_rfl).symm.trans hf) |>.symm;obtain rfl:fn=Tryz.f5:=(aao (Tryz.func5.symm.trans hfn)).symm;refine⟨by kernel_rfl,λ j t ht=> ?_⟩;rw[Tryz.params5]at ht;have:t=24\/t=27\/t=44:=by simpa using Array.mem_of_getElem? ht
 rcases this with rfl|rfl|rfl
 ·exact(show Tryz.prog.wantsStandIn 24=false by kernel_rfl)
 ·exact(show Tryz.prog.wantsStandIn 27=false by kernel_rfl)
 ·exact(show Tryz.prog.wantsStandIn 44=false by kernel_rfl)
theorem Yz (plain: ∀x:g5.In,wtA _ x<=1048576->CW _ x-> ∃n,prg.run n 5 x=some true):Rows.MiniLawsUptoCardSaid:=
 Claim7.holds_tied_plain_at .later [] _ _ _ _ (YA plain) (λ _ h=>by cases h) (by kernel_rfl) (λ _ h=>by cases h) miniLawsUpto_row_tie rfl ⟨rfl,rfl⟩ (by kernel_rfl) rfl WR (by kernel_rfl)
end Go.Proofs.YtdchbjmbgecejaaGreatDoor.Am
end
