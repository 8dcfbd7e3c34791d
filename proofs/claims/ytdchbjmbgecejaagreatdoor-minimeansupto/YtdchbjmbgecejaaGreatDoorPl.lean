import Derived.Test.YtdchbjmbgecejaaGreatDoorPe
import Derived.Test.YtdchbjmbgecejaaGreatDoorCards
import Derived.Test.YtdchbjmbgecejaaGreatDoorTie
import Derived.Test.YtdchbjmbgecejaaGreatDoorMd
import Derived.Deep.DeepHandedRow
import Derived.Deep.DeepWitnessRowRef
import Derived.Lib.LaidTab
noncomputable section
namespace Go.Proofs.YtdchbjmbgecejaaGreatDoor.Am
open Go Go.AM Go.RowKit Go.ChangeShapes
set_option maxRecDepth 100000
set_option linter.unusedVariables false
theorem good (n i:Nat):AM.Good Tryz.prog prg.glob (prg.spec i).sig (prg.run n i):=UF prg adO mixed (fun i _=>aen i) (fun i=>D7 (p:=fun c=> ∀e,c.ext=some e→AM.Good Tryz.prog prg.glob c.sig e) (by intro e h;cases h) Il (by
 intro x hx e h
 simp only[Il,List.mem_cons,List.not_mem_nil,or_false]at hx
 rcases hx with rfl|rfl|rfl|rfl|rfl|rfl|rfl|rfl|rfl|rfl|rfl|rfl|rfl|rfl|rfl|rfl|rfl|rfl|rfl|rfl|rfl|rfl|rfl|rfl|rfl|rfl|rfl|rfl|rfl|rfl|rfl|rfl|rfl|rfl|rfl|rfl|rfl|rfl|rfl|rfl|rfl|rfl|rfl|rfl|rfl|rfl|rfl|rfl|rfl|rfl|rfl|rfl|rfl|rfl|rfl|rfl|rfl|rfl|rfl|rfl|rfl|rfl|rfl|rfl|rfl|rfl|rfl|rfl|rfl|rfl|rfl|rfl|rfl|rfl|rfl|rfl|rfl|rfl|rfl|rfl|rfl|rfl|rfl|rfl
 all_goals first|(cases h;done)|(obtain rfl:=(Option.some.inj h).symm;first|exact VN|exact PD|exact X8|exact Yu|exact NG|exact Ri)) i) n i
theorem N9 {H:Type}: ∀l:List (DataW H),sumW Rows.uptoBulk l=Rows.uptoBulkAll l
 | []=>rfl
 |d::l=>by simp only[sumW,Rows.uptoBulkAll,N9 l]
theorem aco {H:Type}:UZ (Rows.uptoBulk (H:=H)):=by
 refine⟨fun l=> ?_,fun b=> ?_,?_,fun es sp=> ?_,fun ps=> ?_⟩
 ·cases l<;>simp[Rows.uptoBulk]
 ·simp[Rows.uptoBulk]
 ·simp[Rows.uptoBulk]
 ·rw[N9];simp only[Rows.uptoBulk];omega
 ·rw[N9];simp only[Rows.uptoBulk];omega
theorem own:ownKnob Tryz.prog.godebug=none:=by kernel_rfl
theorem gAl:Tryz.prog.globalNamed "boskage/boskagelaw07.al" =some 0:=by kernel_rfl
theorem abb:(Tryz.prog.globals[0]?).map (·.type)=some 24:=by kernel_rfl
theorem gTab:Tryz.prog.globalNamed "internal/strconv.uint64pow10" =some 2:=by kernel_rfl
theorem ZU:(Tryz.prog.globals[2]?).map (·.type)=some 224:=by kernel_rfl
theorem laidOut:laidOutB Tryz.prog=true:=by kernel_rfl
theorem acg {w:World} {g:Gh} {mk:Nat→aF} {k:IntKind}: ∀(zs:List Int) (i:Nat),aC w g mk i (zs.map fun z=>⟨.int k,.pure,z⟩) (zs.map (Value.int k))
 | [],_=>rfl
 |z::zs,i=>⟨_,_,rfl,rfl,acg zs (i+1)⟩
theorem acn {k:IntKind}: ∀zs:List Int,bg (zs.map fun z=>(⟨.int k,.pure,z⟩:CV))=true
 | []=>rfl
 |z::zs=>acn (k:=k) zs
theorem aac {n:String} {gl:Nat} {cs:Array Value} {W:World} (hg:Tryz.prog.globalNamed n=some gl) (h:W.var? Tryz.prog n=some cs) {o:Nat} {v:Value} (hv:cs[o]? =some v):W.cell? ⟨gl,o,none⟩=some v∧gl<W.heap.size:=by
 have hc:=World.var?_cell hg h o
 rw[hv]at hc
 refine⟨hc,?_⟩
 unfold World.cell? at hc
 split at hc
 ·rename_i hh;exact(Array.getElem?_eq_some_iff.1 hh).1
 ·cases hc
theorem ac9 {W:World} (h:laidMetH Tryz.prog Rows.miniMeansUptoRow.laid W):O8 prg.glob W (xY fun b _=>b<W.heap.size):=by
 obtain⟨ps,⟨_,_,_,_,_,_,_,_,_,_,⟨_,_,_,_,_,_,_,_,_,_,⟨g3,t3,cs3,fuel3,p3,q3,hg3,ht3,hvar3,hd3,⟨g',t',cs,fuel,p,q,hg',ht',hvar,hd,_,_⟩,_⟩,_⟩,_⟩,_⟩:laidMet Tryz.prog Rows.miniMeansUptoRow.laid W:=h
 obtain rfl:=Option.some.inj (gTab.symm.trans hg3)
 obtain rfl:=Option.some.inj (ZU.symm.trans ht3)
 obtain rfl:=Option.some.inj (gAl.symm.trans hg')
 obtain rfl:=Option.some.inj (abb.symm.trans ht')
 have hc3:cs3.toList=Lib.pow10Tab.map (Value.int .u64):=Lib.cells_of_tab (k:= .u64) (zs:=Lib.pow10Tab) Tryz.underlying224 Tryz.underlying180 (by kernel_rfl) (by kernel_rfl) hd3
 obtain⟨xs,m,_,hx,hl,hxl,hget⟩:=DataW.trod_struct Tryz.underlying24 hd
 match xs,hxl with
 | [x0],_=>
   have h0:=hget 0 _ rfl
   simp only[List.getElem?_cons_zero]at h0
   have hx0:x0.1= .slice [.lit (.int .i64 0),.lit (.int .i64 0),.lit (.int .i64 2)] []:=by
    have:=congrArg Prod.fst hx
    simp only[Rows.laid_boskage_boskagelaw07_al,List.map_cons,List.map_nil,DataW.agg.injEq,List.cons.injEq,and_true]at this
    exact this.symm
   obtain⟨v,hv,hpc⟩:=XP (zs:=[0,0,2]) Tryz.underlying22 Tryz.underlying3 (by kernel_rfl) h0 hx0 (by simp)
   have hcl:cs.toList.length=1:=by rw[hl];kernel_rfl
   obtain⟨u,hu⟩:=List.length_eq_one_iff.1 hcl
   have huv:u=v:=by
    rw[hu]at hv
    have:([u].drop 0).take (Tryz.prog.cellsOf 22)= [u]:=by
     have:Tryz.prog.cellsOf 22=1:=by kernel_rfl
     rw[this];rfl
    exact(List.cons.inj (this.symm.trans hv)).1
   subst huv
   obtain⟨hcell,hlt⟩:=aac gAl hvar (o:=0) (v:=u) (by rw[←Array.getElem?_toList,hu];rfl)
   intro gl cells hgl
   simp only[prg,WJ,cond_eq_ite]at hgl
   split at hgl
   ·rename_i hb
    have:=Nat.eq_of_beq_eq_true hb
    subst this
    cases hgl
    refine⟨rfl,[u],fun j hj=> ?_,⟨u,[],rfl,hpc,rfl⟩⟩
    have:j=0:=by simpa using hj
    subst this
    exact⟨hcell,hlt⟩
   ·split at hgl
    ·rename_i hb
     have:=Nat.eq_of_beq_eq_true hb
     subst this
     have he:cells=Lib.pow10Tab.map fun z=>⟨.int .u64,.pure,z⟩:=(Option.some.inj hgl).symm.trans (by kernel_rfl)
     subst he
     refine⟨acn _,_,fun j hj=> ?_,acg Lib.pow10Tab 0⟩
     rw[←hc3]at hj ⊢
     have hj':j<cs3.size:=by simpa using hj
     obtain⟨h1,h2⟩:=aac gTab hvar3 (o:=j) (v:=cs3[j]) (Array.getElem?_eq_getElem hj')
     exact⟨by rw[Nat.zero_add,h1,Array.getElem?_toList,Array.getElem?_eq_getElem hj'],h2⟩
    ·cases hgl
noncomputable def agr:DataW Unit→Value| .lit (.int k n)=> .int k n|_=>undef
noncomputable def adw:DataW Unit→Array Value| .agg ds=>(ds.map agr).toArray|_=> #[]
noncomputable def laidWorld (os:Os):World:=
 let N:=(World.settled Tryz.prog os).heap.size
 let w0:=World.holding Tryz.prog os ⟨#[.cells #[.int .i64 0,.int .i64 0,.int .i64 2] 3], #[],[]⟩
 let put (h:Array Obj) (i:Nat) (cs:Array Value):Array Obj:=h.modify i fun| .cells _ t frozen=> .cells cs t frozen|o=>o
 {w0 with heap:=put (put (put (put w0.heap 0 #[.slice (some ⟨N,0,none⟩) 3 3]) 2 (adw Rows.laid_internal_strconv_uint64pow10)) 3 (adw Rows.laid_math_bits_deBruijn32tab)) 4 (adw Rows.laid_math_bits_deBruijn64tab)}
theorem laid_met (os:Os) (args:Array Value):laidMet Tryz.prog Rows.miniMeansUptoRow.laid ((laidWorld os).forCall (fun _ _=>0) ⟨#[],args,[]⟩).memory:=
 laidMet_of_run' 8 (by kernel_rfl) (by kernel_rfl)
theorem KH (plain: ∀x:g7.In,wtA _ x≤1048576→BU _ x→ ∃n,prg.run n 7 x=some true) (H:Type) (enc:TypeId×Value→H) (W:World) (base:Nat) (args:Array Value) (ds gs:List (DataW H)) (before:List MemPlace)
 (hval: ∀(j:Nat) t v,Tryz.f7.params[j]? =some t→args[j]? =some v→Value.okWide Tryz.prog W .any base t v)
 (hW:DataW.Whole enc Tryz.prog Tryz.f7.params.toList Rows.miniMeansSpec.vars false W args.toList ds gs before) (hk:Rows.uptoSmall H (ds++gs)=true) (hL:laidMetH Tryz.prog Rows.miniMeansUptoRow.laid W):
 Calls Tryz.prog 7 args W fun e W'=> ∃v,e= .returned v∧Rows.miniMeansSpec.post enc Tryz.prog Tryz.f7 false true false false W args v W':=by
 obtain⟨p,q,hA,hV,hbe,hfz,hnd⟩:=id hW
 obtain⟨hgs,_⟩:=trodVars_none hV
 subst hgs
 have hsmall:sumW Rows.uptoBulk ds≤1048576:=by
  rw[N9]
  have:=of_decide_eq_true hk
  rwa [List.append_nil]at this
 obtain⟨x,hE,hw,hf⟩:=aa5 (ty:=prg.ty) adO afU aco (base:=base) (sig:=g7) (by kernel_rfl) (fun k t v ht hv=>hval k t v (by rw[←Array.getElem?_toList];exact ht) (by rw[←Array.getElem?_toList];exact hv)) hA
 obtain⟨n,hn⟩:=plain x (Nat.le_trans hw hsmall) hf
 have hC:=X3 (good n 7) (x:=x) (r:=true) rfl rfl hn rfl hE (ac9 hL)
 refine Qx laidOut rfl Tryz.underlying4 ?_ rfl hW (fun _=> ?_) hC
 ·intro t ht
  have:t=24∨t=27∨t=44∨t=22:=by
   have h:=(show Tryz.f7.params.toList= [24,27,44,44,22]from rfl)▸ht
   simpa using h
  rcases this with rfl|rfl|rfl|rfl<;>exact⟨by kernel_rfl,of_decide_eq_true (by kernel_rfl)⟩
 ·have hl:ds.length=5:=by
   have h2:Tryz.f7.params.toList.length=5:=rfl
   have h3: ∀{ts:List TypeId} {vs:List Value} {ds:List (DataW H)} {ps:List MemPlace},DataW.TrodAll enc Tryz.prog W 0 (fun _=>true) true ts vs ds ps→ds.length=ts.length:=by
    intro ts
    induction ts with
    |nil=>intro vs ds ps h;cases vs<;>cases ds<;>simp_all [DataW.TrodAll]
    |cons t ts ih=>
     intro vs ds ps h
     cases vs with
     |nil=>simp[DataW.TrodAll]at h
     |cons v vs=>
      cases ds with
      |nil=>simp[DataW.TrodAll]at h
      |cons d ds=>
       obtain⟨_,_,_,h2,_⟩:=h
       simp[ih h2]
   rw[h3 hA,h2]
  match ds,hl with
  | [d1,d2,d3,d4,d5],_=>rfl
theorem RF (os:Os) {H:Type} (enc:TypeId×Value→H): ∃ps,DataW.whole enc Tryz.prog ((laidWorld os).forCall (fun _ _=>0) ⟨#[], #[.agg #[.slice none 0 0],.agg #[.int .i64 0,.slice none 0 0,.slice none 0 0],.agg #[.int .i64 0,.slice none 0 0],.agg #[.int .i64 0,.slice none 0 0],.slice none 0 0],[]⟩).memory Tryz.f7.params.toList Rows.miniMeansSpec.vars false #[Value.agg #[.slice none 0 0],.agg #[.int .i64 0,.slice none 0 0,.slice none 0 0],.agg #[.int .i64 0,.slice none 0 0],.agg #[.int .i64 0,.slice none 0 0],.slice none 0 0].toList 8=
 some ([.agg [.nil],.agg [.lit (.int .i64 0),.nil,.nil],.agg [.lit (.int .i64 0),.nil],.agg [.lit (.int .i64 0),.nil],.nil],[],ps):=⟨[],by kernel_rfl⟩
theorem QO (plain: ∀x:g7.In,wtA _ x≤1048576→BU _ x→ ∃n,prg.run n 7 x=some true) (os:Os) (started:os.Started) (H:Type) (enc:TypeId×Value→H) (F:Stop.Interp):
 ReturnsInHanded {} Tryz.checked os 7 .any ((Rows.OpenSpec.upto Rows.miniMeansSpec).preRow enc Tryz.prog Tryz.f7 Rows.miniMeansUptoRow.domain false Rows.miniMeansUptoRow.laid) (((Rows.OpenSpec.upto Rows.miniMeansSpec).at F).post enc Tryz.prog Tryz.f7 false true false false):=by
 obtain⟨ps,hx⟩:=RF os enc
 refine returnsInHanded_of_row (C:=Tryz.checked) (s:=Rows.OpenSpec.upto Rows.miniMeansSpec) own started (by kernel_rfl) Tryz.func7
  (witness_row_atRef (enc:=enc) (C:=Tryz.checked) false (laidWorld os) #[.agg #[.slice none 0 0],.agg #[.int .i64 0,.slice none 0 0,.slice none 0 0],.agg #[.int .i64 0,.slice none 0 0],.agg #[.int .i64 0,.slice none 0 0],.slice none 0 0] rfl (by kernel_rfl) (by kernel_rfl) (by kernel_rfl)
   (OpenSpec.preRow_of_cond 8 hx (by kernel_rfl) (fun k hk=>by cases hk;kernel_rfl) (by kernel_rfl) (laid_met os _))) ?_
 intro W base args ds gs before hval hW _ hcond _ hL _ _
 exact KH plain H enc W base args ds gs before hval hW (hcond _ rfl) hL
theorem VQ (plain: ∀x:g7.In,wtA _ x≤1048576→BU _ x→ ∃n,prg.run n 7 x=some true):Rows.MiniMeansUptoSaid:=
 OpenClaim.holds_of_cond 7 Tryz.f7 rfl rfl rfl rfl rfl rfl rfl ⟨rfl,rfl,rfl,rfl,rfl⟩ rfl rfl rfl rfl rfl (by kernel_rfl) Tryz.func7 (by kernel_rfl)
  (of_decide_eq_true (by kernel_rfl)) (by unfold Func.isWrapper;first|(rw[if_pos (by decide +kernel)];kernel_rfl)|(rw[if_neg (by decide +kernel)];exact⟨rfl,rfl⟩))
  (fun os started H enc _ F=>by rw[OpenClaim.pre_eq_preRow];exact QO plain os started H enc F)
theorem SS (f:FuncId) (fn:Func) (hf:Tryz.pinned.checked.prog.funcNamed "boskage/boskagelaw07.MiniMeans" =some f) (hfn:Tryz.pinned.checked.prog.funcs[f]? =some fn):
 false=Tryz.pinned.checked.prog.looks []∧ ∀(j:Nat) t,fn.params[j]? =some t→Tryz.pinned.checked.prog.wantsStandIn t=false:=by
 obtain rfl:f=7:=Option.some.inj ((show Tryz.prog.funcNamed "boskage/boskagelaw07.MiniMeans" =some 7 by kernel_rfl).symm.trans hf) |>.symm
 obtain rfl:fn=Tryz.f7:=(Option.some.inj (Tryz.func7.symm.trans hfn)).symm
 refine⟨by kernel_rfl,fun j t ht=> ?_⟩
 rw[Tryz.params7]at ht
 have:t=24∨t=27∨t=44∨t=22:=by simpa using Array.mem_of_getElem? ht
 rcases this with rfl|rfl|rfl|rfl
 ·exact(show Tryz.prog.wantsStandIn 24=false by kernel_rfl)
 ·exact(show Tryz.prog.wantsStandIn 27=false by kernel_rfl)
 ·exact(show Tryz.prog.wantsStandIn 44=false by kernel_rfl)
 ·exact(show Tryz.prog.wantsStandIn 22=false by kernel_rfl)
theorem VP (plain: ∀x:g7.In,wtA _ x≤1048576→BU _ x→ ∃n,prg.run n 7 x=some true):Rows.MiniMeansUptoCardSaid:=
 Claim7.holds_tied_plain_at .later [] _ _ _ _ (VQ plain) (fun _ h=>by cases h) (by kernel_rfl) (fun _ h=>by cases h) miniMeansUpto_row_tie rfl ⟨rfl,rfl⟩ (by kernel_rfl) rfl SS (by kernel_rfl)
end Go.Proofs.YtdchbjmbgecejaaGreatDoor.Am
end
