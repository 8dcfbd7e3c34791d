import Derived.Test.YtgkobbodicfofaaDoorPe
import Derived.Test.YtgkobbodicfofaaDoorCards
import Derived.Test.YtgkobbodicfofaaDoorTie
import Derived.Test.YtgkobbodicfofaaDoorMd
import Derived.Deep.DeepHandedRow
import Derived.Deep.DeepWitnessRowRef
import Derived.Lib.LaidTab
noncomputable section
namespace Go.Proofs.YtgkobbodicfofaaDoor.Am
open Go Go.AM Go.RowKit Go.ChangeShapes
set_option maxRecDepth 100000
set_option linter.unusedVariables false
/-! What all laws of the seat share -/
theorem good (n i : Nat) : AM.Good Tryd.prog prg.glob (prg.spec i).sig (prg.run n i) := run_good prg tyOk mixed (fun i _ => fnAll i) (fun i => orAt_all (p := fun c => ∀ e, c.ext = some e → AM.Good Tryd.prog prg.glob c.sig e) (by intro e h; cases h) specTab (by
  intro x hx e h
  simp only [specTab, List.mem_cons, List.not_mem_nil, or_false] at hx
  rcases hx with rfl | rfl | rfl | rfl | rfl | rfl | rfl | rfl | rfl | rfl | rfl | rfl | rfl | rfl | rfl | rfl | rfl | rfl | rfl | rfl | rfl | rfl | rfl | rfl | rfl | rfl | rfl | rfl | rfl | rfl | rfl | rfl | rfl | rfl | rfl | rfl | rfl | rfl | rfl | rfl
  all_goals first | (cases h; done) | (obtain rfl := (Option.some.inj h).symm; exact clone_good)) i) n i
theorem bulkAll {H : Type} : ∀ l : List (DataW H), sumW Rows.uptoBulk l = Rows.uptoBulkAll l
  | [] => rfl
  | d :: l => by simp only [sumW, Rows.uptoBulkAll, bulkAll l]
theorem bulkOk {H : Type} : BulkOk (Rows.uptoBulk (H := H)) := by
  refine ⟨fun l => ?_, fun b => ?_, ?_, fun es sp => ?_, fun ps => ?_⟩
  · cases l <;> simp [Rows.uptoBulk]
  · simp [Rows.uptoBulk]
  · simp [Rows.uptoBulk]
  · rw [bulkAll]; simp only [Rows.uptoBulk]; omega
  · rw [bulkAll]; simp only [Rows.uptoBulk]; omega
theorem own : ownKnob Tryd.prog.godebug = none := by kernel_rfl
theorem gAl : Tryd.prog.globalNamed "boskage/boskagelaw05.al" = some 0 := by kernel_rfl
theorem gAlType : (Tryd.prog.globals[0]?).map (·.type) = some 24 := by kernel_rfl
theorem laidOut : laidOutB Tryd.prog = true := by kernel_rfl
/-- What the row's list gives: the variable `al` holds its alphabet. -/
theorem globOk {W : World} (h : laidMetH Tryd.prog [("boskage/boskagelaw05.al", Rows.laid_boskage_boskagelaw05_al)] W) : GlobOk prg.glob W (lent fun b _ => b < W.heap.size) := by
  obtain ⟨ps, ⟨g', t', cs, fuel, p, q, hg', ht', hvar, hd, _, _⟩, _⟩ : laidMet Tryd.prog [("boskage/boskagelaw05.al", Rows.laid_boskage_boskagelaw05_al)] W := h
  obtain rfl := Option.some.inj (gAl.symm.trans hg')
  obtain rfl := Option.some.inj (gAlType.symm.trans ht')
  obtain ⟨xs, m, _, hx, hl, hxl, hget⟩ := DataW.trod_struct Tryd.underlying24 hd
  match xs, hxl with
  | [x0], _ =>
    have h0 := hget 0 _ rfl
    simp only [List.getElem?_cons_zero] at h0
    have hx0 : x0.1 = .slice [.lit (.int .i64 0), .lit (.int .i64 2)] [] := by
      have := congrArg Prod.fst hx
      simp only [Rows.laid_boskage_boskagelaw05_al, List.map_cons, List.map_nil, DataW.agg.injEq, List.cons.injEq, and_true] at this
      exact this.symm
    obtain ⟨v, hv, hpc⟩ := ints_laid (zs := [0, 2]) Tryd.underlying22 Tryd.underlying3 (by kernel_rfl) h0 hx0 (by simp)
    have hcl : cs.toList.length = 1 := by rw [hl]; kernel_rfl
    obtain ⟨u, hu⟩ := List.length_eq_one_iff.1 hcl
    have huv : u = v := by
      rw [hu] at hv
      have : ([u].drop 0).take (Tryd.prog.cellsOf 22) = [u] := by
        have : Tryd.prog.cellsOf 22 = 1 := by kernel_rfl
        rw [this]; rfl
      exact (List.cons.inj (this.symm.trans hv)).1
    subst huv
    have hcell := World.var?_cell gAl hvar 0
    have hc0 : cs[0]? = some u := by rw [← Array.getElem?_toList, hu]; rfl
    rw [hc0] at hcell
    have hlt : 0 < W.heap.size := by
      unfold World.cell? at hcell
      split at hcell
      · rename_i hh; exact (Array.getElem?_eq_some_iff.1 hh).1
      · cases hcell
    intro gl cells hgl
    simp only [prg, globAt, cond_eq_ite] at hgl
    split at hgl
    · rename_i hb
      have := Nat.eq_of_beq_eq_true hb
      subst this
      cases hgl
      refine ⟨rfl, [u], fun j hj => ?_, ⟨u, [], rfl, hpc, rfl⟩⟩
      have : j = 0 := by simpa using hj
      subst this
      exact ⟨hcell, hlt⟩
    · cases hgl
/-- A world for the witness. -/
noncomputable def laidWorld (os : Os) : World :=
  let N := (World.settled Tryd.prog os).heap.size
  let w0 := World.holding Tryd.prog os ⟨#[.cells #[.int .i64 0, .int .i64 2] 3], #[], []⟩
  { w0 with heap := w0.heap.modify 0 fun
      | .cells _ t frozen => .cells #[.slice (some ⟨N, 0, none⟩) 2 2] t frozen
      | o => o }
theorem laid_met (os : Os) (args : Array Value) : laidMet Tryd.prog [("boskage/boskagelaw05.al", Rows.laid_boskage_boskagelaw05_al)] ((laidWorld os).forCall (fun _ _ => 0) ⟨#[], args, []⟩).memory :=
  laidMet_of_run' 8 (by kernel_rfl) (by kernel_rfl)
/-! BooleanUnder -/
theorem under_contract (plain : ∀ x : g3.In, wtA _ x ≤ 1048576 → fitA _ x → ∃ n, prg.run n 3 x = some true) (H : Type) (enc : TypeId × Value → H) (W : World) (base : Nat) (args : Array Value) (ds gs : List (DataW H)) (before : List MemPlace)
    (hval : ∀ (j : Nat) t v, Tryd.f3.params[j]? = some t → args[j]? = some v → Value.okWide Tryd.prog W .any base t v)
    (hW : DataW.Whole enc Tryd.prog Tryd.f3.params.toList Rows.booleanUnderSpec.vars false W args.toList ds gs before) (hk : Rows.uptoSmall H (ds ++ gs) = true) (hL : laidMetH Tryd.prog Rows.booleanUnderUptoRow.laid W) :
    Calls Tryd.prog 3 args W fun e W' => ∃ v, e = .returned v ∧ Rows.booleanUnderSpec.post enc Tryd.prog Tryd.f3 false true false false W args v W' := by
  obtain ⟨p, q, hA, hV, hbe, hfz, hnd⟩ := id hW
  obtain ⟨hgs, _⟩ := trodVars_none hV
  subst hgs
  have hsmall : sumW Rows.uptoBulk ds ≤ 1048576 := by
    rw [bulkAll]
    have := of_decide_eq_true hk
    rwa [List.append_nil] at this
  obtain ⟨x, hE, hw, hf⟩ := args_ok (ty := prg.ty) tyOk rdOk bulkOk (base := base) (sig := g3) (by kernel_rfl) (fun k t v ht hv => hval k t v (by rw [← Array.getElem?_toList]; exact ht) (by rw [← Array.getElem?_toList]; exact hv)) hA
  obtain ⟨n, hn⟩ := plain x (Nat.le_trans hw hsmall) hf
  have hC := law_calls (good n 3) (x := x) (r := true) rfl rfl hn rfl hE (globOk hL)
  refine law_contract laidOut rfl Tryd.underlying4 ?_ rfl hW (fun _ => ?_) hC
  · intro t ht
    have : t = 24 ∨ t = 27 ∨ t = 3 ∨ t = 30 := by
      have h := (show Tryd.f3.params.toList = [24, 27, 3, 30] from rfl) ▸ ht
      simpa using h
    rcases this with rfl | rfl | rfl | rfl <;> exact ⟨by kernel_rfl, of_decide_eq_true (by kernel_rfl)⟩
  · have hl : ds.length = 4 := by
      have h2 : Tryd.f3.params.toList.length = 4 := rfl
      have h3 : ∀ {ts : List TypeId} {vs : List Value} {ds : List (DataW H)} {ps : List MemPlace}, DataW.TrodAll enc Tryd.prog W 0 (fun _ => true) true ts vs ds ps → ds.length = ts.length := by
        intro ts
        induction ts with
        | nil => intro vs ds ps h; cases vs <;> cases ds <;> simp_all [DataW.TrodAll]
        | cons t ts ih =>
          intro vs ds ps h
          cases vs with
          | nil => simp [DataW.TrodAll] at h
          | cons v vs =>
            cases ds with
            | nil => simp [DataW.TrodAll] at h
            | cons d ds =>
              obtain ⟨_, _, _, h2, _⟩ := h
              simp [ih h2]
      rw [h3 hA, h2]
    match ds, hl with
    | [d1, d2, d3, d4], _ => rfl
theorem under_reads (os : Os) {H : Type} (enc : TypeId × Value → H) : ∃ ps, DataW.whole enc Tryd.prog ((laidWorld os).forCall (fun _ _ => 0) ⟨#[], #[.agg #[.slice none 0 0], .agg #[.int .i64 0, .slice none 0 0, .slice none 0 0], .int .i64 0, .agg #[.int .i64 0, .slice none 0 0]], []⟩).memory Tryd.f3.params.toList Rows.booleanUnderSpec.vars false #[Value.agg #[.slice none 0 0], .agg #[.int .i64 0, .slice none 0 0, .slice none 0 0], .int .i64 0, .agg #[.int .i64 0, .slice none 0 0]].toList 8 =
    some ([.agg [.nil], .agg [.lit (.int .i64 0), .nil, .nil], .lit (.int .i64 0), .agg [.lit (.int .i64 0), .nil]], [], ps) := ⟨[], by kernel_rfl⟩
theorem under_lifted (plain : ∀ x : g3.In, wtA _ x ≤ 1048576 → fitA _ x → ∃ n, prg.run n 3 x = some true) (os : Os) (started : os.Started) (H : Type) (enc : TypeId × Value → H) (F : Stop.Interp) :
    ReturnsInHanded {} Tryd.checked os 3 .any ((Rows.OpenSpec.upto Rows.booleanUnderSpec).preRow enc Tryd.prog Tryd.f3 Rows.booleanUnderUptoRow.domain false Rows.booleanUnderUptoRow.laid) (((Rows.OpenSpec.upto Rows.booleanUnderSpec).at F).post enc Tryd.prog Tryd.f3 false true false false) := by
  obtain ⟨ps, hx⟩ := under_reads os enc
  refine returnsInHanded_of_row (C := Tryd.checked) (s := Rows.OpenSpec.upto Rows.booleanUnderSpec) own started (by kernel_rfl) Tryd.func3
    (witness_row_atRef (enc := enc) (C := Tryd.checked) false (laidWorld os) #[.agg #[.slice none 0 0], .agg #[.int .i64 0, .slice none 0 0, .slice none 0 0], .int .i64 0, .agg #[.int .i64 0, .slice none 0 0]] rfl (by kernel_rfl) (by kernel_rfl) (by kernel_rfl)
      (OpenSpec.preRow_of_cond 8 hx (by kernel_rfl) (fun k hk => by cases hk; kernel_rfl) (by kernel_rfl) (laid_met os _))) ?_
  intro W base args ds gs before hval hW _ hcond _ hL _ _
  exact under_contract plain H enc W base args ds gs before hval hW (hcond _ rfl) hL
theorem under_said (plain : ∀ x : g3.In, wtA _ x ≤ 1048576 → fitA _ x → ∃ n, prg.run n 3 x = some true) : Rows.BooleanUnderUptoSaid :=
  OpenClaim.holds_of_cond 3 Tryd.f3 rfl rfl rfl rfl rfl rfl rfl ⟨rfl, rfl, rfl, rfl, rfl⟩ rfl rfl rfl rfl rfl (by kernel_rfl) Tryd.func3 (by kernel_rfl)
    (of_decide_eq_true (by kernel_rfl)) (by unfold Func.isWrapper; first | (rw [if_pos (by decide +kernel)]; kernel_rfl) | (rw [if_neg (by decide +kernel)]; exact ⟨rfl, rfl⟩))
    (fun os started H enc _ F => by rw [OpenClaim.pre_eq_preRow]; exact under_lifted plain os started H enc F)
theorem under_plain (f : FuncId) (fn : Func) (hf : Tryd.pinned.checked.prog.funcNamed "boskage/boskagelaw05.BooleanUnder" = some f) (hfn : Tryd.pinned.checked.prog.funcs[f]? = some fn) :
    false = Tryd.pinned.checked.prog.looks [] ∧ ∀ (j : Nat) t, fn.params[j]? = some t → Tryd.pinned.checked.prog.wantsStandIn t = false := by
  obtain rfl : f = 3 := Option.some.inj ((show Tryd.prog.funcNamed "boskage/boskagelaw05.BooleanUnder" = some 3 by kernel_rfl).symm.trans hf) |>.symm
  obtain rfl : fn = Tryd.f3 := (Option.some.inj (Tryd.func3.symm.trans hfn)).symm
  refine ⟨by kernel_rfl, fun j t ht => ?_⟩
  rw [Tryd.params3] at ht
  have : t = 24 ∨ t = 27 ∨ t = 3 ∨ t = 30 := by simpa using Array.mem_of_getElem? ht
  rcases this with rfl | rfl | rfl | rfl
  · exact (show Tryd.prog.wantsStandIn 24 = false by kernel_rfl)
  · exact (show Tryd.prog.wantsStandIn 27 = false by kernel_rfl)
  · exact (show Tryd.prog.wantsStandIn 3 = false by kernel_rfl)
  · exact (show Tryd.prog.wantsStandIn 30 = false by kernel_rfl)
theorem under_card (plain : ∀ x : g3.In, wtA _ x ≤ 1048576 → fitA _ x → ∃ n, prg.run n 3 x = some true) : Rows.BooleanUnderUptoCardSaid :=
  Claim7.holds_tied_plain_at .later [] _ _ _ _ (under_said plain) (fun _ h => by cases h) (by kernel_rfl) (fun _ h => by cases h) booleanUnderUpto_row_tie rfl ⟨rfl, rfl⟩ (by kernel_rfl) rfl under_plain (by kernel_rfl)
end Go.Proofs.YtgkobbodicfofaaDoor.Am
end
