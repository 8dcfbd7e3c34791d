import Derived.Test.YtgkobbodicfofaaDoorPl
noncomputable section
namespace Go.Proofs.YtgkobbodicfofaaDoor.Am
open Go Go.AM Go.RowKit Go.ChangeShapes
set_option maxRecDepth 100000
set_option linter.unusedVariables false
/-! BooleanFull -/
theorem full_contract (plain : ∀ x : g5.In, wtA _ x ≤ 1048576 → fitA _ x → ∃ n, prg.run n 5 x = some true) (H : Type) (enc : TypeId × Value → H) (W : World) (base : Nat) (args : Array Value) (ds gs : List (DataW H)) (before : List MemPlace)
    (hval : ∀ (j : Nat) t v, Tryd.f5.params[j]? = some t → args[j]? = some v → Value.okWide Tryd.prog W .any base t v)
    (hW : DataW.Whole enc Tryd.prog Tryd.f5.params.toList Rows.booleanFullSpec.vars false W args.toList ds gs before) (hk : Rows.uptoSmall H (ds ++ gs) = true) (hL : laidMetH Tryd.prog Rows.booleanFullUptoRow.laid W) :
    Calls Tryd.prog 5 args W fun e W' => ∃ v, e = .returned v ∧ Rows.booleanFullSpec.post enc Tryd.prog Tryd.f5 false true false false W args v W' := by
  obtain ⟨p, q, hA, hV, hbe, hfz, hnd⟩ := id hW
  obtain ⟨hgs, _⟩ := trodVars_none hV
  subst hgs
  have hsmall : sumW Rows.uptoBulk ds ≤ 1048576 := by
    rw [bulkAll]
    have := of_decide_eq_true hk
    rwa [List.append_nil] at this
  obtain ⟨x, hE, hw, hf⟩ := args_ok (ty := prg.ty) tyOk rdOk bulkOk (base := base) (sig := g5) (by kernel_rfl) (fun k t v ht hv => hval k t v (by rw [← Array.getElem?_toList]; exact ht) (by rw [← Array.getElem?_toList]; exact hv)) hA
  obtain ⟨n, hn⟩ := plain x (Nat.le_trans hw hsmall) hf
  have hC := law_calls (good n 5) (x := x) (r := true) rfl rfl hn rfl hE (globOk hL)
  refine law_contract laidOut rfl Tryd.underlying4 ?_ rfl hW (fun _ => ?_) hC
  · intro t ht
    have : t = 3 := by
      have h := (show Tryd.f5.params.toList = [3, 3, 3, 3] from rfl) ▸ ht
      simpa using h
    subst this <;> exact ⟨by kernel_rfl, of_decide_eq_true (by kernel_rfl)⟩
  · have hl : ds.length = 4 := by
      have h2 : Tryd.f5.params.toList.length = 4 := rfl
      have h3 : ∀ {ts : List TypeId} {vs : List Value} {ds : List (DataW H)} {ps : List MemPlace}, DataW.TrodAll enc Tryd.prog W 0 (fun _ => true) true ts vs ds ps → ds.length = ts.length := by
        intro ts
        induction ts with
        | nil => intro vs ds ps h; cases vs <;> cases ds <;> simp_all [DataW.TrodAll]
        | cons t ts ih =>
          intro vs ds ps h
          cases vs with
          | nil => simp [DataW.TrodAll] at h
          | cons v vs =>
            cases ds with
            | nil => simp [DataW.TrodAll] at h
            | cons d ds =>
              obtain ⟨_, _, _, h2, _⟩ := h
              simp [ih h2]
      rw [h3 hA, h2]
    match ds, hl with
    | [d1, d2, d3, d4], _ => rfl
theorem full_reads (os : Os) {H : Type} (enc : TypeId × Value → H) : ∃ ps, DataW.whole enc Tryd.prog ((laidWorld os).forCall (fun _ _ => 0) ⟨#[], #[.int .i64 0, .int .i64 0, .int .i64 0, .int .i64 0], []⟩).memory Tryd.f5.params.toList Rows.booleanFullSpec.vars false #[Value.int .i64 0, .int .i64 0, .int .i64 0, .int .i64 0].toList 8 =
    some ([.lit (.int .i64 0), .lit (.int .i64 0), .lit (.int .i64 0), .lit (.int .i64 0)], [], ps) := ⟨[], by kernel_rfl⟩
theorem full_lifted (plain : ∀ x : g5.In, wtA _ x ≤ 1048576 → fitA _ x → ∃ n, prg.run n 5 x = some true) (os : Os) (started : os.Started) (H : Type) (enc : TypeId × Value → H) (F : Stop.Interp) :
    ReturnsInHanded {} Tryd.checked os 5 .any ((Rows.OpenSpec.upto Rows.booleanFullSpec).preRow enc Tryd.prog Tryd.f5 Rows.booleanFullUptoRow.domain false Rows.booleanFullUptoRow.laid) (((Rows.OpenSpec.upto Rows.booleanFullSpec).at F).post enc Tryd.prog Tryd.f5 false true false false) := by
  obtain ⟨ps, hx⟩ := full_reads os enc
  refine returnsInHanded_of_row (C := Tryd.checked) (s := Rows.OpenSpec.upto Rows.booleanFullSpec) own started (by kernel_rfl) Tryd.func5
    (witness_row_atRef (enc := enc) (C := Tryd.checked) false (laidWorld os) #[.int .i64 0, .int .i64 0, .int .i64 0, .int .i64 0] rfl (by kernel_rfl) (by kernel_rfl) (by kernel_rfl)
      (OpenSpec.preRow_of_cond 8 hx (by kernel_rfl) (fun k hk => by cases hk; kernel_rfl) (by kernel_rfl) (laid_met os _))) ?_
  intro W base args ds gs before hval hW _ hcond _ hL _ _
  exact full_contract plain H enc W base args ds gs before hval hW (hcond _ rfl) hL
theorem full_said (plain : ∀ x : g5.In, wtA _ x ≤ 1048576 → fitA _ x → ∃ n, prg.run n 5 x = some true) : Rows.BooleanFullUptoSaid :=
  OpenClaim.holds_of_cond 5 Tryd.f5 rfl rfl rfl rfl rfl rfl rfl ⟨rfl, rfl, rfl, rfl, rfl⟩ rfl rfl rfl rfl rfl (by kernel_rfl) Tryd.func5 (by kernel_rfl)
    (of_decide_eq_true (by kernel_rfl)) (by unfold Func.isWrapper; first | (rw [if_pos (by decide +kernel)]; kernel_rfl) | (rw [if_neg (by decide +kernel)]; exact ⟨rfl, rfl⟩))
    (fun os started H enc _ F => by rw [OpenClaim.pre_eq_preRow]; exact full_lifted plain os started H enc F)
theorem full_plain (f : FuncId) (fn : Func) (hf : Tryd.pinned.checked.prog.funcNamed "boskage/boskagelaw05.BooleanFull" = some f) (hfn : Tryd.pinned.checked.prog.funcs[f]? = some fn) :
    false = Tryd.pinned.checked.prog.looks [] ∧ ∀ (j : Nat) t, fn.params[j]? = some t → Tryd.pinned.checked.prog.wantsStandIn t = false := by
  obtain rfl : f = 5 := Option.some.inj ((show Tryd.prog.funcNamed "boskage/boskagelaw05.BooleanFull" = some 5 by kernel_rfl).symm.trans hf) |>.symm
  obtain rfl : fn = Tryd.f5 := (Option.some.inj (Tryd.func5.symm.trans hfn)).symm
  refine ⟨by kernel_rfl, fun j t ht => ?_⟩
  rw [Tryd.params5] at ht
  have : t = 3 := by simpa using Array.mem_of_getElem? ht
  subst this
  · exact (show Tryd.prog.wantsStandIn 3 = false by kernel_rfl)
theorem full_card (plain : ∀ x : g5.In, wtA _ x ≤ 1048576 → fitA _ x → ∃ n, prg.run n 5 x = some true) : Rows.BooleanFullUptoCardSaid :=
  Claim7.holds_tied_plain_at .later [] _ _ _ _ (full_said plain) (fun _ h => by cases h) (by kernel_rfl) (fun _ h => by cases h) booleanFullUpto_row_tie rfl ⟨rfl, rfl⟩ (by kernel_rfl) rfl full_plain (by kernel_rfl)

end Go.Proofs.YtgkobbodicfofaaDoor.Am
end
