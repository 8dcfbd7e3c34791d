/- What is proved: the law BooleanRelabels answers true at all arguments whose bulk is at most 1048576, whatever the run's choices.
 Conditions: none beyond those of the given statement. -/
import Derived.Test.YtgkobbodicfofaaDoorPl
import Derived.Test.YtgkobbodicfofaaDoorPu
noncomputable section
namespace Go.Proofs.YtgkobbodicfofaaDoor.Am
open Go Go.AM Go.RowKit Go.ChangeShapes
set_option maxRecDepth 100000
set_option linter.unusedVariables false
theorem relabels_contract (plain : ∀ x : g7.In, wtA _ x ≤ 1048576 → fitA _ x → ∃ n, prg.run n 7 x = some true) (H : Type) (enc : TypeId × Value → H) (W : World) (base : Nat) (args : Array Value) (ds gs : List (DataW H)) (before : List MemPlace)
 (hval : ∀ (j : Nat) t v, Tryd.f7.params[j]? = some t → args[j]? = some v → Value.okWide Tryd.prog W .any base t v)
 (hW : DataW.Whole enc Tryd.prog Tryd.f7.params.toList Rows.booleanRelabelsSpec.vars false W args.toList ds gs before) (hk : Rows.uptoSmall H (ds ++ gs) = true) (hL : laidMetH Tryd.prog Rows.booleanRelabelsUptoRow.laid W) :
 Calls Tryd.prog 7 args W fun e W' => ∃ v, e = .returned v ∧ Rows.booleanRelabelsSpec.post enc Tryd.prog Tryd.f7 false true false false W args v W' := by
 obtain ⟨p, q, hA, hV, hbe, hfz, hnd⟩ := id hW
 obtain ⟨hgs, _⟩ := trodVars_none hV
 subst hgs
 have hsmall : sumW Rows.uptoBulk ds ≤ 1048576 := by
  rw [bulkAll]
  have := of_decide_eq_true hk
  rwa [List.append_nil] at this
 obtain ⟨x, hE, hw, hf⟩ := args_ok (ty := prg.ty) tyOk rdOk bulkOk (base := base) (sig := g7) (by kernel_rfl) (fun k t v ht hv => hval k t v (by rw [← Array.getElem?_toList]; exact ht) (by rw [← Array.getElem?_toList]; exact hv)) hA
 obtain ⟨n, hn⟩ := plain x (Nat.le_trans hw hsmall) hf
 have hC := law_calls (good n 7) (x := x) (r := true) rfl rfl hn rfl hE (globOk hL)
 refine law_contract laidOut rfl Tryd.underlying4 ?_ rfl hW (fun _ => ?_) hC
 ·intro t ht
  have : t = 24 ∨ t = 22 ∨ t = 27 ∨ t = 30 := by
   have h := (show Tryd.f7.params.toList = [24, 24, 22, 27, 30] from rfl) ▸ ht
   simpa using h
  rcases this with rfl | rfl | rfl | rfl <;> exact ⟨by kernel_rfl, of_decide_eq_true (by kernel_rfl)⟩
 ·have hl : ds.length = 5 := by
   have h2 : Tryd.f7.params.toList.length = 5 := rfl
   have h3 : ∀ {ts : List TypeId} {vs : List Value} {ds : List (DataW H)} {ps : List MemPlace}, DataW.TrodAll enc Tryd.prog W 0 (fun _ => true) true ts vs ds ps → ds.length = ts.length := by
    intro ts
    induction ts with
    | nil => intro vs ds ps h; cases vs <;> cases ds <;> simp_all [DataW.TrodAll]
    | cons t ts ih =>
      intro vs ds ps h
      cases vs with
      | nil => simp [DataW.TrodAll] at h
      | cons v vs =>
        cases ds with
        | nil => simp [DataW.TrodAll] at h
        | cons d ds =>
          obtain ⟨_, _, _, h2, _⟩ := h
          simp [ih h2]
   rw [h3 hA, h2]
  match ds, hl with
  | [d1, d2, d3, d4, d5], _ => rfl
theorem relabels_reads (os : Os) {H : Type} (enc : TypeId × Value → H) : ∃ ps, DataW.whole enc Tryd.prog ((laidWorld os).forCall (fun _ _ => 0) ⟨#[], #[.agg #[.slice none 0 0], .agg #[.slice none 0 0], .slice none 0 0, .agg #[.int .i64 0, .slice none 0 0, .slice none 0 0], .agg #[.int .i64 0, .slice none 0 0]], []⟩).memory Tryd.f7.params.toList Rows.booleanRelabelsSpec.vars false #[Value.agg #[.slice none 0 0], .agg #[.slice none 0 0], .slice none 0 0, .agg #[.int .i64 0, .slice none 0 0, .slice none 0 0], .agg #[.int .i64 0, .slice none 0 0]].toList 8 =
 some ([.agg [.nil], .agg [.nil], .nil, .agg [.lit (.int .i64 0), .nil, .nil], .agg [.lit (.int .i64 0), .nil]], [], ps) := ⟨[], by kernel_rfl⟩
theorem relabels_lifted (plain : ∀ x : g7.In, wtA _ x ≤ 1048576 → fitA _ x → ∃ n, prg.run n 7 x = some true) (os : Os) (started : os.Started) (H : Type) (enc : TypeId × Value → H) (F : Stop.Interp) :
 ReturnsInHanded {} Tryd.checked os 7 .any ((Rows.OpenSpec.upto Rows.booleanRelabelsSpec).preRow enc Tryd.prog Tryd.f7 Rows.booleanRelabelsUptoRow.domain false Rows.booleanRelabelsUptoRow.laid) (((Rows.OpenSpec.upto Rows.booleanRelabelsSpec).at F).post enc Tryd.prog Tryd.f7 false true false false) := by
 obtain ⟨ps, hx⟩ := relabels_reads os enc
 refine returnsInHanded_of_row (C := Tryd.checked) (s := Rows.OpenSpec.upto Rows.booleanRelabelsSpec) own started (by kernel_rfl) Tryd.func7
  (witness_row_atRef (enc := enc) (C := Tryd.checked) false (laidWorld os) #[.agg #[.slice none 0 0], .agg #[.slice none 0 0], .slice none 0 0, .agg #[.int .i64 0, .slice none 0 0, .slice none 0 0], .agg #[.int .i64 0, .slice none 0 0]] rfl (by kernel_rfl) (by kernel_rfl) (by kernel_rfl)
   (OpenSpec.preRow_of_cond 8 hx (by kernel_rfl) (fun k hk => by cases hk; kernel_rfl) (by kernel_rfl) (laid_met os _))) ?_
 intro W base args ds gs before hval hW _ hcond _ hL _ _
 exact relabels_contract plain H enc W base args ds gs before hval hW (hcond _ rfl) hL
theorem relabels_said (plain : ∀ x : g7.In, wtA _ x ≤ 1048576 → fitA _ x → ∃ n, prg.run n 7 x = some true) : Rows.BooleanRelabelsUptoSaid :=
 OpenClaim.holds_of_cond 7 Tryd.f7 rfl rfl rfl rfl rfl rfl rfl ⟨rfl, rfl, rfl, rfl, rfl⟩ rfl rfl rfl rfl rfl (by kernel_rfl) Tryd.func7 (by kernel_rfl)
  (of_decide_eq_true (by kernel_rfl)) (by unfold Func.isWrapper; first | (rw [if_pos (by decide +kernel)]; kernel_rfl) | (rw [if_neg (by decide +kernel)]; exact ⟨rfl, rfl⟩))
  (fun os started H enc _ F => by rw [OpenClaim.pre_eq_preRow]; exact relabels_lifted plain os started H enc F)
theorem relabels_plain (f : FuncId) (fn : Func) (hf : Tryd.pinned.checked.prog.funcNamed "boskage/boskagelaw05.BooleanRelabels" = some f) (hfn : Tryd.pinned.checked.prog.funcs[f]? = some fn) :
 false = Tryd.pinned.checked.prog.looks [] ∧ ∀ (j : Nat) t, fn.params[j]? = some t → Tryd.pinned.checked.prog.wantsStandIn t = false := by
 obtain rfl : f = 7 := Option.some.inj ((show Tryd.prog.funcNamed "boskage/boskagelaw05.BooleanRelabels" = some 7 by kernel_rfl).symm.trans hf) |>.symm
 obtain rfl : fn = Tryd.f7 := (Option.some.inj (Tryd.func7.symm.trans hfn)).symm
 refine ⟨by kernel_rfl, fun j t ht => ?_⟩
 rw [Tryd.params7] at ht
 have : t = 24 ∨ t = 22 ∨ t = 27 ∨ t = 30 := by simpa using Array.mem_of_getElem? ht
 rcases this with rfl | rfl | rfl | rfl
 ·exact (show Tryd.prog.wantsStandIn 24 = false by kernel_rfl)
 ·exact (show Tryd.prog.wantsStandIn 22 = false by kernel_rfl)
 ·exact (show Tryd.prog.wantsStandIn 27 = false by kernel_rfl)
 ·exact (show Tryd.prog.wantsStandIn 30 = false by kernel_rfl)
theorem relabels_card (plain : ∀ x : g7.In, wtA _ x ≤ 1048576 → fitA _ x → ∃ n, prg.run n 7 x = some true) : Rows.BooleanRelabelsUptoCardSaid :=
 Claim7.holds_tied_plain_at .later [] _ _ _ _ (relabels_said plain) (fun _ h => by cases h) (by kernel_rfl) (fun _ h => by cases h) booleanRelabelsUpto_row_tie rfl ⟨rfl, rfl⟩ (by kernel_rfl) rfl relabels_plain (by kernel_rfl)
end Go.Proofs.YtgkobbodicfofaaDoor.Am
end
noncomputable section
namespace Go.Proofs.YtgkobbodicfofaaDoor.Am
open Go Go.AM Go.Bk
set_option maxRecDepth 100000
set_option linter.unusedVariables false
theorem k_BooleanRelabels (b to sy : List Int) (S : Int) (fin : List Int) (rs : List Rule) (t : RT Int) (ht : nds t ≤ 10000000) (hr : rs.length ≤ 10000000) :
 Sp f_law05_BooleanRelabels (b, to, sy, S, fin, rs, t.a, t.kids) (fun r => r = true) := by
 have hm := maxRows_eq
 refine Sp.step s_law05_BooleanRelabels (sp_BooleanRelabels b to sy S fin rs t k_awake (k_law05_few b t [(S, fin, rs)] (by omega) (by simp only [len1]; omega) (fun c hc => by rw [List.mem_singleton.mp hc]; simp only; omega)) ?_ k_valid1
  (k_ref01_ValidAlphabet to) (fun h => Sp.step s_ref05_Mapped (sp_ref05_Mapped b to sy (by omega))) (k_ref01_Valid b t (by omega)) (fun hok hs => sp_Map s_ref05_Map hok t (by omega) hs) ?_ ?_ ?_)
 ·intro hf hb hsy
  have h1 : b.length ≤ 40 := hf.1
  have h2 : fin.length ≤ 30 := hf.2.1
  have h3 : rs.length ≤ 30 := hf.2.2.1
  have h4 : ∀ r ∈ rs, r.2.1.length ≤ 10 := hf.2.2.2.2
  refine Sp.step s_boolean_Relabel (tt_Relabel b to sy S fin rs h3 (fun l hl => by
   rcases hl with rfl | rfl
   ·exact k_tree_ValidAlphabet _ (by omega)
   ·exact k_tree_ValidAlphabet _ (by omega)) (k_auto_Valid b S fin rs (by omega) (by omega) (by omega) fun r hr => by have := h4 r hr; omega) (Sp.step s_boolean_mapped (sp_mapped b to sy (by omega)))
   (k_Copy S fin rs (by omega) (by omega) fun r hr => by have := h4 r hr; omega) (k_Sorted ⟨by rw [rel, List.length_map]; omega, fun r hr => ?_⟩))
  obtain ⟨r0, h0, rfl⟩ := List.mem_map.1 hr
  have := h4 r0 h0
  show r0.2.1.length ≤ 1000
  omega
 ·intro al t' c hn hc hv hs
  exact k_Has1 al t' (by omega) c hc hv hs
 ·intro hf hr
  exact Sp.step s_ref05_Relabel (tt_ref05_Relabel sy S fin rs hf.2.1 hf.2.2.1 hr)
 ·intro R R' hR hR' hv hv' hs
  exact k_Alike2 to S fin R R' hv.1 (wf_of hR hv) (wf_of hR' hv') hs
theorem relabels_law (x : g7.In) (h : wtA _ x ≤ 1048576) : ∃ n, prg.run n 7 x = some true := by
 obtain ⟨b, to, sy, S, fin, rs, a, ks⟩ := x
 have h' : wt (.sl [.int .i64]) b + (wt (.sl [.int .i64]) to + (wt (.sl [.int .i64]) sy + (1 + (wt (.sl [.int .i64]) fin + (wt (.sl [.int .i64, .sl [.int .i64], .int .i64]) rs + (1 + wt (.rsl [.int .i64]) ks)))))) ≤ 1048576 := h
 have h1 := (rules_wt rs).1
 have h2 := kids_wt a ks
 obtain ⟨_, rfl, N, hN⟩ := k_BooleanRelabels b to sy S fin rs (.mk a ks) (by omega) (by omega)
 exact ⟨N, hN N (Nat.le_refl _)⟩
theorem BooleanRelabelsHolds : Rows.BooleanRelabelsUptoCardSaid := relabels_card fun x h _ => relabels_law x h
end Go.Proofs.YtgkobbodicfofaaDoor.Am
namespace Go.Proofs.YtgkobbodicfofaaDoor
theorem relabels_holds : Rows.BooleanRelabelsUptoCardSaid := Am.BooleanRelabelsHolds
end Go.Proofs.YtgkobbodicfofaaDoor
end
