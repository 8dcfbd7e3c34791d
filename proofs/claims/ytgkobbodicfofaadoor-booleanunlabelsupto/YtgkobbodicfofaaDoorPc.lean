/- What is proved: the law BooleanUnlabels answers true at all arguments whose bulk is at most 1048576, whatever the run's choices.
 Conditions: none beyond those of the given statement. -/
import Derived.Test.YtgkobbodicfofaaDoorMo
import Derived.Test.YtgkobbodicfofaaDoorPl
import Derived.Test.YtgkobbodicfofaaDoorPu
noncomputable section
namespace Go.Bk
open Go Go.AM
set_option linter.unusedVariables false
/-! The law BooleanUnlabels -/
noncomputable def Mid (c : Aut) : Prop := c.2.1.length ≤ 100 ∧ c.2.2.length ≤ 2000 ∧ ∀ r ∈ c.2.2, r.2.1.length ≤ 10
theorem FewOk.mid {al : List Int} {c : Aut} (h : FewOk al c) : Mid c := ⟨by have := h.2.1; omega, by have := h.2.2.1; omega, h.2.2.2.2⟩
theorem ValidA.from3 {al : List Int} {c : Aut} (h : ValidA al c) : ∀ r ∈ c.2.2, r.2.1.length ≤ 3 := by
  intro r hr
  have h1 := (h.rule hr).ar
  obtain ⟨hk, hk'⟩ := List.getElem?_eq_some_iff.mp h1.2
  have := (h.1.2 _ hk).2
  omega
theorem one_iff {P : Aut → Prop} {a : Aut} : (∀ b ∈ [a], P b) ↔ P a := ⟨fun h => h _ (List.mem_singleton.mpr rfl), fun h b hb => List.mem_singleton.mp hb ▸ h⟩
theorem sp_BooleanUnlabels {Un : Nat → List Int × List Int × List Int × Int × List Int × List Rule → Option (Int × List Int × List Rule × Int)} {Aw : Nat → Unit → Option Bool} {Fw : Nat → List Int × Int × List (RT Int) × List Aut → Option Bool}
    {Ri : Nat → List Int × Int × List Int × List Rule × Int × List (RT Int) × Bool → Option Bool} {Va : Nat → List Int × List Aut → Option Bool} {Tv : Nat → List Int × Int × List (RT Int) → Option Bool} {Av : Nat → List Int → Option Bool}
    {Ha : Nat → Int × List Int × List Rule × Int × List (RT Int) → Option Bool} {On : Nat → Int × List Int × List Rule → Option Bool} {Ak : Nat → List Int × Int × List Int × List Rule × Int × List Int × List Rule → Option Bool}
    {Mp : Nat → List Int × Int × List (RT Int) → Option (Int × List (RT Int))} {Md : Nat → List Int × List Int × List Int → Option Int} {Ul : Nat → List Int × Int × List Int × List Rule → Option Aut}
    (b to sy : List Int) (S : Int) (fin : List Int) (rs : List Rule) (t : RT Int)
    (hA : Sp Aw () (fun r => r = true)) (hW : Sp Fw (to, t.a, t.kids, [(S, fin, rs)]) (fun r => r = true → ∀ c ∈ [((S, fin, rs) : Aut)], FewOk to c))
    (hU : FewOk to (S, fin, rs) → b.length ≤ 40 → sy.length ≤ 40 → Sp Un (b, to, sy, S, fin, rs) (fun u => (¬ (AlOk b ∧ AlOk to ∧ ValidA to (S, fin, rs)) → u.2.2.2 = 1) ∧
      (AlOk b → AlOk to → ValidA to (S, fin, rs) → ∃ v, MapV b to sy v ∧ (v ≠ 0 → u.2.2.2 = v) ∧ (v = 0 → u = (S, fin, unl sy rs, 0)))))
    (hV : ∀ (al : List Int) (c : Aut), Mid c → Sp Va (al, [c]) (fun r => r = true ↔ ∀ c' ∈ [c], ValidA al c')) (hAv : Sp Av b (fun r => r = true ↔ AlOk b)) (hMd : sy.length ≤ 40 → Sp Md (b, to, sy) (MapV b to sy))
    (hOn : ∀ c : Aut, Mid c → Sp On (c.1, c.2.1, c.2.2) (fun r => r = true ↔ OnePw c.2.2)) (hT : Sp Tv (b, t.a, t.kids) (fun r => r = true → Shp b t))
    (hMp : MapOk b to sy → Shp b t → Sp Mp (sy, t.a, t.kids) (fun r => r = ((mapT sy t).a, (mapT sy t).kids)))
    (hHa : ∀ c : Aut, Mid c → ValidA to c → Shp to (mapT sy t) → Sp Ha (c.1, c.2.1, c.2.2, (mapT sy t).a, (mapT sy t).kids) (fun r => r = true ↔ Acc c.2.2 c.2.1 (mapT sy t)))
    (hR : ∀ (c : Aut) (w : Bool), Mid c → ValidA b c → Shp b t → (w = true ↔ Acc c.2.2 c.2.1 t) → Sp Ri (b, c.1, c.2.1, c.2.2, t.a, t.kids, w) (fun r => r = true))
    (hUl : FewOk to (S, fin, rs) → sy.length ≤ 40 → Sp Ul (sy, S, fin, rs) (fun u => u = (S, fin, unl sy rs)))
    (hAk : ∀ c : Aut, Mid c → ValidA b c → Sp Ak (b, c.1, c.2.1, c.2.2, c.1, c.2.1, c.2.2) (fun r => r = true)) :
    Sp (fun n => law05_BooleanUnlabels.P (Un n) (Aw n) (Fw n) (Ri n) (Va n) (Tv n) (Av n) (Ha n) (On n) (Ak n) (Mp n) (Md n) (Ul n) n) (b, to, sy, S, fin, rs, t.a, t.kids) (fun r => r = true) := by
  show Tt (fun n => law05_BooleanUnlabels.P (Un n) (Aw n) (Fw n) (Ri n) (Va n) (Tv n) (Av n) (Ha n) (On n) (Ak n) (Mp n) (Md n) (Ul n) n (b, to, sy, S, fin, rs, t.a, t.kids)) _
  unfold law05_BooleanUnlabels.P; dsimp only
  refine Tt.bind (R := fun x => ∃ c : Bool, (c = false → FewOk to (S, fin, rs) ∧ b.length ≤ 40 ∧ sy.length ≤ 40) ∧ x = (sy, b, to, S, fin, rs, t.a, t.kids, c)) ?_ ?_
  · refine Tt.bind hW fun w hw => Tt.ite (fun _ => Tt.pure ⟨true, fun h => (by cases h), rfl⟩) (fun h1 => Tt.ite (fun _ => Tt.pure ⟨true, fun h => (by cases h), rfl⟩) (fun h2 => Tt.pure ⟨_, fun h3 => ?_, rfl⟩))
    have h2 := dec_not h2; have h3 := dec_not h3
    exact ⟨one_iff.1 (hw (by simpa using h1)), by omega, by omega⟩
  rintro _ ⟨c, hc, rfl⟩
  dsimp only
  refine Tt.ite (fun _ => Tt.bind hA fun r hr => Tt.pure hr) (fun hcf => ?_)
  obtain ⟨hfew, hb40, hsy⟩ := hc hcf
  refine Tt.bind (hU hfew hb40 hsy) fun u hu => ?_
  obtain ⟨hu1, hu2⟩ := hu
  refine Tt.bind (R := fun x => ∃ c : Bool, (c = true → ¬ (AlOk b ∧ AlOk to ∧ ValidA to (S, fin, rs))) ∧ (c = false → AlOk b ∧ ValidA to (S, fin, rs)) ∧ x = (sy, b, to, S, fin, rs, t.a, t.kids, u.1, u.2.1, u.2.2.1, u.2.2.2, c)) ?_ ?_
  · refine Tt.bind (hV to (S, fin, rs) hfew.mid) fun v hv => Tt.ite (fun h => Tt.pure ⟨true, fun _ h' => ?_, fun h => (by cases h), rfl⟩) (fun hvt => Tt.bind hAv fun w hw => Tt.pure ⟨!w, fun h h' => ?_, fun h => ⟨hw.1 (by simpa using h), one_iff.1 (hv.1 (by simpa using hvt))⟩, rfl⟩)
    · rw [hv.2 (one_iff.2 h'.2.2)] at h; cases h
    · rw [hw.2 h'.1] at h; cases h
  rintro _ ⟨c2, hc2, hc3, rfl⟩
  dsimp only
  refine Tt.ite (fun h => Tt.bind (R := fun r => r = true) (Tt.yes (dec_true (hu1 (hc2 h))) (Tt.bind hA fun r hr => Tt.pure hr)) fun r hr => Tt.pure hr) (fun hcf2 => ?_)
  obtain ⟨hb, hva⟩ := hc3 hcf2
  obtain ⟨v, hv, hv1, hv2⟩ := hu2 hb hva.1 hva
  refine Tt.bind (hMd hsy) fun v' hv' => ?_
  have := hv'.uniq hv
  subst this
  refine Tt.ite (fun h => Tt.bind (R := fun r => r = true) (Tt.yes (dec_true (hv1 fun h0 => ?_)) (Tt.bind hA fun r hr => Tt.pure hr)) fun r hr => Tt.pure hr) (fun h => ?_)
  · rw [h0] at h; simp at h
  have hv0 : v' = 0 := by simpa using h
  have hue := hv2 hv0
  subst hue
  dsimp only
  have hok : MapOk b to sy := by
    rcases hv with ⟨h1, _⟩ | ⟨h1, _⟩ | ⟨_, h1⟩
    · omega
    · omega
    · exact h1
  have hf2 : fin.length ≤ 30 := hfew.2.1
  have hf3 : rs.length ≤ 30 := hfew.2.2.1
  have hvu := unl_valid hok hb hsy hf3 hva
  have hmid : Mid (S, fin, unl sy rs) := ⟨by simp only; omega, by
    have h1 := unl_len sy rs
    have h2 : rs.length * sy.length ≤ 30 * 40 := Nat.mul_le_mul hf3 hsy
    simp only; omega, fun r hr => by have := hvu.from3 r hr; omega⟩
  refine Tt.bind (R := fun x => x = (sy, b, S, fin, rs, t.a, t.kids, S, fin, unl sy rs, false)) ?_ ?_
  · refine Tt.no (by simp) (Tt.bind (hV b _ hmid) fun w hw => ?_)
    have : w = true := hw.2 (one_iff.2 hvu)
    subst this
    refine Tt.no rfl (Tt.bind (hOn (S, fin, rs) hfew.mid) fun o ho => Tt.ite (fun h1 => Tt.bind (hOn (S, fin, unl sy rs) hmid) fun o2 ho2 => ?_) (fun _ => Tt.pure rfl))
    have : o2 = true := ho2.2 (unl_one (ho.1 h1))
    subst this
    exact Tt.pure rfl
  rintro _ rfl
  dsimp only
  refine Tt.no rfl (Tt.bind (R := fun x => x = (sy, b, S, fin, rs, S, fin, unl sy rs, false)) ?_ ?_)
  · refine Tt.bind hT fun w hw => Tt.ite (fun h => ?_) (fun _ => Tt.pure rfl)
    have hsh := hw h
    refine Tt.bind (hMp hok hsh) fun mt hmt => ?_
    subst hmt
    refine Tt.bind (hHa (S, fin, rs) hfew.mid hva (mapT_shp hok t hsh)) fun hs hhs => Tt.bind (hR (S, fin, unl sy rs) hs hmid hvu hsh (hhs.trans (unl_acc hok t hsh).symm)) fun ri hri => ?_
    subst hri
    exact Tt.pure rfl
  rintro _ rfl
  dsimp only
  refine Tt.no rfl (Tt.bind (R := fun r => r = true) (Tt.bind (hUl hfew hsy) fun ul hul => ?_) fun r hr => Tt.pure hr)
  subst hul
  refine Tt.bind (hAk (S, fin, unl sy rs) hmid hvu) fun ak hak => ?_
  subst hak
  exact Tt.yes rfl (Tt.bind hA fun r hr => Tt.pure hr)
end Go.Bk
end
noncomputable section
namespace Go.Proofs.YtgkobbodicfofaaDoor.Am
open Go Go.AM Go.RowKit Go.ChangeShapes
set_option maxRecDepth 100000
set_option linter.unusedVariables false
/-! BooleanUnlabels -/
theorem unlabels_contract (plain : ∀ x : g6.In, wtA _ x ≤ 1048576 → fitA _ x → ∃ n, prg.run n 6 x = some true) (H : Type) (enc : TypeId × Value → H) (W : World) (base : Nat) (args : Array Value) (ds gs : List (DataW H)) (before : List MemPlace)
    (hval : ∀ (j : Nat) t v, Tryd.f6.params[j]? = some t → args[j]? = some v → Value.okWide Tryd.prog W .any base t v)
    (hW : DataW.Whole enc Tryd.prog Tryd.f6.params.toList Rows.booleanUnlabelsSpec.vars false W args.toList ds gs before) (hk : Rows.uptoSmall H (ds ++ gs) = true) (hL : laidMetH Tryd.prog Rows.booleanUnlabelsUptoRow.laid W) :
    Calls Tryd.prog 6 args W fun e W' => ∃ v, e = .returned v ∧ Rows.booleanUnlabelsSpec.post enc Tryd.prog Tryd.f6 false true false false W args v W' := by
  obtain ⟨p, q, hA, hV, hbe, hfz, hnd⟩ := id hW
  obtain ⟨hgs, _⟩ := trodVars_none hV
  subst hgs
  have hsmall : sumW Rows.uptoBulk ds ≤ 1048576 := by
    rw [bulkAll]
    have := of_decide_eq_true hk
    rwa [List.append_nil] at this
  obtain ⟨x, hE, hw, hf⟩ := args_ok (ty := prg.ty) tyOk rdOk bulkOk (base := base) (sig := g6) (by kernel_rfl) (fun k t v ht hv => hval k t v (by rw [← Array.getElem?_toList]; exact ht) (by rw [← Array.getElem?_toList]; exact hv)) hA
  obtain ⟨n, hn⟩ := plain x (Nat.le_trans hw hsmall) hf
  have hC := law_calls (good n 6) (x := x) (r := true) rfl rfl hn rfl hE (globOk hL)
  refine law_contract laidOut rfl Tryd.underlying4 ?_ rfl hW (fun _ => ?_) hC
  · intro t ht
    have : t = 24 ∨ t = 22 ∨ t = 27 ∨ t = 30 := by
      have h := (show Tryd.f6.params.toList = [24, 24, 22, 27, 30] from rfl) ▸ ht
      simpa using h
    rcases this with rfl | rfl | rfl | rfl <;> exact ⟨by kernel_rfl, of_decide_eq_true (by kernel_rfl)⟩
  · have hl : ds.length = 5 := by
      have h2 : Tryd.f6.params.toList.length = 5 := rfl
      have h3 : ∀ {ts : List TypeId} {vs : List Value} {ds : List (DataW H)} {ps : List MemPlace}, DataW.TrodAll enc Tryd.prog W 0 (fun _ => true) true ts vs ds ps → ds.length = ts.length := by
        intro ts
        induction ts with
        | nil => intro vs ds ps h; cases vs <;> cases ds <;> simp_all [DataW.TrodAll]
        | cons t ts ih =>
          intro vs ds ps h
          cases vs with
          | nil => simp [DataW.TrodAll] at h
          | cons v vs =>
            cases ds with
            | nil => simp [DataW.TrodAll] at h
            | cons d ds =>
              obtain ⟨_, _, _, h2, _⟩ := h
              simp [ih h2]
      rw [h3 hA, h2]
    match ds, hl with
    | [d1, d2, d3, d4, d5], _ => rfl
theorem unlabels_reads (os : Os) {H : Type} (enc : TypeId × Value → H) : ∃ ps, DataW.whole enc Tryd.prog ((laidWorld os).forCall (fun _ _ => 0) ⟨#[], #[.agg #[.slice none 0 0], .agg #[.slice none 0 0], .slice none 0 0, .agg #[.int .i64 0, .slice none 0 0, .slice none 0 0], .agg #[.int .i64 0, .slice none 0 0]], []⟩).memory Tryd.f6.params.toList Rows.booleanUnlabelsSpec.vars false #[Value.agg #[.slice none 0 0], .agg #[.slice none 0 0], .slice none 0 0, .agg #[.int .i64 0, .slice none 0 0, .slice none 0 0], .agg #[.int .i64 0, .slice none 0 0]].toList 8 =
    some ([.agg [.nil], .agg [.nil], .nil, .agg [.lit (.int .i64 0), .nil, .nil], .agg [.lit (.int .i64 0), .nil]], [], ps) := ⟨[], by kernel_rfl⟩
theorem unlabels_lifted (plain : ∀ x : g6.In, wtA _ x ≤ 1048576 → fitA _ x → ∃ n, prg.run n 6 x = some true) (os : Os) (started : os.Started) (H : Type) (enc : TypeId × Value → H) (F : Stop.Interp) :
    ReturnsInHanded {} Tryd.checked os 6 .any ((Rows.OpenSpec.upto Rows.booleanUnlabelsSpec).preRow enc Tryd.prog Tryd.f6 Rows.booleanUnlabelsUptoRow.domain false Rows.booleanUnlabelsUptoRow.laid) (((Rows.OpenSpec.upto Rows.booleanUnlabelsSpec).at F).post enc Tryd.prog Tryd.f6 false true false false) := by
  obtain ⟨ps, hx⟩ := unlabels_reads os enc
  refine returnsInHanded_of_row (C := Tryd.checked) (s := Rows.OpenSpec.upto Rows.booleanUnlabelsSpec) own started (by kernel_rfl) Tryd.func6
    (witness_row_atRef (enc := enc) (C := Tryd.checked) false (laidWorld os) #[.agg #[.slice none 0 0], .agg #[.slice none 0 0], .slice none 0 0, .agg #[.int .i64 0, .slice none 0 0, .slice none 0 0], .agg #[.int .i64 0, .slice none 0 0]] rfl (by kernel_rfl) (by kernel_rfl) (by kernel_rfl)
      (OpenSpec.preRow_of_cond 8 hx (by kernel_rfl) (fun k hk => by cases hk; kernel_rfl) (by kernel_rfl) (laid_met os _))) ?_
  intro W base args ds gs before hval hW _ hcond _ hL _ _
  exact unlabels_contract plain H enc W base args ds gs before hval hW (hcond _ rfl) hL
theorem unlabels_said (plain : ∀ x : g6.In, wtA _ x ≤ 1048576 → fitA _ x → ∃ n, prg.run n 6 x = some true) : Rows.BooleanUnlabelsUptoSaid :=
  OpenClaim.holds_of_cond 6 Tryd.f6 rfl rfl rfl rfl rfl rfl rfl ⟨rfl, rfl, rfl, rfl, rfl⟩ rfl rfl rfl rfl rfl (by kernel_rfl) Tryd.func6 (by kernel_rfl)
    (of_decide_eq_true (by kernel_rfl)) (by unfold Func.isWrapper; first | (rw [if_pos (by decide +kernel)]; kernel_rfl) | (rw [if_neg (by decide +kernel)]; exact ⟨rfl, rfl⟩))
    (fun os started H enc _ F => by rw [OpenClaim.pre_eq_preRow]; exact unlabels_lifted plain os started H enc F)
theorem unlabels_plain (f : FuncId) (fn : Func) (hf : Tryd.pinned.checked.prog.funcNamed "boskage/boskagelaw05.BooleanUnlabels" = some f) (hfn : Tryd.pinned.checked.prog.funcs[f]? = some fn) :
    false = Tryd.pinned.checked.prog.looks [] ∧ ∀ (j : Nat) t, fn.params[j]? = some t → Tryd.pinned.checked.prog.wantsStandIn t = false := by
  obtain rfl : f = 6 := Option.some.inj ((show Tryd.prog.funcNamed "boskage/boskagelaw05.BooleanUnlabels" = some 6 by kernel_rfl).symm.trans hf) |>.symm
  obtain rfl : fn = Tryd.f6 := (Option.some.inj (Tryd.func6.symm.trans hfn)).symm
  refine ⟨by kernel_rfl, fun j t ht => ?_⟩
  rw [Tryd.params6] at ht
  have : t = 24 ∨ t = 22 ∨ t = 27 ∨ t = 30 := by simpa using Array.mem_of_getElem? ht
  rcases this with rfl | rfl | rfl | rfl
  · exact (show Tryd.prog.wantsStandIn 24 = false by kernel_rfl)
  · exact (show Tryd.prog.wantsStandIn 22 = false by kernel_rfl)
  · exact (show Tryd.prog.wantsStandIn 27 = false by kernel_rfl)
  · exact (show Tryd.prog.wantsStandIn 30 = false by kernel_rfl)
theorem unlabels_card (plain : ∀ x : g6.In, wtA _ x ≤ 1048576 → fitA _ x → ∃ n, prg.run n 6 x = some true) : Rows.BooleanUnlabelsUptoCardSaid :=
  Claim7.holds_tied_plain_at .later [] _ _ _ _ (unlabels_said plain) (fun _ h => by cases h) (by kernel_rfl) (fun _ h => by cases h) booleanUnlabelsUpto_row_tie rfl ⟨rfl, rfl⟩ (by kernel_rfl) rfl unlabels_plain (by kernel_rfl)

end Go.Proofs.YtgkobbodicfofaaDoor.Am
end
noncomputable section
namespace Go.Proofs.YtgkobbodicfofaaDoor.Am
open Go Go.AM Go.Bk
set_option maxRecDepth 100000
set_option linter.unusedVariables false
theorem wf_of {al : List Int} {c : Aut} (hm : Mid c) (hv : ValidA al c) : WfA c :=
  ⟨hv.2.1, by have := hv.2.2.1; omega, by have := hm.1; omega, by have := hm.2.1; omega, fun q hq => hv.final hq, fun r hr => ⟨(hv.rule hr).2.2.2.1, fun q hq => by
    obtain ⟨i, hi, rfl⟩ := List.getElem_of_mem hq
    exact (hv.rule hr).2.2.2.2 i hi hi, by have := hm.2.2 r hr; omega⟩⟩
theorem k_valid1 (al : List Int) (c : Aut) (h : Mid c) : Sp f_law05_valid (al, [c]) (fun r => r = true ↔ ∀ c' ∈ [c], ValidA al c') := by
  have hm := maxRows_eq
  refine k_law05_valid al [c] (by simp only [len1]; omega) fun b hb => ?_
  rw [List.mem_singleton.mp hb]
  exact ⟨by have := h.1; omega, by have := h.2.1; omega, fun r hr => by have := h.2.2 r hr; omega⟩
theorem k_right1 (al : List Int) (t : RT Int) (ht : nds t ≤ 10000000) (c : Aut) (w : Bool) (h : Mid c) (hv : ValidA al c) (hs : Shp al t) (hw : w = true ↔ Acc c.2.2 c.2.1 t) : Sp f_law05_right (al, c.1, c.2.1, c.2.2, t.a, t.kids, w) (fun r => r = true) := by
  have hm := maxRows_eq
  exact k_right al c w t (by have := h.2.1; omega) (by have := h.1; omega) hv.ar (by omega) hs hw
theorem k_Has1 (al : List Int) (t : RT Int) (ht : nds t ≤ 10000000) (c : Aut) (h : Mid c) (hv : ValidA al c) (hs : Shp al t) : Sp f_ref03_Has (c.1, c.2.1, c.2.2, t.a, t.kids) (fun r => r = true ↔ Acc c.2.2 c.2.1 t) := by
  have hm := maxRows_eq
  exact k_Has al c.1 c.2.1 c.2.2 (by have := h.2.1; omega) (by have := h.1; omega) hv.ar t (by omega) hs
theorem k_BooleanUnlabels (b to sy : List Int) (S : Int) (fin : List Int) (rs : List Rule) (t : RT Int) (ht : nds t ≤ 10000000) (hr : rs.length ≤ 10000000) :
    Sp f_law05_BooleanUnlabels (b, to, sy, S, fin, rs, t.a, t.kids) (fun r => r = true) := by
  have hm := maxRows_eq
  refine Sp.step s_law05_BooleanUnlabels (sp_BooleanUnlabels b to sy S fin rs t k_awake (k_law05_few to t [(S, fin, rs)] (by omega) (by simp only [len1]; omega) (fun c hc => by rw [List.mem_singleton.mp hc]; simp only; omega)) ?_ k_valid1
    (k_ref01_ValidAlphabet b) (fun h => Sp.step s_ref05_Mapped (sp_ref05_Mapped b to sy (by omega))) ?_ (k_ref01_Valid b t (by omega)) (fun hok hs => sp_Map s_ref05_Map hok t (by omega) hs) ?_ (k_right1 b t ht) ?_ ?_)
  · intro hf hb hsy
    have h1 : to.length ≤ 40 := hf.1
    have h2 : fin.length ≤ 30 := hf.2.1
    have h3 : rs.length ≤ 30 := hf.2.2.1
    have h4 : ∀ r ∈ rs, r.2.1.length ≤ 10 := hf.2.2.2.2
    exact Sp.step s_boolean_Unlabel (tt_Unlabel b to sy S fin rs hsy h2 h3 h4 (fun l hl => by
      rcases hl with rfl | rfl
      · exact k_tree_ValidAlphabet _ (by omega)
      · exact k_tree_ValidAlphabet _ (by omega)) (k_auto_Valid to S fin rs (by omega) (by omega) (by omega) fun r hr => by have := h4 r hr; omega) (Sp.step s_boolean_mapped (sp_mapped b to sy (by omega))) k_Clone)
  · intro c hc
    exact Sp.step s_ref03_One (sp_One c.1 c.2.1 c.2.2 (by have := hc.2.1; omega) (fun r hr => by have := hc.2.2 r hr; omega) fun x y hx => k_List x y (by omega))
  · intro c hc hv hs
    exact k_Has1 to (mapT sy t) (by rw [nds_mapT]; exact ht) c hc hv hs
  · intro hf hsy
    exact Sp.step s_ref05_Unlabel (tt_ref05_Unlabel sy S fin rs hsy hf.2.1 hf.2.2.1)
  · intro c hc hv
    exact k_Alike b c hv.1 (wf_of hc hv)
theorem unlabels_law (x : g6.In) (h : wtA _ x ≤ 1048576) : ∃ n, prg.run n 6 x = some true := by
  obtain ⟨b, to, sy, S, fin, rs, a, ks⟩ := x
  have h' : wt (.sl [.int .i64]) b + (wt (.sl [.int .i64]) to + (wt (.sl [.int .i64]) sy + (1 + (wt (.sl [.int .i64]) fin + (wt (.sl [.int .i64, .sl [.int .i64], .int .i64]) rs + (1 + wt (.rsl [.int .i64]) ks)))))) ≤ 1048576 := h
  have h1 := (rules_wt rs).1
  have h2 := kids_wt a ks
  obtain ⟨_, rfl, N, hN⟩ := k_BooleanUnlabels b to sy S fin rs (.mk a ks) (by omega) (by omega)
  exact ⟨N, hN N (Nat.le_refl _)⟩
theorem BooleanUnlabelsHolds : Rows.BooleanUnlabelsUptoCardSaid := unlabels_card fun x h _ => unlabels_law x h
end Go.Proofs.YtgkobbodicfofaaDoor.Am
namespace Go.Proofs.YtgkobbodicfofaaDoor
theorem unlabels_holds : Rows.BooleanUnlabelsUptoCardSaid := Am.BooleanUnlabelsHolds
end Go.Proofs.YtgkobbodicfofaaDoor
end
