import Derived.Test.YtgkobbodicfofaaDoorPt
noncomputable section
namespace Go.Proofs.YtgkobbodicfofaaDoor.Am
open Go Go.AM
set_option maxRecDepth 100000
set_option linter.unusedVariables false
noncomputable def cl0 (x : List Int) : St := (enter g37 x).upds [.tm 2 (.val false [⟨.sl [.int .i64], .own, ([] : List Int)⟩])]
noncomputable def cl1 (x : List Int) (b : Bool) : St := (cl0 x).upds [.tm 3 (.val false [⟨.sl [.int .i64], .pure, x⟩]), .tm 4 (vBool b)]
theorem clone_good : AM.Good Go.Proofs.Tryd.prog prg.glob g37 cloneX := by
 refine good_of (E := envX 37) (c := s37) tyOk fn37 rfl rfl fun x r hx => ⟨_, rfl, fun C a w g hR => ?_⟩
 have hr : List.length x ≤ maxRows ∧ r = x := by
  unfold cloneX at hx
  simp only [cond_eq_ite] at hx
  split at hx
  ·rename_i hd
   cases hx
   exact ⟨of_decide_eq_true hd, rfl⟩
  ·cases hx
 obtain ⟨hlen, rfl⟩ := hr
 refine wp_seq ?_
 refine region_ok (E := envX 37) (envX_ok 37) mixed (k := fun s => some s) (r := cl0 r) (by kernel_rfl) hR fun s' a1 w1 g1 r1 hk => ?_
 obtain rfl : s' = cl0 r := Option.some.inj hk
 refine wp_seq (wp_seq (wp_region (wpOps_nil_eq (E := envX 37) (envX_ok 37) r1 (sh := .sl [.int .i64]) (x := r) rfl rfl (by kernel_rfl) Tryd.underlying22 ⟨rfl, by decide⟩ ⟨rfl, by decide⟩ fun b a2 w2 g2 hb r2 => ?_)))
 have r2' : Rel (envX 37) C (cl1 r b) a2 w2 g2 := r2
 have hev : a2.eval (.tmp 4) = .bool b := peekBool_ok (E := envX 37) r2' (x := .tmp 4) (by kernel_rfl)
 refine wp_cond (t := b) hev ?_
 cases b with
 | true =>
   have h0 : r = [] := List.eq_nil_of_length_eq_zero (hb rfl)
   subst h0
   refine ev_ok (E := envX 37) (envX_ok 37) mixed (n := 0) _ (.s .o .o) (k := fun e s => match e with | .ret => leave (envX 37) g37 s37.fn.results.toList s | _ => none) (r := ([] : List Int)) (by kernel_rfl) r2' fun e s' a' w' g' hr' he => ?_
   cases e with
   | ret => exact ⟨.inr rfl, s', g', hr', he⟩
   | normal => cases he
   | exit i => cases he
 | false =>
   refine wp_skip ?_
   refine ev_ok (E := envX 37) (envX_ok 37) mixed (n := 0) _ (.s .o .o) (k := fun e s => match e with | .normal => leave (envX 37) g37 s37.fn.results.toList s | .ret => leave (envX 37) g37 s37.fn.results.toList s | _ => none) (r := r) ?_ r2' fun e s' a' w' g' hr' he => ?_
   ·refine Eq.trans (b := bif decide (List.length ([] : List Int) + List.length r ≤ maxRows) then some (List.append ([] : List Int) r) else none) (by kernel_rfl) ?_
    rw [decide_eq_true (by simpa using hlen)]; rfl
   ·cases e with
    | ret => exact ⟨.inr rfl, s', g', hr', he⟩
    | normal => exact ⟨.inl rfl, s', g', hr', he⟩
    | exit i => cases he
end Go.Proofs.YtgkobbodicfofaaDoor.Am
end
