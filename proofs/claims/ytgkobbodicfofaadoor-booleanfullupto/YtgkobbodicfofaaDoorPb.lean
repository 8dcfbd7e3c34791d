/- What is proved: the law BooleanFull answers true at all arguments, whatever the run's choices (the statement's second form, of a bulk of at most 1048576; the arguments are four numbers).
 Conditions: none beyond those of the given statement. -/
import Derived.Test.YtgkobbodicfofaaDoorPu
import Derived.Test.YtgkobbodicfofaaDoorPm
import Derived.Test.YtgkobbodicfofaaDoorMk
noncomputable section
namespace Go.Proofs.YtgkobbodicfofaaDoor.Am
open Go Go.AM Go.Bk
set_option maxRecDepth 100000
set_option linter.unusedVariables false
theorem k_many (s m : Int) (h0 : 0 ≤ m) (hm : m ≤ 20000) : Sp f_law05_many (s, m) (fun r => r = (s, [], List.replicate m.toNat (rule0 0))) := Sp.step s_law05_many (sp_many s m h0 hm)
theorem k_Union_zero (s t : Int) (a b : Nat) (hs : 1 ≤ s) (ht : 1 ≤ t) (hs' : s ≤ 300) (ht' : t ≤ 300) (ha : a ≤ 20000) (hb : b ≤ 20000) :
    Sp f_boolean_Union ([0, 2], s, [], List.replicate a (rule0 0), t, [], List.replicate b (rule0 0))
      (fun r => (s + t > 300 ∨ a + b > 20000 → r.2.2.2 = 3) ∧ (s + t ≤ 300 → a + b ≤ 20000 → r = (s + t, [], List.replicate a (rule0 0) ++ List.replicate b (rule0 s), 0))) := by
  have hm := maxRows_eq
  exact Sp.step s_boolean_Union (sp_Union_zero hs ht hs' ht' ha hb (fun S l hl h3 => k_Copy S [] l (by simp) (by omega) h3) (fun S l hl h3 => k_auto_Valid [0, 2] S [] l (by simp [hm]) (by simp) (by omega) h3))
theorem k_BooleanFull (s t m n : Int) : Sp f_law05_BooleanFull (s, t, m, n) (fun r => r = true) := by
  have hm := maxRows_eq
  refine Sp.step s_law05_BooleanFull (sp_BooleanFull s t m n k_awake k_many k_Union_zero fun S l hl h3 => k_law05_valid [0, 2] [(S, [], l)] (by simp [hm]) fun b hb => ?_)
  rw [List.mem_singleton.mp hb]
  exact ⟨by simp, by simp only; omega, h3⟩
theorem full_law (x : g5.In) : ∃ n, prg.run n 5 x = some true := by
  obtain ⟨s, t, m, n⟩ := x
  obtain ⟨_, rfl, N, hN⟩ := k_BooleanFull s t m n
  exact ⟨N, hN N (Nat.le_refl _)⟩
theorem BooleanFullHolds : Rows.BooleanFullUptoCardSaid := full_card fun x _ _ => full_law x
end Go.Proofs.YtgkobbodicfofaaDoor.Am
namespace Go.Proofs.YtgkobbodicfofaaDoor
theorem full_holds : Rows.BooleanFullUptoCardSaid := Am.BooleanFullHolds
end Go.Proofs.YtgkobbodicfofaaDoor
end
