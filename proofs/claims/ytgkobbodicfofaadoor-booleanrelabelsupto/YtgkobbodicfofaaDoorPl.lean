import Derived.Test.YtgkobbodicfofaaDoorPe
import Derived.Test.YtgkobbodicfofaaDoorCards
import Derived.Test.YtgkobbodicfofaaDoorTie
import Derived.Test.YtgkobbodicfofaaDoorMd
import Derived.Deep.DeepHandedRow
import Derived.Deep.DeepWitnessRowRef
import Derived.Lib.LaidTab
noncomputable section
namespace Go.Proofs.YtgkobbodicfofaaDoor.Am
open Go Go.AM Go.RowKit Go.ChangeShapes
set_option maxRecDepth 100000
set_option linter.unusedVariables false
theorem good (n i : Nat) : AM.Good Tryd.prog prg.glob (prg.spec i).sig (prg.run n i) := run_good prg tyOk mixed (fun i _ => fnAll i) (fun i => orAt_all (p := fun c => ∀ e, c.ext = some e → AM.Good Tryd.prog prg.glob c.sig e) (by intro e h; cases h) specTab (by
 intro x hx e h
 simp only [specTab, List.mem_cons, List.not_mem_nil, or_false] at hx
 rcases hx with rfl | rfl | rfl | rfl | rfl | rfl | rfl | rfl | rfl | rfl | rfl | rfl | rfl | rfl | rfl | rfl | rfl | rfl | rfl | rfl | rfl | rfl | rfl | rfl | rfl | rfl | rfl | rfl | rfl | rfl | rfl | rfl | rfl | rfl | rfl | rfl | rfl | rfl | rfl | rfl | rfl | rfl | rfl | rfl | rfl | rfl | rfl | rfl | rfl | rfl | rfl | rfl | rfl | rfl | rfl | rfl | rfl | rfl | rfl | rfl | rfl | rfl | rfl | rfl | rfl | rfl | rfl | rfl | rfl | rfl | rfl | rfl | rfl | rfl | rfl | rfl | rfl | rfl | rfl | rfl | rfl | rfl | rfl | rfl | rfl | rfl | rfl | rfl | rfl | rfl | rfl | rfl | rfl | rfl | rfl
 all_goals first | (cases h; done) | (obtain rfl := (Option.some.inj h).symm; exact clone_good)) i) n i
theorem bulkAll {H : Type} : ∀ l : List (DataW H), sumW Rows.uptoBulk l = Rows.uptoBulkAll l
 | [] => rfl
 | d :: l => by simp only [sumW, Rows.uptoBulkAll, bulkAll l]
theorem bulkOk {H : Type} : BulkOk (Rows.uptoBulk (H := H)) := by
 refine ⟨fun l => ?_, fun b => ?_, ?_, fun es sp => ?_, fun ps => ?_⟩
 ·cases l <;> simp [Rows.uptoBulk]
 ·simp [Rows.uptoBulk]
 ·simp [Rows.uptoBulk]
 ·rw [bulkAll]; simp only [Rows.uptoBulk]; omega
 ·rw [bulkAll]; simp only [Rows.uptoBulk]; omega
theorem own : ownKnob Tryd.prog.godebug = none := by kernel_rfl
theorem gAl : Tryd.prog.globalNamed "boskage/boskagelaw05.al" = some 0 := by kernel_rfl
theorem gAlType : (Tryd.prog.globals[0]?).map (·.type) = some 24 := by kernel_rfl
theorem laidOut : laidOutB Tryd.prog = true := by kernel_rfl
theorem globOk {W : World} (h : laidMetH Tryd.prog [("boskage/boskagelaw05.al", Rows.laid_boskage_boskagelaw05_al)] W) : GlobOk prg.glob W (lent fun b _ => b < W.heap.size) := by
 obtain ⟨ps, ⟨g', t', cs, fuel, p, q, hg', ht', hvar, hd, _, _⟩, _⟩ : laidMet Tryd.prog [("boskage/boskagelaw05.al", Rows.laid_boskage_boskagelaw05_al)] W := h
 obtain rfl := Option.some.inj (gAl.symm.trans hg')
 obtain rfl := Option.some.inj (gAlType.symm.trans ht')
 obtain ⟨xs, m, _, hx, hl, hxl, hget⟩ := DataW.trod_struct Tryd.underlying24 hd
 match xs, hxl with
 | [x0], _ =>
   have h0 := hget 0 _ rfl
   simp only [List.getElem?_cons_zero] at h0
   have hx0 : x0.1 = .slice [.lit (.int .i64 0), .lit (.int .i64 2)] [] := by
    have := congrArg Prod.fst hx
    simp only [Rows.laid_boskage_boskagelaw05_al, List.map_cons, List.map_nil, DataW.agg.injEq, List.cons.injEq, and_true] at this
    exact this.symm
   obtain ⟨v, hv, hpc⟩ := ints_laid (zs := [0, 2]) Tryd.underlying22 Tryd.underlying3 (by kernel_rfl) h0 hx0 (by simp)
   have hcl : cs.toList.length = 1 := by rw [hl]; kernel_rfl
   obtain ⟨u, hu⟩ := List.length_eq_one_iff.1 hcl
   have huv : u = v := by
    rw [hu] at hv
    have : ([u].drop 0).take (Tryd.prog.cellsOf 22) = [u] := by
     have : Tryd.prog.cellsOf 22 = 1 := by kernel_rfl
     rw [this]; rfl
    exact (List.cons.inj (this.symm.trans hv)).1
   subst huv
   have hcell := World.var?_cell gAl hvar 0
   have hc0 : cs[0]? = some u := by rw [← Array.getElem?_toList, hu]; rfl
   rw [hc0] at hcell
   have hlt : 0 < W.heap.size := by
    unfold World.cell? at hcell
    split at hcell
    ·rename_i hh; exact (Array.getElem?_eq_some_iff.1 hh).1
    ·cases hcell
   intro gl cells hgl
   simp only [prg, globAt, cond_eq_ite] at hgl
   split at hgl
   ·rename_i hb
    have := Nat.eq_of_beq_eq_true hb
    subst this
    cases hgl
    refine ⟨rfl, [u], fun j hj => ?_, ⟨u, [], rfl, hpc, rfl⟩⟩
    have : j = 0 := by simpa using hj
    subst this
    exact ⟨hcell, hlt⟩
   ·cases hgl
noncomputable def laidWorld (os : Os) : World :=
 let N := (World.settled Tryd.prog os).heap.size
 let w0 := World.holding Tryd.prog os ⟨#[.cells #[.int .i64 0, .int .i64 2] 3], #[], []⟩
 { w0 with heap := w0.heap.modify 0 fun
  | .cells _ t frozen => .cells #[.slice (some ⟨N, 0, none⟩) 2 2] t frozen
  | o => o }
theorem laid_met (os : Os) (args : Array Value) : laidMet Tryd.prog [("boskage/boskagelaw05.al", Rows.laid_boskage_boskagelaw05_al)] ((laidWorld os).forCall (fun _ _ => 0) ⟨#[], args, []⟩).memory :=
 laidMet_of_run' 8 (by kernel_rfl) (by kernel_rfl)
end Go.Proofs.YtgkobbodicfofaaDoor.Am
end
