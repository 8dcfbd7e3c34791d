import Derived.Test.YtgkobbodicfofaaDoorMc
import Derived.ChangeArms
import Derived.RowKit3
import Derived.Lib.SliceRun
import Derived.Carry
import Derived.ProofKit
import Derived.OpenShut
import Derived.RowKit
import Derived.ChangeSlices
section
set_option linter.unusedVariables false
namespace Go.AM
open Go
section
variable {P : Program} {E : Env} {C : Ctx} {s s' : St} {a a' : Act} {w w' : World} {g g' : Gh} {o : Oper} {Q : Exit → Act → World → Prop}
theorem seq_ok (hE : EnvOk P E) {ops : Array Oper} {S : Nat → St} {U : Nat → List Upd} (hn : ∀ i, i < ops.size → S (i + 1) = (S i).upds (U i)) (ha : ∀ i o, i < ops.size → ops.toList[i]? = some o → Acts E ops.toList o (S i) (U i))
 (hQ : ∀ a w g, Rel E C (S ops.size) a w g → Q .normal a w) : ∀ (m j : Nat) (a : Act) (w : World) (g : Gh), j + m = ops.size → Rel E C (S j) a w g → wpOps P ops Q (List.range' j m) a w
 | 0, j, a, w, g, hj, hr => by
   simp only [List.range'_zero, wpOps]
   exact hQ a w g (by rw [← hj]; simpa using hr)
 | m + 1, j, a, w, g, hj, hr => by
   rw [List.range'_succ, wpOps_cons]
   have hlt : j < ops.size := by omega
   have ho : ops[j]? = some ops[j] := Array.getElem?_eq_getElem hlt
   refine acts_wp hE hr ho (ha j _ hlt (by simp)) fun a' w' g' hr' => ?_
   exact seq_ok hE hn ha hQ m (j + 1) a' w' g' (by omega) (by rw [hn j hlt]; exact hr')
theorem region_ok (hE : EnvOk P E) (hm : P.follows .mixedOrders = true) {id : Nat} {ops : Array Oper} {draw : Bool} {ρ : Type} {k : St → Option ρ} {r : ρ} (h : runRegion E ops.toList draw s k = some r) (hr : Rel E C s a w g)
 (hQ : ∀ s' a' w' g', Rel E C s' a' w' g' → k s' = some r → Q .normal a' w') : (Code.region id ops draw).wp P Q a w := by
 unfold runRegion at h
 simp only [cond_eq_ite] at h
 split at h
 ·rename_i hd
  obtain ⟨fs', S, U, hs, hk⟩ := runOps_steps _ _ _ _ h
  obtain ⟨F, _, h0, hF⟩ := steps_at _ 0 _ _ _ _ _ (fun _ => ⟨[], []⟩) hs (fun i => by simp) rfl (fun k hk => by omega)
  have hsz : 0 + ops.toList.length = ops.size := by simp
  rw [hsz] at hF hk
  have hfin : ∀ a w g, Rel E C (S ops.size) a w g → Q .normal a w := fun a w g hr => hQ _ a w g hr hk
  cases draw with
  | false =>
    refine wp_region ?_
    rw [List.range_eq_range']
    exact seq_ok hE (fun i hi => (hF i (Nat.zero_le _) hi).1) (fun i o hi ho => ((hF i (Nat.zero_le _) hi).2.1 o ho).1) hfin _ 0 a w g (by omega) (by rw [h0]; exact hr)
  | true =>
    refine wp_region_any hm ?_
    simp only [Bool.not_true, Bool.false_or] at hd
    have hst : StepsAt E ops.toList (aheads ops.toList []) ops.size S U F := ⟨fun i hi => (hF i (Nat.zero_le _) hi).1, fun i o hi ho => ((hF i (Nat.zero_le _) hi).2.1 o ho).1, fun i o hi ho => ((hF i (Nat.zero_le _) hi).2.1 o ho).2,
     fun i hi => (hF i (Nat.zero_le _) hi).2.2.1, fun i k hi hk hc => by
      have := (hF i (Nat.zero_le _) hi).2.2.2 rfl k hk hc
      simpa using this⟩
    have hL : ∀ j, listedL (Array.replicate ops.size false) j = false := by
     intro j
     simp only [listedL, Array.getD_eq_getD_getElem?, Array.getElem?_replicate]
     split <;> rfl
    refine any_ok hE hst hd hfin ops.size (Array.replicate ops.size false) a { w with drawn := w.drawn + 1 } g (by simp) ?_ ?_ ?_
    ·have := List.countP_le_length (p := (! ·)) (l := (Array.replicate ops.size false).toList)
     simpa using this
    ·intro i o _ hl; rw [hL i] at hl; cases hl
    ·have : foldL U (S 0) (listedL (Array.replicate ops.size false)) ops.size = S 0 := by
      have : ∀ n, foldL U (S 0) (listedL (Array.replicate ops.size false)) n = S 0 := by
       intro n
       induction n with
       | zero => rfl
       | succ n ih => simp only [foldL, hL, cond_false]; exact ih
      exact this _
     rw [this, h0]
     exact hr.world (Fr.drew _) hr.base.drew rfl
 ·cases h
structure SameR (L : Loc) (s s' : St) : Prop where
 tm : ∀ n, .tm n = L → s.tm n = s'.tm n
 bx : ∀ n, .bx n = L → s.bx n = s'.bx n
theorem SameR.refl (L : Loc) (s : St) : SameR L s s := ⟨fun _ _ => rfl, fun _ _ => rfl⟩
theorem SameR.symm {L : Loc} (h : SameR L s s') : SameR L s' s := ⟨fun n e => (h.tm n e).symm, fun n e => (h.bx n e).symm⟩
theorem SameR.trans {L : Loc} {s1 s2 s3 : St} (h : SameR L s1 s2) (k : SameR L s2 s3) : SameR L s1 s3 := ⟨fun n e => (h.tm n e).trans (k.tm n e), fun n e => (h.bx n e).trans (k.bx n e)⟩
theorem same_keep {L : Loc} {n : Nat} {t : T} (h : L ≠ .tm n) : SameR L (s.upds [.keep n t]) s :=
 ⟨fun m e => put_other _ _ _ (by rintro rfl; exact h e.symm), fun _ _ => rfl⟩
theorem same_bx {L : Loc} {n : Nat} {b : Bx} (h : L ≠ .bx n) : SameR L (s.upds [.bx n b]) s :=
 ⟨fun _ _ => rfl, fun m e => put_other _ _ _ (by rintro rfl; exact h e.symm)⟩
def Mild (s s' : St) : Prop := ∀ r inst cells, rootCells s r = some (inst, cells) → ∃ cells', rootCells s' r = some (inst, cells') ∧ cells'.map (·.2) = cells.map (·.2)
theorem Mild.refl (s : St) : Mild s s := fun r inst cells h => ⟨cells, h, rfl⟩
theorem Mild.trans {s1 s2 s3 : St} (h : Mild s1 s2) (k : Mild s2 s3) : Mild s1 s3 := fun r inst cells e => by
 obtain ⟨c2, e2, h2⟩ := h r inst cells e
 obtain ⟨c3, e3, h3⟩ := k r inst c2 e2
 exact ⟨c3, e3, h3.trans h2⟩
theorem Mild.pl {p : Pl} {m : Nat} {cs : List CV} (h : Mild s s') (hc : plCells s p m = some cs) : ∃ cs', plCells s' p m = some cs' := by
 rw [plCells_iff] at hc
 obtain ⟨cells, e, h1, h2, h3⟩ := hc
 obtain ⟨cells', e', h4⟩ := h _ _ _ e
 refine ⟨((cells'.drop p.cell).take m).map (·.1), plCells_iff.2 ⟨cells', e', ?_, fun i x hx => ?_, rfl⟩⟩
 ·have := congrArg List.length h4; simp only [List.length_map] at this; omega
 ·have := h2 i x hx
  have e5 := congrArg (fun l => l[p.cell + i]?) h4
  simp only [List.getElem?_map] at e5
  rw [← this]; exact e5
theorem bif_nil {c : Bool} {ds : List CV} (h : (bif c then some ([] : List CV) else none) = some ds) : ds = [] := by
 cases c with
 | true => simp only [cond_true, Option.some.injEq] at h; exact h.symm
 | false => simp at h
theorem bif_true {c : Bool} {ds : List CV} (h : (bif c then some ([] : List CV) else none) = some ds) : c = true := by
 cases c with
 | true => rfl
 | false => simp at h
def EntryIs (s : St) (e : JE) (ds : List CV) : Prop :=
 match e with
 | .tm n ag _ => (s.tm n).1 = .val ag ds
 | .bx n _ => ∃ b, s.bx n = some b ∧ b.cells.map (·.1) = ds
 | .adr _ _ _ => ds = [] ∧ packE s e = some []
 | .rf _ _ _ _ _ => ds = [] ∧ packE s e = some []
 | .rs _ _ _ _ => packE s e = some ds
 | .fn n f => ds = [] ∧ (s.tm n).1 = .fn f
 | .clo _ _ _ => ds = [] ∧ packE s e = some []
 | .pad n want off => ∃ cs, (s.tm n).1 = .paddr cs off ∧ weaken cs want = some ds ∧ allPure ds = true
theorem capsOk_mild (hm : Mild s s') : ∀ {ts : List T} {caps : List (Root × Nat)}, capsOk s ts caps = true → capsOk s' ts caps = true
 | [], [], _ => rfl
 | [], _ :: _, h => by simp [capsOk] at h
 | .addr p :: ts, [], h => by simp [capsOk] at h
 | .addr p :: ts, (root, cell) :: caps, h => by
   simp only [capsOk, Bool.and_eq_true] at h ⊢
   obtain ⟨h1, h2⟩ := h
   refine ⟨?_, capsOk_mild hm h2⟩
   split at h1
   ·rename_i inst cells hr
    obtain ⟨cells', hr', _⟩ := hm _ _ _ hr
    rw [hr']; exact h1
   ·cases h1
 | .dead :: _, caps, h => by cases caps <;> simp [capsOk] at h
 | .undef :: _, caps, h => by cases caps <;> simp [capsOk] at h
 | .nilc :: _, caps, h => by cases caps <;> simp [capsOk] at h
 | .val _ _ :: _, caps, h => by cases caps <;> simp [capsOk] at h
 | .ref _ _ _ :: _, caps, h => by cases caps <;> simp [capsOk] at h
 | .rsub _ _ _ _ :: _, caps, h => by cases caps <;> simp [capsOk] at h
 | .paddr _ _ :: _, caps, h => by cases caps <;> simp [capsOk] at h
 | .tup _ :: _, caps, h => by cases caps <;> simp [capsOk] at h
 | .fn _ :: _, caps, h => by cases caps <;> simp [capsOk] at h
 | .clo _ _ :: _, caps, h => by cases caps <;> simp [capsOk] at h
theorem EntryIs.mild {e : JE} {ds : List CV} (h : EntryIs s e ds) (hm : Mild s s') (hs : SameR e.tgt s' s) : EntryIs s' e ds := by
 cases e with
 | tm n ag want =>
   have : s'.tm n = s.tm n := hs.tm n rfl
   simp only [EntryIs, this]; exact h
 | bx n want =>
   have : s'.bx n = s.bx n := hs.bx n rfl
   simp only [EntryIs, this]; exact h
 | adr n root cell =>
   have ht : s'.tm n = s.tm n := hs.tm n rfl
   obtain ⟨h1, h⟩ := h
   refine ⟨h1, ?_⟩
   simp only [packE] at h ⊢
   rw [ht]
   split at h
   ·rename_i p inst cells hp hr
    obtain ⟨cells', hr', _⟩ := hm _ _ _ hr
    rw [hp, hr']; exact h
   ·cases h
 | rf n root cell ag len =>
   have ht : s'.tm n = s.tm n := hs.tm n rfl
   obtain ⟨h1, h⟩ := h
   refine ⟨h1, ?_⟩
   simp only [packE] at h ⊢
   rw [ht]
   split at h
   ·rename_i p ag' len' hp
    split at h
    ·rename_i cs hc
     obtain ⟨cs', hc'⟩ := hm.pl hc
     rw [hc']; exact h
    ·cases h
   ·cases h
 | rs n root cell z =>
   have ht : s'.tm n = s.tm n := hs.tm n rfl
   simp only [EntryIs, packE] at h ⊢
   rw [ht]
   split at h
   ·rename_i p z' lo hi hp
    split at h
    ·rename_i cs hc
     obtain ⟨cs', hc'⟩ := hm.pl hc
     rw [hc']; exact h
    ·cases h
   ·cases h
 | fn n f =>
   have ht : s'.tm n = s.tm n := hs.tm n rfl
   simp only [EntryIs, ht]; exact h
 | pad n want off =>
   have ht : s'.tm n = s.tm n := hs.tm n rfl
   simp only [EntryIs, ht]; exact h
 | clo n f caps =>
   have ht : s'.tm n = s.tm n := hs.tm n rfl
   obtain ⟨h1, h⟩ := h
   refine ⟨h1, ?_⟩
   simp only [packE] at h ⊢
   rw [ht]
   split at h
   ·rename_i g ts hq
    have hc := bif_true h
    simp only [Bool.and_eq_true] at hc
    simp only [hc.1, capsOk_mild hm hc.2, Bool.and_self, cond_true]
   ·cases h
theorem weak_at (h : Rel E C s a w g) {r : Root} {inst : Nat} {cells : List (CV × Nat)} (hr : rootCells s r = some (inst, cells)) {want : List (Sh × Tg)} {ds : List CV} (hw : weaken (cells.map (·.1)) want = some ds) {us : List Upd}
 (hu : plPut s ⟨r, inst, [], 0, none⟩ ds false = some us) : ∃ g', Rel E C (s.upds us) a w g' := by
 obtain ⟨_, hdl, hget⟩ := weaken_get hw
 obtain ⟨g1, f1, b1, _, a1, p1, _, l1, m1, _⟩ := weaken_ok (rootMk_inj r) _ want ds 0 _ g h.base hw (h.root hr)
 have hlen : ds.length = cells.length := by rw [l1]; simp
 have hpl : plCells s ⟨r, inst, [], 0, none⟩ ds.length = some (cells.map (·.1)) := by
  rw [plCells_iff]
  refine ⟨cells, hr, by simp [hlen], fun i x hx => by simp at hx, ?_⟩
  simp [hlen]
 have hv := (h.root hr).length
 refine ⟨g1, plPut_keep h hpl hu m1 (f1.mono fun o ho j h1 h2 => ho.1 j h1 (by simp at h2 ⊢; omega)) b1 a1 ?_ fun i es l' hi => ?_⟩
 ·simp only [List.drop_zero]
  rw [List.take_of_length_le (by rw [hv]; simp [hlen])]
  exact p1
 ·cases hc : (cells.map (·.1))[i]? with
  | none =>
    exfalso
    have h1 : i < ds.length := by
     rcases Nat.lt_or_ge i ds.length with h | h
     ·exact h
     ·simp [List.getElem?_eq_none h] at hi
    have h2 := List.getElem?_eq_none_iff.1 hc
    simp at h2; omega
  | some c =>
    obtain ⟨sh, tg, _, e2, _, e4, _⟩ := hget i c hc
    rw [hi] at e2
    have e2 : (⟨.dl es, .own, l'⟩ : CV) = c.to tg := Option.some.inj e2
    refine ⟨l', ?_, fun _ _ _ _ => rfl⟩
    obtain ⟨csh, ct, cx⟩ := c
    simp only [CV.to, CV.mk.injEq] at e2
    obtain ⟨rfl, rfl, e3⟩ := e2
    cases ct <;> first | (exfalso; simp [Tg.le] at e4; done) | rw [eq_of_heq e3]
theorem mild_put {r : Root} {inst : Nat} {cells : List (CV × Nat)} (hr : rootCells s r = some (inst, cells)) {ds : List CV} (hl : ds.length = cells.length) {us : List Upd} (hu : plPut s ⟨r, inst, [], 0, none⟩ ds false = some us) :
 Mild s (s.upds us) ∧ (∀ L, L ≠ r.loc → SameR L (s.upds us) s) ∧ ∃ cells', rootCells (s.upds us) r = some (inst, cells') ∧ cells'.map (·.1) = ds := by
 cases r with
 | tmp n =>
   simp only [plPut] at hu
   simp only [rootCells] at hr
   split at hr
   ·rename_i ag cs v heq
    cases hr
    rw [heq] at hu
    simp only [cond_eq_ite, Bool.false_eq_true, if_false] at hu
    split at hu
    ·cases hu
     have hcl : setCells cs 0 ds = ds := setCells_all _ _ (by simpa using hl)
     have hst : s.upds [Upd.keep n (.val ag (setCells cs 0 ds))] = { s with tm := put s.tm n (.val ag ds, inst) } := by
      rw [hcl]; simp only [St.upds, List.foldl_cons, List.foldl_nil, Upd.on, heq]
     rw [hst]
     refine ⟨fun r' inst' cells' hr' => ?_, fun L hL => same_keep (s := s) (n := n) (t := .val ag ds) hL |>.trans (SameR.refl _ _) |> fun h => ?_, ds.map fun c => (c, inst), by simp only [rootCells, put_same], by simp [List.map_map, Function.comp_def]⟩
     ·cases r' with
      | tmp k =>
        by_cases hk : k = n
        ·subst hk
         simp only [rootCells, heq] at hr'
         cases hr'
         refine ⟨ds.map fun c => (c, inst), by simp only [rootCells, put_same], ?_⟩
         simp only [List.map_map, Function.comp_def]
         rw [List.map_const', List.map_const']
         congr 1
         simpa using hl
        ·exact ⟨cells', by simp only [rootCells, put_other _ _ _ hk] at hr' ⊢; exact hr', rfl⟩
      | box k => exact ⟨cells', hr', rfl⟩
     ·have e : s.upds [Upd.keep n (.val ag ds)] = { s with tm := put s.tm n (.val ag ds, inst) } := by
       simp only [St.upds, List.foldl_cons, List.foldl_nil, Upd.on, heq]
      rw [e] at h; exact h
    ·cases hu
   ·cases hr
 | box n =>
   simp only [plPut] at hu
   simp only [rootCells] at hr
   split at hr
   ·rename_i b heq
    cases hr
    rw [heq] at hu
    simp only [cond_eq_ite, Bool.false_eq_true, if_false] at hu
    split at hu
    ·cases hu
     simp only [List.take_zero, List.nil_append, List.drop_zero, Nat.zero_add]
     have hd : b.cells.drop ds.length = [] := List.drop_of_length_le (Nat.le_of_eq hl.symm)
     rw [hd, List.append_nil]
     have hz1 : ((ds.zip b.cells).map fun x => ((x.1, x.2.2) : CV × Nat)).map (·.1) = ds := by
      rw [List.map_map]
      show (ds.zip b.cells).map (fun x => x.1) = ds
      exact List.map_fst_zip (by omega)
     have hz2 : ((ds.zip b.cells).map fun x => ((x.1, x.2.2) : CV × Nat)).map (·.2) = b.cells.map (·.2) := by
      rw [List.map_map]
      show (ds.zip b.cells).map (fun x => x.2.2) = _
      have : (ds.zip b.cells).map (fun x => x.2.2) = ((ds.zip b.cells).map Prod.snd).map (·.2) := by rw [List.map_map]; rfl
      rw [this, List.map_snd_zip (by omega)]
     have hst : ∀ c, s.upds [Upd.bx n c] = { s with bx := put s.bx n (some c) } := fun c => rfl
     rw [hst]
     refine ⟨fun r' inst' cells' hr' => ?_, fun L hL => ?_, _, by simp only [rootCells, put_same], hz1⟩
     ·cases r' with
      | tmp k => exact ⟨cells', hr', rfl⟩
      | box k =>
        by_cases hk : k = n
        ·subst hk
         simp only [rootCells, heq] at hr'
         cases hr'
         exact ⟨_, by simp only [rootCells, put_same], hz2⟩
        ·exact ⟨cells', by simp only [rootCells, put_other _ _ _ hk] at hr' ⊢; exact hr', rfl⟩
     ·exact same_bx hL
    ·cases hu
   ·cases hr
theorem packs_weak : ∀ (j : J) (s1 : St) (g1 : Gh) (cs : List CV), jOk j = true → Rel E C s1 a w g1 → Mild s s1 → (∀ e, e ∈ j → SameR e.tgt s1 s) → packs s j = some cs →
 ∃ s2 g2, Rel E C s2 a w g2 ∧ Mild s1 s2 ∧ (∀ L, (∀ e, e ∈ j → e.tgt ≠ L) → SameR L s2 s1) ∧ ∀ e ds, e ∈ j → packE s e = some ds → EntryIs s2 e ds
 | [], s1, g1, cs, _, hr, _, _, _ => ⟨s1, g1, hr, Mild.refl _, fun L _ => SameR.refl _ _, fun e ds he => by cases he⟩
 | e :: j, s1, g1, cs, hj, hr, hms, hs, hp => by
   simp only [jOk, Bool.and_eq_true, List.all_eq_true, Bool.not_eq_true'] at hj
   simp only [packs] at hp
   split at hp
   ·rename_i ds ds' hpe hpj
    have hse : SameR e.tgt s1 s := hs e (by simp)
    have one : ∃ s2 g2, Rel E C s2 a w g2 ∧ Mild s1 s2 ∧ (∀ L, e.tgt ≠ L → SameR L s2 s1) ∧ ∀ ds0, packE s e = some ds0 → EntryIs s2 e ds0 := by
     cases e with
     | tm n ag want =>
       have ht : s1.tm n = s.tm n := hse.tm n rfl
       simp only [packE] at hpe
       split at hpe
       ·rename_i ag' cs0 hat
        simp only [cond_eq_ite] at hpe
        split at hpe
        ·rename_i hag
         have hag : ag = ag' := by simpa using hag
         subst hag
         have hst : s1.tm n = (.val ag cs0, (s1.tm n).2) := by rw [ht, ← hat]
         have hroot : rootCells s1 (.tmp n) = some ((s1.tm n).2, cs0.map fun c => (c, (s1.tm n).2)) := by
          simp only [rootCells]; rw [hst]
         have hw : weaken ((cs0.map fun c => ((c, (s1.tm n).2) : CV × Nat)).map (·.1)) want = some ds := by rw [map_pair]; exact hpe
         obtain ⟨hwl, hdl, _⟩ := weaken_get hpe
         have hdl : ds.length = cs0.length := hdl.trans hwl.symm
         have hu : plPut s1 ⟨.tmp n, (s1.tm n).2, [], 0, none⟩ ds false = some [.keep n (.val ag (setCells cs0 0 ds))] := by
          simp only [plPut]; rw [hst]; simp
         obtain ⟨g2, hr2⟩ := weak_at hr hroot hw hu
         obtain ⟨m1, m2, cells', m3, m4⟩ := mild_put hroot (by simp [hdl]) hu
         refine ⟨_, g2, hr2, m1, fun L hL => m2 L (fun e => hL e.symm), fun ds0 hp0 => ?_⟩
         simp only [packE, hat] at hp0
         simp only [beq_self_eq_true, cond_true, hpe, Option.some.injEq] at hp0
         subst hp0
         show ((s1.upds [.keep n (.val ag (setCells cs0 0 ds))]).tm n).1 = .val ag ds
         rw [setCells_all _ _ hdl]
         simp [St.upds, Upd.on, put_same]
        ·cases hpe
       ·cases hpe
     | bx n want =>
       have ht : s1.bx n = s.bx n := hse.bx n rfl
       simp only [packE] at hpe
       split at hpe
       ·rename_i b hb
        have hb1 : s1.bx n = some b := by rw [ht]; exact hb
        have hroot : rootCells s1 (.box n) = some (b.inst, b.cells) := by simp only [rootCells]; rw [hb1]
        obtain ⟨hwl, hdl, _⟩ := weaken_get hpe
        have hdl : ds.length = b.cells.length := by rw [hdl, ← hwl]; simp
        have hu : ∃ us, plPut s1 ⟨.box n, b.inst, [], 0, none⟩ ds false = some us := by
         simp only [plPut, hb1]
         simp [hdl, Nat.ble_eq_true_of_le (Nat.le_refl b.cells.length)]
        obtain ⟨us, hu⟩ := hu
        obtain ⟨g2, hr2⟩ := weak_at hr hroot hpe hu
        obtain ⟨m1, m2, cells', m3, m4⟩ := mild_put hroot hdl hu
        refine ⟨_, g2, hr2, m1, fun L hL => m2 L (fun e => hL e.symm), fun ds0 hp0 => ?_⟩
        simp only [packE, hb, hpe, Option.some.injEq] at hp0
        subst hp0
        simp only [rootCells] at m3
        split at m3
        ·rename_i b' hb'
         simp only [Option.some.injEq, Prod.mk.injEq] at m3
         exact ⟨b', hb', by rw [m3.2]; exact m4⟩
        ·cases m3
       ·cases hpe
     | adr n root cell =>
       have h0 : packE s (.adr n root cell) = some [] := by
        have : ds = [] := by
         simp only [packE] at hpe
         split at hpe
         ·exact bif_nil hpe
         ·cases hpe
        rw [hpe, this]
       exact ⟨s1, g1, hr, Mild.refl _, fun L _ => SameR.refl _ _, fun ds0 hp0 => by
        rw [h0] at hp0; cases hp0
        exact EntryIs.mild (s := s) ⟨rfl, h0⟩ hms hse⟩
     | fn n f =>
       simp only [packE] at hpe
       split at hpe
       ·rename_i f' hq
        have hc := Nat.eq_of_beq_eq_true (bif_true hpe)
        have hd := bif_nil hpe
        subst hc
        refine ⟨s1, g1, hr, Mild.refl _, fun L _ => SameR.refl _ _, fun ds0 hp0 => ?_⟩
        simp only [packE, hq, Nat.beq_refl, cond_true, Option.some.injEq] at hp0
        exact EntryIs.mild (s := s) ⟨hp0.symm, hq⟩ hms hse
       ·cases hpe
     | pad n want off =>
       simp only [packE] at hpe
       split at hpe
       ·rename_i cs0 off' hq
        simp only [cond_eq_ite] at hpe
        split at hpe
        ·rename_i hoff
         have hoff := Nat.eq_of_beq_eq_true hoff
         subst hoff
         split at hpe
         ·rename_i ds1 hw
          split at hpe
          ·rename_i hpu
           refine ⟨s1, g1, hr, Mild.refl _, fun L _ => SameR.refl _ _, fun ds0 hp0 => ?_⟩
           simp only [packE, hq, Nat.beq_refl, cond_true, hw, hpu, Option.some.injEq] at hp0
           subst hp0
           exact EntryIs.mild (s := s) (e := .pad n want off) ⟨cs0, hq, hw, hpu⟩ hms hse
          ·cases hpe
         ·cases hpe
        ·cases hpe
       ·cases hpe
     | clo n f caps =>
       have h0 : packE s (.clo n f caps) = some [] := by
        have : ds = [] := by
         simp only [packE] at hpe
         split at hpe
         ·exact bif_nil hpe
         ·cases hpe
        rw [hpe, this]
       exact ⟨s1, g1, hr, Mild.refl _, fun L _ => SameR.refl _ _, fun ds0 hp0 => by
        rw [h0] at hp0; cases hp0
        exact EntryIs.mild (s := s) ⟨rfl, h0⟩ hms hse⟩
     | rs n root cell z =>
       exact ⟨s1, g1, hr, Mild.refl _, fun L _ => SameR.refl _ _, fun ds0 hp0 => EntryIs.mild (s := s) (e := .rs n root cell z) hp0 hms hse⟩
     | rf n root cell ag len =>
       have h0 : packE s (.rf n root cell ag len) = some [] := by
        have : ds = [] := by
         simp only [packE] at hpe
         split at hpe
         ·split at hpe
          ·exact bif_nil hpe
          ·cases hpe
         ·cases hpe
        rw [hpe, this]
       exact ⟨s1, g1, hr, Mild.refl _, fun L _ => SameR.refl _ _, fun ds0 hp0 => by
        rw [h0] at hp0; cases hp0
        exact EntryIs.mild (s := s) ⟨rfl, h0⟩ hms hse⟩
    obtain ⟨s2, g2, hr2, hm2, hs2, he2⟩ := one
    have hne : ∀ e', e' ∈ j → e.tgt ≠ e'.tgt := fun e' h' heq => by
     have := hj.1 e' h'
     rw [heq, Loc.same_refl] at this; cases this
    obtain ⟨s3, g3, hr3, hm3, hs3, he3⟩ := packs_weak j s2 g2 ds' hj.2 hr2 (hms.trans hm2) (fun e' h' => (hs2 _ (hne e' h')).trans (hs e' (by simp [h']))) hpj
    refine ⟨s3, g3, hr3, hm2.trans hm3, fun L hL => (hs3 L fun e' h' => hL e' (by simp [h'])).trans (hs2 L (hL e (by simp))), fun e' ds0 h' hp0 => ?_⟩
    rcases List.mem_cons.1 h' with rfl | h'
    ·exact (he2 ds0 hp0).mild hm3 (hs3 _ fun e'' h'' heq => hne e'' h'' heq.symm)
    ·exact he3 e' ds0 h' hp0
   ·cases hp
end
end Go.AM
end
section
set_option linter.unusedVariables false
namespace Go.AM
open Go
section
variable {P : Program} {E : Env} {C : Ctx} {s s' : St} {a a' : Act} {w w' : World} {g g' : Gh} {o : Oper} {Q : Exit → Act → World → Prop}
theorem bif_eq {α : Type} {c : Bool} {x y : α} (h : (bif c then some x else none) = some y) : c = true ∧ x = y := by
 cases c with
 | true => exact ⟨rfl, Option.some.inj h⟩
 | false => simp at h
theorem packE_tagged {e : JE} {ds : List CV} (h : packE s e = some ds) : Tagged ds e.cells := by
 cases e with
 | tm n ag want =>
   simp only [packE] at h
   split at h
   ·simp only [cond_eq_ite] at h
    split at h
    ·exact weaken_tagged h
    ·cases h
   ·cases h
 | bx n want =>
   simp only [packE] at h
   split at h
   ·exact weaken_tagged h
   ·cases h
 | adr n root cell =>
   simp only [packE] at h
   split at h
   ·rw [bif_nil h]; rfl
   ·cases h
 | rf n root cell ag len =>
   simp only [packE] at h
   split at h
   ·split at h
    ·rw [bif_nil h]; rfl
    ·cases h
   ·cases h
 | rs n root cell z =>
   simp only [packE] at h
   split at h
   ·split at h
    ·obtain ⟨_, rfl⟩ := bif_eq h; rfl
    ·cases h
   ·cases h
 | fn n f =>
   simp only [packE] at h
   split at h
   ·rw [bif_nil h]; rfl
   ·cases h
 | clo n f caps =>
   simp only [packE] at h
   split at h
   ·rw [bif_nil h]; rfl
   ·cases h
 | pad n want off =>
   simp only [packE] at h
   split at h
   ·simp only [cond_eq_ite] at h
    split at h
    ·split at h
     ·rename_i ds1 hw
      split at h
      ·cases h; exact weaken_tagged hw
      ·cases h
     ·cases h
    ·cases h
   ·cases h
theorem packs_tagged : ∀ {j : J} {cs : List CV}, packs s j = some cs → Tagged cs (J.cells j)
 | [], cs, h => by simp only [packs, Option.some.injEq] at h; subst h; rfl
 | e :: j, cs, h => by
   simp only [packs] at h
   split at h
   ·rename_i ds ds' h1 h2
    cases h
    exact (packE_tagged h1).append (packs_tagged h2)
   ·cases h
theorem unpackE_tm {ds : List CV} {e : JE} (s0 : St) (n : Nat) : (e.tgt = .tm n ∧ (unpackE s0 ds e).tm n = (unpackE emptySt ds e).tm n) ∨ (unpackE s0 ds e).tm n = s0.tm n := by
 cases e with
 | tm k ag want =>
   by_cases hk : n = k
   ·subst hk; exact .inl ⟨rfl, by simp only [unpackE, put_same]⟩
   ·exact .inr (by simp only [unpackE, put_other _ _ _ hk])
 | bx k want => exact .inr rfl
 | adr k root cell =>
   by_cases hk : n = k
   ·subst hk; exact .inl ⟨rfl, by simp only [unpackE, put_same]⟩
   ·exact .inr (by simp only [unpackE, put_other _ _ _ hk])
 | rf k root cell ag len =>
   by_cases hk : n = k
   ·subst hk; exact .inl ⟨rfl, by simp only [unpackE, put_same]⟩
   ·exact .inr (by simp only [unpackE, put_other _ _ _ hk])
 | rs k root cell z =>
   match ds with
   | [a, b] =>
     by_cases hk : n = k
     ·subst hk; exact .inl ⟨rfl, by simp only [unpackE, put_same]⟩
     ·exact .inr (by simp only [unpackE, put_other _ _ _ hk])
   | [] => exact .inr rfl
   | [_] => exact .inr rfl
   | _ :: _ :: _ :: _ => exact .inr rfl
 | fn k f =>
   by_cases hk : n = k
   ·subst hk; exact .inl ⟨rfl, by simp only [unpackE, put_same]⟩
   ·exact .inr (by simp only [unpackE, put_other _ _ _ hk])
 | clo k f caps =>
   by_cases hk : n = k
   ·subst hk; exact .inl ⟨rfl, by simp only [unpackE, put_same]⟩
   ·exact .inr (by simp only [unpackE, put_other _ _ _ hk])
 | pad k want off =>
   by_cases hk : n = k
   ·subst hk; exact .inl ⟨rfl, by simp only [unpackE, put_same]⟩
   ·exact .inr (by simp only [unpackE, put_other _ _ _ hk])
theorem unpackE_bx {ds : List CV} {e : JE} (s0 : St) (n : Nat) : (e.tgt = .bx n ∧ (unpackE s0 ds e).bx n = (unpackE emptySt ds e).bx n) ∨ (unpackE s0 ds e).bx n = s0.bx n := by
 cases e with
 | bx k want =>
   by_cases hk : n = k
   ·subst hk; exact .inl ⟨rfl, by simp only [unpackE, put_same]⟩
   ·exact .inr (by simp only [unpackE, put_other _ _ _ hk])
 | rs k root cell z =>
   match ds with
   | [a, b] => exact .inr rfl
   | [] => exact .inr rfl
   | [_] => exact .inr rfl
   | _ :: _ :: _ :: _ => exact .inr rfl
 | _ => exact .inr rfl
theorem unpacks_get : ∀ (j : J) (s0 : St) (cs : List CV), packs s j = some cs →
 (∀ n, (∃ e ds, e ∈ j ∧ packE s e = some ds ∧ e.tgt = .tm n ∧ (unpacks s0 cs j).tm n = (unpackE emptySt ds e).tm n) ∨ (unpacks s0 cs j).tm n = s0.tm n) ∧
 (∀ n, (∃ e ds, e ∈ j ∧ packE s e = some ds ∧ e.tgt = .bx n ∧ (unpacks s0 cs j).bx n = (unpackE emptySt ds e).bx n) ∨ (unpacks s0 cs j).bx n = s0.bx n)
 | [], s0, cs, _ => ⟨fun n => .inr (by cases cs <;> rfl), fun n => .inr (by cases cs <;> rfl)⟩
 | e :: j, s0, cs, h => by
   simp only [packs] at h
   split at h
   ·rename_i ds ds' h1 h2
    cases h
    have hl : e.cells.length = ds.length := by
     have := congrArg List.length (packE_tagged h1); simpa using this.symm
    have e1 : unpacks s0 (ds ++ ds') (e :: j) = unpacks (unpackE s0 ds e) ds' j := by
     simp only [unpacks, hl, List.take_left, List.drop_left]
    rw [e1]
    obtain ⟨k1, k2⟩ := unpacks_get j (unpackE s0 ds e) ds' h2
    refine ⟨fun n => ?_, fun n => ?_⟩
    ·rcases k1 n with ⟨e', ds1, q1, q2, q3, q4⟩ | q
     ·exact .inl ⟨e', ds1, by simp [q1], q2, q3, q4⟩
     ·rcases unpackE_tm (ds := ds) (e := e) s0 n with ⟨r1, r2⟩ | r
      ·exact .inl ⟨e, ds, by simp, h1, r1, q.trans r2⟩
      ·exact .inr (q.trans r)
    ·rcases k2 n with ⟨e', ds1, q1, q2, q3, q4⟩ | q
     ·exact .inl ⟨e', ds1, by simp [q1], q2, q3, q4⟩
     ·rcases unpackE_bx (ds := ds) (e := e) s0 n with ⟨r1, r2⟩ | r
      ·exact .inl ⟨e, ds, by simp, h1, r1, q.trans r2⟩
      ·exact .inr (q.trans r)
   ·cases h
theorem Root.same_eq {r r' : Root} (h : Root.same r r' = true) : r = r' := by
 cases r <;> cases r' <;> simp only [Root.same, Bool.false_eq_true] at h <;> rw [Nat.eq_of_beq_eq_true h]
theorem addr_of {u s2 : St} {mk : Nat → Owner} {p : Pl} {v : Value} (htm : TV0 s2 a w g mk (.addr p) v) {root : Root} {cell inst : Nat} {cells : List (CV × Nat)} (hroot : rootCells s2 root = some (inst, cells))
 (hc : (Root.same p.root root && Nat.beq p.cell cell && Nat.beq p.inst inst && (match p.sub with | none => true | _ => false)) = true) : TV0 u a w g mk (.addr ⟨root, 0, [], cell, none⟩) v := by
 simp only [Bool.and_eq_true] at hc
 obtain ⟨⟨⟨c1, c2⟩, c3⟩, c4⟩ := hc
 have c1 := Root.same_eq c1
 have c2 := Nat.eq_of_beq_eq_true c2
 have c3 := Nat.eq_of_beq_eq_true c3
 have c4 : p.sub = none := by
  cases hs : p.sub with
  | none => rfl
  | some q => rw [hs] at c4; cases c4
 obtain ⟨_, htm⟩ : Old s2 p ∧ _ := htm
 rw [c4] at htm
 obtain ⟨m, hm1, hm2⟩ := htm
 refine ⟨⟨Nat.zero_le _, fun _ _ _ _ _ i x c v hx _ => by simp at hx⟩, m, by rw [← c1]; exact hm1, fun b _ _ => ?_⟩
 rw [← c1, hm1] at hroot
 simp only [rootCells] at hroot
 split at hroot
 ·rename_i b2 hb2
  simp only [Option.some.injEq, Prod.mk.injEq] at hroot
  rw [hm2 b2 hb2 (by rw [hroot.1, c3]), c2]
 ·cases hroot
theorem caps_of {u s2 : St} {mk : Nat → Owner} : ∀ {ts : List T} {caps : List (Root × Nat)} {vs : List Value}, CapsRep s2 a w g mk ts vs → capsOk s2 ts caps = true → CapsRep u a w g mk (caps.map fun x => .addr ⟨x.1, 0, [], x.2, none⟩) vs
 | [], [], _, h, _ => h
 | [], _ :: _, _, _, hc => by simp [capsOk] at hc
 | .addr p :: ts, [], _, _, hc => by simp [capsOk] at hc
 | .addr p :: ts, (root, cell) :: caps, _, ⟨v, ws, e, hk, ht, h⟩, hc => by
   simp only [capsOk, Bool.and_eq_true] at hc
   obtain ⟨h1, h2⟩ := hc
   split at h1
   ·rename_i inst cells hr
    exact ⟨v, ws, e, trivial, addr_of ht hr h1, caps_of h h2⟩
   ·cases h1
 | .dead :: _, caps, _, _, h => by cases caps <;> simp [capsOk] at h
 | .undef :: _, caps, _, _, h => by cases caps <;> simp [capsOk] at h
 | .nilc :: _, caps, _, _, h => by cases caps <;> simp [capsOk] at h
 | .val _ _ :: _, caps, _, _, h => by cases caps <;> simp [capsOk] at h
 | .ref _ _ _ :: _, caps, _, _, h => by cases caps <;> simp [capsOk] at h
 | .rsub _ _ _ _ :: _, caps, _, _, h => by cases caps <;> simp [capsOk] at h
 | .paddr _ _ :: _, caps, _, _, h => by cases caps <;> simp [capsOk] at h
 | .tup _ :: _, caps, _, _, h => by cases caps <;> simp [capsOk] at h
 | .fn _ :: _, caps, _, _, h => by cases caps <;> simp [capsOk] at h
 | .clo _ _ :: _, caps, _, _, h => by cases caps <;> simp [capsOk] at h
theorem pack_ok {j : J} (hj : jOk j = true) (h : Rel E C s a w g) {x : j.V} (hp : pack j s = some x) : ∃ g', Rel E C (unpack j x) a w g' := by
 unfold pack at hp
 split at hp
 ·rename_i cs hcs
  have hret : retag (J.cells j) (cellsOf _ x) = cs := by rw [cellsOf_ofCells _ _ _ hp, retag_tagged (packs_tagged hcs)]
  unfold unpack
  rw [hret]
  obtain ⟨s2, g2, h2, _, _, he⟩ := packs_weak j s g cs hj h (Mild.refl s) (fun e _ => SameR.refl _ _) hcs
  obtain ⟨u1, u2⟩ := unpacks_get j emptySt cs hcs
  have root : ∀ (r : Root) i cells, rootCells (unpacks emptySt cs j) r = some (i, cells) → ∃ i2 cells2, rootCells s2 r = some (i2, cells2) ∧ cells2.map (·.1) = cells.map (·.1) := by
   intro r i cells hr
   cases r with
   | tmp m =>
     rcases u1 m with ⟨e, ds, hm, hpe, ht, hu⟩ | hu
     ·simp only [rootCells] at hr
      rw [hu] at hr
      have hei := he e ds hm hpe
      cases e with
      | tm k ag want =>
        simp only [JE.tgt, Loc.tm.injEq] at ht; subst ht
        simp only [unpackE, put_same, Option.some.injEq, Prod.mk.injEq] at hr
        obtain ⟨_, rfl⟩ := hr
        have h1 : (s2.tm k).1 = .val ag ds := hei
        have h3 : s2.tm k = (.val ag ds, (s2.tm k).2) := by rw [← h1]
        refine ⟨_, ds.map fun c => (c, (s2.tm k).2), by simp only [rootCells]; rw [h3], by rw [map_pair, map_pair]⟩
      | bx k want => simp [JE.tgt] at ht
      | rs k root cell z =>
        simp only [JE.tgt, Loc.tm.injEq] at ht; subst ht
        match ds with
        | [a, b] => simp [unpackE, put_same] at hr
        | [] => simp [unpackE, emptySt] at hr
        | [_] => simp [unpackE, emptySt] at hr
        | _ :: _ :: _ :: _ => simp [unpackE, emptySt] at hr
      | _ =>
        simp only [JE.tgt, Loc.tm.injEq] at ht; subst ht
        simp only [unpackE, put_same] at hr
        cases hr
     ·simp only [rootCells] at hr
      rw [hu] at hr
      simp [emptySt] at hr
   | box m =>
     rcases u2 m with ⟨e, ds, hm, hpe, ht, hu⟩ | hu
     ·simp only [rootCells] at hr
      rw [hu] at hr
      have hei := he e ds hm hpe
      cases e with
      | bx k want =>
        simp only [JE.tgt, Loc.bx.injEq] at ht; subst ht
        simp only [unpackE, put_same, Option.some.injEq, Prod.mk.injEq] at hr
        obtain ⟨_, rfl⟩ := hr
        obtain ⟨b2, hb2, hmap⟩ := hei
        exact ⟨b2.inst, b2.cells, by simp only [rootCells, hb2], by rw [hmap, map_pair]⟩
      | _ => simp [JE.tgt] at ht
     ·simp only [rootCells] at hr
      rw [hu] at hr
      simp [emptySt] at hr
  refine ⟨g2, fun n => ?_, fun n b hb => ?_, h2.size, h2.defers, h2.glob, h2.base, h2.par⟩
  ·rcases u1 n with ⟨e, ds, hm, hpe, ht, hu⟩ | hu
   ·rw [hu]
    have hei := he e ds hm hpe
    have htm := h2.tm n
    cases e with
    | tm k ag want =>
      simp only [JE.tgt, Loc.tm.injEq] at ht; subst ht
      simp only [unpackE, put_same]
      have : (s2.tm k).1 = .val ag ds := hei
      rw [this] at htm
      exact htm
    | bx k want => simp [JE.tgt] at ht
    | adr k root cell =>
      simp only [JE.tgt, Loc.tm.injEq] at ht; subst ht
      simp only [unpackE, put_same]
      obtain ⟨_, hei⟩ := hei
      simp only [packE] at hei
      split at hei
      ·rename_i p inst cells hat hroot
       have hc := bif_true hei
       simp only [Bool.and_eq_true] at hc
       obtain ⟨⟨⟨c1, c2⟩, c3⟩, c4⟩ := hc
       have c1 := Root.same_eq c1
       have c2 := Nat.eq_of_beq_eq_true c2
       have c3 := Nat.eq_of_beq_eq_true c3
       have c4 : p.sub = none := by
        cases hs : p.sub with
        | none => rfl
        | some q => rw [hs] at c4; cases c4
       rw [hat] at htm
       obtain ⟨_, htm⟩ : Old s2 p ∧ _ := htm
       rw [c4] at htm
       obtain ⟨m, hm1, hm2⟩ := htm
       refine ⟨⟨Nat.zero_le _, fun _ _ _ _ _ i x c v hx _ => by simp at hx⟩, m, by rw [← c1]; exact hm1, fun b _ _ => ?_⟩
       rw [← c1, hm1] at hroot
       simp only [rootCells] at hroot
       split at hroot
       ·rename_i b2 hb2
        simp only [Option.some.injEq, Prod.mk.injEq] at hroot
        rw [hm2 b2 hb2 (by rw [hroot.1, c3]), c2]
       ·cases hroot
      ·cases hei
    | rf k root cell ag len =>
      simp only [JE.tgt, Loc.tm.injEq] at ht; subst ht
      simp only [unpackE, put_same]
      obtain ⟨_, hei⟩ := hei
      simp only [packE] at hei
      split at hei
      ·rename_i p ag' len' hat
       split at hei
       ·rename_i cs' hpl
        have hc := bif_true hei
        simp only [Bool.and_eq_true] at hc
        obtain ⟨⟨⟨⟨⟨c1, c2⟩, c3⟩, c4⟩, c5⟩, c6⟩ := hc
        have c1 := Root.same_eq c1
        have c2 := Nat.eq_of_beq_eq_true c2
        have c3 : ag = ag' := by simpa using c3
        have c4 := Nat.eq_of_beq_eq_true c4
        rw [hat] at htm
        subst c3 c4
        obtain ⟨_, _, _, htm⟩ : Old s2 p ∧ p.vers.length = len ∧ p.sub = none ∧ _ := htm
        obtain ⟨k1, k2⟩ := htm cs' hpl
        refine ⟨⟨Nat.zero_le _, fun _ _ _ _ _ i x c v hx _ => ?_⟩, by simp, rfl, fun cs0 _ => ⟨k1, ?_⟩⟩
        ·simp only [List.getElem?_replicate] at hx
         split at hx
         ·cases hx; exact Nat.zero_le _
         ·cases hx
        ·rw [k2, c1, c2]
       ·cases hei
      ·cases hei
    | rs k root1 cell z =>
      simp only [JE.tgt, Loc.tm.injEq] at ht; subst ht
      have hei : packE s2 (.rs k root1 cell z) = some ds := hei
      simp only [packE] at hei
      split at hei
      ·rename_i p z' lo hi hat
       split at hei
       ·rename_i cs' hpl
        ·obtain ⟨hc, hds⟩ := bif_eq hei
         simp only [Bool.and_eq_true] at hc
         obtain ⟨⟨⟨⟨c1, c2⟩, c3⟩, c4⟩, c5⟩ := hc
         have c1 := Root.same_eq c1
         have c2 := Nat.eq_of_beq_eq_true c2
         have c3 : z = z' := by simpa using c3
         subst hds
         simp only [unpackE, put_same, natOf, Int.toNat_natCast]
         rw [hat] at htm
         obtain ⟨_, _, _, hz, htm⟩ : Old s2 p ∧ p.vers.length = 1 ∧ p.sub = none ∧ (z' = true → lo = 0) ∧ _ := htm
         obtain ⟨c0, rfl⟩ := pl_one hpl
         obtain ⟨A, l, kk, q1, q2, q3, q4, q5⟩ := htm c0 hpl
         refine ⟨⟨Nat.zero_le _, fun _ _ _ _ _ i x c v hx _ => ?_⟩, rfl, rfl, fun h => hz (by rw [← c3]; exact h), fun c hc' => ⟨A, l, kk, by rw [← c1, ← c2]; exact q1, q2, q3, q4, ?_⟩⟩
         ·cases i with
          | zero => simp only [List.getElem?_cons_zero, Option.some.injEq] at hx; omega
          | succ i => simp at hx
         ·have hcc : c = c0 := by
           rw [plCells_iff] at hc' hpl
           obtain ⟨cells, r1, r2, _, r3⟩ := hc'
           obtain ⟨cells2, t1, t2, _, t3⟩ := hpl
           obtain ⟨i2, cells3, w1, w2⟩ := root _ _ _ r1
           simp only at w1 r3
           rw [c1, w1] at t1
           cases t1
           have e1 : ((cells.map (·.1)).drop cell).take 1 = [c] := by rw [← List.map_drop, ← List.map_take]; exact r3.symm
           have e2 : ((cells2.map (·.1)).drop p.cell).take 1 = [c0] := by rw [← List.map_drop, ← List.map_take]; exact t3.symm
           rw [w2, c2, e1] at e2
           simpa using e2
          rw [hcc]; exact q5
       ·cases hei
      ·cases hei
    | fn k f =>
      simp only [JE.tgt, Loc.tm.injEq] at ht; subst ht
      simp only [unpackE, put_same]
      obtain ⟨_, hei⟩ := hei
      rw [hei] at htm
      exact htm
    | pad k want off =>
      simp only [JE.tgt, Loc.tm.injEq] at ht; subst ht
      simp only [unpackE, put_same]
      obtain ⟨cs0, hei, hw, hpu⟩ := hei
      rw [hei] at htm
      obtain ⟨ad, vs, q1, q2, q3, q4⟩ := htm
      exact ⟨ad, vs, q1, q2, hpu, weaken_pure q3 hw q4⟩
    | clo k f caps =>
      simp only [JE.tgt, Loc.tm.injEq] at ht; subst ht
      simp only [unpackE, put_same]
      obtain ⟨_, hei⟩ := hei
      simp only [packE] at hei
      split at hei
      ·rename_i f' ts hat
       have hc := bif_true hei
       simp only [Bool.and_eq_true] at hc
       have hf := Nat.eq_of_beq_eq_true hc.1
       subst hf
       rw [hat] at htm
       obtain ⟨vs, q1, q2⟩ : ∃ vs : List Value, a.eval (.tmp k) = .func (.func f) #[] vs.toArray ∧ CapsRep s2 a w g2 (.tm k) ts vs := htm
       exact ⟨vs, q1, caps_of q2 hc.2⟩
      ·cases hei
   ·rw [hu]; exact trivial
  ·rcases u2 n with ⟨e, ds, hm, hpe, ht, hu⟩ | hu
   ·rw [hu] at hb
    have hei := he e ds hm hpe
    cases e with
    | bx k want =>
      simp only [JE.tgt, Loc.bx.injEq] at ht; subst ht
      simp only [unpackE, put_same, Option.some.injEq] at hb
      subst hb
      obtain ⟨b2, hb2, hmap⟩ := hei
      obtain ⟨cur, et, q1, q2, q3, q4⟩ := h2.bx k b2 hb2
      exact ⟨cur, et, q1, q2, q3, by rw [map_pair, ← hmap]; exact q4⟩
    | _ => simp [JE.tgt] at ht
   ·rw [hu] at hb; cases hb
 ·cases hp
def Ex.to : Ex → Exit | .normal => .normal | .exit i => .exit i | .ret => .ret
theorem least_of {p : Nat → Prop} (h : ∃ n, p n) : ∃ n, p n ∧ ∀ m, p m → n ≤ m := by
 obtain ⟨n, hn⟩ := h
 induction n using Nat.strongRecOn with
 | _ n ih =>
   by_cases hx : ∃ m, m < n ∧ p m
   ·obtain ⟨m, hlt, hm⟩ := hx
    exact ih m hlt hm
   ·exact ⟨n, hn, fun m hm => Nat.le_of_not_lt fun hlt => hx ⟨m, hlt, hm⟩⟩
open Classical in
theorem wp_loop_ind {c : Code} (I : Nat → Act → World → Prop) {n : Nat} (h0 : I n a w) (round : ∀ m a w, I m a w → c.wp P (Exit.then (fun a' w' => ∃ m', m' < m ∧ I m' a' w') Q) a w) : (Code.loop c).wp P Q a w := by
 refine wp_loop (fun a w => ∃ m, I m a w) (fun a w => if h : ∃ m, I m a w then Classical.choose (least_of h) else 0) ⟨n, h0⟩ fun a w hI => ?_
 have hs := (Classical.choose_spec (least_of hI)).1
 refine wp_mono (round _ a w hs) fun e a' w' hq => ?_
 cases e with
 | normal =>
   obtain ⟨m', hlt, hm'⟩ := hq
   refine ⟨⟨m', hm'⟩, ?_⟩
   rw [dif_pos hI, dif_pos ⟨m', hm'⟩]
   exact Nat.lt_of_le_of_lt ((Classical.choose_spec (least_of ⟨m', hm'⟩)).2 m' hm') hlt
 | _ => exact hq
theorem ev_ok (hE : EnvOk P E) (hm : P.follows .mixedOrders = true) {n : Nat} : ∀ (c : Code) (h : H) {ρ : Type} {s : St} {a : Act} {w : World} {g : Gh} {k : Ex → St → Option ρ} {r : ρ} {Q : Exit → Act → World → Prop}, ev E n c h s k = some r → Rel E C s a w g →
 (∀ e s' a' w' g', Rel E C s' a' w' g' → k e s' = some r → Q e.to a' w') → c.wp P Q a w := by
 intro c
 have join : ∀ (c : Code) {ρ : Type} {j : J} {a : Act} {w : World} {m : (Ex → St → Option j.V) → Option j.V} {k : Ex → St → Option ρ} {r : ρ} {Q : Exit → Act → World → Prop},
  (∀ (kk : Ex → St → Option j.V) (x : j.V) (Q : Exit → Act → World → Prop), m kk = some x → (∀ e s' a' w' g', Rel E C s' a' w' g' → kk e s' = some x → Q e.to a' w') → c.wp P Q a w) →
  joinK j m k = some r → (∀ e s' a' w' g', Rel E C s' a' w' g' → k e s' = some r → Q e.to a' w') → c.wp P Q a w := by
  intro c ρ j a w m k r Q hmm hj hq
  unfold joinK at hj
  simp only [cond_eq_ite] at hj
  split at hj
  ·rename_i hjo
   obtain ⟨x, hx, hk⟩ := Option.bind_eq_some_iff.1 hj
   refine hmm _ x Q hx fun e s' a' w' g' hr he => ?_
   cases e with
   | normal =>
     obtain ⟨g2, hr2⟩ := pack_ok hjo hr he
     exact hq .normal _ _ _ _ hr2 hk
   | exit i => cases he
   | ret => cases he
  ·cases hj
 have joinr : ∀ (c : Code) {ρ : Type} {j : J} {a : Act} {w : World} {m : (Ex → St → Option (Sum j.V ρ)) → Option (Sum j.V ρ)} {k : Ex → St → Option ρ} {r : ρ} {Q : Exit → Act → World → Prop},
  (∀ (kk : Ex → St → Option (Sum j.V ρ)) (x : Sum j.V ρ) (Q : Exit → Act → World → Prop), m kk = some x → (∀ e s' a' w' g', Rel E C s' a' w' g' → kk e s' = some x → Q e.to a' w') → c.wp P Q a w) →
  joinR j m k = some r → (∀ e s' a' w' g', Rel E C s' a' w' g' → k e s' = some r → Q e.to a' w') → c.wp P Q a w := by
  intro c ρ j a w m k r Q hmm hj hq
  unfold joinR at hj
  simp only [cond_eq_ite] at hj
  split at hj
  ·rename_i hjo
   obtain ⟨x, hx, hk⟩ := Option.bind_eq_some_iff.1 hj
   refine hmm _ x Q hx fun e s' a' w' g' hr he => ?_
   cases e with
   | normal =>
     obtain ⟨y, hy, he⟩ := Option.bind_eq_some_iff.1 he
     cases he
     obtain ⟨g2, hr2⟩ := pack_ok hjo hr hy
     exact hq .normal _ _ _ _ hr2 hk
   | exit i =>
     obtain ⟨y, hy, he⟩ := Option.bind_eq_some_iff.1 he
     cases he
     simp only [Option.some.injEq] at hk
     subst hk
     exact hq (.exit i) _ _ _ _ hr hy
   | ret =>
     obtain ⟨y, hy, he⟩ := Option.bind_eq_some_iff.1 he
     cases he
     simp only [Option.some.injEq] at hk
     subst hk
     exact hq .ret _ _ _ _ hr hy
  ·cases hj
 induction c with
 | skip => intro h ρ s a w g k r Q he hr hq; exact wp_skip (hq .normal _ _ _ _ hr he)
 | exit id => intro h ρ s a w g k r Q he hr hq; exact wp_exit (hq (.exit id) _ _ _ _ hr he)
 | ret => intro h ρ s a w g k r Q he hr hq; exact wp_ret (hq .ret _ _ _ _ hr he)
 | region id ops draw =>
   intro h ρ s a w g k r Q he hr hq
   simp only [ev] at he
   split at he
   ·rename_i j hh
    exact join _ (fun kk x Q hx hqq => region_ok hE hm hx hr fun s' a' w' g' hr' hk => hqq .normal _ _ _ _ hr' hk) he hq
   ·exact region_ok hE hm he hr fun s' a' w' g' hr' hk => hq .normal _ _ _ _ hr' hk
 | seq x y ihx ihy =>
   intro h ρ s a w g k r Q he hr hq
   simp only [ev] at he
   split at he
   ·rename_i ha hb
    refine wp_seq (ihx ha he hr fun e s' a' w' g' hr' hk => ?_)
    cases e with
    | normal => exact ihy hb hk hr' hq
    | exit i => exact hq (.exit i) _ _ _ _ hr' hk
    | ret => exact hq .ret _ _ _ _ hr' hk
   ·cases he
 | cond cc x y ihx ihy =>
   intro h ρ s a w g k r Q he hr hq
   simp only [ev] at he
   have both : ∀ {ρ : Type} {kk : Ex → St → Option ρ} {r : ρ} {Q : Exit → Act → World → Prop} {b : Bool} {hx hy : H}, peekBool E s cc = some b → (bif b then ev E n x hx s kk else ev E n y hy s kk) = some r →
    (∀ e s' a' w' g', Rel E C s' a' w' g' → kk e s' = some r → Q e.to a' w') → (Code.cond cc x y).wp P Q a w := by
    intro ρ kk r Q b hx hy hb hh hqq
    refine wp_cond (t := b) (peekBool_ok hr hb) ?_
    cases b with
    | true => exact ihx hx hh hr hqq
    | false => exact ihy hy hh hr hqq
   split at he
   ·exact both (by assumption) he hq
   ·exact join _ (fun kk x Q hx hqq => both (by assumption) hx hqq) he hq
   ·exact joinr _ (fun kk x Q hx hqq => both (by assumption) hx hqq) he hq
   ·cases he
 | block id c ih =>
   intro h ρ s a w g k r Q he hr hq
   simp only [ev] at he
   have blk : ∀ {ρ : Type} {kk : Ex → St → Option ρ} {r : ρ} {Q : Exit → Act → World → Prop} {hc : H}, ev E n c hc s (inBlock id kk) = some r →
    (∀ e s' a' w' g', Rel E C s' a' w' g' → kk e s' = some r → Q e.to a' w') → (Code.block id c).wp P Q a w := by
    intro ρ kk r Q hc hh hqq
    refine wp_block (ih hc hh hr fun e s' a' w' g' hr' hk => ?_)
    cases e with
    | normal => exact hqq .normal _ _ _ _ hr' hk
    | ret => exact hqq .ret _ _ _ _ hr' hk
    | exit i =>
      simp only [inBlock, cond_eq_ite] at hk
      simp only [Ex.to, Exit.inBlock]
      split at hk
      ·rename_i hb
       rw [if_pos (Nat.eq_of_beq_eq_true hb)]
       exact hqq .normal _ _ _ _ hr' hk
      ·rename_i hb
       rw [if_neg (fun e => hb (by rw [e]; simp))]
       exact hqq (.exit i) _ _ _ _ hr' hk
   split at he
   ·exact blk he hq
   ·exact join _ (fun kk x Q hx hqq => blk hx hqq) he hq
   ·exact joinr _ (fun kk x Q hx hqq => blk hx hqq) he hq
   ·cases he
 | loop c ih =>
   intro h ρ s a w g k r Q he hr hq
   simp only [ev] at he
   split at he
   ·rename_i j hc
    simp only [cond_eq_ite] at he
    split at he
    ·cases he
    ·rename_i hjo
     have hjo : jOk j = true := by simpa using hjo
     obtain ⟨x, hx, hl⟩ := Option.bind_eq_some_iff.1 he
     obtain ⟨g1, hr1⟩ := pack_ok hjo hr hx
     refine wp_loop_ind (fun m a w => ∃ (x : j.V) (g : Gh), loopN (ρ := ρ) (fun x rec => ev E n c hc (unpack j x) fun e s' => match e with
      | .normal => (pack j s').bind rec
      | e => k e s') m x = some r ∧ Rel E C (unpack j x) a w g) ⟨x, g1, hl, hr1⟩ fun m a w hI => ?_
     obtain ⟨x, g, hl, hr⟩ := hI
     cases m with
     | zero => simp only [loopN] at hl; cases hl
     | succ m =>
       simp only [loopN] at hl
       refine ih hc hl hr fun e s' a' w' g' hr' hk => ?_
       cases e with
       | normal =>
         obtain ⟨y, hy, hk⟩ := Option.bind_eq_some_iff.1 hk
         obtain ⟨g2, hr2⟩ := pack_ok hjo hr' hy
         exact ⟨m, Nat.lt_succ_self m, y, g2, hk, hr2⟩
       | exit i => exact hq (.exit i) _ _ _ _ hr' hk
       | ret => exact hq .ret _ _ _ _ hr' hk
   ·cases he
 | _ => intro h ρ s a w g k r Q he; simp only [ev] at he; cases he
end
end Go.AM
end
section
set_option linter.unusedVariables false
namespace Go.AM
open Go
section
variable {P : Program} {E : Env} {C : Ctx} {s s' : St} {a a' : Act} {w w' : World} {g g' : Gh} {o : Oper} {Q : Exit → Act → World → Prop}
theorem enter_ok : ∀ (ps : List PK) (i : Nat) (cs : List CV) (vs : List Value) (s0 : St), EntP w g ps i cs vs →
 (∀ n, n < i ∨ i + ps.length ≤ n → (enterP ps i cs s0).tm n = s0.tm n) ∧
 (∀ k v, vs[k]? = some v → ∀ (u : St) (a : Act), TV u a w g (.tm (i + k)) ((enterP ps i cs s0).tm (i + k)).1 v) ∧
 (∀ n b, (enterP ps i cs s0).bx n = some b → s0.bx n = some b ∨ BxRep w g n b)
 | [], i, cs, vs, s0, h => by
   refine ⟨fun n _ => rfl, fun k v hv => ?_, fun n b hb => .inl hb⟩
   obtain ⟨_, rfl⟩ : cs = [] ∧ vs = [] := h
   simp at hv
 | .val ag want :: ps, i, cs, vs, s0, h => by
   obtain ⟨v0, ws, rfl, hv, h⟩ : ∃ v ws, vs = v :: ws ∧ VRep w g (.tm i) 0 ag (cs.take want.length) v ∧ EntP w g ps (i + 1) (cs.drop want.length) ws := h
   obtain ⟨k1, k2, k3⟩ := enter_ok ps (i + 1) (cs.drop want.length) ws { s0 with tm := put s0.tm i (.val ag (cs.take want.length), 0) } h
   refine ⟨fun n hn => ?_, fun k v hk u a => ?_, fun n b hb => ?_⟩
   ·simp only [enterP]
    rw [k1 n (by simp at hn; omega)]
    exact put_other _ _ _ (by simp at hn; omega)
   ·simp only [enterP]
    cases k with
    | zero =>
      simp only [List.getElem?_cons_zero, Option.some.injEq] at hk; subst hk
      rw [Nat.add_zero, k1 i (by omega)]
      simp only [put_same]
      exact hv
    | succ k =>
      have := k2 k v (by simpa using hk) u a
      rw [show i + (k + 1) = i + 1 + k by omega]; exact this
   ·exact k3 n b hb
 | .io want :: ps, i, cs, vs, s0, h => by
   obtain ⟨v0, ws, rfl, hv, h⟩ : ∃ v ws, vs = v :: ws ∧ VRep w g (.tm i) 0 false (cs.take want.length) v ∧ EntP w g ps (i + 1) (cs.drop want.length) ws := h
   obtain ⟨k1, k2, k3⟩ := enter_ok ps (i + 1) (cs.drop want.length) ws { s0 with tm := put s0.tm i (.val false (cs.take want.length), 0) } h
   refine ⟨fun n hn => ?_, fun k v hk u a => ?_, fun n b hb => ?_⟩
   ·simp only [enterP]
    rw [k1 n (by simp at hn; omega)]
    exact put_other _ _ _ (by simp at hn; omega)
   ·simp only [enterP]
    cases k with
    | zero =>
      simp only [List.getElem?_cons_zero, Option.some.injEq] at hk; subst hk
      rw [Nat.add_zero, k1 i (by omega)]
      simp only [put_same]
      exact hv
    | succ k =>
      have := k2 k v (by simpa using hk) u a
      rw [show i + (k + 1) = i + 1 + k by omega]; exact this
   ·exact k3 n b hb
 | .rptr want :: ps, i, cs, vs, s0, h => by
   obtain ⟨v0, ws, rfl, hv, h⟩ : ∃ v ws, vs = v :: ws ∧ (∃ b off sg, v = .pointer (some ⟨b, off, none⟩) ∧ RowF w g.F ⟨b, off, none⟩ sg ∧ allPure (cs.take want.length) = true ∧ CsRep w g (.tm i) 0 (cs.take want.length) sg) ∧ EntP w g ps (i + 1) (cs.drop want.length) ws := h
   obtain ⟨k1, k2, k3⟩ := enter_ok ps (i + 1) (cs.drop want.length) ws { s0 with tm := put s0.tm i (.paddr (cs.take want.length) 0, 0) } h
   refine ⟨fun n hn => ?_, fun k v hk u a => ?_, fun n b hb => ?_⟩
   ·simp only [enterP]
    rw [k1 n (by simp at hn; omega)]
    exact put_other _ _ _ (by simp at hn; omega)
   ·simp only [enterP]
    cases k with
    | zero =>
      simp only [List.getElem?_cons_zero, Option.some.injEq] at hk; subst hk
      rw [Nat.add_zero, k1 i (by omega)]
      simp only [put_same]
      obtain ⟨b, off, sg, e1, e2, e3, e4⟩ := hv
      exact ⟨⟨b, off, none⟩, sg, e1, e2, e3, e4⟩
    | succ k =>
      have := k2 k v (by simpa using hk) u a
      rw [show i + (k + 1) = i + 1 + k by omega]; exact this
   ·exact k3 n b hb
 | .fn f :: ps, i, cs, vs, s0, h => by
   obtain ⟨v0, ws, rfl, hv, h⟩ : ∃ v ws, vs = v :: ws ∧ v = .func (.func f) #[] #[] ∧ EntP w g ps (i + 1) cs ws := h
   obtain ⟨k1, k2, k3⟩ := enter_ok ps (i + 1) cs ws { s0 with tm := put s0.tm i (.fn f, 0) } h
   refine ⟨fun n hn => ?_, fun k v hk u a => ?_, fun n b hb => ?_⟩
   ·simp only [enterP]
    rw [k1 n (by simp at hn; omega)]
    exact put_other _ _ _ (by simp at hn; omega)
   ·simp only [enterP]
    cases k with
    | zero =>
      simp only [List.getElem?_cons_zero, Option.some.injEq] at hk; subst hk
      rw [Nat.add_zero, k1 i (by omega)]
      simp only [put_same]
      exact hv
    | succ k =>
      have := k2 k v (by simpa using hk) u a
      rw [show i + (k + 1) = i + 1 + k by omega]; exact this
   ·exact k3 n b hb
 | .ptr want :: ps, i, cs, vs, s0, h => by
   obtain ⟨v0, ws, rfl, ⟨hv, hbx⟩, h⟩ : ∃ v ws, vs = v :: ws ∧ (v = .pointer (some ⟨g.at_ i, 0, none⟩) ∧ BxRep w g i ⟨0, (cs.take want.length).map fun c => (c, 0)⟩) ∧ EntP w g ps (i + 1) (cs.drop want.length) ws := h
   obtain ⟨k1, k2, k3⟩ := enter_ok ps (i + 1) (cs.drop want.length) ws
    { tm := put s0.tm i (.addr ⟨.box i, 0, [], 0, none⟩, 0), bx := put s0.bx i (some ⟨0, (cs.take want.length).map fun c => (c, 0)⟩) } h
   refine ⟨fun n hn => ?_, fun k v hk u a => ?_, fun n b hb => ?_⟩
   ·simp only [enterP]
    rw [k1 n (by simp at hn; omega)]
    exact put_other _ _ _ (by simp at hn; omega)
   ·simp only [enterP]
    cases k with
    | zero =>
      simp only [List.getElem?_cons_zero, Option.some.injEq] at hk; subst hk
      rw [Nat.add_zero, k1 i (by omega)]
      simp only [put_same]
      exact ⟨⟨Nat.zero_le _, fun _ _ _ _ _ j x c v hx _ => by simp at hx⟩, i, rfl, fun _ _ _ => hv⟩
    | succ k =>
      have := k2 k v (by simpa using hk) u a
      rw [show i + (k + 1) = i + 1 + k by omega]; exact this
   ·rcases k3 n b hb with hb | hb
    ·by_cases hn : n = i
     ·subst hn
      simp only [put_same, Option.some.injEq] at hb; subst hb
      exact .inr hbx
     ·simp only [put_other _ _ _ hn] at hb
      exact .inl hb
    ·exact .inr hb
def resOf (tmps : Array Value) : ResultVar → Sem Value
 | .tmp t => pure (tmps.getD t undef)
 | .cell a t => do loadVar t (← asAddr (tmps.getD a undef))
theorem tsRep_of_hand {hs : List CV} {hv : List Value} {ag : Bool} {ds cs : List CV} {v : Value} {vv : List Value} (hl : hv.length = hs.length) (hdl : v.cells.toList.length = ds.length)
 (h : CsRep w g .hand 0 (hs ++ ds ++ cs) (hv ++ v.cells.toList ++ vv)) (hag : isAgg v = ag) : VRep w g .hand hs.length ag ds v := by
 refine ⟨hag, ?_⟩
 have := h.sub hs.length ds.length
 rw [Nat.zero_add] at this
 rw [List.append_assoc, List.drop_left, List.take_left] at this
 rw [← hl] at this ⊢
 rw [List.append_assoc, List.drop_left, ← hdl, List.take_left] at this
 exact this
theorem res_ok (hT : TyOk P E.ty) : ∀ (vs : List ResultVar) (rs : List (Bool × List (Sh × Tg))) (s : St) (g : Gh) (hs : List CV) (hv : List Value) (cs : List CV) (s' : St), Rel E C s a w g → CsRep w g .hand 0 hs hv → resCells E s vs rs = some (cs, s') →
 ∃ g' vals, Rel E C s' a w g' ∧ CsRep w g' .hand 0 (hs ++ cs) (hv ++ vals.flatMap (·.cells.toList)) ∧ (vs.mapM (resOf a.tmps)).run P w = .ok vals w ∧ Tagged cs (rs.flatMap (·.2)) ∧ g'.at_ = g.at_ ∧
  (∀ rest, (resT rs (cs ++ rest)).2 = rest ∧ TsRep w g' .hand hs.length (resT rs (cs ++ rest)).1 vals)
 | [], [], s, g, hs, hv, cs, s', h, hh, hr => by
   simp only [resCells, Option.some.injEq, Prod.mk.injEq] at hr
   obtain ⟨rfl, rfl⟩ := hr
   exact ⟨g, [], h, by simpa using hh, by simp [Sem.run_pure], rfl, rfl, fun rest => ⟨rfl, rfl⟩⟩
 | [], _ :: _, s, g, hs, hv, cs, s', h, hh, hr => by simp [resCells] at hr
 | .tmp _ :: _, [], s, g, hs, hv, cs, s', h, hh, hr => by simp [resCells] at hr
 | .cell _ _ :: _, [], s, g, hs, hv, cs, s', h, hh, hr => by simp [resCells] at hr
 | .tmp t :: vs, (ag, want) :: rs, s, g, hs, hv, cs, s', h, hh, hr => by
   simp only [resCells] at hr
   split at hr
   ·rename_i ds us hg
    split at hr
    ·rename_i ds' s2 hrest
     simp only [Option.some.injEq, Prod.mk.injEq] at hr
     obtain ⟨rfl, rfl⟩ := hr
     obtain ⟨g1, r1, k1, a1, kp1, kb1, hag, htg⟩ := giveT_ok (x := .tmp t) h hh hg
     obtain ⟨g2, vals, r2, k2, hrun, htg2, a2, hts⟩ := res_ok hT vs rs (s.upds us) g1 (hs ++ ds) (hv ++ (a.eval (.tmp t)).cells.toList) ds' s2 r1 k1 hrest
     have hlen := hh.length
     have hdl : (a.eval (.tmp t)).cells.toList.length = ds.length := by have := k1.length; simp only [List.length_append] at this; omega
     refine ⟨g2, a.eval (.tmp t) :: vals, r2, by rw [← List.append_assoc, List.flatMap_cons, ← List.append_assoc]; exact k2, ?_, by rw [List.flatMap_cons]; exact htg.append htg2, a2.trans a1, fun rest => ?_⟩
     ·rw [List.mapM_cons, Sem.run_bind]
      simp only [resOf, Sem.run_pure, Result.andThen_ok, Sem.run_bind, hrun]
      rfl
     ·have hl : want.length = ds.length := by have := congrArg List.length htg; simpa using this.symm
      simp only [resT, List.append_assoc, hl, List.take_left, List.drop_left]
      obtain ⟨q1, q2⟩ := hts rest
      refine ⟨q1, _, vals, rfl, tsRep_of_hand hlen hdl k2 hag, ?_⟩
      rw [← List.length_append]; exact q2
    ·cases hr
   ·cases hr
 | .cell t ty :: vs, (ag, want) :: rs, s, g, hs, hv, cs, s', h, hh, hr => by
   simp only [resCells] at hr
   split at hr
   ·rename_i p i hx hi
    split at hr
    ·rename_i cs0 hps hc
     simp only [cond_eq_ite, Bool.and_eq_true] at hr
     split at hr
     ·rename_i hcond
      obtain ⟨⟨hag, hlen0⟩, hnd⟩ := hcond
      have hag : i.ag = ag := by simpa using hag
      have hlen0 := Nat.eq_of_beq_eq_true hlen0
      split at hr
      ·rename_i ds us hw hu
       split at hr
       ·rename_i ds' s2 hrest
        simp only [Option.some.injEq, Prod.mk.injEq] at hr
        obtain ⟨rfl, rfl⟩ := hr
        have htv := h.tm t
        rw [hx] at htv
        obtain ⟨_, htv⟩ : Old s p ∧ _ := htv
        rw [hps] at htv
        obtain ⟨n, hn, htv⟩ := htv
        obtain ⟨hroot, hlenc⟩ := h.pl hc
        obtain ⟨g1, r1, k1, a1, kp1, kb1⟩ := give_hand h hh hc hw hu
        have hb : ∃ b, s.bx n = some b ∧ b.inst = p.inst := by
         have := hc
         rw [plCells_iff] at this
         obtain ⟨cells, e, _⟩ := this
         rw [hn] at e; simp only [rootCells] at e
         cases hb : s.bx n with
         | none => rw [hb] at e; simp at e
         | some b => rw [hb] at e; simp only [Option.some.injEq, Prod.mk.injEq] at e; exact ⟨b, rfl, e.1⟩
        obtain ⟨b, hb, hbi⟩ := hb
        obtain ⟨cur, et, hheap, _⟩ := h.bx n b hb
        have hrv : rootVals a w g p.root = cur.toList := by rw [hn]; simp only [rootVals, hheap]
        have hvl : (((rootVals a w g p.root).drop p.cell).take want.length).length = i.cells.length := by rw [hroot.length, hlenc, hlen0]
        obtain ⟨v, hrun, h1, h2⟩ := run_load_cells (P := P) (w := w) hT hi (g.at_ n) p.cell _ hvl (fun j hj => by
         rw [hvl] at hj
         rw [cell_of_heap hheap, hrv, List.getElem?_take, if_pos (by omega), List.getElem?_drop]; simp)
        have hvr := vrep_of_cells (mk := fun k => rootMk p.root (p.cell + k)) (i := i) (v := v) (cs := cs0) (fun ha => by
         rw [hag] at ha
         rw [ha] at hnd
         simpa using hnd) h1 h2 (CsRep.of _ _ _ hroot.length fun k c v hk hv => by
          obtain ⟨u, hu, hr⟩ := hroot.get cs0 p.cell _ k c hk
          rw [hu] at hv; cases hv
          simpa using hr)
        have hcells : v.cells.toList = ((rootVals a w g p.root).drop p.cell).take want.length := by
         cases ha : i.ag with
         | true => rw [h1 ha]; simp [Value.cells]
         | false =>
           have := hvr.1; rw [ha] at this
           rw [cells_of_notAgg this, h2 ha]
        rw [← hcells] at k1
        obtain ⟨g2, vals, r2, k2, hrun2, htg2, a2, hts⟩ := res_ok hT vs rs (s.upds us) g1 (hs ++ ds) (hv ++ v.cells.toList) ds' s2 r1 k1 hrest
        have hlen := hh.length
        have hdl : v.cells.toList.length = ds.length := by have := k1.length; simp only [List.length_append] at this; omega
        have hload : (resOf a.tmps (.cell t ty)).run P w = .ok v w := by
         have e : a.tmps.getD t undef = .pointer (some ⟨g.at_ n, p.cell, none⟩) := htv b hb hbi
         simp only [resOf, e, asAddr]
         simp only [Instr.loadAt, Instr.sureAddr] at hrun
         exact hrun
        refine ⟨g2, v :: vals, r2, by rw [← List.append_assoc, List.flatMap_cons, ← List.append_assoc]; exact k2, ?_, by rw [List.flatMap_cons]; exact (weaken_tagged hw).append htg2, a2.trans a1, fun rest => ?_⟩
        ·rw [List.mapM_cons, Sem.run_bind, hload]
         simp only [Result.andThen_ok, Sem.run_bind, hrun2]
         rfl
        ·have hl : want.length = ds.length := by have := congrArg List.length (weaken_tagged hw); simpa using this.symm
         simp only [resT, List.append_assoc, hl, List.take_left, List.drop_left]
         obtain ⟨q1, q2⟩ := hts rest
         refine ⟨q1, _, vals, rfl, tsRep_of_hand hlen hdl k2 (hvr.1.trans hag), ?_⟩
         rw [← List.length_append]; exact q2
       ·cases hr
      ·cases hr
     ·cases hr
    ·cases hr
   ·cases hr
theorem results_run {fn : Func} {tmps : Array Value} {vals : List Value} (h : (fn.results.toList.mapM (resOf tmps)).run P w = .ok vals w) :
 (results fn tmps).run P w = .ok (match vals with | [v] => v | vs => .tuple vs.toArray) w := by
 have e : results fn tmps = (fn.results.mapM (resOf tmps) >>= fun vs => pure (if h : vs.size = 1 then vs[0] else .tuple vs)) := by
  unfold results
  congr 1
 rw [e, Array.mapM_eq_mapM_toList, Sem.run_bind]
 simp only [map_eq_pure_bind, Sem.run_bind, h, Result.andThen_ok, Sem.run_pure]
 match vals with
 | [] => rfl
 | [v] => rfl
 | x :: y :: vs => rfl
end
end Go.AM
end
section
set_option linter.unusedVariables false
namespace Go.AM
open Go
section
variable {P : Program} {E : Env} {C : Ctx} {s s' : St} {a a' : Act} {w w' : World} {g g' : Gh} {o : Oper} {Q : Exit → Act → World → Prop}
def FnOk (P : Program) (c : Spec) : Prop :=
 P.funcs[c.sig.fn]? = some c.fn ∧ (c.fn.name == "runtime.NumGoroutine") = false ∧ Nat.ble c.sig.params.length c.fn.ntmps = true
theorem asIs_some : ∀ {cs ds : List CV} {want : List (Sh × Tg)}, asIs cs want = some ds → ds = cs ∧ Tagged cs want
 | [], ds, [], h => by simp only [asIs, Option.some.injEq] at h; exact ⟨h.symm, rfl⟩
 | [], _, _ :: _, h => by cases h
 | _ :: _, _, [], h => by cases h
 | c :: cs, ds, (sh, tg) :: want, h => by
   simp only [asIs, cond_eq_ite, Bool.and_eq_true] at h
   split at h
   ·rename_i hc
    obtain ⟨⟨h1, h2⟩, h3⟩ := hc
    obtain ⟨ds', hd, rfl⟩ := Option.map_eq_some_iff.1 h
    obtain ⟨rfl, ht⟩ := asIs_some hd
    have e1 := Sh.eq_of_beq h1
    have e2 : c.tg = tg := by cases htg : c.tg <;> cases tg <;> rw [htg] at h2 h3 <;> first | rfl | (simp [Tg.le] at h2; done) | (simp [Tg.le] at h3; done)
    refine ⟨rfl, ?_⟩
    simp only [Tagged, List.map_cons] at ht ⊢
    rw [ht, e1, e2]
   ·cases h
theorem bif_opt {α : Type} {c : Bool} {x : Option α} {y : α} (h : (bif c then x else none) = some y) : c = true ∧ x = some y := by
 cases c with
 | true => exact ⟨rfl, h⟩
 | false => simp at h
theorem out_ok {w0 : World} {g0 : Gh} (h : Rel E C s a w' g') : ∀ (ps : List PK) (i : Nat) (vs : List Value) (cs ds : List CV), outCells s ps i = some ds → EntP w0 g0 ps i cs vs → (∀ k v, vs[k]? = some v → C.par (i + k) = some v) → (∀ k, fixP ps k = true → E.fix (i + k) = true) →
 PtrV w' g0 g' ps i vs ds ∧ Tagged ds (ps.flatMap PK.outs)
 | [], i, vs, cs, ds, ho, _, _, _ => by simp only [outCells, Option.some.injEq] at ho; subst ho; exact ⟨trivial, rfl⟩
 | .val ag want :: ps, i, vs, cs, ds, ho, ⟨v, ws, e, _, hE⟩, hp, hf => by
   subst e
   exact out_ok h ps (i + 1) ws _ ds ho hE (fun k v hk => by have := hp (k + 1) v (by simpa using hk); rwa [show i + (k + 1) = i + 1 + k by omega] at this) fun k hk => by have := hf (k + 1) (by simpa [fixP] using hk); rwa [show i + (k + 1) = i + 1 + k by omega] at this
 | .rptr want :: ps, i, vs, cs, ds, ho, ⟨v, ws, e, _, hE⟩, hp, hf => by
   subst e
   exact out_ok h ps (i + 1) ws _ ds ho hE (fun k v hk => by have := hp (k + 1) v (by simpa using hk); rwa [show i + (k + 1) = i + 1 + k by omega] at this) fun k hk => by have := hf (k + 1) (by simpa [fixP] using hk); rwa [show i + (k + 1) = i + 1 + k by omega] at this
 | .fn f :: ps, i, vs, cs, ds, ho, ⟨v, ws, e, _, hE⟩, hp, hf => by
   subst e
   exact out_ok h ps (i + 1) ws _ ds ho hE (fun k v hk => by have := hp (k + 1) v (by simpa using hk); rwa [show i + (k + 1) = i + 1 + k by omega] at this) fun k hk => by have := hf (k + 1) (by simpa [fixP] using hk); rwa [show i + (k + 1) = i + 1 + k by omega] at this
 | .io want :: ps, i, vs, cs, ds, ho, ⟨v, ws, e, _, hE⟩, hp, hf => by
   subst e
   simp only [outCells] at ho
   split at ho
   ·rename_i cs1 ds1 ht hrest
    obtain ⟨ds2, h1, rfl⟩ := Option.map_eq_some_iff.1 ho
    obtain ⟨rfl, h2⟩ := asIs_some h1
    obtain ⟨k1, k2⟩ := out_ok h ps (i + 1) ws _ ds1 hrest hE (fun k v hk => by have := hp (k + 1) v (by simpa using hk); rwa [show i + (k + 1) = i + 1 + k by omega] at this) fun k hk => by have := hf (k + 1) (by simpa [fixP] using hk); rwa [show i + (k + 1) = i + 1 + k by omega] at this
    have hl : want.length = ds2.length := by have := congrArg List.length h2; simpa using this.symm
    have hv : a.eval (.tmp i) = v := h.par i v (by have := hp 0 v rfl; simpa using this) (by have := hf 0 rfl; simpa using this)
    have htv := h.tm i
    rw [ht, hv] at htv
    refine ⟨⟨⟨v, rfl, by rw [hl, List.take_left]; exact htv⟩, by rw [hl, List.drop_left]; exact k1⟩, ?_⟩
    rw [List.flatMap_cons]
    exact h2.append k2
   ·cases ho
 | .ptr want :: ps, i, vs, cs, ds, ho, ⟨v, ws, e, ⟨hv0, _⟩, hE⟩, hp, hf => by
   subst e
   simp only [outCells] at ho
   split at ho
   ·rename_i p b ds1 ht hb hrest
    ·obtain ⟨hc, ho⟩ := bif_opt ho
     simp only [Bool.and_eq_true] at hc
     obtain ⟨⟨⟨c1, c2⟩, c3⟩, c4⟩ := hc
     have c1 := Nat.eq_of_beq_eq_true c1
     have c2 := Root.same_eq c2
     have c3 := Nat.eq_of_beq_eq_true c3
     have c4 : p.sub = none := by
      cases hs : p.sub with
      | none => rfl
      | some q => rw [hs] at c4; cases c4
     obtain ⟨ds2, h1, rfl⟩ := Option.map_eq_some_iff.1 ho
     obtain ⟨rfl, h2⟩ := asIs_some h1
     obtain ⟨k1, k2⟩ := out_ok h ps (i + 1) ws _ ds1 hrest hE (fun k v hk => by have := hp (k + 1) v (by simpa using hk); rwa [show i + (k + 1) = i + 1 + k by omega] at this) fun k hk => by have := hf (k + 1) (by simpa [fixP] using hk); rwa [show i + (k + 1) = i + 1 + k by omega] at this
     have hl : want.length = (b.cells.map (·.1)).length := by have := congrArg List.length h2; simpa using this.symm
     have hv : a.eval (.tmp i) = v := h.par i v (by have := hp 0 v rfl; simpa using this) (by have := hf 0 rfl; simpa using this)
     have htv := h.tm i
     rw [ht] at htv
     obtain ⟨_, htv⟩ : Old s p ∧ _ := htv
     rw [c4] at htv
     obtain ⟨n, hn, htv⟩ := htv
     rw [c2] at hn; cases hn
     have hat := htv b hb c1.symm
     rw [hv, hv0] at hat
     have hat : g'.at_ i = g0.at_ i := by
      simp only [Value.pointer.injEq, Option.some.injEq, Addr.mk.injEq] at hat
      exact hat.1.symm
     obtain ⟨cur, et, r1, r2, r3, r4⟩ := h.bx i b hb
     refine ⟨⟨⟨hat, cur, et, r1, r2, r3, ?_⟩, by rw [hl, List.drop_left]; exact k1⟩, ?_⟩
     ·rw [hl, List.take_left]
      simp only [map_pair]
      exact r4
     ·rw [List.flatMap_cons]
      exact h2.append k2
   ·cases ho
theorem good_of {E : Env} (hT : TyOk P E.ty) {c : Spec} (hF : FnOk P c) (hnt : E.nt = c.fn.ntmps) (hfx : E.fix = fixP c.sig.params) {f : c.sig.In → Option c.sig.Out}
 (h : ∀ x r, f x = some r → ∃ code, c.fn.body = some code ∧ ∀ (C : Ctx) (a : Act) (w : World) (g : Gh), Rel E C (enter c.sig x) a w g →
  code.wp P (fun e a' w' => (e = .normal ∨ e = .ret) ∧ ∃ s' g', Rel E C s' a' w' g' ∧ leave E c.sig c.fn.results.toList s' = some r) a w) : Good P E.glob c.sig f := by
 intro x r hx
 obtain ⟨code, hb, hw⟩ := h x r hx
 obtain ⟨hfn, hname, hnt2⟩ := hF
 refine ⟨⟨_, hfn, by rw [hb]; rfl, hname⟩, fun w g vals hEnt hG hown hfz hfr => ?_⟩
 refine calls_of_wp hfn hb ?_
 let C : Ctx := ⟨w, g.F, fun b => ∃ ow, g.own b = some ow, fun n => vals[n]?⟩
 have hlen := hEnt.length
 have hnt2 := Nat.le_of_ble_eq_true hnt2
 obtain ⟨k1, k2, k3⟩ := enter_ok _ 0 _ vals emptySt hEnt
 let a0 : Act := { tmps := vals.toArray ++ Array.replicate (c.fn.ntmps - vals.toArray.size) undef, defers := [] }
 have hR : Rel E C (enter c.sig x) a0 w g := by
  have hev : ∀ m v, vals[m]? = some v → a0.eval (.tmp m) = v := fun m v hv => by
   have hm : m < vals.length := by
    rcases Nat.lt_or_ge m vals.length with h | h
    ·exact h
    ·simp [List.getElem?_eq_none h] at hv
   simp only [a0, Act.eval, Array.getD_eq_getD_getElem?]
   rw [Array.getElem?_append_left (by simpa using hm)]
   simp [hv]
  refine ⟨fun m => ?_, fun m b hb => ?_, ?_, rfl, fun gl cs hg => ?_, ?_, fun m v hv _ => hev m v hv⟩
  ·by_cases hm : m < vals.length
   ·have hv : vals[m]? = some vals[m] := List.getElem?_eq_getElem hm
    have e : a0.eval (.tmp m) = vals[m] := by
     simp only [a0, Act.eval, Array.getD_eq_getD_getElem?]
     rw [Array.getElem?_append_left (by simpa using hm)]
     simp [hm]
    rw [e]
    have := k2 m _ hv (enter c.sig x) a0
    rw [Nat.zero_add] at this
    exact this
   ·have : (enter c.sig x).tm m = (.dead, 0) := k1 m (.inr (by omega))
    rw [this]; exact trivial
  ·rcases k3 m b hb with h | h
   ·cases h
   ·exact h
  ·show (vals.toArray ++ Array.replicate (c.fn.ntmps - vals.toArray.size) undef).size = E.nt
   rw [hnt]
   simp only [Array.size_append, List.size_toArray, Array.size_replicate]
   omega
  ·obtain ⟨q1, vs, q2, q3⟩ := hG gl cs hg
   exact ⟨q1, vs, q2, q3⟩
  ·exact ⟨rfl, rfl, rfl, Nat.le_refl _, fun _ _ _ => rfl, fun b ow e => ⟨.inl ⟨ow, e⟩, hown b ow e⟩, Keeps.refl _ _, fun b o e => ⟨.inl e, hfz b o e⟩, fun b cs t f hx hc => by
    rcases hx with ⟨ow, e⟩ | hx
    ·exact hfr b ow cs t f e hc
    ·have := (Array.getElem?_eq_some_iff.1 hc).1; have hx : w.heap.size ≤ b := hx; omega⟩
 refine wp_mono (hw C a0 w g hR) fun e a' w' hq => ?_
 obtain ⟨he, s', g', hr, hl⟩ := hq
 have fin : bodyPost P c.fn (fun e w' => ∃ v g', e = .returned v ∧ Base w g.F (fun b => ∃ ow, g.own b = some ow) w' g' ∧
  ResV w' g' .hand (resT c.sig.res (retag c.sig.outs (cellsOf _ r))).1 v ∧ PtrV w' g g' c.sig.params 0 vals (resT c.sig.res (retag c.sig.outs (cellsOf _ r))).2) .ret a' w' := by
  unfold leave at hl
  split at hl
  ·rename_i cs s2 hres
   split at hl
   ·rename_i ds hout
    obtain ⟨g2, vals2, r2, q1, q2, q3, q4, q5⟩ := res_ok hT _ _ s' g' [] [] cs s2 hr rfl hres
    obtain ⟨p1, p2⟩ := out_ok r2 _ 0 vals _ ds hout hEnt (fun k v hk => by rw [Nat.zero_add]; exact hk) (fun k hk => by rw [hfx, Nat.zero_add]; exact hk)
    have hret : retag c.sig.outs (cellsOf _ r) = cs ++ ds := by
     have htag : Tagged (cs ++ ds) c.sig.outs := q3.append p2
     rw [cellsOf_ofCells _ _ _ hl, retag_tagged htag]
    refine ⟨hr.defers, _, results_run q2, _, g2, rfl, r2.base, ?_, ?_⟩
    rotate_left
    ·rw [hret, (q5 ds).1]; exact p1
    rw [hret]
    have q6 := (q5 ds).2
    rw [List.length_nil] at q6
    generalize (resT c.sig.res (cs ++ ds)).1 = ts at q6
    match ts, vals2, q6 with
    | [], [], q6 => exact ⟨[], rfl, q6⟩
    | [(ag, ds)], [v], q6 =>
      obtain ⟨v', ws, e1, e2, e3⟩ := q6
      simp only [List.cons.injEq] at e1
      obtain ⟨rfl, rfl⟩ := e1
      exact e2
    | [(ag, ds)], [], q6 => obtain ⟨v', ws, e1, _⟩ := q6; cases e1
    | [(ag, ds)], x :: y :: zs, q6 =>
      obtain ⟨v', ws, e1, e2, e3⟩ := q6
      simp only [List.cons.injEq] at e1
      obtain ⟨rfl, rfl⟩ := e1
      cases e3
    | t1 :: t2 :: ts, [], q6 => obtain ⟨v', ws, e1, _⟩ := q6; cases e1
    | (ag1, d1) :: (ag2, d2) :: ts, [v], q6 =>
      obtain ⟨v', ws, e1, _, e3⟩ := q6
      simp only [List.cons.injEq] at e1
      obtain ⟨rfl, rfl⟩ := e1
      obtain ⟨v', ws, e1, _⟩ := e3
      cases e1
    | t1 :: t2 :: ts, v1 :: v2 :: vs, q6 => exact ⟨v1 :: v2 :: vs, rfl, q6⟩
    | [], v :: vs, q6 => cases q6
   ·cases hl
  ·cases hl
 rcases he with rfl | rfl
 ·exact fin
 ·exact fin
theorem run_good (p : Prg) (hT : TyOk P p.ty) (hm : P.follows .mixedOrders = true) (hF : ∀ i, (p.spec i).ext = none → FnOk P (p.spec i))
 (hX : ∀ i e, (p.spec i).ext = some e → Good P p.glob (p.spec i).sig e) : ∀ n i, Good P p.glob (p.spec i).sig (p.run n i) := by
 intro n
 induction n with
 | zero => intro i x r h; cases h
 | succ n ih =>
   intro i
   cases hext : (p.spec i).ext with
   | some e =>
     intro x r h
     refine hX i e hext x r ?_
     have h2 : p.phi i n (p.run n) x = some r := h
     unfold Prg.phi at h2
     rw [hext] at h2
     exact h2
   | none =>
     have hE : EnvOk P (p.env i (p.run n)) := ⟨hT, ih⟩
     refine good_of (E := p.env i (p.run n)) hT (hF i hext) rfl rfl fun x r h => ?_
     have h2 : p.phi i n (p.run n) x = some r := h
     unfold Prg.phi at h2
     rw [hext] at h2
     simp only at h2
     have hbody : ∃ c, (p.spec i).fn.body = some c := by
      cases hb : (p.spec i).fn.body with
      | some c => exact ⟨c, rfl⟩
      | none => rw [hb] at h2; simp [ev] at h2
     obtain ⟨c, hb⟩ := hbody
     rw [hb] at h2
     simp only [Option.getD_some] at h2
     refine ⟨c, hb, fun C a w g hR => ?_⟩
     refine ev_ok hE hm c _ h2 hR fun e s' a' w' g' hr he => ?_
     cases e with
     | normal => exact ⟨.inl rfl, s', g', hr, he⟩
     | ret => exact ⟨.inr rfl, s', g', hr, he⟩
     | exit i => cases he
end
end Go.AM
end
section
set_option linter.unusedVariables false
namespace Go.AM
open Go
def sumW {α : Type} (f : α → Nat) : List α → Nat
 | [] => 0
 | x :: xs => f x + sumW f xs
def allW {α : Type} (p : α → Prop) : List α → Prop
 | [] => True
 | x :: xs => p x ∧ allW p xs
mutual
def RT.wt {α : Type} (f : α → Nat) : RT α → Nat
 | .mk a ks => f a + RT.wts f ks + 1
def RT.wts {α : Type} (f : α → Nat) : List (RT α) → Nat
 | [] => 0
 | t :: ts => RT.wt f t + RT.wts f ts
end
mutual
def RT.all {α : Type} (p : α → Prop) : RT α → Prop
 | .mk a ks => p a ∧ RT.alls p ks
def RT.alls {α : Type} (p : α → Prop) : List (RT α) → Prop
 | [] => True
 | t :: ts => RT.all p t ∧ RT.alls p ts
end
mutual
def wt : (sh : Sh) → El sh → Nat
 | .int _, _ => 1
 | .bool, _ => 1
 | .str, b => ByteArray.size b + 1
 | .sl es, l => sumW (wtA es) l + 1
 | .rsl ss, l => RT.wts (wtA ss) l + 1
 | .dl _, _ => 1
def wtA : (es : List Sh) → ElA es → Nat
 | [], _ => 0
 | s :: ss, x => match ss, x with
   | [], x => wt s x
   | t :: ts, x => wt s x.1 + wtA (t :: ts) x.2
end
mutual
def fit : (sh : Sh) → El sh → Prop
 | .int k, n => (Lit.int k n).wf = true
 | .bool, _ => True
 | .str, _ => True
 | .sl es, l => allW (fitA es) l
 | .rsl ss, l => RT.alls (fitA ss) l
 | .dl _, _ => True
def fitA : (es : List Sh) → ElA es → Prop
 | [], _ => True
 | s :: ss, x => match ss, x with
   | [], x => fit s x
   | t :: ts, x => fit s x.1 ∧ fitA (t :: ts) x.2
end
section
variable {w : World} {F : Fz}
theorem pureA_cons {s : Sh} {ss : List Sh} {x : El s} {v : Value} {y : ElA ss} {cs : List Value} (h1 : PureC w F s x v) (h2 : PureA w F ss y cs) : ∃ z : ElA (s :: ss), PureA w F (s :: ss) z (v :: cs) ∧ wtA (s :: ss) z = wt s x + wtA ss y ∧ (fit s x → fitA ss y → fitA (s :: ss) z) := by
 cases ss with
 | nil =>
   have hcs : cs = [] := h2
   subst hcs
   exact ⟨x, ⟨v, rfl, h1⟩, by simp only [wtA]; omega, fun hf _ => hf⟩
 | cons t ts => exact ⟨(x, y), ⟨v, cs, rfl, h1, h2⟩, rfl, fun hf hg => ⟨hf, hg⟩⟩
theorem pureA_uncons {s : Sh} {ss : List Sh} {z : ElA (s :: ss)} {cs : List Value} (h : PureA w F (s :: ss) z cs) : ∃ (x : El s) (y : ElA ss) (v : Value) (ds : List Value), cs = v :: ds ∧ PureC w F s x v ∧ PureA w F ss y ds ∧ wtA (s :: ss) z = wt s x + wtA ss y ∧ (fitA (s :: ss) z → fit s x ∧ fitA ss y) := by
 cases ss with
 | nil =>
   obtain ⟨v, e, hp⟩ := h
   exact ⟨z, (), v, [], e, hp, rfl, by simp only [wtA]; omega, fun hf => ⟨hf, trivial⟩⟩
 | cons t ts =>
   obtain ⟨v, ds, e, h1, h2⟩ := h
   exact ⟨z.1, z.2, v, ds, e, h1, h2, rfl, fun hf => hf⟩
theorem pureA_append : ∀ {es fs : List Sh} {x : ElA es} {y : ElA fs} {cs ds : List Value}, PureA w F es x cs → PureA w F fs y ds → ∃ z : ElA (es ++ fs), PureA w F (es ++ fs) z (cs ++ ds) ∧ wtA (es ++ fs) z = wtA es x + wtA fs y ∧ (fitA es x → fitA fs y → fitA (es ++ fs) z)
 | [], fs, x, y, cs, ds, h1, h2 => by
   have : cs = [] := h1
   subst this
   exact ⟨y, h2, (Nat.zero_add _).symm, fun _ hg => hg⟩
 | s :: ss, fs, z, y, cs, ds, h1, h2 => by
   obtain ⟨x, x2, v, cs2, rfl, k1, k2, k3, k4⟩ := pureA_uncons h1
   obtain ⟨z2, q1, q2, q3⟩ := pureA_append k2 h2
   obtain ⟨z3, r1, r2, r3⟩ := pureA_cons k1 q1
   exact ⟨z3, r1, by
    have e : wtA (s :: ss ++ fs) z3 = wt s x + wtA (ss ++ fs) z2 := r2
    rw [e, q2, k3]; omega, fun hf hg => r3 (k4 hf).1 (q3 (k4 hf).2 hg)⟩
theorem pureA_split : ∀ {es fs : List Sh} {z : ElA (es ++ fs)} {cs : List Value}, PureA w F (es ++ fs) z cs → ∃ (x : ElA es) (y : ElA fs) (c1 c2 : List Value), cs = c1 ++ c2 ∧ PureA w F es x c1 ∧ PureA w F fs y c2 ∧ wtA (es ++ fs) z = wtA es x + wtA fs y ∧ (fitA (es ++ fs) z → fitA es x ∧ fitA fs y)
 | [], fs, z, cs, h => ⟨(), z, [], cs, rfl, rfl, h, (Nat.zero_add _).symm, fun hf => ⟨trivial, hf⟩⟩
 | s :: ss, fs, z, cs, h => by
   obtain ⟨x, z2, v, cs2, rfl, k1, k2, k3, k4⟩ := pureA_uncons (ss := ss ++ fs) h
   obtain ⟨x2, y, c1, c2, rfl, q1, q2, q3, q4⟩ := pureA_split k2
   obtain ⟨z3, r1, r2, r3⟩ := pureA_cons k1 q1
   refine ⟨z3, y, v :: c1, c2, rfl, r1, q2, ?_, fun hf => ⟨r3 (k4 hf).1 (q4 (k4 hf).2).1, (q4 (k4 hf).2).2⟩⟩
   rw [r2]
   have : wtA (s :: ss ++ fs) z = wt s x + wtA (ss ++ fs) z2 := k3
   rw [this, q3]; omega
theorem tree_of {ss : List Sh} {z : ElA (ss ++ [.rsl ss])} {cs : List Value} (h : PureA w F (ss ++ [.rsl ss]) z cs) : ∃ t : RT (ElA ss), treeRep w F (PureA w F ss) t cs ∧ RT.wt (wtA ss) t = wtA (ss ++ [.rsl ss]) z ∧ (fitA (ss ++ [.rsl ss]) z → RT.all (fitA ss) t) := by
 obtain ⟨x, y, c1, c2, rfl, k1, k2, k3, k4⟩ := pureA_split h
 obtain ⟨v, rfl, hv⟩ : ∃ v, c2 = [v] ∧ PureC w F (.rsl ss) y v := k2
 refine ⟨.mk x y, ⟨c1, v, rfl, k1, hv⟩, ?_, fun hf => k4 hf⟩
 rw [k3]
 simp only [RT.wt, wtA, wt]
 omega
end
structure BulkOk {H : Type} (B : DataW H → Nat) : Prop where
 lit : ∀ l, 1 ≤ B (.lit l)
 str : ∀ b, b.length + 1 ≤ B (.lit (.string b))
 nil : 1 ≤ B .nil
 slice : ∀ es sp, sumW B es + 1 ≤ B (.slice es sp)
 agg : ∀ ps, sumW B ps ≤ B (.agg ps)
def structCells (ty : TypeId → Option TyI) : List (TypeId × Nat) → Nat → Option (List Sh)
 | [], _ => some []
 | (t, off) :: fs, k => bif Nat.beq off k then match ty t with
   | some j => (structCells ty fs (k + j.cells.length)).map (j.cells ++ ·)
   | none => none else none
def rdChk (P : Program) (ty : TypeId → Option TyI) (t : TypeId) (i : TyI) : Bool :=
 match P.underlying t with
 | some (.struct fs) => match structCells ty (fs.toList.map fun f => (f.type, f.offset)) 0 with
   | some cs => Sh.beqs cs i.cells
   | none => false
 | some (.slice e) => match ty e with
   | some j => !j.cells.isEmpty
   | none => false
 | _ => true
def RdOk (P : Program) (ty : TypeId → Option TyI) : Prop := ∀ t i, ty t = some i → rdChk P ty t i = true
section
variable {H : Type} {enc : TypeId × Value → H} {P : Program} {ty : TypeId → Option TyI} {w : World}
theorem read_fields {B : DataW H → Nat} {n : Nat} (ih : ∀ (t : TypeId) (i : TyI) (cs : List Value) (x : DataW H × List MemPlace), ty t = some i → DataW.trod enc P w 0 (fun _ => true) true n t cs = some x →
 ∃ y : ElA i.cells, PureA w (fun b _ => b < w.heap.size) i.cells y cs ∧ wtA i.cells y ≤ B x.1 ∧ fitA i.cells y) (hc : ∀ t i, ty t = some i → P.cellsOf t = i.cells.length) (cs : List Value) :
 ∀ (fs : List (TypeId × Nat)) (k : Nat) (sh : List Sh) (xs : List (DataW H × List MemPlace)), structCells ty fs k = some sh → xs.length = fs.length →
  (∀ (i : Nat) (f : TypeId × Nat), fs[i]? = some f → DataW.trod enc P w 0 (fun _ => true) true n f.1 ((cs.drop f.2).take (P.cellsOf f.1)) = xs[i]?) → k + sh.length = cs.length →
  ∃ y : ElA sh, PureA w (fun b _ => b < w.heap.size) sh y (cs.drop k) ∧ wtA sh y ≤ sumW B (xs.map (·.1)) ∧ fitA sh y
 | [], k, sh, xs, hs, hl, hf, hk => by
   simp only [structCells, Option.some.injEq] at hs
   subst hs
   refine ⟨(), ?_, Nat.zero_le _, trivial⟩
   show cs.drop k = []
   exact List.drop_of_length_le (by simp at hk; omega)
 | (t, off) :: fs, k, sh, xs, hs, hl, hf, hk => by
   simp only [structCells, cond_eq_ite] at hs
   split at hs
   ·rename_i hoff
    have hoff := Nat.eq_of_beq_eq_true hoff
    subst hoff
    split at hs
    ·rename_i j hj
     obtain ⟨rest, hr, rfl⟩ := Option.map_eq_some_iff.1 hs
     match xs, hl with
     | x :: xs, hl =>
       have h0 := hf 0 (t, off) rfl
       simp only [List.getElem?_cons_zero] at h0
       obtain ⟨y, q1, q2, q3⟩ := ih t j _ x hj h0
       obtain ⟨z, r1, r2, r3⟩ := read_fields ih hc cs fs (off + j.cells.length) rest xs hr (by simpa using hl) (fun i f hi => by
        have := hf (i + 1) f (by simpa using hi)
        simpa using this) (by simp only [List.length_append] at hk; omega)
       rw [hc t j hj] at q1
       obtain ⟨u, u1, u2, u3⟩ := pureA_append q1 r1
       refine ⟨u, ?_, ?_, u3 q3 r3⟩
       ·have : (cs.drop off).take j.cells.length ++ cs.drop (off + j.cells.length) = cs.drop off := by
         rw [← List.drop_drop]; exact List.take_append_drop _ _
        rw [← this]; exact u1
       ·rw [u2]; simp only [List.map_cons, sumW]; omega
    ·cases hs
   ·cases hs
theorem read_ok (hT : TyOk P ty) (hR : RdOk P ty) {B : DataW H → Nat} (hB : BulkOk B) : ∀ (fuel : Nat) (t : TypeId) (i : TyI) (cs : List Value) (x : DataW H × List MemPlace), ty t = some i → DataW.trod enc P w 0 (fun _ => true) true fuel t cs = some x →
 ∃ y : ElA i.cells, PureA w (fun b _ => b < w.heap.size) i.cells y cs ∧ wtA i.cells y ≤ B x.1 ∧ fitA i.cells y := by
 have hcells : ∀ t i, ty t = some i → P.cellsOf t = i.cells.length := by
  intro t i hi
  obtain ⟨info, d, z, hat⟩ := hT.at_ hi
  simp only [Program.cellsOf, hat.inf, Option.map_some, Option.getD_some, hat.size]
 intro fuel
 induction fuel with
 | zero => intro t i cs x _ h; simp [DataW.trod] at h
 | succ n ih =>
   intro t i cs x hi h
   obtain ⟨info, d, z, hat⟩ := hT.at_ hi
   have hd := hat.desc
   unfold descChk at hd
   split at hd
   ·
    rename_i e
    simp only [Bool.and_eq_true] at hd
    obtain ⟨_, hd⟩ := hd
    split at hd
    ·rename_i sh hsh
     simp only [Bool.and_eq_true] at hd
     obtain ⟨hsl, hd⟩ := hd
     split at hd
     ·rename_i j hj
      have hjc := beqs_eq hd
      rw [hsh]
      rcases DataW.trod_slice hat.und h with ⟨rfl, rfl⟩ | ⟨a, len, cap, elems, rest, m, hm, rfl, rfl, hb, hlc, hcm, hel, hget, _, _⟩
      ·refine ⟨zeroEl sh, ?_, ?_, ?_⟩
       ·refine ⟨.slice none 0 0, rfl, ?_⟩
        have := zero_any (w := w) (g := ⟨fun _ => 0, fun _ => none, fun b _ => b < w.heap.size⟩) (ow := .hand 0) hsl .pure
        exact this
       ·have := hB.nil
        show wt sh (zeroEl sh) ≤ B .nil
        cases sh <;> first | (simp only [wt, zeroEl, sumW, RT.wts]; omega) | cases hsl
       ·show fit sh (zeroEl sh)
        cases sh <;> first | exact trivial | cases hsl
      ·obtain rfl : m = n := by omega
       have hn : P.cellsOf e = sh.n := by rw [hcells e j hj, hjc, slCells_length]
       have each : ∀ k, k < len → ∃ (y : ElA j.cells) (cells : List Value), cells.length = sh.n ∧ (∀ q, q < sh.n → w.cell? ((a.add (k * sh.n)).add q) = cells[q]?) ∧ PureA w (fun b _ => b < w.heap.size) j.cells y cells ∧
        wtA j.cells y ≤ B ((elems.map (·.1)).getD k .nil) ∧ fitA j.cells y := by
        intro k hk
        have h1 := hget k hk
        have hke : k < elems.length := by omega
        rw [List.getElem?_eq_getElem hke] at h1
        obtain ⟨cells, hc, ht⟩ := Option.bind_eq_some_iff.1 h1
        obtain ⟨_, hcl, hcg⟩ := World.cells?_some hc
        obtain ⟨y, q1, q2, q3⟩ := ih e j cells _ hj ht
        rw [hn] at hcl hcg
        refine ⟨y, cells, hcl, fun q hq => ?_, q1, ?_, q3⟩
        ·have := hcg q hq; exact this
        ·simp only [List.getD_eq_getElem?_getD, List.getElem?_map, List.getElem?_eq_getElem hke, Option.map_some, Option.getD_some]
         exact q2
       have all : ∀ (m : Nat), m ≤ len → ∃ (l : List (ElA j.cells)) (row : List Value), l.length = m ∧ row.length = m * sh.n ∧ (∀ q, q < row.length → w.cell? (a.add q) = row[q]?) ∧ elemsRep (PureA w (fun b _ => b < w.heap.size) j.cells) l row ∧
        sumW (wtA j.cells) l ≤ sumW B ((elems.map (·.1)).take m) ∧ allW (fitA j.cells) l := by
        intro m
        induction m with
        | zero => exact fun _ => ⟨[], [], rfl, by simp, fun q hq => by simp at hq, rfl, Nat.zero_le _, trivial⟩
        | succ m ihm =>
          intro hm
          obtain ⟨l, row, l1, l2, l3, l4, l5, l6⟩ := ihm (by omega)
          obtain ⟨y, cells, c1, c2, c3, c4, c5⟩ := each m (by omega)
          have hr := rowy_elems (w := w) (F := fun b _ => b < w.heap.size) j.cells
          refine ⟨l ++ [y], row ++ cells, by simp [l1], by simp [l2, c1, Nat.succ_mul], fun q hq => ?_, ?_, ?_, ?_⟩
          ·by_cases hq2 : q < row.length
           ·rw [List.getElem?_append_left hq2]; exact l3 q hq2
           ·rw [List.getElem?_append_right (by omega)]
            simp only [List.length_append, c1] at hq
            have := c2 (q - row.length) (by omega)
            rw [← this]
            congr 1
            rw [l2] at hq2 ⊢
            unfold Addr.add
            by_cases h0 : m * sh.n = 0
            ·simp [h0]
            ·by_cases h1 : q - m * sh.n = 0
             ·have : q = m * sh.n := by omega
              simp [h0, this]
             ·have : q ≠ 0 := by omega
              simp [h0, h1, this]; omega
          ·exact hr.append l [y] row cells l4 ⟨cells, [], by simp, c3, rfl⟩
          ·have hke : m < (elems.map (·.1)).length := by simp; omega
           rw [List.take_succ_eq_append_getElem hke]
           have hs : ∀ (f : DataW H → Nat) (as bs : List (DataW H)), sumW f (as ++ bs) = sumW f as + sumW f bs := by
            intro f as bs
            induction as with
            | nil => simp [sumW]
            | cons a as iha => simp only [List.cons_append, sumW, iha]; omega
           have hs2 : ∀ (f : ElA j.cells → Nat) (as bs : List (ElA j.cells)), sumW f (as ++ bs) = sumW f as + sumW f bs := by
            intro f as bs
            induction as with
            | nil => simp [sumW]
            | cons a as iha => simp only [List.cons_append, sumW, iha]; omega
           rw [hs, hs2]
           have : (elems.map (·.1)).getD m .nil = (elems.map (·.1))[m] := by simp [List.getD_eq_getElem?_getD, List.getElem?_eq_getElem hke]
           rw [this] at c4
           simp only [sumW]; omega
          ·have ha : ∀ (as bs : List (ElA j.cells)), allW (fitA j.cells) as → allW (fitA j.cells) bs → allW (fitA j.cells) (as ++ bs) := by
            intro as bs h1 h2
            induction as with
            | nil => exact h2
            | cons a as iha => exact ⟨h1.1, iha h1.2⟩
           exact ha l [y] l6 ⟨c5, trivial⟩
       obtain ⟨l, row, l1, l2, l3, l4, l5, l6⟩ := all len (Nat.le_refl _)
       have hbulk : sumW (wtA j.cells) l + 1 ≤ B (.slice (elems.map (·.1)) (rest.map (·.1))) := by
        have := hB.slice (elems.map (·.1)) (rest.map (·.1))
        rw [List.take_of_length_le (by simp; omega)] at l5
        omega
       have hrow : len = 0 ∨ ∃ ad, (some a : Option Addr) = some ad ∧ ad.spot = none ∧ RowF w (fun b _ => b < w.heap.size) ad row := by
        by_cases h0 : len = 0
        ·exact .inl h0
        ·right
         have hnpos : sh.n ≠ 0 ∨ sh.n = 0 := by omega
         rcases hnpos with hnz | hnz
         ·have hpos : 0 < row.length := by rw [l2]; exact Nat.mul_pos (by omega) (by omega)
          have hadd : ∀ q, q < row.length → w.cell? (a.add q) = row[q]? := l3
          have hspot : a.spot = none := by
           have := hadd 0 hpos
           have e0 : a.add 0 = a := by simp [Addr.add]
           rw [e0, List.getElem?_eq_getElem hpos] at this
           unfold World.cell? at this
           split at this
           ·split at this
            ·cases this
            ·rename_i hsp; simpa using hsp
           ·cases this
          have hlt : a.block < w.heap.size := by
           have := hadd 0 hpos
           have e0 : a.add 0 = a := by simp [Addr.add]
           rw [e0, List.getElem?_eq_getElem hpos] at this
           unfold World.cell? at this
           split at this
           ·rename_i hh; exact (Array.getElem?_eq_some_iff.1 hh).1
           ·cases this
          refine ⟨a, rfl, hspot, fun q hq => ⟨?_, hlt⟩⟩
          rw [← hadd q hq]
          congr 1
          unfold Addr.add
          split
          ·rename_i e; subst e; cases a; simp_all
          ·rfl
         ·exfalso
          cases sh with
          | sl es =>
            have hes : es = [] := by simpa [Sh.n] using hnz
            subst hes
            have hr := hR t i hi
            unfold rdChk at hr
            rw [hat.und] at hr
            simp only [hj] at hr
            have : j.cells = [] := hjc
            rw [this] at hr
            cases hr
          | rsl ss => simp [Sh.n] at hnz
          | _ => cases hsl
       cases sh with
       | sl es =>
         have hjc : j.cells = es := hjc
         obtain ⟨jag, jcells, jf, jft, je⟩ := j
         simp only at hjc l l4 l5 l6 hbulk
         subst hjc
         refine ⟨l, ⟨.slice (some a) len cap, rfl, some a, cap, by rw [show List.length l = len from l1], by show List.length l ≤ cap; rw [l1]; exact hlc, ?_⟩, hbulk, l6⟩
         rcases hrow with h0 | ⟨ad, e1, e2, e3⟩
         ·exact .inl (by show List.length l = 0; omega)
         ·exact .inr ⟨ad, row, e1, e2, e3, l4⟩
       | rsl ss =>
         have hjc : j.cells = ss ++ [.rsl ss] := hjc
         obtain ⟨jag, jcells, jf, jft, je⟩ := j
         simp only at hjc l l4 l5 l6 hbulk
         subst hjc
         have conv : ∀ (l : List (ElA (ss ++ [.rsl ss]))) (row : List Value), elemsRep (PureA w (fun b _ => b < w.heap.size) (ss ++ [.rsl ss])) l row → allW (fitA (ss ++ [.rsl ss])) l →
          ∃ ts : List (RT (ElA ss)), ts.length = l.length ∧ treesRep w (fun b _ => b < w.heap.size) (PureA w (fun b _ => b < w.heap.size) ss) ts row ∧ RT.wts (wtA ss) ts = sumW (wtA (ss ++ [.rsl ss])) l ∧ RT.alls (fitA ss) ts := by
          intro l
          induction l with
          | nil => intro row hr _; exact ⟨[], rfl, (show treesRep _ _ _ [] row from by unfold treesRep; exact hr), rfl, trivial⟩
          | cons z l ihl =>
            rintro row ⟨c1, c2, rfl, h1, h2⟩ ⟨hf1, hf2⟩
            obtain ⟨ts, t1, t2, t3, t4⟩ := ihl c2 h2 hf2
            obtain ⟨tr, q1, q2, q3⟩ := tree_of h1
            exact ⟨tr :: ts, by simp [t1], ((rowy_trees ss).cons tr ts _).2 ⟨c1, c2, rfl, q1, t2⟩, by simp only [RT.wts, sumW, q2, t3], ⟨q3 hf1, t4⟩⟩
         obtain ⟨ts, t1, t2, t3, t4⟩ := conv l row l4 l6
         refine ⟨ts, ⟨.slice (some a) len cap, rfl, some a, cap, by rw [show List.length ts = len from t1.trans l1], by show List.length ts ≤ cap; rw [t1, l1]; exact hlc, ?_⟩, ?_, t4⟩
         ·rcases hrow with h0 | ⟨ad, e1, e2, e3⟩
          ·exact .inl (by show List.length ts = 0; omega)
          ·exact .inr ⟨ad, row, e1, e2, e3, t2⟩
         ·show RT.wts (wtA ss) ts + 1 ≤ _
          rw [t3]; exact hbulk
       | _ => cases hsl
     ·cases hd
    ·cases hd
   ·
    rename_i fs
    obtain ⟨xs, m, hm, rfl, hcl, hxl, hget⟩ := DataW.trod_struct hat.und h
    obtain rfl : m = n := by omega
    have hr := hR t i hi
    unfold rdChk at hr
    rw [hat.und] at hr
    simp only at hr
    split at hr
    ·rename_i sh hsc
     have hsh := beqs_eq hr
     obtain ⟨y, q1, q2, q3⟩ := read_fields (B := B) ih hcells cs _ 0 sh xs hsc (by simp [hxl]) (fun k f hf => by
      simp only [List.getElem?_map] at hf
      obtain ⟨f0, hf0, rfl⟩ := Option.map_eq_some_iff.1 hf
      exact hget k f0 (by simpa using hf0)) (by rw [hcl, hcells t i hi, hsh]; omega)
     rw [List.drop_zero] at q1
     have := hB.agg (xs.map (·.1))
     rw [← hsh]
     exact ⟨y, q1, by show _ ≤ B (.agg (xs.map (·.1))); omega, q3⟩
    ·cases hr
   ·rename_i k
    simp only [Bool.and_eq_true] at hd
    have hc := beqs_eq hd.2
    obtain ⟨m, rfl, rfl, hw⟩ := DataW.trod_int hat.und h
    rw [hc]
    exact ⟨m, ⟨_, rfl, rfl⟩, hB.lit _, hw⟩
   ·simp only [Bool.and_eq_true] at hd
    have hc := beqs_eq hd.2
    obtain ⟨b, rfl, rfl⟩ := DataW.trod_bool hat.und h
    rw [hc]
    exact ⟨b, ⟨_, rfl, rfl⟩, hB.lit _, trivial⟩
   ·simp only [Bool.and_eq_true] at hd
    have hc := beqs_eq hd.2
    obtain ⟨b, rfl, rfl, _⟩ := DataW.trod_string hat.und h
    rw [hc]
    exact ⟨b, ⟨_, rfl, rfl⟩, by have := hB.str b.data.toList; show ByteArray.size b + 1 ≤ _; simpa using this, trivial⟩
   ·cases hd
end
end Go.AM
end
section
set_option linter.unusedVariables false
namespace Go.AM
open Go
section
variable {H : Type} {enc : TypeId × Value → H} {P : Program} {ty : TypeId → Option TyI} {w : World} {g : Gh} {F : Fz}
def sigChk (ty : TypeId → Option TyI) : List PK → List TypeId → Bool
 | [], [] => true
 | .val ag want :: ps, t :: ts => (match ty t with
   | some j => (ag == j.ag) && Sh.beqs j.cells (want.map (·.1)) && want.all (·.2.isPure)
   | none => false) && sigChk ty ps ts
 | _, _ => false
theorem okWide_agg (hT : TyOk P ty) {t : TypeId} {j : TyI} (hj : ty t = some j) {base : Nat} {v : Value} (h : Value.okWide P w .any base t v) : isAgg v = j.ag := by
 obtain ⟨info, d, z, hat⟩ := hT.at_ hj
 have hd := hat.desc
 unfold Value.okWide at h
 rw [hat.und] at h
 unfold descChk at hd
 split at hd
 ·simp only [Bool.and_eq_true] at hd
  have hag : j.ag = false := by simpa using hd.1.1
  rw [hag]
  simp only [Cell.okWide, hat.und, Cell.ok] at h
  cases v <;> first | rfl | exact h.elim
 ·simp only [Bool.and_eq_true] at hd
  obtain ⟨cs, rfl, _⟩ := h
  exact hd.1.1.symm
 ·simp only [Bool.and_eq_true] at hd
  have hag : j.ag = false := by simpa using hd.1.1
  rw [hag]
  simp only [Cell.okWide, hat.und, Cell.ok] at h
  cases v <;> first | rfl | exact h.elim
 ·simp only [Bool.and_eq_true] at hd
  have hag : j.ag = false := by simpa using hd.1.1
  rw [hag]
  simp only [Cell.okWide, hat.und, Cell.ok] at h
  cases v <;> first | rfl | exact h.elim
 ·simp only [Bool.and_eq_true] at hd
  have hag : j.ag = false := by simpa using hd.1.1
  rw [hag]
  simp only [Cell.okWide, hat.und, Cell.ok] at h
  cases v <;> first | rfl | exact h.elim
 ·cases hd
theorem retag_cells : ∀ (want : List (Sh × Tg)) (cs : List CV), want.all (·.2.isPure) = true → allPure cs = true → want.length = cs.length → retag want cs = cs
 | [], [], _, _, _ => rfl
 | [], _ :: _, _, _, h => by simp at h
 | _ :: _, [], _, _, h => by simp at h
 | (sh, tg) :: want, c :: cs, h1, h2, h3 => by
   simp only [List.all_cons, Bool.and_eq_true] at h1
   have h2' : (c.isPure && allPure cs) = true := h2
   simp only [Bool.and_eq_true] at h2'
   simp only [retag]
   rw [retag_cells want cs h1.2 h2'.2 (by simpa using h3)]
   congr 1
   have e1 : tg = .pure := by cases tg <;> first | rfl | (simp [Tg.isPure] at h1)
   have e2 : c.tg = .pure := allPure_tg (cs := [c]) (by simp [allPure, h2'.1]) c (by simp)
   rw [e1]; exact tag_eta e2
theorem ent_of : ∀ (ps : List PK) (ts : List TypeId) (i : Nat) (cs : List CV) (vs : List Value), sigChk ty ps ts = true → allPure cs = true → CsRep w g .hand 0 cs (vs.flatMap (·.cells.toList)) → vs.length = ts.length →
 (∀ (k : Nat) (t : TypeId) (v : Value), ts[k]? = some t → vs[k]? = some v → ∀ j, ty t = some j → isAgg v = j.ag ∧ v.cells.size = j.cells.length) → EntP w g ps i cs vs
 | [], [], i, cs, vs, _, _, hc, hl, _ => by
   have : vs = [] := List.eq_nil_of_length_eq_zero hl
   subst this
   have := hc.length
   exact ⟨List.eq_nil_of_length_eq_zero (by simpa using this.symm), rfl⟩
 | [], _ :: _, _, _, _, h, _, _, _, _ => by simp [sigChk] at h
 | .val ag want :: ps, [], _, _, _, h, _, _, _, _ => by simp [sigChk] at h
 | .ptr _ :: _, ts, _, _, _, h, _, _, _, _ => by cases ts <;> simp [sigChk] at h
 | .rptr _ :: _, ts, _, _, _, h, _, _, _, _ => by cases ts <;> simp [sigChk] at h
 | .fn _ :: _, ts, _, _, _, h, _, _, _, _ => by cases ts <;> simp [sigChk] at h
 | .io _ :: _, ts, _, _, _, h, _, _, _, _ => by cases ts <;> simp [sigChk] at h
 | .val ag want :: ps, t :: ts, i, cs, [], _, _, _, hl, _ => by simp at hl
 | .val ag want :: ps, t :: ts, i, cs, v :: vs, h, hp, hc, hl, hv => by
   simp only [sigChk, Bool.and_eq_true] at h
   obtain ⟨h1, h2⟩ := h
   split at h1
   ·rename_i j hj
    simp only [Bool.and_eq_true] at h1
    have hag : ag = j.ag := by simpa using h1.1.1
    have hwl : want.length = j.cells.length := by
     have := congrArg List.length (beqs_eq h1.1.2); simpa using this.symm
    obtain ⟨k1, k2⟩ := hv 0 t v rfl rfl j hj
    have hvl : v.cells.toList.length = want.length := by simp [k2, hwl]
    rw [List.flatMap_cons] at hc
    refine ⟨v, vs, rfl, ⟨k1.trans hag.symm, ?_⟩, ?_⟩
    ·have := hc.sub 0 want.length
     rw [List.drop_zero, List.drop_zero, ← hvl, List.take_left, hvl] at this
     refine CsRep.pures (Keeps.refl _ _) _ 0 0 _ ?_ this
     unfold allPure at hp ⊢
     rw [List.all_eq_true] at hp ⊢
     exact fun c hc => hp c (List.mem_of_mem_take hc)
    ·have hsub := hc.sub want.length (cs.length - want.length)
     have hcl := hc.length
     have hp2 : allPure (cs.drop want.length) = true := by
      unfold allPure at hp ⊢
      rw [List.all_eq_true] at hp ⊢
      exact fun c hc => hp c (List.mem_of_mem_drop hc)
     refine ent_of ps ts (i + 1) (cs.drop want.length) vs h2 hp2 ?_ (by simpa using hl) fun k t v h1 h2 => hv (k + 1) t v (by simpa using h1) (by simpa using h2)
     have e1 : (cs.drop want.length).take (cs.length - want.length) = cs.drop want.length := List.take_of_length_le (by simp)
     have e2 : ((v.cells.toList ++ vs.flatMap (·.cells.toList)).drop want.length).take (cs.length - want.length) = vs.flatMap (·.cells.toList) := by
      rw [← hvl, List.drop_left]
      exact List.take_of_length_le (by simp only [List.length_append] at hcl; omega)
     rw [e1, e2] at hsub
     exact CsRep.pures (mk := .hand) (Keeps.refl _ _) _ _ 0 _ hp2 hsub
   ·cases h1
theorem read_args (hT : TyOk P ty) (hR : RdOk P ty) {B : DataW H → Nat} (hB : BulkOk B) {base : Nat} : ∀ (ps : List PK) (ts : List TypeId) (vs : List Value) (ds : List (DataW H)) (pl : List MemPlace), sigChk ty ps ts = true →
 DataW.TrodAll enc P w 0 (fun _ => true) true ts vs ds pl → ∃ y : ElA ((ps.flatMap PK.cells).map (·.1)), PureA w (fun b _ => b < w.heap.size) _ y (vs.flatMap (·.cells.toList)) ∧ wtA _ y ≤ sumW B ds ∧ fitA _ y ∧ vs.length = ts.length ∧
  ∀ (k : Nat) (t : TypeId) (v : Value), ts[k]? = some t → vs[k]? = some v → ∀ j, ty t = some j → v.cells.size = j.cells.length
 | [], [], vs, ds, pl, _, h => by
   match vs, ds, h with
   | [], [], h => exact ⟨(), rfl, Nat.zero_le _, trivial, rfl, fun k t v ht => by simp at ht⟩
 | [], _ :: _, _, _, _, h, _ => by simp [sigChk] at h
 | .val ag want :: ps, [], _, _, _, h, _ => by simp [sigChk] at h
 | .ptr _ :: _, ts, _, _, _, h, _ => by cases ts <;> simp [sigChk] at h
 | .rptr _ :: _, ts, _, _, _, h, _ => by cases ts <;> simp [sigChk] at h
 | .fn _ :: _, ts, _, _, _, h, _ => by cases ts <;> simp [sigChk] at h
 | .io _ :: _, ts, _, _, _, h, _ => by cases ts <;> simp [sigChk] at h
 | .val ag want :: ps, t :: ts, vs, ds, pl, h, ht => by
   match vs, ds, ht with
   | v :: vs, d :: ds, ht =>
     obtain ⟨p, q, ⟨fuel, h1⟩, h2, _⟩ := ht
     simp only [sigChk, Bool.and_eq_true] at h
     obtain ⟨hs1, hs2⟩ := h
     split at hs1
     ·rename_i j hj
      simp only [Bool.and_eq_true] at hs1
      have hw := beqs_eq hs1.1.2
      obtain ⟨y, k1, k2, k3⟩ := read_ok (H := H) (enc := enc) hT hR hB fuel t j _ _ hj h1
      obtain ⟨z, q1, q2, q3, q4, q5⟩ := read_args hT hR hB (base := base) ps ts vs ds q hs2 h2
      have hyl := PureA.length _ _ _ k1
      obtain ⟨jag, jcells, jf, jft, je⟩ := j
      simp only at hw y k1 k2 k3 hyl
      subst hw
      obtain ⟨u, u1, u2, u3⟩ := pureA_append k1 q1
      have e : ((PK.val ag want :: ps).flatMap PK.cells).map (·.1) = want.map (·.1) ++ (ps.flatMap PK.cells).map (·.1) := by
       rw [List.flatMap_cons, List.map_append]; rfl
      rw [e, List.flatMap_cons]
      refine ⟨u, u1, ?_, u3 k3 q3, by simp [q4], fun k t' v' ht' hv' j' hj' => ?_⟩
      ·rw [u2]; simp only [sumW]; omega
      ·cases k with
       | zero =>
         simp only [List.getElem?_cons_zero, Option.some.injEq] at ht' hv'
         subst ht' hv'
         rw [hj] at hj'; cases hj'
         simpa using hyl
       | succ k => exact q5 k t' v' (by simpa using ht') (by simpa using hv') j' hj'
     ·cases hs1
theorem args_ok (hT : TyOk P ty) (hR : RdOk P ty) {B : DataW H → Nat} (hB : BulkOk B) {base : Nat} {sig : Sig} {ts : List TypeId} (hs : sigChk ty sig.params ts = true) {vs : List Value} {ds : List (DataW H)} {pl : List MemPlace}
 (hval : ∀ (k : Nat) t v, ts[k]? = some t → vs[k]? = some v → Value.okWide P w .any base t v) (h : DataW.TrodAll enc P w 0 (fun _ => true) true ts vs ds pl) :
 ∃ x : sig.In, EntP w (lent fun b _ => b < w.heap.size) sig.params 0 (retag sig.ins (cellsOf _ x)) vs ∧ wtA (sig.ins.map (·.1)) x ≤ sumW B ds ∧ fitA (sig.ins.map (·.1)) x := by
 obtain ⟨y, k1, k2, k3, k4, k5⟩ : ∃ y : ElA (sig.ins.map (·.1)), PureA w (fun b _ => b < w.heap.size) _ y (vs.flatMap (·.cells.toList)) ∧ wtA _ y ≤ sumW B ds ∧ fitA _ y ∧ vs.length = ts.length ∧
  ∀ (k : Nat) (t : TypeId) (v : Value), ts[k]? = some t → vs[k]? = some v → ∀ j, ty t = some j → v.cells.size = j.cells.length := read_args (H := H) (enc := enc) hT hR hB (base := base) sig.params ts vs ds pl hs h
 refine ⟨y, ?_, k2, k3⟩
 have hp : allPure (cellsOf (sig.ins.map (·.1)) y) = true := cells_pure _ _
 have hpure : sig.ins.all (·.2.isPure) = true := by
  have : ∀ (ps : List PK) (ts : List TypeId), sigChk ty ps ts = true → (ps.flatMap PK.cells).all (·.2.isPure) = true := by
   intro ps
   induction ps with
   | nil => intro ts _; rfl
   | cons p ps ih =>
     intro ts h
     cases p with
     | val ag want =>
       cases ts with
       | nil => simp [sigChk] at h
       | cons t ts =>
         simp only [sigChk, Bool.and_eq_true] at h
         rw [List.flatMap_cons, List.all_append, ih ts h.2, Bool.and_true]
         have h1 := h.1
         split at h1
         ·simp only [Bool.and_eq_true] at h1; exact h1.2
         ·cases h1
     | _ => cases ts <;> simp [sigChk] at h
  exact this _ _ hs
 have hret : retag sig.ins (cellsOf _ y) = cellsOf _ y := retag_cells _ _ hpure hp (by
  have := congrArg List.length (cells_sh (sig.ins.map (·.1)) y)
  simpa using this.symm)
 rw [hret]
 refine ent_of sig.params ts 0 _ vs hs hp (cells_ok .hand _ y 0 _ k1) k4 fun k t v ht hv j hj => ⟨okWide_agg hT hj (hval k t v ht hv), k5 k t v ht hv j hj⟩
theorem base_grown {F : Fz} {w w' : World} {g' : Gh} {X : Nat → Prop} (hX : ∀ b, ¬ X b) (h : Base w F X w' g') : RowKit.Grown w w' := by
 have hb : ∀ b, b < w.heap.size → w'.heap[b]? = w.heap[b]? := fun b hb => h.blk b hb (hX b)
 refine ⟨⟨h.os, h.output, fun i hi => ?_⟩, fun a => ?_, h.size⟩
 ·rw [hb i hi]
  cases w.heap[i]? with
  | none => rfl
  | some o =>
    cases o with
    | cells c t f => exact ⟨rfl, rfl, rfl, fun _ _ => rfl⟩
    | map es k => exact .inr ⟨rfl, rfl⟩
    | _ => rfl
 ·unfold World.frozen?
  by_cases hlt : a.block < w.heap.size
  ·rw [hb _ hlt]
  ·have hn : w.heap[a.block]? = none := Array.getElem?_eq_none (by omega)
   rw [hn]
   cases hc : w'.heap[a.block]? with
   | none => rfl
   | some o =>
     cases o with
     | cells c t f =>
       have := h.frz a.block c t f (.inr (by omega)) hc
       subst this
       simp
     | _ => rfl
theorem law_calls {glob : Nat → Option (List CV)} {sig : Sig} {f : sig.In → Option sig.Out} (hG : Good P glob sig f) (hres : sig.res = [(false, [(.bool, .pure)])]) (hnp : sig.params.flatMap PK.outs = [])
 {x : sig.In} {r : sig.Out} (hr : f x = some r) (htrue : cellsOf _ r = [⟨.bool, .pure, true⟩]) {args : Array Value} (hE : EntP w (lent fun b _ => b < w.heap.size) sig.params 0 (retag sig.ins (cellsOf _ x)) args.toList) (hglob : GlobOk glob w (lent fun b _ => b < w.heap.size)) :
 Calls P sig.fn args w fun e w' => e = .returned (.bool true) ∧ RowKit.Grown w w' ∧ ∀ b, b < w.heap.size → w'.heap[b]? = w.heap[b]? := by
 obtain ⟨_, hcall⟩ := hG x r hr
 have hC := hcall w _ args.toList hE hglob (fun b ow e => by cases e) (fun b o e => e) (fun b ow cs t f e => by cases e)
 have hargs : args.toList.toArray = args := by simp
 rw [hargs] at hC
 refine hC.mono fun e w' hR => ?_
 obtain ⟨v, g', rfl, hb, hrv, _⟩ := hR
 refine ⟨?_, base_grown (fun b ⟨ow, e⟩ => by cases e) hb, fun b hlt => hb.blk b hlt fun ⟨ow, e⟩ => by cases e⟩
 have hout : sig.outs = [(.bool, .pure)] := by unfold Sig.outs; rw [hnp, hres]; rfl
 have hcl : retag sig.outs (cellsOf _ r) = [⟨.bool, .pure, true⟩] := by rw [htrue, hout]; rfl
 rw [hcl, hres] at hrv
 obtain ⟨u, hu, hr2, hag⟩ := VRep.one (show VRep w' g' .hand 0 false [⟨.bool, .pure, true⟩] v from hrv)
 have : u = .bool true := hr2
 rw [← hag rfl, this]
end
end Go.AM
end
section
set_option linter.unusedVariables false
namespace Go.AM
open Go
section
variable {P : Program} {E : Env} {C : Ctx} {s s' : St} {a a' : Act} {w w' : World} {g g' : Gh} {o : Oper} {Q : Exit → Act → World → Prop}
def tabAt {α : Type} : List (Nat × α) → Nat → Option α
 | [], _ => none
 | (a, i) :: l, t => bif Nat.beq a t then some i else tabAt l t
theorem tabAt_mem {α : Type} : ∀ {l : List (Nat × α)} {t : Nat} {i : α}, tabAt l t = some i → (t, i) ∈ l
 | [], _, _, h => by cases h
 | (a, j) :: l, t, i, h => by
   simp only [tabAt, cond_eq_ite] at h
   split at h
   ·rename_i hb
    cases h
    rw [Nat.eq_of_beq_eq_true hb]; exact List.mem_cons_self
   ·exact List.mem_cons_of_mem _ (tabAt_mem h)
def orAt {α : Type} (d : α) : List (Nat × α) → Nat → α
 | [], _ => d
 | (a, i) :: l, t => bif Nat.beq a t then i else orAt d l t
theorem orAt_all {α : Type} {p : α → Prop} {d : α} (hd : p d) : ∀ (l : List (Nat × α)), (∀ x, x ∈ l → p x.2) → ∀ t, p (orAt d l t)
 | [], _, _ => hd
 | (a, i) :: l, h, t => by
   simp only [orAt, cond_eq_ite]
   split
   ·exact h (a, i) (by simp)
   ·exact orAt_all hd l (fun x hx => h x (by simp [hx])) t
theorem tyOk_of {tab : List (Nat × TyI)} (h : (tab.all fun x => tyChk P (tabAt tab) x.1 x.2) = true) : TyOk P (tabAt tab) := fun t i hi => List.all_eq_true.1 h (t, i) (tabAt_mem hi)
theorem rdOk_of {tab : List (Nat × TyI)} (h : (tab.all fun x => rdChk P (tabAt tab) x.1 x.2) = true) : RdOk P (tabAt tab) := fun t i hi => List.all_eq_true.1 h (t, i) (tabAt_mem hi)
theorem wpOps_nil_eq (hE : EnvOk P E) (h : Rel E C s a w g) {ops : Array Oper} {t u tb : TypeId} {p1 p2 : String} {a1 a2 : Array Edge} {d1 d2 x0 : Nat} (hops : ops = #[⟨some d1, .move (.tmp x0), t, p1, a1, none⟩, ⟨some d2, .binOp .eql t (.tmp d1) (.const (.slice none 0 0)) u, tb, p2, a2, none⟩])
 {sh : Sh} (hsl : sh.isPl = true) {x : El sh} (hx : (s.tm x0).1 = .val false [⟨sh, .pure, x⟩]) {e : TypeId} (ht : P.underlying t = some (.slice e)) (hd1 : DOk E d1) (hd2 : DOk E d2)
 (hQ : ∀ (b : Bool) a' w' g', (b = true → slLen sh x = 0) → Rel E C (s.upds [.tm d1 (.val false [⟨sh, .pure, x⟩]), .tm d2 (vBool b)]) a' w' g' → Q .normal a' w') : wpOps P ops Q (List.range ops.size) a w := by
 subst hops
 show wpOps P _ Q [0, 1] a w
 rw [wpOps_cons]
 have hat : at_ E s (.tmp x0) = .val false [⟨sh, .pure, x⟩] := hx
 have hplan : (plan E ⟨some d1, .move (.tmp x0), t, p1, a1, none⟩ s).run = some [.tm d1 (.val false [⟨sh, .pure, x⟩])] := by
  simp only [plan, moveT, hat, allPure, List.all_cons, List.all_nil, CV.isPure, Tg.isPure, Bool.and_true, cond_true, Dyn.run]
 refine acts_wp hE h (o := ⟨some d1, .move (.tmp x0), t, p1, a1, none⟩) (us := [.tm d1 (.val false [⟨sh, .pure, x⟩])]) rfl ⟨by have := hd1.1; have := hd1.2; simp [dstOk, *], hplan⟩ fun a1' w1 g1 r1 => ?_
 rw [wpOps_cons]
 have htm : (TV (s.upds [.tm d1 (.val false [⟨sh, .pure, x⟩])]) a1' w1 g1 (.tm d1) (.val false [⟨sh, .pure, x⟩]) (a1'.eval (.tmp d1))) := by
  have := r1.tm d1
  have e : ((s.upds [.tm d1 (.val false [⟨sh, .pure, x⟩])]).tm d1).1 = .val false [⟨sh, .pure, x⟩] := by simp [St.upds, Upd.on, put_same]
  rw [e] at this; exact this
 obtain ⟨u1, hu, hr, hag⟩ := VRep.one (show VRep w1 g1 (.tm d1) 0 false [⟨sh, .pure, x⟩] _ from htm)
 have hpc : PureC w1 g1.F sh x u1 := hr
 rw [pureC_sl hsl] at hpc
 obtain ⟨A, c, hv, hlc, hz⟩ := hpc
 rw [hag rfl] at hv
 refine (?_ : wpOp P _ Q 1 _ a1' w1)
 unfold wpOp
 have e1 : (#[⟨some d1, .move (.tmp x0), t, p1, a1, none⟩, ⟨some d2, .binOp .eql t (.tmp d1) (.const (.slice none 0 0)) u, tb, p2, a2, none⟩] : Array Oper)[1]? = some ⟨some d2, .binOp .eql t (.tmp d1) (.const (.slice none 0 0)) u, tb, p2, a2, none⟩ := rfl
 rw [e1]
 simp only []
 rw [if_pos (by simp [Region.wanted])]
 refine .inl ?_
 have hrun : (execOp a1'.eval ⟨some d2, .binOp .eql t (.tmp d1) (.const (.slice none 0 0)) u, tb, p2, a2, none⟩).run P w1 = .ok (.value (.bool A.isNone)) w1 := by
  have h2 := Lib.run_eql_slice_nil (P := P) w1 t e A (slLen sh x) c 0 0 ht
  simp only [execOp]
  rw [hv]
  have ge : eqGuard .eql t (.tmp d1) (.const (.slice none 0 0)) (.slice A (slLen sh x) c) (.slice none 0 0) = pure () := rfl
  show (Sem.run P _ w1) = _
  simp only [Act.eval, ge, Sem.run_bind, h2, Result.andThen_ok, Sem.run_pure]
 unfold Oper.wp
 rw [hrun, Oper.upon_value]
 simp only [wpOps]
 have r2 := r1.setCopy (mk := .hand) (d := d2) hd2 (t := vBool A.isNone) (v := .bool A.isNone) rfl (vBool_ok _)
 refine hQ A.isNone _ _ g1 (fun hb => ?_) r2
 rcases hz with hz | ⟨ad, cs, hA, _⟩
 ·exact hz
 ·rw [hA] at hb; cases hb
end
end Go.AM
end
section
set_option linter.unusedVariables false
namespace Go.AM
open Go Go.RowKit Go.ChangeShapes
section
variable {H : Type} {enc : TypeId × Value → H} {P : Program} {W W' : World}
theorem args_stay (hl : laidOutB P = true) {sp : Nat → Bool} (hh : ∀ b, b < W.heap.size → W'.heap[b]? = W.heap[b]?) : ∀ {ts : List TypeId} {vs : List Value} {ds : List (DataW H)} {ps : List MemPlace}, (∀ t, t ∈ ts → P.readableRec t = true ∧ t < P.types.size) →
 DataW.TrodAll enc P W 0 (fun _ => true) true ts vs ds ps → (∀ p, p ∈ ps → p.block < W.heap.size) → (∀ p, p ∈ ps → sp p.block = true) → DataW.TrodAll enc P W' 0 sp true ts vs ds ps
 | [], [], [], _, _, h, _, _ => h
 | [], [], _ :: _, _, _, h, _, _ => h.elim
 | [], _ :: _, _, _, _, h, _, _ => by simp [DataW.TrodAll] at h
 | _ :: _, [], _, _, _, h, _, _ => by simp [DataW.TrodAll] at h
 | _ :: _, _ :: _, [], _, _, h, _, _ => by simp [DataW.TrodAll] at h
 | t :: ts, v :: vs, d :: ds, ps, hr, ⟨p, q, h1, h2, e⟩, hlt, hs => by
   obtain ⟨r1, r2⟩ := hr t (by simp)
   refine ⟨p, q, WideElems.Trod_stays hl r1 r2 h1 (fun x hx => ?_) (fun x hx => hs x (by rw [e]; exact List.mem_append_left _ hx)), args_stay hl hh (fun t ht => hr t (by simp [ht])) h2 (fun x hx => hlt x (by rw [e]; exact List.mem_append_right _ hx)) (fun x hx => hs x (by rw [e]; exact List.mem_append_right _ hx)), e⟩
   have hb := hh x.block (hlt x (by rw [e]; exact List.mem_append_left _ hx))
   cases x with
   | cell b off => simp only [World.sameAt, World.cell?, MemPlace.block] at hb ⊢; rw [hb]
   | map b => exact hb
theorem law_contract (hl : laidOutB P = true) {f : FuncId} {fn : Func} {s : ChangeSpec} {t : TypeId} (hrt : fn.resultTypes = #[t]) (hbool : P.underlying t = some .bool) (hread : ∀ t, t ∈ fn.params.toList → P.readableRec t = true ∧ t < P.types.size) {args : Array Value} {ds gs : List (DataW H)} {before : List MemPlace}
 (hvars : s.vars = []) (hW : DataW.Whole enc P fn.params.toList s.vars false W args.toList ds gs before) (hfn : gs = [] → s.fn H (ds ++ gs) = { results := [.lit (.bool true)], args := ds })
 (hC : Calls P f args W fun e W' => e = .returned (.bool true) ∧ Grown W W' ∧ ∀ b, b < W.heap.size → W'.heap[b]? = W.heap[b]?) :
 Calls P f args W fun e W' => ∃ v, e = .returned v ∧ s.post enc P fn false true false false W args v W' := by
 refine hC.mono fun e W' ⟨he, hg, hh⟩ => ⟨_, he, ?_⟩
 have hW' := hW
 obtain ⟨p, q, hA, hV, rfl, hfz, hnd⟩ := hW
 rw [hvars] at hV
 obtain ⟨rfl, rfl⟩ := trodVars_none hV
 have hfn := hfn rfl
 have hlt := hA.lt
 refine post_of_same (pa := p) (pv := []) hW' (fun b sp hd => ?_) (fun sp hsp => ?_) (fun sp _ => ?_) rfl (hg.frame _) hg.2.1 (ok_one hrt rfl (okWide_bool_mk hbool _))
 ·rw [hfn, hrt]
  exact trodAll_cons_mk (shut_bool hbool _) trodAll_mk0
 ·rw [hfn]
  exact args_stay hl hh hread hA hlt fun x hx => hsp x (by simpa using hx)
 ·rw [hfn, hvars]
  exact rfl
end
end Go.AM
end
section
set_option linter.unusedVariables false
namespace Go.AM
open Go Go.ChangeShapes
section
variable {H : Type} {enc : TypeId × Value → H} {P : Program} {W : World}
theorem ints_laid {t e : TypeId} {k : IntKind} {fuel : Nat} {cs : List Value} {x : DataW H × List MemPlace} {sp : Nat → Bool} {held : Bool} (ht : P.underlying t = some (.slice e)) (he : P.underlying e = some (.int k)) (hc : P.cellsOf e = 1)
 (h : DataW.trod enc P W 0 sp held fuel t cs = some x) {zs : List Int} (hx : x.1 = .slice (zs.map fun n => .lit (.int k n)) []) (hz : zs ≠ []) :
 ∃ v, cs = [v] ∧ PureC W (fun b _ => b < W.heap.size) (.sl [.int k]) zs v := by
 rcases open_ints ht he hc h with ⟨_, rfl⟩ | ⟨a, len, cap, ys, rfl, _, hlc, _, hyl, rfl, hcell, _⟩
 ·cases hx
 ·simp only [DataW.slice.injEq] at hx
  obtain ⟨h1, h2⟩ := hx
  have hlits : ∀ l : List Int, (lits (H := H) k l) = l.map fun n => .lit (.int k n) := fun l => rfl
  rw [hlits] at h1 h2
  have hinj : ∀ l m : List Int, (l.map fun n => (DataW.lit (.int k n) : DataW H)) = (m.map fun n => (DataW.lit (.int k n) : DataW H)) → l = m := by
   intro l
   induction l with
   | nil => intro m h; cases m with
     | nil => rfl
     | cons _ _ => simp at h
   | cons a l ih =>
     intro m h
     cases m with
     | nil => simp at h
     | cons b m =>
       simp only [List.map_cons, List.cons.injEq, DataW.lit.injEq, Lit.int.injEq, true_and] at h
       rw [h.1, ih m h.2]
  have e1 := hinj _ _ h1
  have e2 : ys.drop len = [] := by simpa using h2
  have hle : ys.length ≤ len := by simpa using e2
  have hys : ys = zs := by rw [← e1, List.take_of_length_le hle]
  subst hys
  have hlen : ys.length = len := by
   have : len ≤ ys.length := by rw [hyl]; split <;> omega
   omega
  have hpos : 0 < ys.length := List.length_pos_iff.2 hz
  have h0 := hcell 0 hpos
  have e0 : a.add 0 = a := by simp [Addr.add]
  rw [e0] at h0
  have hspot : a.spot = none := by
   unfold World.cell? at h0
   split at h0
   ·split at h0
    ·cases h0
    ·rename_i hsp; simpa using hsp
   ·cases h0
  have hlt : a.block < W.heap.size := by
   unfold World.cell? at h0
   split at h0
   ·rename_i hh; exact (Array.getElem?_eq_some_iff.1 hh).1
   ·cases h0
  refine ⟨_, rfl, some a, cap, congrArg (fun l => Value.slice (some a) l cap) hlen.symm, by show List.length ys ≤ cap; omega, .inr ⟨a, ys.map (Value.int k), rfl, hspot, fun j hj => ⟨?_, hlt⟩, ?_⟩⟩
  ·have hj' : j < ys.length := by simpa using hj
   have := hcell j hj'
   have e : a.add j = ⟨a.block, a.off + j, none⟩ := by
    unfold Addr.add; split
    ·rename_i e; subst e; cases a; simp_all
    ·rfl
   rw [e] at this
   rw [this]
   simp [List.getD_eq_getElem?_getD, List.getElem?_eq_getElem hj']
  ·have gen : ∀ l : List Int, elemsRep (PureA W (fun b _ => b < W.heap.size) [.int k]) l (l.map (Value.int k)) := by
    intro l
    induction l with
    | nil => rfl
    | cons a l ih => exact ⟨[.int k a], _, rfl, ⟨_, rfl, rfl⟩, ih⟩
   exact gen ys
end
end Go.AM
end
