import Derived.Test.YtgkobbodicfofaaDoorPr
import Derived.Test.YtgkobbodicfofaaDoorMk
noncomputable section
namespace Go.Proofs.YtgkobbodicfofaaDoor.Am
open Go Go.AM Go.Bk
set_option maxRecDepth 100000
set_option linter.unusedVariables false
/-! The functions of the seat do what their laws say -/
theorem k_Clone (l : List Int) (h : l.length ≤ maxRows) : Sp f_slices_Clone_int_int l (fun r => r = l) :=
  Sp.step (G := fun n => cloneX) s_slices_Clone_int_int ⟨l, rfl, .all fun n => by simp only [cloneX, decide_eq_true h, cond_true]⟩
theorem k_In (l : List Int) (v : Int) (h : l.length ≤ maxRows) : Sp f_ref03_In (l, v) (fun r => r = true ↔ v ∈ l) := Sp.step s_ref03_In (sp_In l v h)
theorem k_Insert (l : List Int) (v : Int) (h : l.length + 1 ≤ maxRows) : Sp f_ref03_Insert (l, v) (fun r => (∀ y, y ∈ r ↔ y = v ∨ y ∈ l) ∧ r.length ≤ l.length + 1) := Sp.step s_ref03_Insert (sp_Insert l v h)
theorem k_Meet (l1 l2 : List Int) (h1 : l1.length ≤ maxRows) (h2 : l2.length ≤ maxRows) : Sp f_ref03_Meet (l1, l2) (fun r => r = true ↔ ∃ q, q ∈ l1 ∧ q ∈ l2) := Sp.step s_ref03_Meet (sp_Meet k_In l1 l2 h1 h2)
theorem k_Step (S : Int) (fin : List Int) (rs : List Rule) (s : Int) (qs : List (List Int)) (h1 : rs.length + 1 ≤ maxRows) (h2 : qs.length ≤ maxRows) (h3 : ∀ l ∈ qs, l.length ≤ maxRows) (har : ∀ r ∈ rs, r.1 = s → r.2.1.length = qs.length) :
    Sp f_ref03_Step (S, fin, rs, s, qs) (fun l => (∀ q, q ∈ l ↔ ∃ r ∈ rs, Fit s qs r ∧ r.2.2 = q) ∧ l.length ≤ rs.length) := Sp.step s_ref03_Step (sp_Step k_In k_Insert S fin rs s qs h1 h2 h3 har)
theorem k_Of (al : List Int) (S : Int) (fin : List Int) (rs : List Rule) (h1 : rs.length + 1 ≤ maxRows) (har : Ar al rs) (t : RT Int) (hn : nds t ≤ maxRows) (hs : Shp al t) :
    Sp f_ref03_Of (S, fin, rs, t.a, t.kids) (fun l => (∀ q, q ∈ l ↔ Go.Bk.Reach rs t q) ∧ l.length ≤ rs.length) :=
  sp_Of s_ref03_Of al S fin rs h1 har (fun s qs h2 h3 h4 => k_Step S fin rs s qs h1 h2 h3 h4) t hn hs
theorem k_Has (al : List Int) (S : Int) (fin : List Int) (rs : List Rule) (h1 : rs.length + 1 ≤ maxRows) (h2 : fin.length ≤ maxRows) (har : Ar al rs) (t : RT Int) (hn : nds t ≤ maxRows) (hs : Shp al t) :
    Sp f_ref03_Has (S, fin, rs, t.a, t.kids) (fun r => r = true ↔ Acc rs fin t) :=
  Sp.step s_ref03_Has (sp_Has (by omega) h2 k_Meet (k_Of al S fin rs h1 har t hn hs))
theorem k_ref01_ValidAlphabet (al : List Int) : Sp f_ref01_ValidAlphabet al (fun r => r = true ↔ AlOk al) := Sp.step s_ref01_ValidAlphabet (sp_ref01_ValidAlphabet al)
theorem k_tree_ValidAlphabet (al : List Int) (h : al.length ≤ maxRows) : Sp f_tree_ValidAlphabet al (fun r => r = true ↔ AlOk al) :=
  Sp.step s_tree_ValidAlphabet (sp_tree_ValidAlphabet (Sp.step s_slices_ContainsFunc_int_int_of_tree_ValidAlphabet_1 (sp_ContainsFunc (Sp.step s_slices_IndexFunc_int_int_of_tree_ValidAlphabet_1 (sp_IndexFunc (fun x => Sp.step s_tree_ValidAlphabet_1 (sp_tree_ValidAlphabet_1 x)) al h)))))
theorem k_auto_Valid (al : List Int) (S : Int) (fin : List Int) (rs : List Rule) (h0 : al.length ≤ maxRows) (h1 : fin.length ≤ maxRows) (h2 : rs.length ≤ maxRows) (h3 : ∀ r ∈ rs, r.2.1.length ≤ maxRows) : Sp f_auto_Valid (al, S, fin, rs) (fun r => r = true ↔ ValidA al (S, fin, rs)) :=
  Sp.step s_auto_Valid (sp_auto_Valid (fun x S f rs => Sp.step s_auto_Valid_1 (sp_auto_Valid_1 x S f rs)) k_tree_ValidAlphabet al S fin rs h0 h1 h2 h3)
theorem k_ref03_Valid (al : List Int) (S : Int) (fin : List Int) (rs : List Rule) (h1 : fin.length ≤ maxRows) (h2 : rs.length ≤ maxRows) (h3 : ∀ r ∈ rs, r.2.1.length ≤ maxRows) : Sp f_ref03_Valid (al, S, fin, rs) (fun r => r = true ↔ ValidA al (S, fin, rs)) :=
  Sp.step s_ref03_Valid (sp_ref03_Valid k_ref01_ValidAlphabet al S fin rs h1 h2 h3)
theorem k_law05_valid (al : List Int) (bs : List Aut) (hb : bs.length ≤ maxRows) (h : ∀ b ∈ bs, b.2.1.length ≤ maxRows ∧ b.2.2.length ≤ maxRows ∧ ∀ r ∈ b.2.2, r.2.1.length ≤ maxRows) : Sp f_law05_valid (al, bs) (fun r => r = true ↔ ∀ b ∈ bs, ValidA al b) :=
  Sp.step s_law05_valid (sp_law05_valid hb fun b hb => k_ref03_Valid al b.1 b.2.1 b.2.2 (h b hb).1 (h b hb).2.1 (h b hb).2.2)
theorem k_count (t : RT Int) (h : nds t ≤ maxRows) (m : Int) (h0 : 0 ≤ m) (h1 : m ≤ 1000) : Sp f_ref01_count (t.a, t.kids, m) (fun r => 1 ≤ r ∧ r ≤ m + 1) := sp_count s_ref01_count t h m h0 h1
theorem k_ref01_Few (t : RT Int) (h : nds t ≤ maxRows) (m : Int) (h0 : 0 ≤ m) (h1 : m ≤ 1000) : Sp f_ref01_Few (t.a, t.kids, m) (fun _ => True) := Sp.step s_ref01_Few (sp_ref01_Few (k_count t h m h0 h1))
theorem k_law05_few (al : List Int) (t : RT Int) (bs : List Aut) (h : nds t ≤ maxRows) (hb : bs.length ≤ maxRows) (hr : ∀ b ∈ bs, b.2.2.length ≤ maxRows) : Sp f_law05_few (al, t.a, t.kids, bs) (fun r => r = true → ∀ b ∈ bs, FewOk al b) :=
  Sp.step s_law05_few (sp_law05_few (k_ref01_Few t h 400 (by omega) (by omega)) (Sp.step s_ref03_Few (sp_ref03_Few al bs hb hr)))
theorem k_ref01_Valid (al : List Int) (t : RT Int) (h : nds t ≤ maxRows) : Sp f_ref01_Valid (al, t.a, t.kids) (fun r => r = true → Shp al t) :=
  Sp.step s_ref01_Valid (sp_ref01_Valid (k_ref01_Few t h 300 (by omega) (by omega)) (k_ref01_ValidAlphabet al) (sp_shaped s_ref01_shaped al t h))
theorem k_Repeat (v k : Int) (h0 : 0 ≤ k) (h3 : k ≤ 3) : Sp f_slices_Repeat_int_int ([v], k) (fun r => r = List.replicate k.toNat v) :=
  Sp.step s_slices_Repeat_int_int (sp_Repeat (fun k h0 h3 => Sp.step s_math_bits_Mul (sp_Mul (Sp.step s_math_bits_Mul64 (sp_Mul64 k h0 h3)))) v k h0 h3)
theorem k_Copy (S : Int) (fin : List Int) (rs : List Rule) (h1 : fin.length ≤ maxRows) (h2 : rs.length ≤ maxRows) (h3 : ∀ r ∈ rs, r.2.1.length ≤ maxRows) : Sp f_auto_Copy (S, fin, rs) (fun r => r = (S, fin, rs)) :=
  Sp.step s_auto_Copy (sp_Copy k_Clone S fin rs h1 h2 h3)
theorem k_Final (S : Int) (fin : List Int) (rs : List Rule) (h0 : 0 ≤ S) (hS : S ≤ 300) (h1 : fin.length ≤ maxRows) (hf : ∀ q ∈ fin, StOk S q) : Sp f_auto_Final (S, fin, rs) (fun r => ∀ q : Int, StOk S q → q < ((r.length : Nat) : Int) ∧ at? r q.toNat = some (decide (q ∈ fin))) :=
  Sp.step s_auto_Final (sp_Final S fin rs h0 hS h1 hf)
theorem k_Beneath (al : List Int) (S : Int) (fin : List Int) (rs : List Rule) (s : Int) (t : RT Int) (h1 : rs.length + 1 ≤ maxRows) (h2 : fin.length ≤ maxRows) (har : Ar al rs) (hn : nds t + 1 ≤ maxRows) (hs : Shp al t) :
    Sp f_ref05_Beneath (S, fin, rs, s, t.a, t.kids) (fun r => r = true ↔ ∃ u, Sub u t ∧ u.a = s ∧ Acc rs fin u) :=
  Sp.step s_ref05_Beneath (sp_Beneath hn (fun u p hp hu => Sp.step s_ref01_Find (sp_Find t u p hp hu)) (sp_Places s_ref01_Places t hn) (fun u hu => k_Has al S fin rs h1 h2 har u (Nat.le_trans (nds_sub hu) (by omega)) (Shp.sub hu hs)))
theorem k_right (al : List Int) (b : Aut) (w : Bool) (t : RT Int) (h1 : b.2.2.length + 1 ≤ maxRows) (h2 : b.2.1.length ≤ maxRows) (har : Ar al b.2.2) (hn : nds t ≤ maxRows) (hs : Shp al t) (hw : w = true ↔ Acc b.2.2 b.2.1 t) :
    Sp f_law05_right (al, b.1, b.2.1, b.2.2, t.a, t.kids, w) (fun r => r = true) :=
  Sp.step s_law05_right (sp_right (k_Has al b.1 b.2.1 b.2.2 h1 h2 har t hn hs) hw)
theorem awake_ev (n : Nat) : prg.run (n + 30) 9 () = some true := by kernel_rfl
theorem k_awake : Sp f_law05_awake () (fun r => r = true) := by
  refine ⟨true, rfl, 30, fun n hn => ?_⟩
  obtain ⟨m, rfl⟩ : ∃ m, n = m + 30 := ⟨n - 30, by omega⟩
  exact awake_ev m
theorem k_boolean_Under (al : List Int) (S : Int) (fin : List Int) (rs : List Rule) (s : Int) (h : FewOk al (S, fin, rs)) :
    Sp f_boolean_Under (al, S, fin, rs, s) (fun r => (¬ ValidA al (S, fin, rs) → r.2.2.2 = 1) ∧ (ValidA al (S, fin, rs) → (s < 0 ∨ ((al.length : Nat) : Int) ≤ s) → r.2.2.2 = 6) ∧
      (ValidA al (S, fin, rs) → 0 ≤ s → s < ((al.length : Nat) : Int) → ∃ U : List Rule, r = (S + 2, [S + 1], U, 0) ∧ UnderRules al S fin rs s U ∧ U.length ≤ 200)) := by
  have hm := maxRows_eq
  have ha : al.length ≤ 40 := h.1
  have h1 : fin.length ≤ 30 := h.2.1
  have h2 : rs.length ≤ 30 := h.2.2.1
  have h3 : ∀ r ∈ rs, r.2.1.length ≤ maxRows := fun r hr => by have : r.2.1.length ≤ 10 := h.2.2.2.2 r hr; omega
  exact Sp.step s_boolean_Under (sp_boolean_Under h (k_Copy S fin rs (by omega) (by omega) h3) (fun hv => k_Final S fin rs hv.2.1 hv.2.2.1 (by omega) (fun q hq => hv.final hq)) (k_auto_Valid al S fin rs (by omega) (by omega) (by omega) h3) k_Clone k_Repeat)
theorem k_BooleanUnder (al : List Int) (S : Int) (fin : List Int) (rs : List Rule) (s : Int) (t : RT Int) (hn : nds t + 1 ≤ maxRows) (hr : rs.length ≤ maxRows) :
    Sp f_law05_BooleanUnder (al, S, fin, rs, s, t.a, t.kids) (fun r => r = true) := by
  have hm := maxRows_eq
  refine Sp.step s_law05_BooleanUnder (sp_BooleanUnder (S := S) (fin := fin) (rs := rs) k_awake (k_law05_few al t [(S, fin, rs)] (by omega) (by simp only [len1]; omega) (fun b hb => by rw [List.mem_singleton.mp hb]; exact hr)) (k_boolean_Under al S fin rs s) ?_ (k_ref01_Valid al t (by omega)) ?_ ?_)
  · intro b hf h1 h2 h3
    refine k_law05_valid al [b] (by simp only [len1]; omega) fun b' hb' => ?_
    rw [List.mem_singleton.mp hb']
    exact ⟨by omega, by omega, fun r hr => by have := h3 r hr; omega⟩
  · intro hf hv hs
    have h1 : fin.length ≤ 30 := hf.2.1
    have h2 : rs.length ≤ 30 := hf.2.2.1
    exact k_Beneath al S fin rs s t (by omega) (by omega) hv.ar hn hs
  · intro b w h1 h2 hv hs hw
    exact k_right al b w t (by omega) (by omega) hv.ar (by omega) hs hw
end Go.Proofs.YtgkobbodicfofaaDoor.Am
end
