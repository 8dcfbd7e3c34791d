import Derived.Test.YtgkobbodicfofaaDoorPr
import Derived.Test.YtgkobbodicfofaaDoorMj
import Derived.Test.YtgkobbodicfofaaDoorMs
noncomputable section
namespace Go.Proofs.YtgkobbodicfofaaDoor.Am
open Go Go.AM Go.Bk
set_option maxRecDepth 100000
set_option linter.unusedVariables false
theorem k_Clone (l : List Int) (h : l.length ≤ maxRows) : Sp f_slices_Clone_int_int l (fun r => r = l) :=
 Sp.step (G := fun n => cloneX) s_slices_Clone_int_int ⟨l, rfl, .all fun n => by simp only [cloneX, decide_eq_true h, cond_true]⟩
theorem k_In (l : List Int) (v : Int) (h : l.length ≤ maxRows) : Sp f_ref03_In (l, v) (fun r => r = true ↔ v ∈ l) := Sp.step s_ref03_In (sp_In l v h)
theorem k_Insert (l : List Int) (v : Int) (h : l.length + 1 ≤ maxRows) : Sp f_ref03_Insert (l, v) (fun r => (∀ y, y ∈ r ↔ y = v ∨ y ∈ l) ∧ r.length ≤ l.length + 1) := Sp.step s_ref03_Insert (sp_Insert l v h)
theorem k_Meet (l1 l2 : List Int) (h1 : l1.length ≤ maxRows) (h2 : l2.length ≤ maxRows) : Sp f_ref03_Meet (l1, l2) (fun r => r = true ↔ ∃ q, q ∈ l1 ∧ q ∈ l2) := Sp.step s_ref03_Meet (sp_Meet k_In l1 l2 h1 h2)
theorem k_Step (S : Int) (fin : List Int) (rs : List Rule) (s : Int) (qs : List (List Int)) (h1 : rs.length + 1 ≤ maxRows) (h2 : qs.length ≤ maxRows) (h3 : ∀ l ∈ qs, l.length ≤ maxRows) (har : ∀ r ∈ rs, r.1 = s → r.2.1.length = qs.length) :
 Sp f_ref03_Step (S, fin, rs, s, qs) (fun l => (∀ q, q ∈ l ↔ ∃ r ∈ rs, Fit s qs r ∧ r.2.2 = q) ∧ l.length ≤ rs.length) := Sp.step s_ref03_Step (sp_Step k_In k_Insert S fin rs s qs h1 h2 h3 har)
theorem k_Of (al : List Int) (S : Int) (fin : List Int) (rs : List Rule) (h1 : rs.length + 1 ≤ maxRows) (har : Ar al rs) (t : RT Int) (hn : nds t ≤ maxRows) (hs : Shp al t) :
 Sp f_ref03_Of (S, fin, rs, t.a, t.kids) (fun l => (∀ q, q ∈ l ↔ Go.Bk.Reach rs t q) ∧ l.length ≤ rs.length) :=
 sp_Of s_ref03_Of al S fin rs h1 har (fun s qs h2 h3 h4 => k_Step S fin rs s qs h1 h2 h3 h4) t hn hs
theorem k_Has (al : List Int) (S : Int) (fin : List Int) (rs : List Rule) (h1 : rs.length + 1 ≤ maxRows) (h2 : fin.length ≤ maxRows) (har : Ar al rs) (t : RT Int) (hn : nds t ≤ maxRows) (hs : Shp al t) :
 Sp f_ref03_Has (S, fin, rs, t.a, t.kids) (fun r => r = true ↔ Acc rs fin t) :=
 Sp.step s_ref03_Has (sp_Has (by omega) h2 k_Meet (k_Of al S fin rs h1 har t hn hs))
theorem k_ref01_ValidAlphabet (al : List Int) : Sp f_ref01_ValidAlphabet al (fun r => r = true ↔ AlOk al) := Sp.step s_ref01_ValidAlphabet (sp_ref01_ValidAlphabet al)
theorem k_tree_ValidAlphabet (al : List Int) (h : al.length ≤ maxRows) : Sp f_tree_ValidAlphabet al (fun r => r = true ↔ AlOk al) :=
 Sp.step s_tree_ValidAlphabet (sp_tree_ValidAlphabet (Sp.step s_slices_ContainsFuncY (sp_ContainsFunc (Sp.step s_slices_IndexFuncY (sp_IndexFunc (fun x => Sp.step s_tree_ValidAlphabet_1 (sp_tree_ValidAlphabet_1 x)) al h)))))
theorem k_auto_Valid (al : List Int) (S : Int) (fin : List Int) (rs : List Rule) (h0 : al.length ≤ maxRows) (h1 : fin.length ≤ maxRows) (h2 : rs.length ≤ maxRows) (h3 : ∀ r ∈ rs, r.2.1.length ≤ maxRows) : Sp f_auto_Valid (al, S, fin, rs) (fun r => r = true ↔ ValidA al (S, fin, rs)) :=
 Sp.step s_auto_Valid (sp_auto_Valid (fun x S f rs => Sp.step s_auto_Valid_1 (sp_auto_Valid_1 x S f rs)) k_tree_ValidAlphabet al S fin rs h0 h1 h2 h3)
theorem k_ref03_Valid (al : List Int) (S : Int) (fin : List Int) (rs : List Rule) (h1 : fin.length ≤ maxRows) (h2 : rs.length ≤ maxRows) (h3 : ∀ r ∈ rs, r.2.1.length ≤ maxRows) : Sp f_ref03_Valid (al, S, fin, rs) (fun r => r = true ↔ ValidA al (S, fin, rs)) :=
 Sp.step s_ref03_Valid (sp_ref03_Valid k_ref01_ValidAlphabet al S fin rs h1 h2 h3)
theorem k_law05_valid (al : List Int) (bs : List Aut) (hb : bs.length ≤ maxRows) (h : ∀ b ∈ bs, b.2.1.length ≤ maxRows ∧ b.2.2.length ≤ maxRows ∧ ∀ r ∈ b.2.2, r.2.1.length ≤ maxRows) : Sp f_law05_valid (al, bs) (fun r => r = true ↔ ∀ b ∈ bs, ValidA al b) :=
 Sp.step s_law05_valid (sp_law05_valid hb fun b hb => k_ref03_Valid al b.1 b.2.1 b.2.2 (h b hb).1 (h b hb).2.1 (h b hb).2.2)
theorem k_count (t : RT Int) (h : nds t ≤ maxRows) (m : Int) (h0 : 0 ≤ m) (h1 : m ≤ 1000) : Sp f_ref01_count (t.a, t.kids, m) (fun r => 1 ≤ r ∧ r ≤ m + 1) := sp_count s_ref01_count t h m h0 h1
theorem k_ref01_Few (t : RT Int) (h : nds t ≤ maxRows) (m : Int) (h0 : 0 ≤ m) (h1 : m ≤ 1000) : Sp f_ref01_Few (t.a, t.kids, m) (fun _ => True) := Sp.step s_ref01_Few (sp_ref01_Few (k_count t h m h0 h1))
theorem k_law05_few (al : List Int) (t : RT Int) (bs : List Aut) (h : nds t ≤ maxRows) (hb : bs.length ≤ maxRows) (hr : ∀ b ∈ bs, b.2.2.length ≤ maxRows) : Sp f_law05_few (al, t.a, t.kids, bs) (fun r => r = true → ∀ b ∈ bs, FewOk al b) :=
 Sp.step s_law05_few (sp_law05_few (k_ref01_Few t h 400 (by omega) (by omega)) (Sp.step s_ref03_Few (sp_ref03_Few al bs hb hr)))
theorem k_ref01_Valid (al : List Int) (t : RT Int) (h : nds t ≤ maxRows) : Sp f_ref01_Valid (al, t.a, t.kids) (fun r => r = true → Shp al t) :=
 Sp.step s_ref01_Valid (sp_ref01_Valid (k_ref01_Few t h 300 (by omega) (by omega)) (k_ref01_ValidAlphabet al) (sp_shaped s_ref01_shaped al t h))
theorem k_Copy (S : Int) (fin : List Int) (rs : List Rule) (h1 : fin.length ≤ maxRows) (h2 : rs.length ≤ maxRows) (h3 : ∀ r ∈ rs, r.2.1.length ≤ maxRows) : Sp f_auto_Copy (S, fin, rs) (fun r => r = (S, fin, rs)) :=
 Sp.step s_auto_Copy (sp_Copy k_Clone S fin rs h1 h2 h3)
theorem awake_ev (n : Nat) : prg.run (n + 30) 9 () = some true := by kernel_rfl
theorem k_awake : Sp f_law05_awake () (fun r => r = true) := by
 refine ⟨true, rfl, 30, fun n hn => ?_⟩
 obtain ⟨m, rfl⟩ : ∃ m, n = m + 30 := ⟨n - 30, by omega⟩
 exact awake_ev m
end Go.Proofs.YtgkobbodicfofaaDoor.Am
end
noncomputable section
namespace Go.Proofs.YtgkobbodicfofaaDoor.Am
open Go Go.AM Go.Bk
set_option maxRecDepth 100000
set_option linter.unusedVariables false
theorem k_List (x y : List Int) (h : x.length ≤ 1000000) : Sp f_ref01_List (x, y) (fun r => r = true ↔ x = y) := Sp.step s_ref01_List (sp_List x y (by have := maxRows_eq; omega))
theorem k_Sort (x : List Rule) (hx : x.length ≤ 1000000000) (hr : ∀ r ∈ x, r.2.1.length ≤ 1000) : Sp f_ref03_Sort x (fun r : List Rule => r.length ≤ x.length ∧ ∀ y ∈ r, y ∈ x) :=
 Sp.step s_ref03_Sort (tt_Sort (fun r h => Sp.step s_ref03_key (tt_key r h)) (fun a b h => Sp.step s_ref03_Less (tt_Less a b h)) x hx hr)
theorem k_Used (S : Int) (fin : List Int) (rs : List Rule) (h : WfS S fin rs) : Sp f_ref03_Used (S, fin, rs) (fun r => r.length = S.toNat) :=
 Sp.step s_ref03_Used (tt_Used S fin rs h (Sp.step s_ref03_Reached (tt_Reached S fin rs h)))
theorem k_Trimmed (S : Int) (fin : List Int) (rs : List Rule) (h : WfS S fin rs) : Sp f_ref03_Trimmed (S, fin, rs) (Kept S fin rs) :=
 Sp.step s_ref03_Trimmed (tt_Trimmed S fin rs (k_Used S fin rs h) fun keep hk => Sp.step s_ref03_Keep (tt_Keep S fin rs keep h hk k_Sort))
theorem k_Power (m r : Nat) (hm : m ≤ 1000) (hr : r ≤ 3) : Sp f_ref03_Power ((m : Int), (r : Int)) (fun p => p = ((m ^ r : Nat) : Int)) := Sp.step s_ref03_Power (sp_Power m r hm hr)
theorem k_Full (al : List Int) (m : Int) (h : AlOk al) : Sp f_ref03_Full (al, m) (fun _ => True) :=
 Sp.step s_ref03_Full (tt_Full (fun m r hr => Sp.step s_ref03_Power (tt_Power m r (by omega))) al m h)
theorem k_Bits (S : Int) (fin : List Int) (rs : List Rule) (h : WfS S fin rs) : Sp f_ref04_Bits (S, fin, rs) (fun _ => True) :=
 Sp.step s_ref04_Bits (tt_Bits ((k_Trimmed S fin rs h).mono fun a ha => ⟨ha.1, by have := ha.2.1; have := h.2.1; omega⟩) fun m r hr => Sp.step s_ref03_Power (tt_Power m r hr))
theorem k_One (S : Int) (fin : List Int) (rs : List Rule) (hl : rs.length ≤ 1000000000) (hr : ∀ r ∈ rs, r.2.1.length ≤ 1000) : Sp f_ref03_One (S, fin, rs) (fun _ => True) :=
 Sp.step s_ref03_One (tt_One S fin rs hl hr fun x y hx => k_List x y (by omega))
noncomputable def WfA (a : Aut) : Prop := WfS a.1 a.2.1 a.2.2
theorem k_Light (al : List Int) (a c : Aut) (hal : AlOk al) (h : WfA a) (h' : WfA c) : Sp f_ref04_Light (al, [a, c]) (fun _ => True) := by
 have hm : ∀ b ∈ [a, c], WfA b := fun b hb => by
  rcases List.mem_cons.1 hb with rfl | hb
  ·exact h
  ·rw [List.mem_singleton.1 hb]; exact h'
 refine Sp.step s_ref04_Light (tt_Light al [a, c] (by simp) (fun m => k_Full al m hal) (fun b hb h3 => ?_) (fun b hb => ?_) (fun b hb => ?_))
 ·exact k_One b.1 b.2.1 b.2.2 (by omega) fun r hr => ((hm b hb).2.2.2.2.2 r hr).2.2
 ·exact (k_Trimmed b.1 b.2.1 b.2.2 (hm b hb)).mono fun _ _ => trivial
 ·exact k_Bits b.1 b.2.1 b.2.2 (hm b hb)
theorem k_Lists (N r : Nat) (hN : N ≤ 301) (hr : r ≤ 3) : Sp f_ref04_Lists ((N : Int), (r : Int)) (fun l => l = lsts N r) := sp_Lists s_ref04_Lists N hN r hr
theorem k_pick (sets : List (List Int)) (l : List Int) (hl : l.length ≤ 1000) (hq : ∀ q ∈ l, StOk ((sets.length : Nat) : Int) q) : Sp f_ref04_pick (sets, l) (fun r => r = pickV sets l) := Sp.step s_ref04_pick (sp_pick sets l hl hq)
theorem k_place (l : List (List Int)) (x : List Int) (hl : l.length ≤ 1000000000) (hx : x.length ≤ 1000000) : Sp f_ref04_place (l, x) (fun p => (p = -1 ∧ x ∉ l) ∨ ∃ i : Nat, l[i]? = some x ∧ p = (i : Int)) :=
 Sp.step s_ref04_place (sp_place l x hl fun y _ => k_List x y hx)
theorem k_StepOk (al : List Int) (S : Int) (fin : List Int) (rs : List Rule) (hv : ValidA al (S, fin, rs)) : StepOk f_ref03_Step al S fin rs := by
 have hm := maxRows_eq
 have hrl : rs.length ≤ 20000 := hv.2.2.2.1
 intro f hf qs hq hl
 have hal := hv.1.2 f hf
 have h3 := hal.2
 refine (k_Step S fin rs (f : Int) qs (by omega) (by omega) (fun l h => by have := hl l h; omega) fun r hr he => ?_).mono fun l h => by have := h.2; omega
 have har := (hv.rule hr).ar.2
 rw [he, Int.toNat_natCast, List.getElem?_eq_getElem hf] at har
 have := Option.some.inj har
 omega
theorem k_Subset (al : List Int) (S : Int) (fin : List Int) (rs : List Rule) (h : WfS S fin rs) : Sp f_ref04_Subset (al, S, fin, rs) (SubOk al) := by
 have hm := maxRows_eq
 obtain ⟨h0, h1, h2, h3, h4, h5⟩ := h
 exact Sp.step s_ref04_Subset (tt_Subset al S fin rs h2 (k_ref03_Valid al S fin rs (by omega) (by omega) fun r hr => by have := (h5 r hr).2.2; omega)
  (fun hv => Sp.step s_ref04_Sets (tt_Sets al S fin rs hv.1 (k_StepOk al S fin rs hv) k_Lists k_pick k_place))
  (fun l1 l2 a b => (k_Meet l1 l2 (by omega) (by omega)).mono fun _ _ => trivial) (k_StepOk al S fin rs) k_Lists k_pick k_place)
theorem k_Make (al : List Int) (m : Nat) (fin : List Int) (rs : List Rule) (hal : AlOk al) (hm : m ≤ 301) (hrl : rs.length ≤ 1000000000) (hr : ∀ r ∈ rs, RuleD al m r) :
 Sp f_ref04_Make (al, (m : Int), fin, rs) (fun t => t.1 = (m : Int) ∧ TabOk al m t.2 ∧ (Compl al m rs → TabFull al m t.2)) :=
 Sp.step s_ref04_Make (tt_Make al m fin rs hal hm hrl hr k_Power fun m tab l hm hl hq => Sp.step s_ref04_Table_index (sp_index m tab l hm hl hq))
theorem k_Next (al : List Int) (m : Nat) (tab : List (List Int)) (f a : Nat) (l : List Int) (hal : AlOk al) (hm : m ≤ 301) (ht : TabOk al m tab) (hfa : al[f]? = some (a : Int)) (hl : l ∈ lsts m a) :
 Sp f_ref04_Table_Next ((m : Int), tab, (f : Int), l) (fun v => (v = -1 ∨ StOk (m : Int) v) ∧ (TabFull al m tab → 0 ≤ v)) :=
 Sp.step s_ref04_Table_Next (tt_Next al m tab f a l hal hm ht hfa hl fun m tab l hm hl hq => Sp.step s_ref04_Table_index (sp_index m tab l hm hl hq))
theorem k_Insert2 (l : List Int) (v : Int) (hl : l.length ≤ 1000000000) : Sp f_ref03_Insert (l, v) (fun r => (∀ y, y ∈ r ↔ y = v ∨ y ∈ l) ∧ r.length ≤ l.length + 1 ∧ (SInc l → SInc r)) := Sp.step s_ref03_Insert (tt_Insert l v hl)
theorem k_classes (al : List Int) (m : Nat) (fin : List Int) (rs : List Rule) (hal : AlOk al) (hm : m ≤ 301) (hfl : fin.length ≤ 1000000000) (hfin : ∀ q ∈ fin, StOk (m : Int) q) (hrl : rs.length ≤ 1000000000) (hr : ∀ r ∈ rs, RuleD al m r) (hc : Compl al m rs) :
 Sp f_ref04_classes (al, (m : Int), fin, rs) (fun l => l.length = m ∧ ∀ v ∈ l, StOk (m : Int) v) :=
 Sp.step s_ref04_classes (tt_classes al m fin rs hm hfl hfin (fun tab => TabOk al m tab ∧ TabFull al m tab) ((k_Make al m fin rs hal hm hrl hr).mono fun t ht => ⟨ht.1, ht.2.1, ht.2.2 hc⟩)
  (fun tab num s t hP hn hs ht => Sp.step s_ref04_alike (tt_alike al m tab num s t hal hm hn hs ht k_Lists fun f a l hfa hl => (k_Next al m tab f a l hal hm hP.1 hfa hl).mono fun v hv => by
   rcases hv.1 with h | h
   ·have := hv.2 hP.2; omega
   ·exact h))
  fun l hl => Sp.step s_ref04_many (tt_many k_Insert2 l hl))
theorem k_In2 (l : List Int) (v : Int) (h : l.length ≤ 1000000000) : Sp f_ref03_In (l, v) (fun _ => True) := (k_In l v (by have := maxRows_eq; omega)).mono fun _ _ => trivial
theorem k_Renumber (al : List Int) (m : Nat) (fin : List Int) (rs : List Rule) (hal : AlOk al) (hm : m ≤ 301) (hfl : fin.length ≤ 1000000000) (hrl : rs.length ≤ 1000000000) (hr : ∀ r ∈ rs, RuleD al m r) :
 Sp f_ref04_Renumber (al, (m : Int), fin, rs) RnOk :=
 Sp.step s_ref04_Renumber (tt_Renumber al m fin rs hal hm hfl hrl hr (TabOk al m) ((k_Make al m fin rs hal hm hrl hr).mono fun t ht => ⟨ht.1, ht.2.1⟩)
  (fun tab f a l hP hfa hl => (k_Next al m tab f a l hal hm hP hfa hl).mono fun v hv => hv.1) k_In2 k_Sort k_Lists)
theorem k_Minimal (al : List Int) (S : Int) (fin : List Int) (rs : List Rule) (h : WfS S fin rs) : Sp f_ref04_Minimal (al, S, fin, rs) (fun t => RnOk (t.1, t.2.1, t.2.2.1)) :=
 Sp.step s_ref04_Minimal (tt_Minimal al S fin rs h k_Trimmed (k_Subset al) (fun m hal => Sp.step s_ref04_Over (tt_Over al m (k_Full al m hal)))
  (fun m fin rs hal hm hf hrl hr => Sp.step s_ref04_Filled (tt_Filled al m fin rs hal hm hf hrl hr (fun x y hx => k_List x y (by omega)) k_Lists))
  (fun m fin rs hal => k_classes al m fin rs hal) (fun m fin rs hal => k_Renumber al m fin rs hal) k_In2 k_Insert2)
theorem k_SortX (x : List Rule) (hx : x.length ≤ 1000000000) (hr : ∀ r ∈ x, r.2.1.length ≤ 1000) : Sp f_ref03_Sort x (fun r : List Rule => Srt r ∧ r.length ≤ x.length ∧ ∀ y, y ∈ r ↔ y ∈ x) :=
 Sp.step s_ref03_Sort (sp_Sort (fun r h => Sp.step s_ref03_key (sp_key r h)) (fun a b h => Sp.step s_ref03_Less (sp_Less a b h)) x hx hr)
theorem k_TrimmedX (S : Int) (fin : List Int) (rs : List Rule) (h : WfS S fin rs) : Sp f_ref03_Trimmed (S, fin, rs) (TrimX S fin rs) :=
 Sp.step s_ref03_Trimmed (sp_Trimmed S fin rs (Sp.step s_ref03_Used (sp_Used S fin rs h (Sp.step s_ref03_Reached (sp_Reached S fin rs h)))) fun keep hk => Sp.step s_ref03_Keep (sp_Keep S fin rs keep h hk k_SortX))
theorem k_Alike2 (al : List Int) (S : Int) (fin : List Int) (R R' : List Rule) (hal : AlOk al) (h : WfA (S, fin, R)) (h' : WfA (S, fin, R')) (hs : Same R R') : Sp f_ref04_Alike (al, S, fin, R, S, fin, R') (fun r => r = true) :=
 Sp.step s_ref04_Alike (tt_Alike2 al (S, fin, R) (S, fin, R') (k_Light al _ _ hal h h') (Sp.step s_ref04_Equal (tt_Equal2 al (S, fin, R) (S, fin, R') (k_Minimal al S fin R h)
  (fun a ha => Sp.step s_ref03_Same (tt_Same a ha fun x y hx => k_List x y (by omega))) (minimal_one s_ref04_Minimal (trimmed_one hs (k_TrimmedX S fin R h) (k_TrimmedX S fin R' h'))))))
theorem wf_of {al : List Int} {c : Aut} (hm : Mid c) (hv : ValidA al c) : WfA c :=
 ⟨hv.2.1, by have := hv.2.2.1; omega, by have := hm.1; omega, by have := hm.2.1; omega, fun q hq => hv.final hq, fun r hr => ⟨(hv.rule hr).2.2.2.1, fun q hq => by
  obtain ⟨i, hi, rfl⟩ := List.getElem_of_mem hq
  exact (hv.rule hr).2.2.2.2 i hi hi, by have := hm.2.2 r hr; omega⟩⟩
theorem k_valid1 (al : List Int) (c : Aut) (h : Mid c) : Sp f_law05_valid (al, [c]) (fun r => r = true ↔ ∀ c' ∈ [c], ValidA al c') := by
 have hm := maxRows_eq
 refine k_law05_valid al [c] (by simp only [len1]; omega) fun b hb => ?_
 rw [List.mem_singleton.mp hb]
 exact ⟨by have := h.1; omega, by have := h.2.1; omega, fun r hr => by have := h.2.2 r hr; omega⟩
theorem k_Has1 (al : List Int) (t : RT Int) (ht : nds t ≤ 10000000) (c : Aut) (h : Mid c) (hv : ValidA al c) (hs : Shp al t) : Sp f_ref03_Has (c.1, c.2.1, c.2.2, t.a, t.kids) (fun r => r = true ↔ Acc c.2.2 c.2.1 t) := by
 have hm := maxRows_eq
 exact k_Has al c.1 c.2.1 c.2.2 (by have := h.2.1; omega) (by have := h.1; omega) hv.ar t (by omega) hs
end Go.Proofs.YtgkobbodicfofaaDoor.Am
end
noncomputable section
namespace Go.Proofs.YtgkobbodicfofaaDoor.Am
open Go Go.AM Go.Bk
set_option maxRecDepth 100000
set_option linter.unusedVariables false
theorem k_Cmp (x y : Int) : Sp f_cmp_Compare_int (x, y) (fun v => v = 0 ↔ x = y) := Sp.step s_cmp_Compare_int (sp_Cmp (fun z => Sp.step s_cmp_isNaN_int (sp_isNaN z)) x y)
theorem k_Order : OrdT f_auto_Order := fun x y hx hy => Sp.step s_auto_Order (ord_total k_Cmp (fun xs h => Sp.step s_cmp_Or_int (sp_cOr xs h)) (fun xs ys h h' => Sp.step s_slices_Compare_int_int (sp_sCompare k_Cmp xs ys h h')) x y hx hy)
theorem k_Len64 (z : Int) (h0 : 0 ≤ z) (h1 : z ≤ 40) : Sp f_math_bits_Len64 z (fun r => 0 ≤ r ∧ r ≤ 6 ∧ (1 ≤ z → (2:Int)^r.toNat ≤ 2 * z)) := Sp.step s_math_bits_Len64 (sp_Len64 z h0 h1)
theorem k_Len (z : Int) (h0 : 0 ≤ z) (h1 : z ≤ 40) : Sp f_math_bits_Len z (fun r => 0 ≤ r ∧ r ≤ 6 ∧ (1 ≤ z → (2:Int)^r.toNat ≤ 2 * z)) := Sp.step s_math_bits_Len (sp_Len (k_Len64 z h0 h1))
section
variable {D : List Rule}
theorem k_sift (hD : Base D) (d : List Rule) (lo hi first : Int) (hp : d.Perm D) (h0 : 0 ≤ lo) (h1 : lo ≤ 1000) (h2 : 0 ≤ hi) (h3 : 0 ≤ first) (h4 : first + hi ≤ (D.length : Int)) : Sp f_slices_siftDownX (d, lo, hi, first) (fun r => r.Perm D) :=
 Sp.step s_slices_siftDownX (tt_sift k_Order hD d hp lo hi first h0 h1 h2 h3 h4)
theorem k_ord2 (hD : Base D) (d : List Rule) (a b c lo hi : Int) (hp : d.Perm D) (hl : 0 ≤ lo) (hh : hi ≤ (D.length : Int)) (ha : lo ≤ a ∧ a < hi) (hb : lo ≤ b ∧ b < hi) :
 Sp f_slices_order2X (d, a, b, c) (fun r => (lo ≤ r.1 ∧ r.1 < hi) ∧ (lo ≤ r.2.1 ∧ r.2.1 < hi) ∧ r.2.2.1.Perm D) :=
 Sp.step s_slices_order2X (tt_ord2 k_Order hD d hp a b c lo hi hl hh ha hb)
theorem k_med (hD : Base D) (d : List Rule) (a b c s lo hi : Int) (hp : d.Perm D) (hl : 0 ≤ lo) (hh : hi ≤ (D.length : Int)) (ha : lo ≤ a ∧ a < hi) (hb : lo ≤ b ∧ b < hi) (hc : lo ≤ c ∧ c < hi) :
 Sp f_slices_medianX (d, a, b, c, s) (fun r => (lo ≤ r.1 ∧ r.1 < hi) ∧ r.2.1.Perm D) :=
 Sp.step s_slices_medianX (tt_med (k_ord2 hD) d hp a b c s lo hi hl hh ha hb hc)
theorem k_pdq (hD : Base D) (lim : Int) (h0 : 0 ≤ lim) (h1 : lim ≤ 1000) : Sp f_slices_pdqsortX (D, 0, (D.length : Int), lim) (fun r => r.Perm D) :=
 tt_pdq k_Order hD s_slices_pdqsortX
  (fun d a b hp h0 h1 h2 => Sp.step s_slices_insertionSortX (tt_ins k_Order hD d hp a b h0 h1 h2))
  (fun d a b hp h0 h1 h2 => Sp.step s_slices_heapSortX (tt_heap k_Order hD (k_sift hD) d hp a b h0 h1 h2))
  (fun d a b hp h0 h1 h2 => Sp.step s_slices_breakPatternsX (tt_brk hD (fun z h0 h1 => Sp.step s_slices_nextPowerOfTwo (tt_npow k_Len z h0 h1)) (fun z => Sp.step s_slices_xorshift_Next (tt_xor z)) d hp a b h0 (by omega) h2))
  (fun d a b hp h0 h1 h2 => Sp.step s_slices_reverseRangeX (tt_rev hD d hp a b h0 (by have := hD.1; omega) (by omega) h2))
  (fun d a b hp h0 h1 h2 => Sp.step s_slices_choosePivotX (tt_piv hD (k_med hD) d hp a b h0 h1 h2))
  (fun d a b hp h0 h1 h2 => Sp.step s_slices_partialInsertionSortX (tt_part k_Order hD d hp a b h0 h1 h2))
  (fun d a b p hp h0 h1 h2 h3 => Sp.step s_slices_partitionEqualX (tt_peq k_Order hD d hp a b p h0 h1 h2 h3))
  (fun d a b p hp h0 h1 h2 h3 => Sp.step s_slices_partitionX (tt_ptn k_Order hD d hp a b p h0 h1 h2 h3))
  D.length D 0 D.length lim (List.Perm.refl _) (by omega) (by omega) (by omega) (by omega) h0 h1
theorem k_SortFunc (hD : Base D) : Sp f_slices_SortFuncX D (fun r => r.Perm D) := Sp.step s_slices_SortFuncX (tt_sort hD k_Len (k_pdq hD))
theorem k_Sorted (hD : Base D) : Sp f_auto_Sorted D (fun r => Same r D ∧ r.length ≤ D.length) :=
 Sp.step s_auto_Sorted (sp_AutoSorted hD (k_SortFunc hD) fun X hX => Sp.step s_slices_CompactFuncX (sp_Compact k_Order (fun x y hx hy => Sp.step s_auto_Sorted_1 (sp_Sorted1 k_Order x y hx hy)) hX))
end
end Go.Proofs.YtgkobbodicfofaaDoor.Am
end
