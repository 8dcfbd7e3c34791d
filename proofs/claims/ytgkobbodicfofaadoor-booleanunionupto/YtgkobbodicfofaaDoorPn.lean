/- What is proved: the law BooleanUnion answers true at all arguments whose bulk is at most 1048576, whatever the run's choices.
 Conditions: none beyond those of the given statement. -/
import Derived.Test.YtgkobbodicfofaaDoorMo
import Derived.Test.YtgkobbodicfofaaDoorPl
import Derived.Test.YtgkobbodicfofaaDoorPu
noncomputable section
namespace Go.Bk
open Go Go.AM
set_option linter.unusedVariables false
/-! Union -/
noncomputable def shR (n : Int) (r : Rule) : Rule := (r.1, r.2.1.map (· + n), r.2.2 + n)
noncomputable def unF (S : Int) (f f' : List Int) : List Int := f ++ f'.map (· + S)
noncomputable def unR (S : Int) (rs rs' : List Rule) : List Rule := rs ++ rs'.map (shR S)
theorem unF_take {S : Int} {f f' : List Int} {i : Nat} (h : i < f'.length) : unF S f (f'.take (i + 1)) = List.append (unF S f (f'.take i)) [f'[i] + S] := by
  unfold unF
  rw [List.take_add_one, List.getElem?_eq_getElem h, Option.toList_some, List.map_append, ← List.append_assoc]; rfl
theorem unR_take {S : Int} {rs rs' : List Rule} {i : Nat} (h : i < rs'.length) : unR S rs (rs'.take (i + 1)) = unR S rs (rs'.take i) ++ [shR S rs'[i]] := by
  unfold unR
  rw [List.take_add_one, List.getElem?_eq_getElem h, Option.toList_some, List.map_append, ← List.append_assoc]; rfl
noncomputable def Sm (S : Int) : Prop := 0 ≤ S ∧ S ≤ 1000
theorem wrap_sum {e S S' : Int} (hS : Sm S) (hS' : Sm S') (h : StOk S' e) : IntKind.wrap .i64 (e + S) = e + S := by
  have h1 := hS.1; have h2 := hS.2; have h3 := hS'.2; have h4 := h.1; have h5 := h.2
  exact wrap_id _ (by omega) (by omega)
theorem tt_Copy_own {Cl : Nat → List Int → Option (List Int)} (S : Int) (fin : List Int) (rs : List Rule) (hfl : fin.length ≤ 1000) (hrl : rs.length ≤ 1000000) (hr : ∀ r ∈ rs, r.2.1.length ≤ 1000)
    (hCl : ∀ l : List Int, l.length ≤ maxRows → Sp Cl l (fun r => r = l)) : Sp (fun n => auto_Copy_own.P (Cl n) n) (S, fin, rs) (fun a => a = (S, fin, rs.map some)) := by
  have hm := maxRows_eq
  show Tt (fun n => auto_Copy_own.P (Cl n) n (S, fin, rs)) _
  unfold auto_Copy_own.P; dsimp only
  refine Tt.bind (hCl fin (by omega)) fun f hf => ?_
  subst hf
  refine Tt.bind (R := fun x => x = ((0 : Int), ([] : List Int), ([] : List (Option Rule)), S, f, rs.map some))
    (Tt.loop (Lp.count rs.length (fun i s => s = ((0 : Int), ([] : List Int), ([] : List (Option Rule)), S, f, (rs.take i).map some, rs, ((rs.length : Nat) : Int), (i : Int))) ?_ ?_ rfl)) ?_
  · rintro i s hi rfl
    unfold auto_Copy_own.L1; dsimp only
    refine Bd.yes (dec_true (by omega)) (Bd.nth hi (Bd.bind (hCl _ (by have := hr _ (List.getElem_mem hi); omega)) fun l hl => ?_))
    subst hl
    refine Bd.chk (lenOk (by simp; omega)) (Bd.again ?_)
    rw [wrap_next (by omega), List.take_add_one, List.getElem?_eq_getElem hi, Option.toList_some, List.map_append]; rfl
  · rintro s rfl
    unfold auto_Copy_own.L1; dsimp only
    exact Bd.no (decide_eq_false (by omega)) (Bd.done (by rw [List.take_length]))
  · rintro _ rfl
    exact Tt.pure rfl
theorem take_set_map {f : Int → Int} {l : List Int} {i : Nat} (h : i < l.length) : ((l.take i).map f ++ l.drop i).set i (f l[i]) = (l.take (i + 1)).map f ++ l.drop (i + 1) := by
  have h1 : ((l.take i).map f).length = i := by simp; omega
  rw [List.set_append_right _ _ (by omega), h1, Nat.sub_self, List.drop_eq_getElem_cons h, List.set_cons_zero, List.take_add_one, List.getElem?_eq_getElem h, Option.toList_some, List.map_append, List.append_assoc]; rfl
theorem tt_Union {Va : Nat → List Int × Int × List Int × List Rule → Option Bool} {Co : Nat → Int × List Int × List Rule → Option (Int × List Int × List (Option Rule))} (al : List Int) (S S' : Int) (fin fin' : List Int) (rs rs' : List Rule)
    (hfl : fin.length ≤ 100) (hfl' : fin'.length ≤ 100) (hrl : rs.length ≤ 1000) (hrl' : rs'.length ≤ 1000) (hS : ValidA al (S, fin, rs) → S ≤ 6) (hS' : ValidA al (S', fin', rs') → S' ≤ 6)
    (hVa : Sp Va (al, S, fin, rs) (fun r => r = true ↔ ValidA al (S, fin, rs))) (hVa' : Sp Va (al, S', fin', rs') (fun r => r = true ↔ ValidA al (S', fin', rs')))
    (hCo : Sp Co (S, fin, rs) (fun a => a = (S, fin, rs.map some))) (hCo' : Sp Co (S', fin', rs') (fun a => a = (S', fin', rs'.map some))) :
    Sp (fun n => boolean_Union.P (Co n) (Va n) n) (al, S, fin, rs, S', fin', rs') (fun u => (¬ (ValidA al (S, fin, rs) ∧ ValidA al (S', fin', rs')) → u.2.2.2 = 1) ∧
      (ValidA al (S, fin, rs) → ValidA al (S', fin', rs') → u = (S + S', unF S fin fin', unR S rs rs', 0))) := by
  show Tt (fun n => boolean_Union.P (Co n) (Va n) n (al, S, fin, rs, S', fin', rs')) _
  unfold boolean_Union.P; dsimp only
  refine Tt.bind (R := fun x => ∃ c : Bool, (c = false ↔ (ValidA al (S, fin, rs) ∧ ValidA al (S', fin', rs'))) ∧ x = (S, fin, rs, S', fin', rs', (0 : Int), ([] : List Int), ([] : List Rule), c)) ?_ ?_
  · refine Tt.bind hVa fun c1 h1 => Tt.ite (fun h => Tt.pure ⟨true, ⟨fun h' => (by cases h'), fun h' => ?_⟩, rfl⟩) (fun hc1 => Tt.bind hVa' fun c2 h2 => Tt.pure ⟨!c2, ?_, rfl⟩)
    · rw [h1.2 h'.1] at h; cases h
    · constructor
      · intro h; exact ⟨h1.1 (by simpa using hc1), h2.1 (by simpa using h)⟩
      · rintro ⟨_, h⟩; rw [h2.2 h]; rfl
  rintro _ ⟨c, hc, rfl⟩
  dsimp only
  refine Tt.ite (fun hct => Tt.pure ⟨fun _ => rfl, fun x y => ?_⟩) (fun hcf => ?_)
  · have := hc.2 ⟨x, y⟩
    rw [this] at hct; cases hct
  obtain ⟨hv, hv'⟩ := hc.1 hcf
  have s1 := hS hv; have s2 := hS' hv'
  have s3 : 0 ≤ S := hv.2.1
  have s4 : 0 ≤ S' := hv'.2.1
  have hsm : Sm S := ⟨s3, by omega⟩
  have hsm' : Sm S' := ⟨s4, by omega⟩
  refine Tt.bind (R := fun x => x = (S, fin, rs, S', fin', rs', (0 : Int), ([] : List Int), ([] : List Rule), false)) ?_ ?_
  · rw [wrap_id (S + S') (by omega) (by omega), wrap_id (((rs.length : Nat) : Int) + ((rs'.length : Nat) : Int)) (by omega) (by omega)]
    refine Tt.no (decide_eq_false (by omega)) (Tt.pure ?_)
    rw [decide_eq_false (by omega)]
  rintro _ rfl
  dsimp only
  refine Tt.no rfl (Tt.bind hCo fun a1 h1 => Tt.bind hCo' fun a2 h2 => ?_)
  subst h1 h2
  dsimp only
  rw [wrap_id (S + S') (by omega) (by omega)]
  refine Tt.bind (R := fun x => x = (S, fin, rs, (0 : Int), ([] : List Int), ([] : List Rule), S + S', unF S fin fin', rs.map some, S', fin', rs'.map some))
    (Tt.loop (Lp.count fin'.length (fun i s => s = (S, fin, rs, (0 : Int), ([] : List Int), ([] : List Rule), S + S', unF S fin (fin'.take i), rs.map some, S', fin', rs'.map some, ((fin'.length : Nat) : Int), (i : Int))) ?_ ?_ (by simp [unF]))) ?_
  · rintro i s hi rfl
    unfold boolean_Union.L1; dsimp only
    refine Bd.yes (dec_true (by omega)) (Bd.chk (rng (by omega) (by omega)) ?_)
    rw [Int.toNat_natCast]
    refine Bd.at hi fun e hem he => ?_
    rw [wrap_sum hsm hsm' (hv'.final hem)]
    refine Bd.chk (lenOk (by simp [unF]; omega)) (Bd.again ?_)
    rw [wrap_next (by omega), unF_take hi]
    rw [List.getElem?_eq_getElem hi] at he
    rw [Option.some.inj he]
  · rintro s rfl
    unfold boolean_Union.L1; dsimp only
    exact Bd.no (decide_eq_false (by omega)) (Bd.done (by rw [List.take_length]))
  rintro _ rfl
  dsimp only
  refine Tt.bind (R := fun x => x = ((0 : Int), ([] : List Int), ([] : List Rule), S + S', unF S fin fin', (unR S rs rs').map some))
    (Tt.loop (Lp.count rs'.length (fun i s => ∃ rows : List (Option Rule), rows.length = rs'.length ∧ (∀ k, i ≤ k → rows[k]? = rs'[k]?.map some) ∧ s = (S, fin, rs, (0 : Int), ([] : List Int), ([] : List Rule), S + S', unF S fin fin', (unR S rs (rs'.take i)).map some, S', fin', rows, ((rs'.length : Nat) : Int), (i : Int))) ?_ ?_ ⟨rs'.map some, by simp, fun k _ => by rw [List.getElem?_map], by simp [unR]⟩)) ?_
  · rintro i s hi ⟨rows, hl, hrw, rfl⟩
    unfold boolean_Union.L3; dsimp only
    have hri : rs'[i]? = some rs'[i] := List.getElem?_eq_getElem hi
    have hro := hv'.rule (List.getElem_mem hi : rs'[i] ∈ rs')
    have hrow : rowAt? rows i = some rs'[i] := by
      unfold rowAt?
      rw [hrw i (Nat.le_refl _), hri]; rfl
    refine Bd.yes (dec_true (by omega)) (Bd.chk (rng (by omega) (by omega)) ?_)
    rw [Int.toNat_natCast, hrow]
    refine Bd.bindPure (Bd.bindPure ?_)
    have hf3 : rs'[i].2.1.length ≤ 3 := hv'.from3 _ (List.getElem_mem hi)
    refine Bd.bind (R := fun x => x = (S, fin, rs, (0 : Int), ([] : List Int), ([] : List Rule), S + S', unF S fin fin', (unR S rs (rs'.take i)).map some, S', fin', rows.set i none, rs'[i].1, rs'[i].2.1.map (· + S), rs'[i].2.2, ((rs'.length : Nat) : Int), (i : Int)))
      (Tt.loop (Lp.count rs'[i].2.1.length (fun j s => s = (S, fin, rs, (0 : Int), ([] : List Int), ([] : List Rule), S + S', unF S fin fin', (unR S rs (rs'.take i)).map some, S', fin', rows.set i none, rs'[i].1, (rs'[i].2.1.take j).map (· + S) ++ rs'[i].2.1.drop j, rs'[i].2.2, ((rs'.length : Nat) : Int), (i : Int), ((rs'[i].2.1.length : Nat) : Int), (j : Int))) ?_ ?_ (by simp))) ?_
    · rintro j s hj rfl
      unfold boolean_Union.L2; dsimp only
      have hlen : ((rs'[i].2.1.take j).map (· + S) ++ rs'[i].2.1.drop j).length = rs'[i].2.1.length := by simp; omega
      refine Bd.yes (dec_true (by omega)) (Bd.chk (rng (by omega) (by omega)) ?_)
      rw [Int.toNat_natCast]
      have hx : ((rs'[i].2.1.take j).map (· + S) ++ rs'[i].2.1.drop j)[j]? = some rs'[i].2.1[j] := by
        rw [List.getElem?_append_right (by simp; omega)]
        have : j - ((rs'[i].2.1.take j).map (· + S)).length = 0 := by simp; omega
        rw [this, List.drop_eq_getElem_cons hj]; rfl
      refine Bd.at (by omega) fun e _ he => Bd.chk (rng (by omega) (by omega)) (Bd.at (by omega) fun e2 _ he2 => Bd.again ?_)
      rw [hx] at he
      have he := Option.some.inj he
      subst he
      rw [wrap_next (by omega), wrap_sum hsm hsm' (hro.from (List.getElem?_eq_getElem hj)), take_set_map (f := (· + S)) hj]
    · rintro s rfl
      unfold boolean_Union.L2; dsimp only
      exact Bd.no (decide_eq_false (by omega)) (Bd.done (by simp))
    · rintro _ rfl
      dsimp only
      rw [wrap_sum hsm hsm' hro.2.2.2.1]
      refine Bd.chk (lenOk (by simp [unR]; omega)) (Bd.again ⟨rows.set i none, by simpa using hl, fun k hk => ?_, ?_⟩)
      · rw [List.getElem?_set_ne (by omega)]; exact hrw k (by omega)
      · rw [wrap_next (by omega), unR_take hi, List.map_append]
        rfl
  · rintro s ⟨rows, hl, hrw, rfl⟩
    unfold boolean_Union.L3; dsimp only
    exact Bd.no (decide_eq_false (by omega)) (Bd.done (by rw [List.take_length]))
  rintro _ rfl
  dsimp only
  rw [rowsAll_map]
  exact Tt.pure ⟨fun h => absurd ⟨hv, hv'⟩ h, fun _ _ => rfl⟩
theorem tt_shift (S S' : Int) (rs' : List Rule) (hsm : Sm S) (hsm' : Sm S') (hl : rs'.length ≤ 1000) (hr : ∀ r ∈ rs', StOk S' r.2.2 ∧ (∀ q ∈ r.2.1, StOk S' q) ∧ r.2.1.length ≤ 1000) : Sp ref05_shift.P (rs', S) (fun r => r = rs'.map (shR S)) := by
  show Tt (fun n => ref05_shift.P n (rs', S)) _
  unfold ref05_shift.P; dsimp only
  refine Tt.bind (R := fun x => x = rs'.map (shR S)) (Tt.loop (Lp.count rs'.length (fun i s => s = (S, (rs'.take i).map (shR S), rs', ((rs'.length : Nat) : Int), (i : Int))) ?_ ?_ rfl)) fun r hr => Tt.pure hr
  · rintro i s hi rfl
    unfold ref05_shift.L2; dsimp only
    obtain ⟨h1, h2, h3⟩ := hr _ (List.getElem_mem hi)
    refine Bd.yes (dec_true (by omega)) (Bd.nth hi ?_)
    refine Bd.bind (R := fun x => x = (S, (rs'.take i).map (shR S), rs'[i].1, rs'[i].2.1, rs'[i].2.2, rs'[i].2.1.map (· + S), rs', ((rs'.length : Nat) : Int), (i : Int)))
      (Tt.loop (Lp.count rs'[i].2.1.length (fun j s => s = (S, (rs'.take i).map (shR S), rs'[i].1, rs'[i].2.1, rs'[i].2.2, (rs'[i].2.1.take j).map (· + S), rs', ((rs'.length : Nat) : Int), (i : Int), rs'[i].2.1, ((rs'[i].2.1.length : Nat) : Int), (j : Int))) ?_ ?_ rfl)) ?_
    · rintro j s hj rfl
      unfold ref05_shift.L1; dsimp only
      refine Bd.yes (dec_true (by omega)) (Bd.nth hj (Bd.chk (lenOk (by simp; omega)) (Bd.again ?_)))
      rw [wrap_next (by omega), wrap_sum hsm hsm' (h2 _ (List.getElem_mem hj)), List.take_add_one, List.getElem?_eq_getElem hj, Option.toList_some, List.map_append]; rfl
    · rintro s rfl
      unfold ref05_shift.L1; dsimp only
      exact Bd.no (decide_eq_false (by omega)) (Bd.done (by rw [List.take_length]))
    · rintro _ rfl
      dsimp only
      refine Bd.chk (lenOk (by simp; omega)) (Bd.again ?_)
      rw [wrap_next (by omega), wrap_sum hsm hsm' h1, List.take_add_one, List.getElem?_eq_getElem hi, Option.toList_some, List.map_append]; rfl
  · rintro s rfl
    unfold ref05_shift.L2; dsimp only
    exact Bd.no (decide_eq_false (by omega)) (Bd.done (by rw [List.take_length]))
theorem tt_ref05_Union {Sh : Nat → List Rule × Int → Option (List Rule)} (S S' : Int) (fin fin' : List Int) (rs rs' : List Rule) (hsm : Sm S) (hsm' : Sm S') (hfl : fin.length ≤ 100) (hfl' : fin'.length ≤ 100) (hrl : rs.length ≤ 1000) (hrl' : rs'.length ≤ 1000)
    (hf : ∀ q ∈ fin', StOk S' q) (hSh : Sp Sh (rs', S) (fun r => r = rs'.map (shR S))) : Sp (fun n => ref05_Union.P (Sh n) n) (S, fin, rs, S', fin', rs') (fun u => u = (S + S', unF S fin fin', unR S rs rs')) := by
  show Tt (fun n => ref05_Union.P (Sh n) n (S, fin, rs, S', fin', rs')) _
  unfold ref05_Union.P; dsimp only
  have h1 := hsm.1; have h2 := hsm.2; have h3 := hsm'.1; have h4 := hsm'.2
  refine Tt.chk (lenOk (by simp; omega)) (Tt.chk (lenOk (by simp; omega)) ?_)
  rw [wrap_id (S + S') (by omega) (by omega)]
  refine Tt.bind (R := fun x => x = (S, fin, rs, S', fin', rs', (0 : Int), ([] : List Int), ([] : List Rule), S + S', unF S fin fin', rs))
    (Tt.loop (Lp.count fin'.length (fun i s => s = (S, fin, rs, S', fin', rs', (0 : Int), ([] : List Int), ([] : List Rule), S + S', unF S fin (fin'.take i), rs, fin', ((fin'.length : Nat) : Int), (i : Int))) ?_ ?_ (by simp [unF]))) ?_
  · rintro i s hi rfl
    unfold ref05_Union.L1; dsimp only
    refine Bd.yes (dec_true (by omega)) (Bd.nth hi (Bd.chk (lenOk (by simp [unF]; omega)) (Bd.again ?_)))
    rw [wrap_next (by omega), wrap_sum hsm hsm' (hf _ (List.getElem_mem hi)), unF_take hi]
  · rintro s rfl
    unfold ref05_Union.L1; dsimp only
    exact Bd.no (decide_eq_false (by omega)) (Bd.done (by rw [List.take_length]))
  rintro _ rfl
  dsimp only
  refine Tt.bind hSh fun r hr => ?_
  subst hr
  exact Tt.chk (lenOk (by simp; omega)) (Tt.pure rfl)
/-! what Union's answer accepts -/
theorem reach_ok {al : List Int} {a : Aut} (h : ValidA al a) {t : RT Int} {q : Int} (hq : Reach a.2.2 t q) : StOk a.1 q := by
  obtain ⟨x, ks⟩ := t
  obtain ⟨r, hr, _, rfl, _⟩ := reach_iff.1 hq
  exact (h.rule hr).2.2.2.1
theorem un_reach {al : List Int} {S S' : Int} {fin fin' : List Int} {rs rs' : List Rule} (hv : ValidA al (S, fin, rs)) (hv' : ValidA al (S', fin', rs')) (t : RT Int) : ∀ q, Reach (unR S rs rs') t q ↔ Reach rs t q ∨ ∃ q', q = q' + S ∧ Reach rs' t q' := by
  induction t using rt_ind with
  | h a ks ih =>
  intro q
  constructor
  · intro h
    obtain ⟨r, hr, hra, hrq, hrl, hk⟩ := reach_iff.1 h
    rcases List.mem_append.1 hr with h | h
    · refine .inl (reach_iff.2 ⟨r, h, hra, hrq, hrl, fun i k f hk1 hf => ?_⟩)
      rcases (ih k (List.mem_of_getElem? hk1) f).1 (hk i k f hk1 hf) with h2 | ⟨q', rfl, h2⟩
      · exact h2
      · have a1 := (reach_ok hv' h2).1
        have a2 := ((hv.rule h).from hf).2
        simp only at a1 a2; omega
    · obtain ⟨r0, h0, rfl⟩ := List.mem_map.1 h
      refine .inr ⟨r0.2.2, hrq.symm, reach_iff.2 ⟨r0, h0, hra, rfl, by simpa [shR] using hrl, fun i k f hk1 hf => ?_⟩⟩
      have hf' : (shR S r0).2.1[i]? = some (f + S) := by simp [shR, hf]
      rcases (ih k (List.mem_of_getElem? hk1) _).1 (hk i k _ hk1 hf') with h2 | ⟨q', e, h2⟩
      · have a1 := (reach_ok hv h2).2
        have a2 := ((hv'.rule h0).from hf).1
        simp only at a1 a2; omega
      · have : q' = f := by omega
        subst this; exact h2
  · rintro (h | ⟨q', rfl, h⟩)
    · obtain ⟨r, hr, hra, hrq, hrl, hk⟩ := reach_iff.1 h
      exact reach_iff.2 ⟨r, List.mem_append_left _ hr, hra, hrq, hrl, fun i k f hk1 hf => (ih k (List.mem_of_getElem? hk1) f).2 (.inl (hk i k f hk1 hf))⟩
    · obtain ⟨r, hr, hra, hrq, hrl, hk⟩ := reach_iff.1 h
      refine reach_iff.2 ⟨shR S r, List.mem_append_right _ (List.mem_map.2 ⟨r, hr, rfl⟩), hra, by simp [shR, hrq], by simpa [shR] using hrl, fun i k f hk1 hf => ?_⟩
      simp only [shR, List.getElem?_map] at hf
      obtain ⟨f0, hf0, rfl⟩ := Option.map_eq_some_iff.1 hf
      exact (ih k (List.mem_of_getElem? hk1) _).2 (.inr ⟨f0, rfl, hk i k f0 hk1 hf0⟩)
theorem un_acc {al : List Int} {S S' : Int} {fin fin' : List Int} {rs rs' : List Rule} (hv : ValidA al (S, fin, rs)) (hv' : ValidA al (S', fin', rs')) (t : RT Int) : Acc (unR S rs rs') (unF S fin fin') t ↔ Acc rs fin t ∨ Acc rs' fin' t := by
  constructor
  · rintro ⟨q, hq, hf⟩
    rcases (un_reach hv hv' t q).1 hq with h | ⟨q', rfl, h⟩
    · rcases List.mem_append.1 hf with h2 | h2
      · exact .inl ⟨q, h, h2⟩
      · obtain ⟨q', h3, rfl⟩ := List.mem_map.1 h2
        have a1 := (reach_ok hv h).2
        have a2 := (hv'.final h3).1
        simp only at a1 a2; omega
    · rcases List.mem_append.1 hf with h2 | h2
      · have a1 := (reach_ok hv' h).1
        have a2 := (hv.final h2).2
        simp only at a1 a2; omega
      · obtain ⟨q'', h3, e⟩ := List.mem_map.1 h2
        have : q'' = q' := by omega
        subst this
        exact .inr ⟨q'', h, h3⟩
  · rintro (⟨q, hq, hf⟩ | ⟨q, hq, hf⟩)
    · exact ⟨q, (un_reach hv hv' t q).2 (.inl hq), List.mem_append_left _ hf⟩
    · exact ⟨q + S, (un_reach hv hv' t _).2 (.inr ⟨q, rfl, hq⟩), List.mem_append_right _ (List.mem_map.2 ⟨q, hf, rfl⟩)⟩
theorem un_valid {al : List Int} {S S' : Int} {fin fin' : List Int} {rs rs' : List Rule} (hv : ValidA al (S, fin, rs)) (hv' : ValidA al (S', fin', rs')) (hS : S ≤ 6) (hS' : S' ≤ 6) (hrl : rs.length ≤ 1000) (hrl' : rs'.length ≤ 1000) : ValidA al (S + S', unF S fin fin', unR S rs rs') := by
  have h0 : 0 ≤ S := hv.2.1
  have h0' : 0 ≤ S' := hv'.2.1
  have up : ∀ f, StOk S f → StOk (S + S') f := fun f h => ⟨h.1, by have := h.2; omega⟩
  have sh : ∀ f, StOk S' f → StOk (S + S') (f + S) := fun f h => ⟨by have := h.1; omega, by have := h.2; omega⟩
  refine ⟨hv.1, by simp only; omega, by simp only; omega, by simp [unR]; omega, fun i hi h => ?_, fun i hi h => ?_⟩
  · show StOk (S + S') (unF S fin fin')[i] ∧ (0 < i → (unF S fin fin')[i - 1] < (unF S fin fin')[i])
    have hg : ∀ j (hj : j < (unF S fin fin').length), (∀ h1 : j < fin.length, (unF S fin fin')[j] = fin[j]) ∧ (∀ (h1 : fin.length ≤ j) (h2 : j - fin.length < fin'.length), (unF S fin fin')[j] = fin'[j - fin.length] + S) := by
      intro j hj
      constructor
      · intro h1; simp only [unF, List.getElem_append_left h1]
      · intro h1 h2
        simp only [unF, List.getElem_append_right h1, List.getElem_map]
    have hlen : (unF S fin fin').length = fin.length + fin'.length := by simp [unF]
    rcases Nat.lt_or_ge i fin.length with h1 | h1
    · have f1 := hv.2.2.2.2.1 i h1 h1
      rw [(hg i h).1 h1]
      refine ⟨up _ f1.1, fun hp => ?_⟩
      rw [(hg (i - 1) (by omega)).1 (by omega)]
      exact f1.2 hp
    · have h2 : i - fin.length < fin'.length := by simp only at h; omega
      have f1 := hv'.2.2.2.2.1 (i - fin.length) h2 h2
      rw [(hg i h).2 h1 h2]
      refine ⟨sh _ f1.1, fun hp => ?_⟩
      rcases Nat.lt_or_ge (i - 1) fin.length with h3 | h3
      · rw [(hg (i - 1) (by omega)).1 h3]
        have a1 := (hv.2.2.2.2.1 (i - 1) h3 h3).1.2
        have a2 := f1.1.1
        simp only at a1 a2; omega
      · have h4 : i - 1 - fin.length < fin'.length := by omega
        rw [(hg (i - 1) (by omega)).2 h3 h4]
        have a1 := f1.2 (by omega)
        have e : i - fin.length - 1 = i - 1 - fin.length := by omega
        simp only [e] at a1
        omega
  · have hm : (unR S rs rs')[i] ∈ unR S rs rs' := List.getElem_mem h
    show RuleOk al (S + S') (unR S rs rs')[i]
    rcases List.mem_append.1 hm with h1 | h1
    · have ho := hv.rule h1
      exact ⟨ho.1, ho.2.1, ho.2.2.1, up _ ho.2.2.2.1, fun i hi h => up _ (ho.2.2.2.2 i hi h)⟩
    · obtain ⟨r0, h2, e⟩ := List.mem_map.1 h1
      have ho := hv'.rule h2
      rw [← e]
      refine ⟨ho.1, ho.2.1, fun h => by simp only [shR, List.length_map]; exact ho.2.2.1 h, sh _ ho.2.2.2.1, fun i hi h => ?_⟩
      simp only [shR, List.length_map] at hi
      simp only [shR, List.getElem_map]
      exact sh _ (ho.2.2.2.2 i hi hi)
/-! the law BooleanUnion -/
theorem two_iff {P : Aut → Prop} {a b : Aut} : (∀ c ∈ [a, b], P c) ↔ P a ∧ P b := by simp
theorem sp_BooleanUnion {Un : Nat → List Int × Int × List Int × List Rule × Int × List Int × List Rule → Option (Int × List Int × List Rule × Int)} {Aw : Nat → Unit → Option Bool} {Fw : Nat → List Int × Int × List (RT Int) × List Aut → Option Bool}
    {Ri : Nat → List Int × Int × List Int × List Rule × Int × List (RT Int) × Bool → Option Bool} {Va : Nat → List Int × List Aut → Option Bool} {Tv : Nat → List Int × Int × List (RT Int) → Option Bool}
    {Ha : Nat → Int × List Int × List Rule × Int × List (RT Int) → Option Bool} {Ak : Nat → List Int × Int × List Int × List Rule × Int × List Int × List Rule → Option Bool} {Ru5 : Nat → Int × List Int × List Rule × Int × List Int × List Rule → Option Aut}
    (al : List Int) (S S' : Int) (fin fin' : List Int) (rs rs' : List Rule) (t : RT Int)
    (hA : Sp Aw () (fun r => r = true)) (hW : Sp Fw (al, t.a, t.kids, [(S, fin, rs), (S', fin', rs')]) (fun r => r = true → ∀ c ∈ [((S, fin, rs) : Aut), (S', fin', rs')], FewOk al c))
    (hU : FewOk al (S, fin, rs) → FewOk al (S', fin', rs') → Sp Un (al, S, fin, rs, S', fin', rs') (fun u => (¬ (ValidA al (S, fin, rs) ∧ ValidA al (S', fin', rs')) → u.2.2.2 = 1) ∧
      (ValidA al (S, fin, rs) → ValidA al (S', fin', rs') → u = (S + S', unF S fin fin', unR S rs rs', 0))))
    (hV1 : ∀ c : Aut, Mid c → Sp Va (al, [c]) (fun r => r = true ↔ ∀ c' ∈ [c], ValidA al c')) (hV2 : ∀ c d : Aut, Mid c → Mid d → Sp Va (al, [c, d]) (fun r => r = true ↔ ∀ c' ∈ [c, d], ValidA al c'))
    (hT : Sp Tv (al, t.a, t.kids) (fun r => r = true → Shp al t)) (hHa : ∀ c : Aut, Mid c → ValidA al c → Shp al t → Sp Ha (c.1, c.2.1, c.2.2, t.a, t.kids) (fun r => r = true ↔ Acc c.2.2 c.2.1 t))
    (hR : ∀ (c : Aut) (w : Bool), Mid c → ValidA al c → Shp al t → (w = true ↔ Acc c.2.2 c.2.1 t) → Sp Ri (al, c.1, c.2.1, c.2.2, t.a, t.kids, w) (fun r => r = true))
    (hRu : FewOk al (S, fin, rs) → FewOk al (S', fin', rs') → ValidA al (S, fin, rs) → ValidA al (S', fin', rs') → Sp Ru5 (S, fin, rs, S', fin', rs') (fun u => u = (S + S', unF S fin fin', unR S rs rs')))
    (hAk : ∀ c : Aut, Mid c → ValidA al c → Sp Ak (al, c.1, c.2.1, c.2.2, c.1, c.2.1, c.2.2) (fun r => r = true)) :
    Sp (fun n => law05_BooleanUnion.P (Un n) (Aw n) (Fw n) (Ri n) (Va n) (Tv n) (Ha n) (Ak n) (Ru5 n) n) (al, S, fin, rs, S', fin', rs', t.a, t.kids) (fun r => r = true) := by
  show Tt (fun n => law05_BooleanUnion.P (Un n) (Aw n) (Fw n) (Ri n) (Va n) (Tv n) (Ha n) (Ak n) (Ru5 n) n (al, S, fin, rs, S', fin', rs', t.a, t.kids)) _
  unfold law05_BooleanUnion.P; dsimp only
  refine Tt.bind hW fun w hw => Tt.ite (fun _ => Tt.bind hA fun r hr => Tt.pure hr) (fun hwt => ?_)
  obtain ⟨hf, hf'⟩ := two_iff.1 (hw (by simpa using hwt))
  refine Tt.bind (hU hf hf') fun u hu => Tt.bind (hV2 _ _ hf.mid hf'.mid) fun v hv => Tt.ite (fun h => ?_) (fun h => ?_)
  · refine Tt.bind (R := fun r => r = true) (Tt.yes (dec_true (hu.1 fun h' => ?_)) (Tt.bind hA fun r hr => Tt.pure hr)) fun r hr => Tt.pure hr
    rw [hv.2 (two_iff.2 h')] at h; cases h
  obtain ⟨hva, hva'⟩ := two_iff.1 (hv.1 (by simpa using h))
  have hue := hu.2 hva hva'
  subst hue
  dsimp only
  have q1 : fin.length ≤ 30 := hf.2.1
  have q2 : rs.length ≤ 30 := hf.2.2.1
  have q3 : fin'.length ≤ 30 := hf'.2.1
  have q4 : rs'.length ≤ 30 := hf'.2.2.1
  have q5 : S ≤ 6 := by
    have a := hf.2.2.2.1; have b := hva.2.2.1
    simp only at a b; omega
  have q6 : S' ≤ 6 := by
    have a := hf'.2.2.2.1; have b := hva'.2.2.1
    simp only at a b; omega
  have hvu := un_valid hva hva' q5 q6 (by omega) (by omega)
  have hmid : Mid (S + S', unF S fin fin', unR S rs rs') := ⟨by simp [unF]; omega, by simp [unR]; omega, fun r hr => by have := hvu.from3 r hr; omega⟩
  refine Tt.bind (R := fun x => x = (al, S, fin, rs, S', fin', rs', t.a, t.kids, S + S', unF S fin fin', unR S rs rs', false)) ?_ ?_
  · refine Tt.no (by simp) (Tt.bind (hV1 _ hmid) fun b hb => ?_)
    have : b = true := hb.2 (one_iff.2 hvu)
    subst this
    exact Tt.pure rfl
  rintro _ rfl
  dsimp only
  refine Tt.no rfl (Tt.bind (R := fun x => x = (al, S, fin, rs, S', fin', rs', S + S', unF S fin fin', unR S rs rs', false)) ?_ ?_)
  · refine Tt.bind hT fun w hw => Tt.ite (fun h => ?_) (fun _ => Tt.pure rfl)
    have hsh := hw h
    have hacc := un_acc hva hva' t
    refine Tt.bind (hHa (S, fin, rs) hf.mid hva hsh) fun b hb => Tt.ite (fun hbt => ?_) (fun hbf => ?_)
    · refine Tt.bind (hR _ true hmid hvu hsh ⟨fun _ => hacc.2 (.inl (hb.1 hbt)), fun _ => rfl⟩) fun ri hri => ?_
      subst hri
      exact Tt.pure rfl
    · refine Tt.bind (hHa (S', fin', rs') hf'.mid hva' hsh) fun c hc => Tt.bind (hR _ c hmid hvu hsh ⟨fun h => hacc.2 (.inr (hc.1 h)), fun h => ?_⟩) fun ri hri => ?_
      · rcases hacc.1 h with h2 | h2
        · rw [hb.2 h2] at hbf; cases hbf
        · exact hc.2 h2
      · subst hri
        exact Tt.pure rfl
  rintro _ rfl
  dsimp only
  refine Tt.no rfl (Tt.bind (R := fun r => r = true) (Tt.bind (hRu hf hf' hva hva') fun ul hul => ?_) fun r hr => Tt.pure hr)
  subst hul
  refine Tt.bind (hAk _ hmid hvu) fun ak hak => ?_
  subst hak
  exact Tt.yes rfl (Tt.bind hA fun r hr => Tt.pure hr)
end Go.Bk
end
noncomputable section
namespace Go.Proofs.YtgkobbodicfofaaDoor.Am
open Go Go.AM Go.RowKit Go.ChangeShapes
set_option maxRecDepth 100000
set_option linter.unusedVariables false
/-! BooleanUnion -/
theorem union_contract (plain : ∀ x : g4.In, wtA _ x ≤ 1048576 → fitA _ x → ∃ n, prg.run n 4 x = some true) (H : Type) (enc : TypeId × Value → H) (W : World) (base : Nat) (args : Array Value) (ds gs : List (DataW H)) (before : List MemPlace)
    (hval : ∀ (j : Nat) t v, Tryd.f4.params[j]? = some t → args[j]? = some v → Value.okWide Tryd.prog W .any base t v)
    (hW : DataW.Whole enc Tryd.prog Tryd.f4.params.toList Rows.booleanUnionSpec.vars false W args.toList ds gs before) (hk : Rows.uptoSmall H (ds ++ gs) = true) (hL : laidMetH Tryd.prog Rows.booleanUnionUptoRow.laid W) :
    Calls Tryd.prog 4 args W fun e W' => ∃ v, e = .returned v ∧ Rows.booleanUnionSpec.post enc Tryd.prog Tryd.f4 false true false false W args v W' := by
  obtain ⟨p, q, hA, hV, hbe, hfz, hnd⟩ := id hW
  obtain ⟨hgs, _⟩ := trodVars_none hV
  subst hgs
  have hsmall : sumW Rows.uptoBulk ds ≤ 1048576 := by
    rw [bulkAll]
    have := of_decide_eq_true hk
    rwa [List.append_nil] at this
  obtain ⟨x, hE, hw, hf⟩ := args_ok (ty := prg.ty) tyOk rdOk bulkOk (base := base) (sig := g4) (by kernel_rfl) (fun k t v ht hv => hval k t v (by rw [← Array.getElem?_toList]; exact ht) (by rw [← Array.getElem?_toList]; exact hv)) hA
  obtain ⟨n, hn⟩ := plain x (Nat.le_trans hw hsmall) hf
  have hC := law_calls (good n 4) (x := x) (r := true) rfl rfl hn rfl hE (globOk hL)
  refine law_contract laidOut rfl Tryd.underlying4 ?_ rfl hW (fun _ => ?_) hC
  · intro t ht
    have : t = 24 ∨ t = 27 ∨ t = 30 := by
      have h := (show Tryd.f4.params.toList = [24, 27, 27, 30] from rfl) ▸ ht
      simpa using h
    rcases this with rfl | rfl | rfl <;> exact ⟨by kernel_rfl, of_decide_eq_true (by kernel_rfl)⟩
  · have hl : ds.length = 4 := by
      have h2 : Tryd.f4.params.toList.length = 4 := rfl
      have h3 : ∀ {ts : List TypeId} {vs : List Value} {ds : List (DataW H)} {ps : List MemPlace}, DataW.TrodAll enc Tryd.prog W 0 (fun _ => true) true ts vs ds ps → ds.length = ts.length := by
        intro ts
        induction ts with
        | nil => intro vs ds ps h; cases vs <;> cases ds <;> simp_all [DataW.TrodAll]
        | cons t ts ih =>
          intro vs ds ps h
          cases vs with
          | nil => simp [DataW.TrodAll] at h
          | cons v vs =>
            cases ds with
            | nil => simp [DataW.TrodAll] at h
            | cons d ds =>
              obtain ⟨_, _, _, h2, _⟩ := h
              simp [ih h2]
      rw [h3 hA, h2]
    match ds, hl with
    | [d1, d2, d3, d4], _ => rfl
theorem union_reads (os : Os) {H : Type} (enc : TypeId × Value → H) : ∃ ps, DataW.whole enc Tryd.prog ((laidWorld os).forCall (fun _ _ => 0) ⟨#[], #[.agg #[.slice none 0 0], .agg #[.int .i64 0, .slice none 0 0, .slice none 0 0], .agg #[.int .i64 0, .slice none 0 0, .slice none 0 0], .agg #[.int .i64 0, .slice none 0 0]], []⟩).memory Tryd.f4.params.toList Rows.booleanUnionSpec.vars false #[Value.agg #[.slice none 0 0], .agg #[.int .i64 0, .slice none 0 0, .slice none 0 0], .agg #[.int .i64 0, .slice none 0 0, .slice none 0 0], .agg #[.int .i64 0, .slice none 0 0]].toList 8 =
    some ([.agg [.nil], .agg [.lit (.int .i64 0), .nil, .nil], .agg [.lit (.int .i64 0), .nil, .nil], .agg [.lit (.int .i64 0), .nil]], [], ps) := ⟨[], by kernel_rfl⟩
theorem union_lifted (plain : ∀ x : g4.In, wtA _ x ≤ 1048576 → fitA _ x → ∃ n, prg.run n 4 x = some true) (os : Os) (started : os.Started) (H : Type) (enc : TypeId × Value → H) (F : Stop.Interp) :
    ReturnsInHanded {} Tryd.checked os 4 .any ((Rows.OpenSpec.upto Rows.booleanUnionSpec).preRow enc Tryd.prog Tryd.f4 Rows.booleanUnionUptoRow.domain false Rows.booleanUnionUptoRow.laid) (((Rows.OpenSpec.upto Rows.booleanUnionSpec).at F).post enc Tryd.prog Tryd.f4 false true false false) := by
  obtain ⟨ps, hx⟩ := union_reads os enc
  refine returnsInHanded_of_row (C := Tryd.checked) (s := Rows.OpenSpec.upto Rows.booleanUnionSpec) own started (by kernel_rfl) Tryd.func4
    (witness_row_atRef (enc := enc) (C := Tryd.checked) false (laidWorld os) #[.agg #[.slice none 0 0], .agg #[.int .i64 0, .slice none 0 0, .slice none 0 0], .agg #[.int .i64 0, .slice none 0 0, .slice none 0 0], .agg #[.int .i64 0, .slice none 0 0]] rfl (by kernel_rfl) (by kernel_rfl) (by kernel_rfl)
      (OpenSpec.preRow_of_cond 8 hx (by kernel_rfl) (fun k hk => by cases hk; kernel_rfl) (by kernel_rfl) (laid_met os _))) ?_
  intro W base args ds gs before hval hW _ hcond _ hL _ _
  exact union_contract plain H enc W base args ds gs before hval hW (hcond _ rfl) hL
theorem union_said (plain : ∀ x : g4.In, wtA _ x ≤ 1048576 → fitA _ x → ∃ n, prg.run n 4 x = some true) : Rows.BooleanUnionUptoSaid :=
  OpenClaim.holds_of_cond 4 Tryd.f4 rfl rfl rfl rfl rfl rfl rfl ⟨rfl, rfl, rfl, rfl, rfl⟩ rfl rfl rfl rfl rfl (by kernel_rfl) Tryd.func4 (by kernel_rfl)
    (of_decide_eq_true (by kernel_rfl)) (by unfold Func.isWrapper; first | (rw [if_pos (by decide +kernel)]; kernel_rfl) | (rw [if_neg (by decide +kernel)]; exact ⟨rfl, rfl⟩))
    (fun os started H enc _ F => by rw [OpenClaim.pre_eq_preRow]; exact union_lifted plain os started H enc F)
theorem union_plain (f : FuncId) (fn : Func) (hf : Tryd.pinned.checked.prog.funcNamed "boskage/boskagelaw05.BooleanUnion" = some f) (hfn : Tryd.pinned.checked.prog.funcs[f]? = some fn) :
    false = Tryd.pinned.checked.prog.looks [] ∧ ∀ (j : Nat) t, fn.params[j]? = some t → Tryd.pinned.checked.prog.wantsStandIn t = false := by
  obtain rfl : f = 4 := Option.some.inj ((show Tryd.prog.funcNamed "boskage/boskagelaw05.BooleanUnion" = some 4 by kernel_rfl).symm.trans hf) |>.symm
  obtain rfl : fn = Tryd.f4 := (Option.some.inj (Tryd.func4.symm.trans hfn)).symm
  refine ⟨by kernel_rfl, fun j t ht => ?_⟩
  rw [Tryd.params4] at ht
  have : t = 24 ∨ t = 27 ∨ t = 30 := by simpa using Array.mem_of_getElem? ht
  rcases this with rfl | rfl | rfl
  · exact (show Tryd.prog.wantsStandIn 24 = false by kernel_rfl)
  · exact (show Tryd.prog.wantsStandIn 27 = false by kernel_rfl)
  · exact (show Tryd.prog.wantsStandIn 30 = false by kernel_rfl)
theorem union_card (plain : ∀ x : g4.In, wtA _ x ≤ 1048576 → fitA _ x → ∃ n, prg.run n 4 x = some true) : Rows.BooleanUnionUptoCardSaid :=
  Claim7.holds_tied_plain_at .later [] _ _ _ _ (union_said plain) (fun _ h => by cases h) (by kernel_rfl) (fun _ h => by cases h) booleanUnionUpto_row_tie rfl ⟨rfl, rfl⟩ (by kernel_rfl) rfl union_plain (by kernel_rfl)

end Go.Proofs.YtgkobbodicfofaaDoor.Am
end
noncomputable section
namespace Go.Proofs.YtgkobbodicfofaaDoor.Am
open Go Go.AM Go.Bk
set_option maxRecDepth 100000
set_option linter.unusedVariables false
theorem k_BooleanUnion (al : List Int) (S S' : Int) (fin fin' : List Int) (rs rs' : List Rule) (t : RT Int) (ht : nds t ≤ 10000000) (hr : rs.length ≤ 10000000) (hr' : rs'.length ≤ 10000000) :
    Sp f_law05_BooleanUnion (al, S, fin, rs, S', fin', rs', t.a, t.kids) (fun r => r = true) := by
  have hm := maxRows_eq
  refine Sp.step s_law05_BooleanUnion (sp_BooleanUnion al S S' fin fin' rs rs' t k_awake (k_law05_few al t [(S, fin, rs), (S', fin', rs')] (by omega) (by simp; omega) (fun c hc => ?_)) ?_ (k_valid1 al) ?_
    (k_ref01_Valid al t (by omega)) (k_Has1 al t ht) (k_right1 al t ht) ?_ ?_)
  · rcases List.mem_cons.1 hc with rfl | hc
    · simp only; omega
    · rw [List.mem_singleton.mp hc]; simp only; omega
  · intro hf hf'
    have h1 : fin.length ≤ 30 := hf.2.1
    have h2 : rs.length ≤ 30 := hf.2.2.1
    have h3 : fin'.length ≤ 30 := hf'.2.1
    have h4 : rs'.length ≤ 30 := hf'.2.2.1
    have h5 : al.length ≤ 40 := hf.1
    have h6 : ∀ r ∈ rs, r.2.1.length ≤ 10 := hf.2.2.2.2
    have h7 : ∀ r ∈ rs', r.2.1.length ≤ 10 := hf'.2.2.2.2
    refine Sp.step s_boolean_Union (tt_Union al S S' fin fin' rs rs' (by omega) (by omega) (by omega) (by omega) (fun hv => ?_) (fun hv => ?_) (k_auto_Valid al S fin rs (by omega) (by omega) (by omega) fun r hr => by have := h6 r hr; omega)
      (k_auto_Valid al S' fin' rs' (by omega) (by omega) (by omega) fun r hr => by have := h7 r hr; omega) (Sp.step s_auto_Copy_own (tt_Copy_own S fin rs (by omega) (by omega) (fun r hr => by have := h6 r hr; omega) k_Clone))
      (Sp.step s_auto_Copy_own (tt_Copy_own S' fin' rs' (by omega) (by omega) (fun r hr => by have := h7 r hr; omega) k_Clone)))
    · have a := hf.2.2.2.1; have b := hv.2.2.1
      simp only at a b; omega
    · have a := hf'.2.2.2.1; have b := hv.2.2.1
      simp only at a b; omega
  · intro c d hc hd
    refine k_law05_valid al [c, d] (by simp; omega) fun b hb => ?_
    have hmid : Mid b := by
      rcases List.mem_cons.1 hb with rfl | hb
      · exact hc
      · rw [List.mem_singleton.mp hb]; exact hd
    exact ⟨by have := hmid.1; omega, by have := hmid.2.1; omega, fun r hr => by have := hmid.2.2 r hr; omega⟩
  · intro hf hf' hv hv'
    have w := wf_of hf.mid hv
    have w' := wf_of hf'.mid hv'
    have h1 : fin.length ≤ 30 := hf.2.1
    have h2 : rs.length ≤ 30 := hf.2.2.1
    have h3 : fin'.length ≤ 30 := hf'.2.1
    have h4 : rs'.length ≤ 30 := hf'.2.2.1
    exact Sp.step s_ref05_Union (tt_ref05_Union S S' fin fin' rs rs' ⟨w.1, w.2.1⟩ ⟨w'.1, w'.2.1⟩ (by omega) (by omega) (by omega) (by omega) w'.2.2.2.2.1 (Sp.step s_ref05_shift (tt_shift S S' rs' ⟨w.1, w.2.1⟩ ⟨w'.1, w'.2.1⟩ (by omega) w'.2.2.2.2.2)))
  · intro c hc hv
    exact k_Alike al c hv.1 (wf_of hc hv)
theorem union_law (x : g4.In) (h : wtA _ x ≤ 1048576) : ∃ n, prg.run n 4 x = some true := by
  obtain ⟨al, S, fin, rs, S', fin', rs', a, ks⟩ := x
  have h' : wt (.sl [.int .i64]) al + (1 + (wt (.sl [.int .i64]) fin + (wt (.sl [.int .i64, .sl [.int .i64], .int .i64]) rs + (1 + (wt (.sl [.int .i64]) fin' + (wt (.sl [.int .i64, .sl [.int .i64], .int .i64]) rs' + (1 + wt (.rsl [.int .i64]) ks))))))) ≤ 1048576 := h
  have h1 := (rules_wt rs).1
  have h1' := (rules_wt rs').1
  have h2 := kids_wt a ks
  obtain ⟨_, rfl, N, hN⟩ := k_BooleanUnion al S S' fin fin' rs rs' (.mk a ks) (by omega) (by omega) (by omega)
  exact ⟨N, hN N (Nat.le_refl _)⟩
theorem BooleanUnionHolds : Rows.BooleanUnionUptoCardSaid := union_card fun x h _ => union_law x h
end Go.Proofs.YtgkobbodicfofaaDoor.Am
namespace Go.Proofs.YtgkobbodicfofaaDoor
theorem union_holds : Rows.BooleanUnionUptoCardSaid := Am.BooleanUnionHolds
end Go.Proofs.YtgkobbodicfofaaDoor
end
