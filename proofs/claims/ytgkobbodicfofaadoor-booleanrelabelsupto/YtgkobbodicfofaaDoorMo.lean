import Derived.Test.YtgkobbodicfofaaDoorMj
noncomputable section
namespace Go.Bk
open Go Go.AM
set_option linter.unusedVariables false
theorem sp_List (x y : List Int) (hx : x.length ≤ maxRows) : Sp ref01_List.P (x, y) (fun r => r = true ↔ x = y) := by
 rw [maxRows_val] at hx
 show Tt (fun n => ref01_List.P n (x, y)) _
 unfold ref01_List.P; dsimp only
 refine Tt.ite (fun h => ?_) (fun h => ?_)
 ·have : x.length ≠ y.length := by intro e; simp [e] at h
  exact Tt.pure ⟨fun h => (by cases h), fun h => absurd (congrArg List.length h) this⟩
 ·have hl : x.length = y.length := by simp at h; omega
  refine Tt.bind (R := fun q => q = Sum.inl () ∧ x = y ∨ q = Sum.inr false ∧ x ≠ y) (Tt.loop (Lp.count x.length (fun i s => s = (x, y, ((x.length : Nat) : Int), (i : Int)) ∧ ∀ j, j < i → x[j]? = y[j]?) ?_ ?_ ⟨rfl, fun j h => absurd h (by omega)⟩)) ?_
  ·rintro i s hi ⟨rfl, hI⟩
   unfold ref01_List.L1; dsimp only
   refine Bd.yes (dec_true (by omega)) (Bd.nth hi (Bd.nth (by omega) (Bd.ite (fun h => ?_) (fun h => ?_))))
   ·refine Bd.done (.inr ⟨rfl, fun e => ?_⟩)
    subst e; simp at h
   ·refine Bd.again ⟨by rw [wrap_next (by omega)], fun j hj => ?_⟩
    rcases Nat.lt_or_ge j i with h2 | h2
    ·exact hI j h2
    ·obtain rfl : j = i := by omega
     rw [List.getElem?_eq_getElem hi, List.getElem?_eq_getElem (by omega)]
     simp at h; rw [h]
  ·rintro s ⟨rfl, hI⟩
   unfold ref01_List.L1; dsimp only
   refine Bd.no (decide_eq_false (by omega)) (Bd.done (.inl ⟨rfl, ?_⟩))
   apply List.ext_getElem?
   intro j
   rcases Nat.lt_or_ge j x.length with h2 | h2
   ·exact hI j h2
   ·rw [List.getElem?_eq_none h2, List.getElem?_eq_none (by omega)]
  ·rintro q (⟨rfl, h⟩ | ⟨rfl, h⟩)
   ·exact Tt.pure ⟨fun _ => h, fun _ => rfl⟩
   ·exact Tt.pure ⟨fun h' => (by cases h'), fun h' => absurd h' h⟩
theorem tt_key (r : Rule) (h : r.2.1.length ≤ 1000) : Sp ref03_key.P r (fun k => k.length ≤ 1002) := by
 show Tt (fun n => ref03_key.P n r) _
 unfold ref03_key.P
 refine Tt.chk (lenOk (by simp; omega)) (Tt.chk (lenOk ?_) (Tt.pure ?_))
 ·show List.length ([r.1] ++ r.2.1) + _ ≤ _
  simp; omega
 ·show List.length (([r.1] ++ r.2.1) ++ [r.2.2]) ≤ _
  simp; omega
theorem tt_Less (a b : List Int) (ha : a.length ≤ 1002) : Sp ref03_Less.P (a, b) (fun _ => True) := by
 show Tt (fun n => ref03_Less.P n (a, b)) _
 unfold ref03_Less.P; dsimp only
 have e : min ((a.length : Nat) : Int) ((b.length : Nat) : Int) = ((min a.length b.length : Nat) : Int) := by omega
 rw [e]
 refine Tt.bind (R := fun q => (∃ v, q = Sum.inr v) ∨ q = Sum.inl (a, b)) (Tt.loop (Lp.count (min a.length b.length) (fun i s => s = (a, b, ((min a.length b.length : Nat) : Int), (i : Int))) ?_ ?_ rfl)) ?_
 ·rintro i s hi rfl
  unfold ref03_Less.L1; dsimp only
  refine Bd.yes (dec_true (by omega)) (Bd.nth (by omega) (Bd.nth (by omega) (Bd.ite (fun _ => Bd.done (.inl ⟨_, rfl⟩)) (fun _ => Bd.nth (by omega) (Bd.nth (by omega) (Bd.ite (fun _ => Bd.done (.inl ⟨_, rfl⟩)) (fun _ => Bd.again ?_)))))))
  rw [wrap_next (by omega)]
 ·rintro s rfl
  unfold ref03_Less.L1; dsimp only
  exact Bd.no (decide_eq_false (by omega)) (Bd.done (.inr rfl))
 ·rintro q (⟨v, rfl⟩ | rfl)
  ·exact Tt.pure trivial
  ·exact Tt.ite (fun _ => Tt.pure trivial) (fun _ => Tt.ite (fun _ => Tt.pure trivial) (fun _ => Tt.pure trivial))
theorem mid_val {lo hi : Nat} (h : hi ≤ 1099511627776) (h2 : lo ≤ hi) : IntKind.wrap .i64 (Int.tdiv (IntKind.wrap .i64 ((lo : Int) + (hi : Int))) 2) = (((lo + hi) / 2 : Nat) : Int) := by
 rw [wrap_id ((lo : Int) + (hi : Int)) (by omega) (by omega)]
 have e : Int.tdiv ((lo : Int) + (hi : Int)) 2 = (((lo + hi) / 2 : Nat) : Int) := by
  have h1 : (lo : Int) + (hi : Int) = ((lo + hi : Nat) : Int) := by omega
  rw [h1, Int.tdiv_eq_ediv_of_nonneg (by omega)]; omega
 rw [e, wrap_id _ (by omega) (by omega)]
theorem insert_at {α : Type} (l : List α) (z r : α) (lo : Nat) (h : lo ≤ l.length) :
 List.set (List.append (List.append (List.take (lo + 1) (List.append l [z])) (List.take (Nat.min (List.length (List.drop lo (List.take (List.length (List.append l [z])) (List.append l [z])))) (List.length (List.append l [z]) - (lo + 1))) (List.drop lo (List.take (List.length (List.append l [z])) (List.append l [z])))))
  (List.drop ((lo + 1) + Nat.min (List.length (List.drop lo (List.take (List.length (List.append l [z])) (List.append l [z])))) (List.length (List.append l [z]) - (lo + 1))) (List.append l [z]))) lo r = l.take lo ++ r :: l.drop lo := by
 have ea : List.append l [z] = l ++ [z] := rfl
 rw [ea]
 have e1 : List.take (l ++ [z]).length (l ++ [z]) = l ++ [z] := List.take_length
 rw [e1]
 have e2 : Nat.min (List.drop lo (l ++ [z])).length ((l ++ [z]).length - (lo + 1)) = l.length - lo := by
  simp only [List.length_drop, List.length_append, List.length_singleton]
  show min _ _ = _
  omega
 rw [e2]
 have e3 : List.drop (lo + 1 + (l.length - lo)) (l ++ [z]) = [] := List.drop_eq_nil_of_le (by simp; omega)
 rw [e3]
 show List.set ((List.take (lo + 1) (l ++ [z]) ++ List.take (l.length - lo) (List.drop lo (l ++ [z]))) ++ []) lo r = _
 rw [List.append_nil]
 apply List.ext_getElem?
 intro i
 have hl1 : (List.take (lo + 1) (l ++ [z])).length = lo + 1 := by simp; omega
 have hl2 : (List.take lo l).length = lo := by simp; omega
 rw [List.getElem?_set]
 rcases Nat.lt_trichotomy i lo with hi | hi | hi
 ·rw [if_neg (by omega), List.getElem?_append_left (by omega), List.getElem?_append_left (by omega), List.getElem?_take, List.getElem?_take, if_pos (by omega), if_pos hi, List.getElem?_append_left (by omega)]
 ·subst hi
  rw [if_pos rfl, List.getElem?_append_right (by omega), hl2, Nat.sub_self]
  rw [if_pos (by simp; omega)]; rfl
 ·rw [if_neg (by omega), List.getElem?_append_right (by omega), hl1, List.getElem?_append_right (by omega), hl2, List.getElem?_take]
  obtain ⟨j, rfl⟩ : ∃ j, i = lo + 1 + j := ⟨i - (lo + 1), by omega⟩
  have e4 : lo + 1 + j - lo = j + 1 := by omega
  rw [e4, List.getElem?_cons_succ, List.getElem?_drop]
  have e5 : lo + 1 + j - (lo + 1) = j := by omega
  rw [e5]
  split
  ·rename_i hj
   rw [List.getElem?_drop, List.getElem?_append_left (by omega)]
  ·rename_i hj
   rw [List.getElem?_eq_none (by simp; omega)]
section
variable {K : Nat → Rule → Option (List Int)} {L : Nat → List Int × List Int → Option Int}
theorem tt_Sort (hK : ∀ r : Rule, r.2.1.length ≤ 1000 → Sp K r (fun k => k.length ≤ 1002)) (hL : ∀ a b : List Int, a.length ≤ 1002 → Sp L (a, b) (fun _ => True)) (x : List Rule) (hx : x.length ≤ 1000000000) (hr : ∀ r ∈ x, r.2.1.length ≤ 1000) :
 Sp (fun n => ref03_Sort.P (L n) (K n) n) x (fun r : List Rule => r.length ≤ x.length ∧ ∀ y ∈ r, y ∈ x) := by
 show Tt (fun n => ref03_Sort.P (L n) (K n) n x) _
 unfold ref03_Sort.P
 refine Tt.bind (R := fun r : List Rule => r.length ≤ x.length ∧ ∀ y ∈ r, y ∈ x) (Tt.loop (Lp.count x.length (fun i s => ∃ out : List Rule, out.length ≤ i ∧ (∀ y ∈ out, y ∈ x) ∧ s = (out, x, ((x.length : Nat) : Int), (i : Int))) ?_ ?_ ⟨[], by simp, by simp, rfl⟩)) fun r hr => Tt.pure hr
 ·rintro i s hi ⟨out, ho, hox, rfl⟩
  have hxi : x[i] ∈ x := List.getElem_mem hi
  have hor : ∀ y ∈ out, y.2.1.length ≤ 1000 := fun y hy => hr y (hox y hy)
  unfold ref03_Sort.L2; dsimp only
  refine Bd.yes (dec_true (by omega)) (Bd.nth hi ?_)
  refine Bd.bind (R := fun t => ∃ lo : Nat, lo ≤ out.length ∧ t = (out, x[i].1, x[i].2.1, x[i].2.2, (lo : Int), x, ((x.length : Nat) : Int), (i : Int))) (Tt.loop (Lp.measure (fun s => ∃ lo hi : Nat, lo ≤ hi ∧ hi ≤ out.length ∧ s = (out, x[i].1, x[i].2.1, x[i].2.2, (lo : Int), (hi : Int), x, ((x.length : Nat) : Int), (i : Int))) (fun s => (s.2.2.2.2.2.1 - s.2.2.2.2.1).toNat) ?_ ⟨0, out.length, by omega, by omega, rfl⟩)) ?_
  ·rintro s ⟨lo, hi', h1, h2, rfl⟩
   unfold ref03_Sort.L1; dsimp only
   refine Bd.ite (fun hlt => ?_) (fun _ => Bd.done ⟨lo, by omega, rfl⟩)
   have hlt := dec_of hlt
   have hm : (lo + hi') / 2 < hi' := by omega
   have hm2 : lo ≤ (lo + hi') / 2 := by omega
   rw [mid_val (by omega) h1]
   refine Bd.chk (by decide) (Bd.chk (rng (by omega) (by omega)) ?_)
   rw [Int.toNat_natCast]
   refine Bd.at (by omega) fun e he _ => ?_
   refine Bd.bind (hK e (hor e he)) fun r7 h7 => Bd.bind (hK (x[i].1, x[i].2.1, x[i].2.2) (hr _ hxi)) fun r8 h8 => Bd.bind (hL r7 r8 h7) fun r9 _ => ?_
   refine Bd.bindIte (fun _ => ?_) (fun _ => ?_)
   ·refine Bd.bindPure (Bd.again ⟨⟨(lo + hi') / 2 + 1, hi', by omega, h2, ?_⟩, ?_⟩)
    ·rw [wrap_next (by omega)]
    ·dsimp only
     rw [wrap_next (by omega)]; omega
   ·refine Bd.bindPure (Bd.again ⟨⟨lo, (lo + hi') / 2, by omega, by omega, rfl⟩, ?_⟩)
    dsimp only
    omega
  ·rintro t ⟨lo, hlo, rfl⟩
   dsimp only
   refine Bd.bind (R := fun t => ∃ b : Bool, t = (out, x[i].1, x[i].2.1, x[i].2.2, (lo : Int), x, ((x.length : Nat) : Int), (i : Int), b)) ?_ ?_
   ·refine Tt.ite (fun _ => Tt.pure ⟨_, rfl⟩) (fun h => Tt.chk (rng (by omega) (by have := dec_not h; omega)) ?_)
    have := dec_not h
    rw [Int.toNat_natCast]
    exact Tt.atB (by omega) fun e he _ => Tt.bind (hK e (hor e he)) fun r7 h7 => Tt.bind (hK (x[i].1, x[i].2.1, x[i].2.2) (hr _ hxi)) fun r8 h8 => Tt.bind (hL r7 r8 h7) fun r9 _ => Tt.pure ⟨_, rfl⟩
   ·rintro _ ⟨b, rfl⟩
    dsimp only
    refine Bd.bindIte (fun _ => ?_) (fun _ => ?_)
    ·have hal : (List.append out [((0 : Int), ([] : List Int), (0 : Int))]).length = out.length + 1 := by
      show (out ++ _).length = _
      simp
     have hlo1 : IntKind.wrap .i64 ((lo : Int) + 1) = ((lo + 1 : Nat) : Int) := wrap_next (by omega)
     rw [hlo1]
     refine Bd.bindChk (lenOk (by simp; omega)) (Bd.bindChk (by rw [hal]; simp; omega) (Bd.bindChk (by rw [hal]; simp; omega) ?_))
     simp only [Int.toNat_natCast]
     have hset := insert_at out ((0 : Int), ([] : List Int), (0 : Int)) (x[i].1, x[i].2.1, x[i].2.2) lo hlo
     have hlen := congrArg List.length hset
     rw [List.length_set] at hlen
     have hlen2 : (out.take lo ++ (x[i].1, x[i].2.1, x[i].2.2) :: out.drop lo).length = out.length + 1 := by simp; omega
     refine Bd.bindChk (rng (by omega) (by rw [hlen, hlen2]; omega)) (Bd.bindBind (Bd.at (by rw [hlen, hlen2]; omega) fun e _ _ => Bd.bindPure ?_))
     refine Bd.again ⟨out.take lo ++ (x[i].1, x[i].2.1, x[i].2.2) :: out.drop lo, by omega, fun y hy => ?_, ?_⟩
     ·rcases List.mem_append.1 hy with h | h
      ·exact hox y (List.mem_of_mem_take h)
      ·rcases List.mem_cons.1 h with rfl | h
       ·exact hxi
       ·exact hox y (List.mem_of_mem_drop h)
     ·dsimp only
      rw [hset, wrap_next (by omega)]
    ·refine Bd.bindPure (Bd.again ⟨out, by omega, hox, ?_⟩)
     rw [wrap_next (by omega)]
 ·rintro s ⟨out, ho, hox, rfl⟩
  unfold ref03_Sort.L2; dsimp only
  exact Bd.no (decide_eq_false (by omega)) (Bd.done ⟨ho, hox⟩)
end
end Go.Bk
end
noncomputable section
namespace Go.Bk
open Go Go.AM
set_option linter.unusedVariables false
theorem sp_Power (m r : Nat) (hm : m ≤ 1000) (hr : r ≤ 3) : Sp ref03_Power.P ((m : Int), (r : Int)) (fun p => p = ((m ^ r : Nat) : Int)) := by
 show Tt (fun n => ref03_Power.P n ((m : Int), (r : Int))) _
 unfold ref03_Power.P; dsimp only
 refine Tt.bind (R := fun p => p = ((m ^ r : Nat) : Int)) (Tt.loop (Lp.count r (fun i s => s = ((m : Int), ((m ^ i : Nat) : Int), (r : Int), (i : Int))) ?_ ?_ ?_)) fun p hp => Tt.pure hp
 ·rintro i s hi rfl
  unfold ref03_Power.L1; dsimp only
  refine Bd.yes (dec_true (by omega)) (Bd.again ?_)
  have hb : m ^ (i + 1) ≤ 1000000000 := by
   have h1 : m ^ (i + 1) ≤ 1000 ^ (i + 1) := Nat.pow_le_pow_left hm _
   have h2 : 1000 ^ (i + 1) ≤ 1000 ^ 3 := Nat.pow_le_pow_right (by omega) (by omega)
   omega
  have e : ((m ^ i : Nat) : Int) * (m : Int) = ((m ^ (i + 1) : Nat) : Int) := by rw [Nat.pow_succ, Int.natCast_mul]
  rw [e, wrap_id _ (by omega) (by omega), wrap_next (by omega)]
  congr 2
  omega
 ·rintro s rfl
  unfold ref03_Power.L1; dsimp only
  exact Bd.no (decide_eq_false (by omega)) (Bd.done rfl)
 ·simp
theorem tt_Power (m : Int) (r : Nat) (hr : r ≤ 1000) : Sp ref03_Power.P (m, (r : Int)) (fun _ => True) := by
 show Tt (fun n => ref03_Power.P n (m, (r : Int))) _
 unfold ref03_Power.P; dsimp only
 refine Tt.bind (R := fun p => True) (Tt.loop (Lp.count r (fun i s => ∃ v, s = (m, v, (r : Int), (i : Int))) ?_ ?_ ⟨_, rfl⟩)) fun p hp => Tt.pure hp
 ·rintro i s hi ⟨v, rfl⟩
  unfold ref03_Power.L1; dsimp only
  exact Bd.yes (dec_true (by omega)) (Bd.again ⟨_, by rw [wrap_next (by omega)]⟩)
 ·rintro s ⟨v, rfl⟩
  unfold ref03_Power.L1; dsimp only
  exact Bd.no (decide_eq_false (by omega)) (Bd.done trivial)
theorem tt_Full {F : Nat → Int × Int → Option Int} (hF : ∀ (m : Int) (r : Nat), r ≤ 3 → Sp F (m, (r : Int)) (fun _ => True)) (al : List Int) (m : Int) (hal : AlOk al) : Sp (fun n => ref03_Full.P (F n) n) (al, m) (fun _ => True) := by
 have hl := hal.1
 show Tt (fun n => ref03_Full.P (F n) n (al, m)) _
 unfold ref03_Full.P; dsimp only
 refine Tt.bind (R := fun p => True) (Tt.loop (Lp.count al.length (fun i s => ∃ v, s = (m, v, al, ((al.length : Nat) : Int), (i : Int))) ?_ ?_ ⟨_, rfl⟩)) fun p hp => Tt.pure hp
 ·rintro i s hi ⟨v, rfl⟩
  unfold ref03_Full.L1; dsimp only
  refine Bd.yes (dec_true (by omega)) (Bd.nth hi ?_)
  obtain ⟨h0, h3⟩ := hal.2 i hi
  obtain ⟨k, hk⟩ : ∃ k : Nat, al[i] = (k : Int) := ⟨al[i].toNat, by omega⟩
  rw [hk]
  exact Bd.bind (hF m k (by omega)) fun r _ => Bd.again ⟨_, by rw [wrap_next (by omega)]⟩
 ·rintro s ⟨v, rfl⟩
  unfold ref03_Full.L1; dsimp only
  exact Bd.no (decide_eq_false (by omega)) (Bd.done trivial)
def WfS (S : Int) (fin : List Int) (rs : List Rule) : Prop :=
 0 ≤ S ∧ S ≤ 1000 ∧ fin.length ≤ 1000000000 ∧ rs.length ≤ 1000000000 ∧ (∀ q ∈ fin, StOk S q) ∧ ∀ r ∈ rs, StOk S r.2.2 ∧ (∀ q ∈ r.2.1, StOk S q) ∧ r.2.1.length ≤ 1000
def nf (l : List Bool) : Nat := l.count false
theorem nf_set_le (l : List Bool) (i : Nat) : nf (l.set i true) ≤ nf l := by
 unfold nf
 by_cases h : i < l.length
 ·rw [List.count_set h]; simp
 ·rw [List.set_eq_of_length_le (by omega)]; exact Nat.le_refl _
theorem nf_set_lt {l : List Bool} {i : Nat} (h : l[i]? = some false) : nf (l.set i true) < nf l := by
 unfold nf
 have hi : i < l.length := by
  rcases Nat.lt_or_ge i l.length with h' | h'
  ·exact h'
  ·simp [List.getElem?_eq_none h'] at h
 rw [List.getElem?_eq_getElem hi] at h
 have h := Option.some.inj h
 rw [List.count_set hi, h]
 have : 0 < l.count false := List.count_pos_iff.2 (h ▸ List.getElem_mem hi)
 simp; omega
theorem tt_Reached (S : Int) (fin : List Int) (rs : List Rule) (h : WfS S fin rs) : Sp ref03_Reached.P (S, fin, rs) (fun r => r.length = S.toNat) := by
 obtain ⟨h0, h1, _, hrl, _, hr⟩ := h
 show Tt (fun n => ref03_Reached.P n (S, fin, rs)) _
 unfold ref03_Reached.P; dsimp only
 refine Tt.chk (mk_rng h0 (by omega)) (Tt.bind (R := fun r : List Bool => r.length = S.toNat) (Tt.loop (Lp.measure (fun s => ∃ (out : List Bool) (more : Bool), out.length = S.toNat ∧ s = (S, fin, rs, out, more)) (fun s => if s.2.2.2.2 then nf s.2.2.2.1 + 1 else 0) ?_ ⟨_, true, by simp, rfl⟩)) fun r hr => Tt.pure hr)
 rintro s ⟨out, more, ho, rfl⟩
 unfold ref03_Reached.L3; dsimp only
 refine Bd.ite (fun hm => ?_) (fun _ => Bd.done ho)
 subst hm
 refine Bd.bind (R := fun t => ∃ (out' : List Bool) (more' : Bool), out'.length = S.toNat ∧ nf out' ≤ nf out ∧ (more' = true → nf out' < nf out) ∧ t = (S, fin, rs, out', more')) (Tt.loop (Lp.count rs.length (fun i s => ∃ (out' : List Bool) (more' : Bool), out'.length = S.toNat ∧ nf out' ≤ nf out ∧ (more' = true → nf out' < nf out) ∧ s = (S, fin, rs, out', more', rs, ((rs.length : Nat) : Int), (i : Int))) ?_ ?_ ⟨out, false, ho, Nat.le_refl _, fun h => (by cases h), rfl⟩)) ?_
 ·rintro i s hi ⟨out', more', ho', hn, hlt, rfl⟩
  unfold ref03_Reached.L2; dsimp only
  obtain ⟨hto, hfrom, hfl⟩ := hr rs[i] (List.getElem_mem hi)
  refine Bd.yes (dec_true (by omega)) (Bd.nth hi ?_)
  refine Bd.bind (R := fun t => ∃ b : Bool, t = (S, fin, rs, out', more', rs[i].1, rs[i].2.1, rs[i].2.2, b, rs, ((rs.length : Nat) : Int), (i : Int))) (Tt.loop (Lp.count rs[i].2.1.length (fun j s => ∃ b : Bool, s = (S, fin, rs, out', more', rs[i].1, rs[i].2.1, rs[i].2.2, b, rs, ((rs.length : Nat) : Int), (i : Int), rs[i].2.1, ((rs[i].2.1.length : Nat) : Int), (j : Int))) ?_ ?_ ⟨true, rfl⟩)) ?_
  ·rintro j s hj ⟨b, rfl⟩
   unfold ref03_Reached.L1; dsimp only
   obtain ⟨q0, q1⟩ := hfrom rs[i].2.1[j] (List.getElem_mem hj)
   refine Bd.yes (dec_true (by omega)) (Bd.nth hj (Bd.bindIte (fun _ => ?_) (fun _ => ?_)))
   ·exact Bd.bindChk (rng q0 (by omega)) (Bd.bindBind (Bd.at (by omega) fun e _ _ => Bd.bindPure (Bd.again ⟨e, by rw [wrap_next (by omega)]⟩)))
   ·exact Bd.bindPure (Bd.again ⟨false, by rw [wrap_next (by omega)]⟩)
  ·rintro s ⟨b, rfl⟩
   unfold ref03_Reached.L1; dsimp only
   exact Bd.no (decide_eq_false (by omega)) (Bd.done ⟨b, rfl⟩)
  ·rintro _ ⟨b, rfl⟩
   dsimp only
   refine Bd.bind (R := fun t => ∃ c : Bool, (c = true → out'[rs[i].2.2.toNat]? = some false) ∧ t = (S, fin, rs, out', more', rs[i].1, rs[i].2.1, rs[i].2.2, rs, ((rs.length : Nat) : Int), (i : Int), c)) ?_ ?_
   ·refine Tt.ite (fun _ => Tt.chk (rng hto.1 (by have := hto.2; omega)) (Tt.atB (by have := hto.2; have := hto.1; omega) fun e _ he => Tt.pure ⟨!e, fun h => ?_, rfl⟩)) (fun _ => Tt.pure ⟨false, fun h => (by cases h), rfl⟩)
    cases e with
    | true => cases h
    | false => exact he
   ·rintro _ ⟨c, hc, rfl⟩
    dsimp only
    refine Bd.bindIte (fun hct => ?_) (fun _ => ?_)
    ·refine Bd.bindChk (rng hto.1 (by have := hto.2; omega)) (Bd.bindBind (Bd.at (by have := hto.2; have := hto.1; omega) fun e _ he => Bd.bindPure (Bd.again ⟨out'.set rs[i].2.2.toNat true, true, by simpa using ho', ?_, fun _ => ?_, by rw [wrap_next (by omega)]⟩)))
     ·exact Nat.le_trans (nf_set_le _ _) hn
     ·exact Nat.lt_of_lt_of_le (nf_set_lt (hc hct)) hn
    ·exact Bd.bindPure (Bd.again ⟨_, more', ho', hn, hlt, by rw [wrap_next (by omega)]⟩)
 ·rintro s ⟨out', more', ho', hn, hlt, rfl⟩
  unfold ref03_Reached.L2; dsimp only
  exact Bd.no (decide_eq_false (by omega)) (Bd.done ⟨out', more', ho', hn, hlt, rfl⟩)
 ·rintro _ ⟨out', more', ho', hn, hlt, rfl⟩
  dsimp only
  refine Bd.again ⟨⟨out', more', ho', rfl⟩, ?_⟩
  dsimp only
  cases more' with
  | true => have := hlt rfl; simp; omega
  | false => simp
theorem tt_Used {F : Nat → Int × List Int × List Rule → Option (List Bool)} (S : Int) (fin : List Int) (rs : List Rule) (h : WfS S fin rs) (hF : Sp F (S, fin, rs) (fun r => r.length = S.toNat)) : Sp (fun n => ref03_Used.P (F n) n) (S, fin, rs) (fun r => r.length = S.toNat) := by
 obtain ⟨h0, h1, hfl0, hrl, hfin, hr⟩ := h
 show Tt (fun n => ref03_Used.P (F n) n (S, fin, rs)) _
 unfold ref03_Used.P; dsimp only
 refine Tt.bind hF fun rch hrch => Tt.chk (mk_rng h0 (by omega)) ?_
 refine Tt.bind (R := fun t => ∃ out : List Bool, out.length = S.toNat ∧ t = (S, fin, rs, rch, out)) (Tt.loop (Lp.count fin.length (fun i s => ∃ out : List Bool, out.length = S.toNat ∧ s = (S, fin, rs, rch, out, fin, ((fin.length : Nat) : Int), (i : Int))) ?_ ?_ ⟨_, by simp, rfl⟩)) ?_
 ·rintro i s hi ⟨out, ho, rfl⟩
  unfold ref03_Used.L1; dsimp only
  obtain ⟨q0, q1⟩ := hfin fin[i] (List.getElem_mem hi)
  exact Bd.yes (dec_true (by omega)) (Bd.nth hi (Bd.chk (rng q0 (by omega)) (Bd.at (by omega) fun e _ _ => Bd.chk (rng q0 (by omega)) (Bd.at (by omega) fun e' _ _ => Bd.again ⟨out.set fin[i].toNat e, by simpa using ho, by rw [wrap_next (by omega)]⟩))))
 ·rintro s ⟨out, ho, rfl⟩
  unfold ref03_Used.L1; dsimp only
  exact Bd.no (decide_eq_false (by omega)) (Bd.done ⟨out, ho, rfl⟩)
 rintro _ ⟨out0, ho0, rfl⟩
 dsimp only
 refine Tt.bind (R := fun r : List Bool => r.length = S.toNat) (Tt.loop (Lp.measure (fun s => ∃ (out : List Bool) (more : Bool), out.length = S.toNat ∧ s = (S, fin, rs, rch, out, more)) (fun s => if s.2.2.2.2.2 then nf s.2.2.2.2.1 + 1 else 0) ?_ ⟨_, true, ho0, rfl⟩)) fun r hr => Tt.pure hr
 rintro s ⟨out, more, ho, rfl⟩
 unfold ref03_Used.L5; dsimp only
 refine Bd.ite (fun hm => ?_) (fun _ => Bd.done ho)
 subst hm
 refine Bd.bind (R := fun t => ∃ (out' : List Bool) (more' : Bool), out'.length = S.toNat ∧ nf out' ≤ nf out ∧ (more' = true → nf out' < nf out) ∧ t = (S, fin, rs, rch, out', more')) (Tt.loop (Lp.count rs.length (fun i s => ∃ (out' : List Bool) (more' : Bool), out'.length = S.toNat ∧ nf out' ≤ nf out ∧ (more' = true → nf out' < nf out) ∧ s = (S, fin, rs, rch, out', more', rs, ((rs.length : Nat) : Int), (i : Int))) ?_ ?_ ⟨out, false, ho, Nat.le_refl _, fun h => (by cases h), rfl⟩)) ?_
 ·rintro i s hi ⟨out', more', ho', hn, hlt, rfl⟩
  unfold ref03_Used.L4; dsimp only
  obtain ⟨hto, hfrom, hfl⟩ := hr rs[i] (List.getElem_mem hi)
  refine Bd.yes (dec_true (by omega)) (Bd.nth hi (Bd.chk (rng hto.1 (by have := hto.2; omega)) (Bd.at (by have := hto.2; have := hto.1; omega) fun e13 _ _ => ?_)))
  refine Bd.bind (R := fun t => ∃ b : Bool, t = (S, fin, rs, rch, out', more', rs[i].1, rs[i].2.1, rs[i].2.2, b, rs, ((rs.length : Nat) : Int), (i : Int))) (Tt.loop (Lp.count rs[i].2.1.length (fun j s => ∃ b : Bool, s = (S, fin, rs, rch, out', more', rs[i].1, rs[i].2.1, rs[i].2.2, b, rs, ((rs.length : Nat) : Int), (i : Int), rs[i].2.1, ((rs[i].2.1.length : Nat) : Int), (j : Int))) ?_ ?_ ⟨_, rfl⟩)) ?_
  ·rintro j s hj ⟨b, rfl⟩
   unfold ref03_Used.L2; dsimp only
   obtain ⟨q0, q1⟩ := hfrom rs[i].2.1[j] (List.getElem_mem hj)
   refine Bd.yes (dec_true (by omega)) (Bd.nth hj (Bd.bindIte (fun _ => ?_) (fun _ => ?_)))
   ·exact Bd.bindChk (rng q0 (by omega)) (Bd.bindBind (Bd.at (by omega) fun e _ _ => Bd.bindPure (Bd.again ⟨e, by rw [wrap_next (by omega)]⟩)))
   ·exact Bd.bindPure (Bd.again ⟨false, by rw [wrap_next (by omega)]⟩)
  ·rintro s ⟨b, rfl⟩
   unfold ref03_Used.L2; dsimp only
   exact Bd.no (decide_eq_false (by omega)) (Bd.done ⟨b, rfl⟩)
  ·rintro _ ⟨b, rfl⟩
   dsimp only
   refine Bd.bind (R := fun t => ∃ (out2 : List Bool) (more2 : Bool), out2.length = S.toNat ∧ nf out2 ≤ nf out ∧ (more2 = true → nf out2 < nf out) ∧ t = (S, fin, rs, rch, out2, more2, rs, ((rs.length : Nat) : Int), (i : Int))) (Tt.loop (Lp.count rs[i].2.1.length (fun j s => ∃ (out2 : List Bool) (more2 : Bool), out2.length = S.toNat ∧ nf out2 ≤ nf out ∧ (more2 = true → nf out2 < nf out) ∧ s = (S, fin, rs, rch, out2, more2, b, rs, ((rs.length : Nat) : Int), (i : Int), rs[i].2.1, ((rs[i].2.1.length : Nat) : Int), (j : Int))) ?_ ?_ ⟨out', more', ho', hn, hlt, rfl⟩)) ?_
   ·rintro j s hj ⟨out2, more2, ho2, hn2, hlt2, rfl⟩
    unfold ref03_Used.L3; dsimp only
    obtain ⟨q0, q1⟩ := hfrom rs[i].2.1[j] (List.getElem_mem hj)
    refine Bd.yes (dec_true (by omega)) (Bd.nth hj ?_)
    refine Bd.bind (R := fun t => ∃ c : Bool, (c = true → out2[rs[i].2.1[j].toNat]? = some false) ∧ t = (S, fin, rs, rch, out2, more2, b, rs[i].2.1[j], rs, ((rs.length : Nat) : Int), (i : Int), rs[i].2.1, ((rs[i].2.1.length : Nat) : Int), (j : Int), c)) ?_ ?_
    ·refine Tt.ite (fun _ => Tt.chk (rng q0 (by omega)) (Tt.atB (by omega) fun e _ he => Tt.pure ⟨!e, fun h => ?_, rfl⟩)) (fun _ => Tt.pure ⟨false, fun h => (by cases h), rfl⟩)
     cases e with
     | true => cases h
     | false => exact he
    ·rintro _ ⟨c, hc, rfl⟩
     dsimp only
     refine Bd.bindIte (fun hct => ?_) (fun _ => ?_)
     ·refine Bd.bindChk (rng q0 (by omega)) (Bd.bindBind (Bd.at (by omega) fun e _ he => Bd.bindPure (Bd.again ⟨out2.set rs[i].2.1[j].toNat true, true, by simpa using ho2, ?_, fun _ => ?_, by rw [wrap_next (by omega)]⟩)))
      ·exact Nat.le_trans (nf_set_le _ _) hn2
      ·exact Nat.lt_of_lt_of_le (nf_set_lt (hc hct)) hn2
     ·exact Bd.bindPure (Bd.again ⟨_, more2, ho2, hn2, hlt2, by rw [wrap_next (by omega)]⟩)
   ·rintro s ⟨out2, more2, ho2, hn2, hlt2, rfl⟩
    unfold ref03_Used.L3; dsimp only
    exact Bd.no (decide_eq_false (by omega)) (Bd.done ⟨out2, more2, ho2, hn2, hlt2, rfl⟩)
   ·rintro _ ⟨out2, more2, ho2, hn2, hlt2, rfl⟩
    dsimp only
    exact Bd.again ⟨out2, more2, ho2, hn2, hlt2, by rw [wrap_next (by omega)]⟩
 ·rintro s ⟨out', more', ho', hn, hlt, rfl⟩
  unfold ref03_Used.L4; dsimp only
  exact Bd.no (decide_eq_false (by omega)) (Bd.done ⟨out', more', ho', hn, hlt, rfl⟩)
 ·rintro _ ⟨out', more', ho', hn, hlt, rfl⟩
  dsimp only
  refine Bd.again ⟨⟨out', more', ho', rfl⟩, ?_⟩
  dsimp only
  cases more' with
  | true => have := hlt rfl; simp; omega
  | false => simp
end Go.Bk
end
noncomputable section
namespace Go.Bk
open Go Go.AM
set_option linter.unusedVariables false
def KeptR (k : Int) (rs : List Rule) (r' : Rule) : Prop := StOk k r'.2.2 ∧ (∀ q ∈ r'.2.1, StOk k q) ∧ ∃ r ∈ rs, r'.1 = r.1 ∧ r'.2.1.length = r.2.1.length
def Kept (S : Int) (fin : List Int) (rs : List Rule) (a : Aut) : Prop :=
 0 ≤ a.1 ∧ a.1 ≤ S ∧ a.2.1.length ≤ fin.length ∧ (∀ q ∈ a.2.1, StOk a.1 q) ∧ a.2.2.length ≤ rs.length ∧ ∀ r' ∈ a.2.2, KeptR a.1 rs r'
def NumOk (keep : List Bool) (num : List Int) (c : Int) : Prop := ∀ j : Nat, keep[j]? = some true → ∀ v : Int, num[j]? = some v → StOk c v
theorem tt_Keep {F : Nat → List Rule → Option (List Rule)} (S : Int) (fin : List Int) (rs : List Rule) (keep : List Bool) (h : WfS S fin rs) (hk : keep.length = S.toNat)
 (hF : ∀ x : List Rule, x.length ≤ 1000000000 → (∀ r ∈ x, r.2.1.length ≤ 1000) → Sp F x (fun r : List Rule => r.length ≤ x.length ∧ ∀ y ∈ r, y ∈ x)) :
 Sp (fun n => ref03_Keep.P (F n) n) (S, fin, rs, keep) (Kept S fin rs) := by
 obtain ⟨h0, h1, hfl0, hrl, hfin, hr⟩ := h
 show Tt (fun n => ref03_Keep.P (F n) n (S, fin, rs, keep)) _
 unfold ref03_Keep.P; dsimp only
 refine Tt.chk (mk_rng h0 (by omega)) ?_
 refine Tt.bind (R := fun t => ∃ (num : List Int) (c : Int), num.length = S.toNat ∧ 0 ≤ c ∧ c ≤ S ∧ NumOk keep num c ∧ t = (keep, S, fin, rs, (0 : Int), ([] : List Int), ([] : List Rule), num, c, ([] : List Int), ([] : List Rule)))
  (Tt.loop (Lp.count keep.length (fun i s => ∃ (num : List Int) (c : Int), num.length = S.toNat ∧ 0 ≤ c ∧ c ≤ (i : Int) ∧ (∀ j, j < i → keep[j]? = some true → ∀ v, num[j]? = some v → StOk c v) ∧
   s = (keep, S, fin, rs, (0 : Int), ([] : List Int), ([] : List Rule), num, c, ([] : List Int), ([] : List Rule), keep, ((keep.length : Nat) : Int), (i : Int))) ?_ ?_ ⟨_, 0, by simp, by omega, by omega, fun j hj => absurd hj (by omega), rfl⟩)) ?_
 ·rintro i s hi ⟨num, c, hn, hc0, hci, hI, rfl⟩
  unfold ref03_Keep.L1; dsimp only
  refine Bd.yes (dec_true (by omega)) (Bd.nth hi (Bd.bindIte (fun hki => ?_) (fun hki => ?_)))
  ·refine Bd.bindChk (rng (by omega) (by omega)) (Bd.bindBind ?_)
   rw [Int.toNat_natCast]
   refine Bd.at (by omega) fun e _ _ => Bd.bindPure (Bd.again ⟨num.set i c, c + 1, by simpa using hn, by omega, by omega, fun j hj hkj v hv => ?_, by rw [wrap_next (by omega), wrap_id _ (by omega) (by omega)]⟩)
   rw [List.getElem?_set] at hv
   by_cases hij : i = j
   ·rw [if_pos hij, if_pos (by omega)] at hv
    cases hv
    exact ⟨hc0, by omega⟩
   ·rw [if_neg hij] at hv
    obtain ⟨a, b⟩ := hI j (by omega) hkj v hv
    exact ⟨a, by omega⟩
  ·refine Bd.bindPure (Bd.again ⟨num, c, hn, hc0, by omega, fun j hj hkj v hv => ?_, by rw [wrap_next (by omega)]⟩)
   rcases Nat.lt_or_ge j i with h2 | h2
   ·exact hI j h2 hkj v hv
   ·obtain rfl : j = i := by omega
    rw [List.getElem?_eq_getElem hi] at hkj
    rw [Option.some.inj hkj] at hki; cases hki
 ·rintro s ⟨num, c, hn, hc0, hci, hI, rfl⟩
  unfold ref03_Keep.L1; dsimp only
  refine Bd.no (decide_eq_false (by omega)) (Bd.done ⟨num, c, hn, hc0, by omega, fun j hkj v hv => hI j ?_ hkj v hv, rfl⟩)
  rcases Nat.lt_or_ge j keep.length with h | h
  ·exact h
  ·simp [List.getElem?_eq_none h] at hkj
 rintro _ ⟨num, c, hn, hc0, hcS, hI, rfl⟩
 dsimp only
 refine Tt.bind (R := fun t => ∃ fin' : List Int, fin'.length ≤ fin.length ∧ (∀ q ∈ fin', StOk c q) ∧ t = (keep, S, fin, rs, (0 : Int), ([] : List Int), ([] : List Rule), num, c, fin', ([] : List Rule)))
  (Tt.loop (Lp.count fin.length (fun i s => ∃ fin' : List Int, fin'.length ≤ i ∧ (∀ q ∈ fin', StOk c q) ∧ s = (keep, S, fin, rs, (0 : Int), ([] : List Int), ([] : List Rule), num, c, fin', ([] : List Rule), fin, ((fin.length : Nat) : Int), (i : Int))) ?_ ?_ ⟨[], by simp, by simp, rfl⟩)) ?_
 ·rintro i s hi ⟨fin', hf1, hf2, rfl⟩
  unfold ref03_Keep.L2; dsimp only
  obtain ⟨q0, q1⟩ := hfin fin[i] (List.getElem_mem hi)
  refine Bd.yes (dec_true (by omega)) (Bd.nth hi (Bd.nthI q0 (by omega) fun b _ hb => Bd.bindIte (fun hbt => ?_) (fun _ => ?_)))
  ·refine Bd.bindChk (rng q0 (by omega)) (Bd.bindBind (Bd.at (by omega) fun v _ hv => Bd.bindChk (lenOk (by simp; omega)) (Bd.bindPure (Bd.again ⟨fin' ++ [v], by simp; omega, fun q hq => ?_, by rw [wrap_next (by omega)]; rfl⟩))))
   rcases List.mem_append.1 hq with h | h
   ·exact hf2 q h
   ·rw [List.mem_singleton.1 h]
    exact hI _ (by rw [hb, hbt]) v hv
  ·exact Bd.bindPure (Bd.again ⟨fin', by omega, hf2, by rw [wrap_next (by omega)]⟩)
 ·rintro s ⟨fin', hf1, hf2, rfl⟩
  unfold ref03_Keep.L2; dsimp only
  exact Bd.no (decide_eq_false (by omega)) (Bd.done ⟨fin', hf1, hf2, rfl⟩)
 rintro _ ⟨fin', hf1, hf2, rfl⟩
 dsimp only
 refine Tt.bind (R := fun t => ∃ out : List Rule, out.length ≤ rs.length ∧ (∀ r' ∈ out, KeptR c rs r') ∧ t = ((0 : Int), ([] : List Int), ([] : List Rule), c, fin', out))
  (Tt.loop (Lp.count rs.length (fun i s => ∃ out : List Rule, out.length ≤ i ∧ (∀ r' ∈ out, KeptR c rs r') ∧ s = (keep, (0 : Int), ([] : List Int), ([] : List Rule), num, c, fin', out, rs, ((rs.length : Nat) : Int), (i : Int))) ?_ ?_ ⟨[], by simp, by simp, rfl⟩)) ?_
 ·rintro i s hi ⟨out, ho1, ho2, rfl⟩
  unfold ref03_Keep.L4; dsimp only
  obtain ⟨hto, hfrom, hfl⟩ := hr rs[i] (List.getElem_mem hi)
  refine Bd.yes (dec_true (by omega)) (Bd.nth hi (Bd.nthI hto.1 (by have := hto.2; omega) fun b0 _ hb0 => ?_))
  refine Bd.bind (R := fun t => ∃ (b : Bool) (from' : List Int), from'.length = rs[i].2.1.length ∧ (b = true → b0 = true ∧ ∀ q ∈ from', StOk c q) ∧ t = (keep, (0 : Int), ([] : List Int), ([] : List Rule), num, c, fin', out, rs[i].1, rs[i].2.1, rs[i].2.2, b, from', rs, ((rs.length : Nat) : Int), (i : Int)))
   (Tt.loop (Lp.count rs[i].2.1.length (fun j s => ∃ (b : Bool) (from' : List Int), from'.length = j ∧ (b = true → b0 = true ∧ ∀ q ∈ from', StOk c q) ∧
    s = (keep, (0 : Int), ([] : List Int), ([] : List Rule), num, c, fin', out, rs[i].1, rs[i].2.1, rs[i].2.2, b, from', rs, ((rs.length : Nat) : Int), (i : Int), rs[i].2.1, ((rs[i].2.1.length : Nat) : Int), (j : Int))) ?_ ?_ ⟨b0, [], rfl, fun h => ⟨h, by simp⟩, rfl⟩)) ?_
  ·rintro j s hj ⟨b, from', hl', hb, rfl⟩
   unfold ref03_Keep.L3; dsimp only
   obtain ⟨q0, q1⟩ := hfrom rs[i].2.1[j] (List.getElem_mem hj)
   refine Bd.yes (dec_true (by omega)) (Bd.nth hj ?_)
   refine Bd.bind (R := fun t => ∃ b' : Bool, (b' = true → b = true ∧ keep[rs[i].2.1[j].toNat]? = some true) ∧ t = (keep, (0 : Int), ([] : List Int), ([] : List Rule), num, c, fin', out, rs[i].1, rs[i].2.1, rs[i].2.2, b', from', rs[i].2.1[j], rs, ((rs.length : Nat) : Int), (i : Int), rs[i].2.1, ((rs[i].2.1.length : Nat) : Int), (j : Int))) ?_ ?_
   ·refine Tt.ite (fun hbt => Tt.nthI q0 (by omega) fun e _ he => Tt.pure ⟨e, fun h => ⟨hbt, by rw [he, h]⟩, rfl⟩) (fun _ => Tt.pure ⟨false, fun h => (by cases h), rfl⟩)
   ·rintro _ ⟨b', hb', rfl⟩
    dsimp only
    refine Bd.chk (rng q0 (by omega)) (Bd.at (by omega) fun v _ hv => Bd.chk (lenOk (by simp; omega)) (Bd.again ⟨b', from' ++ [v], by simp [hl'], fun h => ?_, by rw [wrap_next (by omega)]; rfl⟩))
    obtain ⟨h1, h2⟩ := hb' h
    refine ⟨(hb h1).1, fun q hq => ?_⟩
    rcases List.mem_append.1 hq with h3 | h3
    ·exact (hb h1).2 q h3
    ·rw [List.mem_singleton.1 h3]; exact hI _ h2 v hv
  ·rintro s ⟨b, from', hl', hb, rfl⟩
   unfold ref03_Keep.L3; dsimp only
   exact Bd.no (decide_eq_false (by omega)) (Bd.done ⟨b, from', hl', hb, rfl⟩)
  ·rintro _ ⟨b, from', hl', hb, rfl⟩
   dsimp only
   refine Bd.bindIte (fun hbt => ?_) (fun _ => ?_)
   ·obtain ⟨hb1, hb2⟩ := hb hbt
    refine Bd.bindChk (rng hto.1 (by have := hto.2; omega)) (Bd.bindBind (Bd.at (by have := hto.2; have := hto.1; omega) fun v _ hv => Bd.bindChk (lenOk (by simp; omega)) (Bd.bindPure (Bd.again ⟨out ++ [(rs[i].1, from', v)], by simp; omega, fun r' hr' => ?_, by rw [wrap_next (by omega)]; rfl⟩))))
    rcases List.mem_append.1 hr' with h3 | h3
    ·exact ho2 r' h3
    ·rw [List.mem_singleton.1 h3]
     exact ⟨hI _ (by rw [hb0, hb1]) v hv, hb2, rs[i], List.getElem_mem hi, rfl, hl'⟩
   ·exact Bd.bindPure (Bd.again ⟨out, by omega, ho2, by rw [wrap_next (by omega)]⟩)
 ·rintro s ⟨out, ho1, ho2, rfl⟩
  unfold ref03_Keep.L4; dsimp only
  exact Bd.no (decide_eq_false (by omega)) (Bd.done ⟨out, ho1, ho2, rfl⟩)
 rintro _ ⟨out, ho1, ho2, rfl⟩
 dsimp only
 have hlen : ∀ r ∈ out, r.2.1.length ≤ 1000 := fun r' hr' => by
  obtain ⟨_, _, r, hrm, _, he⟩ := ho2 r' hr'
  rw [he]; exact (hr r hrm).2.2
 refine Tt.bind (hF out (by omega) hlen) fun r hr' => Tt.pure ⟨hc0, hcS, hf1, hf2, by have := hr'.1; simp only; omega, fun y hy => ho2 y (hr'.2 y hy)⟩
theorem tt_Trimmed {U : Nat → Int × List Int × List Rule → Option (List Bool)} {K : Nat → Int × List Int × List Rule × List Bool → Option Aut} (S : Int) (fin : List Int) (rs : List Rule) (hU : Sp U (S, fin, rs) (fun r => r.length = S.toNat))
 (hK : ∀ keep : List Bool, keep.length = S.toNat → Sp K (S, fin, rs, keep) (Kept S fin rs)) : Sp (fun n => ref03_Trimmed.P (K n) (U n) n) (S, fin, rs) (Kept S fin rs) := by
 show Tt (fun n => ref03_Trimmed.P (K n) (U n) n (S, fin, rs)) _
 unfold ref03_Trimmed.P; dsimp only
 exact Tt.bind hU fun keep hk => Tt.bind (hK keep hk) fun r hr => Tt.pure hr
theorem Kept.wf {S : Int} {fin : List Int} {rs : List Rule} (h : WfS S fin rs) {a : Aut} (hk : Kept S fin rs a) : WfS a.1 a.2.1 a.2.2 := by
 obtain ⟨h0, h1, h2, h3, h4, h5⟩ := h
 obtain ⟨k0, k1, k2, k3, k4, k5⟩ := hk
 refine ⟨k0, by omega, by omega, by omega, k3, fun r' hr' => ?_⟩
 obtain ⟨a1, a2, r, hr, _, e⟩ := k5 r' hr'
 exact ⟨a1, a2, by rw [e]; exact (h5 r hr).2.2⟩
theorem tt_One {F : Nat → List Int × List Int → Option Bool} (S : Int) (fin : List Int) (rs : List Rule) (hl : rs.length ≤ 1000000000) (hr : ∀ r ∈ rs, r.2.1.length ≤ 1000)
 (hF : ∀ x y : List Int, x.length ≤ 1000 → Sp F (x, y) (fun r => r = true ↔ x = y)) : Sp (fun n => ref03_One.P (F n) n) (S, fin, rs) (fun _ => True) := by
 show Tt (fun n => ref03_One.P (F n) n (S, fin, rs)) _
 unfold ref03_One.P; dsimp only
 refine Tt.bind (R := fun q => q = Sum.inl () ∨ ∃ b, q = Sum.inr b) (Tt.loop (Lp.count rs.length (fun i s => s = (S, fin, rs, rs, ((rs.length : Nat) : Int), (i : Int))) ?_ ?_ rfl)) ?_
 ·rintro i s hi rfl
  unfold ref03_One.L2; dsimp only
  refine Bd.yes (dec_true (by omega)) (Bd.nth hi (Bd.chk (by simp; omega) ?_))
  have e : List.drop (Int.toNat 0) (List.take (Int.toNat (i : Int)) rs) = rs.take i := by simp
  rw [e]
  have hil : (rs.take i).length = i := by simp; omega
  refine Bd.bind (R := fun q => q = Sum.inl (S, fin, rs, rs, ((rs.length : Nat) : Int), (i : Int)) ∨ ∃ b, q = Sum.inr (Sum.inr b)) (Tt.loop (Lp.count (rs.take i).length (fun j s => s = (S, fin, rs, rs[i].1, rs[i].2.1, rs[i].2.2, rs, ((rs.length : Nat) : Int), (i : Int), rs.take i, (((rs.take i).length : Nat) : Int), (j : Int))) ?_ ?_ rfl)) ?_
  ·rintro j s hj rfl
   unfold ref03_One.L1; dsimp only
   refine Bd.yes (dec_true (by omega)) (Bd.nth hj ?_)
   refine Bd.bind (R := fun t => ∃ b : Bool, t = (S, fin, rs, rs[i].1, rs[i].2.1, rs[i].2.2, rs, ((rs.length : Nat) : Int), (i : Int), rs.take i, (((rs.take i).length : Nat) : Int), (j : Int), b)) ?_ ?_
   ·exact Tt.ite (fun _ => Tt.bind (hF _ _ (hr _ (List.getElem_mem hi))) fun b _ => Tt.pure ⟨b, rfl⟩) (fun _ => Tt.pure ⟨_, rfl⟩)
   ·rintro _ ⟨b, rfl⟩
    dsimp only
    exact Bd.ite (fun _ => Bd.done (.inr ⟨_, rfl⟩)) (fun _ => Bd.again (by rw [wrap_next (by omega)]))
  ·rintro s rfl
   unfold ref03_One.L1; dsimp only
   exact Bd.no (decide_eq_false (by omega)) (Bd.done (.inl rfl))
  ·rintro _ (rfl | ⟨b, rfl⟩)
   ·dsimp only
    exact Bd.again (by rw [wrap_next (by omega)])
   ·exact Bd.done (.inr ⟨b, rfl⟩)
 ·rintro s rfl
  unfold ref03_One.L2; dsimp only
  exact Bd.no (decide_eq_false (by omega)) (Bd.done (.inl rfl))
 ·rintro q (rfl | ⟨b, rfl⟩)
  ·exact Tt.pure trivial
  ·exact Tt.pure trivial
theorem tt_Bits {P : Nat → Int × Int → Option Int} {T : Nat → Int × List Int × List Rule → Option Aut} {x : Int × List Int × List Rule} (hT : Sp T x (fun a => 0 ≤ a.1 ∧ a.1 ≤ 1000)) (hP : ∀ (m : Int) (r : Nat), r ≤ 1000 → Sp P (m, (r : Int)) (fun _ => True)) :
 Sp (fun n => ref04_Bits.P (P n) (T n) n) x (fun _ => True) := by
 show Tt (fun n => ref04_Bits.P (P n) (T n) n x) _
 unfold ref04_Bits.P
 refine Tt.bind hT fun a ha => ?_
 obtain ⟨k, hk⟩ : ∃ k : Nat, a.1 = (k : Int) := ⟨a.1.toNat, by omega⟩
 rw [hk]
 exact Tt.bind (hP 2 k (by omega)) fun _ _ => Tt.pure trivial
theorem tt_Light {Fu : Nat → List Int × Int → Option Int} {On : Nat → Int × List Int × List Rule → Option Bool} {T : Nat → Int × List Int × List Rule → Option Aut} {Bi : Nat → Int × List Int × List Rule → Option Int}
 (al : List Int) (as : List Aut) (hl : as.length ≤ 1000) (hFu : ∀ m, Sp Fu (al, m) (fun _ => True)) (hOn : ∀ a ∈ as, a.2.2.length ≤ 300 → Sp On a (fun _ => True)) (hT : ∀ a ∈ as, Sp T a (fun _ => True)) (hBi : ∀ a ∈ as, Sp Bi a (fun _ => True)) :
 Sp (fun n => ref04_Light.P (Fu n) (On n) (T n) (Bi n) n) (al, as) (fun _ => True) := by
 show Tt (fun n => ref04_Light.P (Fu n) (On n) (T n) (Bi n) n (al, as)) _
 unfold ref04_Light.P; dsimp only
 refine Tt.bind (R := fun q => q = Sum.inl () ∨ ∃ b, q = Sum.inr b) (Tt.loop (Lp.count as.length (fun i s => s = (al, as, ((as.length : Nat) : Int), (i : Int))) ?_ ?_ rfl)) ?_
 ·rintro i s hi rfl
  have hm : as[i] ∈ as := List.getElem_mem hi
  unfold ref04_Light.L1; dsimp only
  refine Bd.yes (dec_true (by omega)) (Bd.nth hi ?_)
  refine Bd.bind (R := fun t => ∃ b : Bool, (b = false → as[i].2.2.length ≤ 300) ∧ t = (al, as[i].1, as[i].2.1, as[i].2.2, as, ((as.length : Nat) : Int), (i : Int), b)) ?_ ?_
  ·exact Tt.ite (fun _ => Tt.pure ⟨true, fun h => (by cases h), rfl⟩) (fun h => Tt.pure ⟨_, fun _ => (by have := dec_not h; omega), rfl⟩)
  ·rintro _ ⟨b, hb, rfl⟩
   dsimp only
   refine Bd.ite (fun _ => Bd.done (.inr ⟨_, rfl⟩)) (fun hbf => ?_)
   refine Bd.bind (hBi _ hm) fun r5 _ => Bd.bind (hOn _ hm (hb hbf)) fun r6 _ => ?_
   refine Bd.bind (R := fun t => ∃ v : Int, t = (al, v, as, ((as.length : Nat) : Int), (i : Int))) ?_ ?_
   ·exact Tt.ite (fun _ => Tt.bind (hT _ hm) fun r7 _ => Tt.pure ⟨_, rfl⟩) (fun _ => Tt.pure ⟨_, rfl⟩)
   ·rintro _ ⟨v, rfl⟩
    dsimp only
    exact Bd.bind (hFu _) fun r9 _ => Bd.ite (fun _ => Bd.done (.inr ⟨_, rfl⟩)) (fun _ => Bd.again (by rw [wrap_next (by omega)]))
 ·rintro s rfl
  unfold ref04_Light.L1; dsimp only
  exact Bd.no (decide_eq_false (by omega)) (Bd.done (.inl rfl))
 ·rintro q (rfl | ⟨b, rfl⟩)
  ·exact Tt.pure trivial
  ·exact Tt.pure trivial
end Go.Bk
end
noncomputable section
namespace Go.Bk
open Go Go.AM
set_option linter.unusedVariables false
def Val {β : Type} (F : Nat → Option β) (r : β) : Prop := Ev fun n => F n = some r
theorem Tt.val {β : Type} {F : Nat → Option β} {Q : β → Prop} (h : Tt F Q) : Tt F (fun r => Q r ∧ Val F r) := h.elim fun r hr => ⟨r, ⟨hr.1, hr.2⟩, hr.2⟩
theorem Val.uniq {β : Type} {F : Nat → Option β} {r s : β} (h : Val F r) (h' : Val F s) : r = s := by
 obtain ⟨N, hN⟩ := h.and h'
 obtain ⟨h1, h2⟩ := hN N (Nat.le_refl _)
 rw [h1] at h2
 exact Option.some.inj h2
def lsts (n : Nat) : Nat → List (List Int)
 | 0 => [[]]
 | r + 1 => (List.range n).flatMap fun i : Nat => (lsts n r).map fun l => ((i : Nat) : Int) :: l
theorem mem_lsts {n : Nat} : ∀ {r : Nat} {l : List Int}, l ∈ lsts n r ↔ l.length = r ∧ ∀ q ∈ l, StOk (n : Int) q
 | 0, l => by
   simp only [lsts, List.mem_singleton]
   constructor
   ·rintro rfl; simp
   ·rintro ⟨h, _⟩; exact List.eq_nil_of_length_eq_zero h
 | r + 1, l => by
   simp only [lsts, List.mem_flatMap, List.mem_range, List.mem_map]
   constructor
   ·rintro ⟨i, hi, l', hl', rfl⟩
    obtain ⟨h1, h2⟩ := mem_lsts.1 hl'
    refine ⟨by simp [h1], fun q hq => ?_⟩
    rcases List.mem_cons.1 hq with rfl | hq
    ·exact ⟨by omega, by omega⟩
    ·exact h2 q hq
   ·rintro ⟨h1, h2⟩
    match l, h1, h2 with
    | q :: l', h1, h2 =>
      obtain ⟨q0, q1⟩ := h2 q (by simp)
      refine ⟨q.toNat, by omega, l', mem_lsts.2 ⟨by simpa using h1, fun x hx => h2 x (by simp [hx])⟩, ?_⟩
      rw [Int.toNat_of_nonneg q0]
theorem flatMap_len {α β : Type} {f : α → List β} {k : Nat} : ∀ (l : List α), (∀ a ∈ l, (f a).length = k) → (l.flatMap f).length = l.length * k
 | [], _ => by simp
 | a :: l, h => by
   rw [List.flatMap_cons, List.length_append, h a (by simp), flatMap_len l fun b hb => h b (by simp [hb]), List.length_cons, Nat.succ_mul, Nat.add_comm]
theorem lsts_length (n : Nat) : ∀ r, (lsts n r).length = n ^ r
 | 0 => by simp [lsts]
 | r + 1 => by
   rw [lsts, flatMap_len (k := n ^ r) _ fun a _ => by rw [List.length_map, lsts_length n r], List.length_range, Nat.pow_succ, Nat.mul_comm]
theorem pow_small {n r : Nat} (hn : n ≤ 301) (hr : r ≤ 3) : n ^ r ≤ 27270901 := by
 have h1 : n ^ r ≤ 301 ^ r := Nat.pow_le_pow_left hn r
 have h2 : (301 : Nat) ^ r ≤ 301 ^ 3 := Nat.pow_le_pow_right (by omega) hr
 omega
theorem sp_Lists {F : Nat → Int × Int → Option (List (List Int))} (hF : ∀ n x, F (n + 1) x = ref04_Lists.P (F n) n x) (N : Nat) (hN : N ≤ 301) : ∀ r : Nat, r ≤ 3 → Sp F ((N : Int), (r : Int)) (fun l => l = lsts N r)
 | 0, _ => by
   refine Sp.step (G := fun n x => ref04_Lists.P (F n) n x) hF ?_
   show Tt (fun n => ref04_Lists.P (F n) n ((N : Int), ((0 : Nat) : Int))) _
   unfold ref04_Lists.P; dsimp only
   exact Tt.yes (by simp) (Tt.pure rfl)
 | r + 1, hr => by
   refine Sp.step (G := fun n x => ref04_Lists.P (F n) n x) hF ?_
   show Tt (fun n => ref04_Lists.P (F n) n ((N : Int), ((r + 1 : Nat) : Int))) _
   unfold ref04_Lists.P; dsimp only
   have ih := sp_Lists hF N hN r (by omega)
   have hlen := lsts_length N r
   have hsm := pow_small hN (r := r) (by omega)
   refine Tt.no (by simp; omega) (Tt.bind (R := fun l => l = lsts N (r + 1)) (Tt.loop (Lp.count N (fun i s => s = ((N : Int), ((r + 1 : Nat) : Int), (List.range i).flatMap (fun i : Nat => (lsts N r).map fun l => ((i : Nat) : Int) :: l), (N : Int), (i : Int))) ?_ ?_ rfl)) fun l hl => Tt.pure hl)
   ·rintro i s hi rfl
    unfold ref04_Lists.L2; dsimp only
    have e1 : IntKind.wrap .i64 (((r + 1 : Nat) : Int) - 1) = (r : Int) := by rw [wrap_id _ (by omega) (by omega)]; omega
    rw [e1]
    refine Bd.yes (dec_true (by omega)) (Bd.bind ih fun l3 hl3 => ?_)
    subst hl3
    have hol : ((List.range i).flatMap (fun i : Nat => (lsts N r).map fun l => ((i : Nat) : Int) :: l)).length ≤ 301 * 27270901 := by
     rw [flatMap_len (k := N ^ r) _ fun a _ => by rw [List.length_map, hlen], List.length_range]
     exact Nat.mul_le_mul (by omega) hsm
    refine Bd.bind (R := fun t => t = ((N : Int), ((r + 1 : Nat) : Int), (List.range (i + 1)).flatMap (fun i : Nat => (lsts N r).map fun l => ((i : Nat) : Int) :: l), (N : Int), (i : Int))) (Tt.loop (Lp.count (lsts N r).length (fun j s => s = ((N : Int), ((r + 1 : Nat) : Int), (List.range i).flatMap (fun i : Nat => (lsts N r).map fun l => ((i : Nat) : Int) :: l) ++ ((lsts N r).take j).map (fun l => ((i : Nat) : Int) :: l), (i : Int), (N : Int), (i : Int), lsts N r, (((lsts N r).length : Nat) : Int), (j : Int))) ?_ ?_ ?_)) ?_
    ·rintro j s hj rfl
     unfold ref04_Lists.L1; dsimp only
     refine Bd.yes (dec_true (by omega)) (Bd.chk (rng (by omega) (by omega)) ?_)
     rw [Int.toNat_natCast]
     refine Bd.at hj fun e hm he => ?_
     have hel : e.length = r := (mem_lsts.1 hm).1
     refine Bd.chk (lenOk (by simp; omega)) (Bd.chk (lenOk ?_) (Bd.again ?_))
     ·simp only [List.length_append, List.length_map, List.length_take, List.length_singleton]; omega
     ·rw [wrap_next (by omega)]
      congr 3
      show (_ ++ _) ++ [[(i : Int)] ++ e] = _
      rw [List.append_assoc]
      congr 1
      rw [List.take_add_one, he]
      simp
    ·rintro s rfl
     unfold ref04_Lists.L1; dsimp only
     refine Bd.no (decide_eq_false (by omega)) (Bd.done ?_)
     rw [List.take_length, List.range_succ, List.flatMap_append]
     simp
    ·simp
    ·rintro _ rfl
     dsimp only
     exact Bd.again (by rw [wrap_next (by omega)])
   ·rintro s rfl
    unfold ref04_Lists.L2; dsimp only
    exact Bd.no (decide_eq_false (by omega)) (Bd.done rfl)
def pickV (sets : List (List Int)) (l : List Int) : List (List Int) := l.map fun q => sets.getD q.toNat []
theorem sp_pick (sets : List (List Int)) (l : List Int) (hl : l.length ≤ 1000) (hq : ∀ q ∈ l, StOk ((sets.length : Nat) : Int) q) : Sp ref04_pick.P (sets, l) (fun r => r = pickV sets l) := by
 show Tt (fun n => ref04_pick.P n (sets, l)) _
 unfold ref04_pick.P; dsimp only
 refine Tt.bind (R := fun r => r = pickV sets l) (Tt.loop (Lp.count l.length (fun i s => s = (sets, (l.take i).map (fun q => sets.getD q.toNat []), l, ((l.length : Nat) : Int), (i : Int))) ?_ ?_ rfl)) fun r hr => Tt.pure hr
 ·rintro i s hi rfl
  unfold ref04_pick.L1; dsimp only
  obtain ⟨q0, q1⟩ := hq l[i] (List.getElem_mem hi)
  refine Bd.yes (dec_true (by omega)) (Bd.nth hi (Bd.nthI q0 q1 fun e _ he => Bd.chk (lenOk (by simp; omega)) (Bd.again ?_)))
  rw [wrap_next (by omega)]
  congr 2
  show _ ++ [e] = _
  have e1 : l.take (i + 1) = l.take i ++ [l[i]] := by rw [List.take_add_one, List.getElem?_eq_getElem hi]; rfl
  rw [e1, List.map_append]
  simp only [List.map_cons, List.map_nil, List.getD_eq_getElem?_getD, he, Option.getD_some]
 ·rintro s rfl
  unfold ref04_pick.L1; dsimp only
  refine Bd.no (decide_eq_false (by omega)) (Bd.done ?_)
  rw [List.take_length]; rfl
theorem sp_place {F : Nat → List Int × List Int → Option Bool} (l : List (List Int)) (x : List Int) (hl : l.length ≤ 1000000000) (hF : ∀ y ∈ l, Sp F (x, y) (fun r => r = true ↔ x = y)) :
 Sp (fun n => ref04_place.P (F n) n) (l, x) (fun p => (p = -1 ∧ x ∉ l) ∨ ∃ i : Nat, l[i]? = some x ∧ p = (i : Int)) := by
 show Tt (fun n => ref04_place.P (F n) n (l, x)) _
 unfold ref04_place.P; dsimp only
 refine Tt.bind (R := fun q => (q = Sum.inl () ∧ x ∉ l) ∨ ∃ i : Nat, l[i]? = some x ∧ q = Sum.inr (i : Int)) (Tt.loop (Lp.count l.length (fun i s => s = (x, l, ((l.length : Nat) : Int), (i : Int)) ∧ x ∉ l.take i) ?_ ?_ ⟨rfl, by simp⟩)) ?_
 ·rintro i s hi ⟨rfl, hI⟩
  unfold ref04_place.L1; dsimp only
  refine Bd.yes (dec_true (by omega)) (Bd.nth hi (Bd.bind (hF _ (List.getElem_mem hi)) fun b hb => Bd.ite (fun hbt => ?_) (fun hbf => ?_)))
  ·exact Bd.done (.inr ⟨i, by rw [List.getElem?_eq_getElem hi, hb.1 hbt], rfl⟩)
  ·refine Bd.again ⟨by rw [wrap_next (by omega)], ?_⟩
   rw [List.take_add_one, List.getElem?_eq_getElem hi]
   intro hm
   rcases List.mem_append.1 hm with h | h
   ·exact hI h
   ·have : x = l[i] := by simpa using h
    rw [hb.2 this] at hbf; cases hbf
 ·rintro s ⟨rfl, hI⟩
  unfold ref04_place.L1; dsimp only
  refine Bd.no (decide_eq_false (by omega)) (Bd.done (.inl ⟨rfl, ?_⟩))
  rwa [List.take_length] at hI
 ·rintro q (⟨rfl, h⟩ | ⟨i, hi, rfl⟩)
  ·exact Tt.pure (.inl ⟨rfl, h⟩)
  ·exact Tt.pure (.inr ⟨i, hi, rfl⟩)
end Go.Bk
end
noncomputable section
namespace Go.Bk
open Go Go.AM
set_option linter.unusedVariables false
theorem AlOk.rank {al : List Int} (h : AlOk al) {f : Nat} (hf : f < al.length) : ∃ r : Nat, r ≤ 3 ∧ al[f] = (r : Int) := by
 obtain ⟨h0, h3⟩ := h.2 f hf
 exact ⟨al[f].toNat, by omega, by omega⟩
def Closed (St : Nat → Int × List Int × List Rule × Int × List (List Int) → Option (List Int)) (al : List Int) (S : Int) (fin : List Int) (rs : List Rule) (sets : List (List Int)) (f : Nat) : Prop :=
 ∀ (hf : f < al.length) (r : Nat), al[f] = (r : Int) → ∀ l, l ∈ lsts sets.length r → ∀ to, Val (fun n => St n (S, fin, rs, (f : Int), pickV sets l)) to → to ≠ [] → to ∈ sets
def StepOk (St : Nat → Int × List Int × List Rule × Int × List (List Int) → Option (List Int)) (al : List Int) (S : Int) (fin : List Int) (rs : List Rule) : Prop :=
 ∀ (f : Nat) (hf : f < al.length) (qs : List (List Int)), ((qs.length : Nat) : Int) = al[f] → (∀ l ∈ qs, l.length ≤ 1000000) → Sp St (S, fin, rs, (f : Int), qs) (fun l => l.length ≤ 1000000)
theorem pickV_len {sets : List (List Int)} (hs : ∀ s ∈ sets, s.length ≤ 1000000) (l : List Int) : ∀ x ∈ pickV sets l, x.length ≤ 1000000 := by
 intro x hx
 obtain ⟨q, _, rfl⟩ := List.mem_map.1 hx
 rw [List.getD_eq_getElem?_getD]
 cases h : sets[q.toNat]? with
 | none => simp
 | some s => exact hs s (List.mem_of_getElem? h)
section
variable {St : Nat → Int × List Int × List Rule × Int × List (List Int) → Option (List Int)} {Ls : Nat → Int × Int → Option (List (List Int))} {Pk : Nat → List (List Int) × List Int → Option (List (List Int))} {Pl : Nat → List (List Int) × List Int → Option Int}
theorem tt_Sets (al : List Int) (S : Int) (fin : List Int) (rs : List Rule) (hal : AlOk al) (hSt : StepOk St al S fin rs) (hLs : ∀ N r : Nat, N ≤ 301 → r ≤ 3 → Sp Ls ((N : Int), (r : Int)) (fun l => l = lsts N r))
 (hPk : ∀ (sets : List (List Int)) (l : List Int), l.length ≤ 1000 → (∀ q ∈ l, StOk ((sets.length : Nat) : Int) q) → Sp Pk (sets, l) (fun r => r = pickV sets l))
 (hPl : ∀ (l : List (List Int)) (x : List Int), l.length ≤ 1000000000 → x.length ≤ 1000000 → Sp Pl (l, x) (fun p => (p = -1 ∧ x ∉ l) ∨ ∃ i : Nat, l[i]? = some x ∧ p = (i : Int))) :
 Sp (fun n => ref04_Sets.P (St n) (Ls n) (Pk n) (Pl n) n) (al, S, fin, rs) (fun t => t.2 = true → t.1.length ≤ 300 ∧ (∀ s ∈ t.1, s.length ≤ 1000000) ∧ ∀ f, Closed St al S fin rs t.1 f) := by
 have hal12 := hal.1
 show Tt (fun n => ref04_Sets.P (St n) (Ls n) (Pk n) (Pl n) n (al, S, fin, rs)) _
 unfold ref04_Sets.P; dsimp only
 refine Tt.bind (R := fun q => ∃ t : List (List Int) × Bool, (t.2 = true → t.1.length ≤ 300 ∧ (∀ s ∈ t.1, s.length ≤ 1000000) ∧ ∀ f, Closed St al S fin rs t.1 f) ∧ q = Sum.inr t)
  (Tt.loop (Lp.measure (fun s => ∃ sets : List (List Int), sets.length ≤ 300 ∧ (∀ x ∈ sets, x.length ≤ 1000000) ∧ s = (al, S, fin, rs, sets)) (fun s => 301 - s.2.2.2.2.length) ?_ ⟨[], by simp, by simp, rfl⟩)) ?_
 ·rintro s ⟨sets, hs1, hs2, rfl⟩
  unfold ref04_Sets.L3; dsimp only
  refine Bd.bind (R := fun t => ∃ ex : List (List Int), ex.length ≤ al.length * 27270901 ∧ (∀ x ∈ sets ++ ex, x.length ≤ 1000000) ∧ (ex = [] → ∀ f, Closed St al S fin rs sets f) ∧ t = (al, S, fin, rs, sets ++ ex, ((sets.length : Nat) : Int)))
   (Tt.loop (Lp.count al.length (fun i s => ∃ ex : List (List Int), ex.length ≤ i * 27270901 ∧ (∀ x ∈ sets ++ ex, x.length ≤ 1000000) ∧ (ex = [] → ∀ f, f < i → Closed St al S fin rs sets f) ∧
    s = (al, S, fin, rs, sets ++ ex, ((sets.length : Nat) : Int), al, ((al.length : Nat) : Int), (i : Int))) ?_ ?_ ⟨[], by simp, by simpa using hs2, fun _ f hf => absurd hf (by omega), by simp⟩)) ?_
  ·rintro i s hi ⟨ex, he1, he2, he3, rfl⟩
   unfold ref04_Sets.L2; dsimp only
   obtain ⟨r, hr3, hri⟩ := hal.rank hi
   have hsm := pow_small (n := sets.length) (r := r) (by omega) hr3
   have hll := lsts_length sets.length r
   have hbig : i * 27270901 ≤ 12 * 27270901 := Nat.mul_le_mul_right _ (by omega)
   refine Bd.yes (dec_true (by omega)) (Bd.nth hi ?_)
   rw [hri]
   refine Bd.bind (hLs sets.length r (by omega) hr3) fun l6 hl6 => ?_
   subst hl6
   refine Bd.bind (R := fun t => ∃ ex' : List (List Int), ex'.length ≤ (i + 1) * 27270901 ∧ (∀ x ∈ sets ++ ex', x.length ≤ 1000000) ∧ (ex' = [] → ex = [] ∧ Closed St al S fin rs sets i) ∧
    t = (al, S, fin, rs, sets ++ ex', ((sets.length : Nat) : Int), al, ((al.length : Nat) : Int), (i : Int)))
    (Tt.loop (Lp.count (lsts sets.length r).length (fun j s => ∃ ex' : List (List Int), ex'.length ≤ ex.length + j ∧ (∀ x ∈ sets ++ ex', x.length ≤ 1000000) ∧
     (ex' = [] → ex = [] ∧ ∀ l, l ∈ (lsts sets.length r).take j → ∀ to, Val (fun n => St n (S, fin, rs, (i : Int), pickV sets l)) to → to ≠ [] → to ∈ sets) ∧
     s = (al, S, fin, rs, sets ++ ex', ((sets.length : Nat) : Int), (i : Int), al, ((al.length : Nat) : Int), (i : Int), lsts sets.length r, (((lsts sets.length r).length : Nat) : Int), (j : Int))) ?_ ?_ ⟨ex, by omega, he2, fun h => ⟨h, by simp⟩, rfl⟩)) ?_
   ·rintro j s hj ⟨ex', hx1, hx2, hx3, rfl⟩
    unfold ref04_Sets.L1; dsimp only
    refine Bd.yes (dec_true (by omega)) (Bd.chk (rng (by omega) (by omega)) ?_)
    rw [Int.toNat_natCast]
    refine Bd.at hj fun l hlm hlj => Bd.chk (by simp; omega) ?_
    have etake : List.drop (Int.toNat 0) (List.take (Int.toNat ((sets.length : Nat) : Int)) (sets ++ ex')) = sets := by simp
    rw [etake]
    obtain ⟨hlr, hlq⟩ := mem_lsts.1 hlm
    refine Bd.bind (hPk sets l (by omega) hlq) fun qs hqs => ?_
    subst hqs
    have hqsl : (pickV sets l).length = l.length := by simp [pickV]
    refine Bd.bind (Tt.val (hSt i hi (pickV sets l) (by rw [hqsl, hri, hlr]) (pickV_len hs2 l))) fun to hto => ?_
    obtain ⟨hto1, hto2⟩ := hto
    have hfull : (sets ++ ex').length ≤ 1000000000 := by
     rw [List.length_append]; omega
    refine Bd.bind (R := fun t => ∃ b : Bool, (b = false → to = [] ∨ to ∈ sets ++ ex') ∧ t = (al, S, fin, rs, sets ++ ex', ((sets.length : Nat) : Int), (i : Int), to, al, ((al.length : Nat) : Int), (i : Int), lsts sets.length r, (((lsts sets.length r).length : Nat) : Int), (j : Int), b)) ?_ ?_
    ·refine Tt.ite (fun _ => Tt.bind (hPl (sets ++ ex') to hfull hto1) fun p hp => Tt.pure ⟨_, fun hb => .inr ?_, rfl⟩) (fun hb => Tt.pure ⟨false, fun _ => .inl ?_, rfl⟩)
     ·rcases hp with ⟨rfl, _⟩ | ⟨q, hq, rfl⟩
      ·simp at hb
      ·exact List.mem_of_getElem? hq
     ·have := dec_not hb
      exact List.eq_nil_of_length_eq_zero (by omega)
    ·rintro _ ⟨b, hb, rfl⟩
     dsimp only
     refine Bd.bindIte (fun hbt => ?_) (fun hbf => ?_)
     ·refine Bd.bindChk (lenOk (by simp; simp at hfull; omega)) (Bd.bindPure (Bd.again ⟨ex' ++ [to], by simp; omega, fun x hx => ?_, fun h => by simp at h, ?_⟩))
      ·rw [← List.append_assoc] at hx
       rcases List.mem_append.1 hx with h | h
       ·exact hx2 x h
       ·rw [List.mem_singleton.1 h]; exact hto1
      ·rw [wrap_next (by omega), ← List.append_assoc]; rfl
     ·refine Bd.bindPure (Bd.again ⟨ex', by omega, hx2, fun h => ⟨(hx3 h).1, fun l' hl' to' hv hne => ?_⟩, by rw [wrap_next (by omega)]⟩)
      rw [List.take_add_one, hlj] at hl'
      rcases List.mem_append.1 hl' with h1 | h1
      ·exact (hx3 h).2 l' h1 to' hv hne
      ·have : l' = l := by simpa using h1
       subst this
       have := Val.uniq hv hto2
       subst this
       rcases hb hbf with h2 | h2
       ·exact absurd h2 hne
       ·rw [h, List.append_nil] at h2; exact h2
   ·rintro s ⟨ex', hx1, hx2, hx3, rfl⟩
    unfold ref04_Sets.L1; dsimp only
    refine Bd.no (decide_eq_false (by omega)) (Bd.done ⟨ex', by omega, hx2, fun h => ⟨(hx3 h).1, fun _ r' hr' l hl to hv hne => ?_⟩, rfl⟩)
    have : r' = r := by rw [hri] at hr'; omega
    subst this
    exact (hx3 h).2 l (by rw [List.take_length]; exact hl) to hv hne
   ·rintro _ ⟨ex', hx1, hx2, hx3, rfl⟩
    dsimp only
    refine Bd.again ⟨ex', hx1, hx2, fun h f hf => ?_, by rw [wrap_next (by omega)]⟩
    rcases Nat.lt_or_ge f i with h2 | h2
    ·exact he3 (hx3 h).1 f h2
    ·obtain rfl : f = i := by omega
     exact (hx3 h).2
  ·rintro s ⟨ex, he1, he2, he3, rfl⟩
   unfold ref04_Sets.L2; dsimp only
   refine Bd.no (decide_eq_false (by omega)) (Bd.done ⟨ex, he1, he2, fun h f => ?_, rfl⟩)
   by_cases hf : f < al.length
   ·exact he3 h f hf
   ·intro h'; exact absurd h' hf
  ·rintro _ ⟨ex, he1, he2, he3, rfl⟩
   dsimp only
   refine Bd.ite (fun _ => Bd.done ⟨_, fun h => (by cases h), rfl⟩) (fun h300 => Bd.ite (fun heq => ?_) (fun hne => ?_))
   ·have h3 := dec_not h300
    have h4 := dec_of heq
    have hex : ex = [] := List.eq_nil_of_length_eq_zero (by simp at h4; omega)
    subst hex
    rw [List.append_nil] at he2 h3 ⊢
    exact Bd.done ⟨(sets, true), fun _ => ⟨by omega, he2, he3 rfl⟩, rfl⟩
   ·have h3 := dec_not h300
    have h4 := dec_not hne
    refine Bd.again ⟨⟨sets ++ ex, by omega, he2, rfl⟩, ?_⟩
    dsimp only
    simp only [List.length_append] at h3 h4 ⊢
    omega
 ·rintro _ ⟨t, ht, rfl⟩
  exact Tt.pure ht
def RuleD (al : List Int) (m : Nat) (r : Rule) : Prop := ∃ (f : Nat) (a : Nat), al[f]? = some (a : Int) ∧ r.1 = (f : Int) ∧ r.2.1 ∈ lsts m a ∧ StOk (m : Int) r.2.2
theorem tt_Subset {Me : Nat → List Int × List Int → Option Bool} {Va : Nat → List Int × Int × List Int × List Rule → Option Bool} {Se : Nat → List Int × Int × List Int × List Rule → Option (List (List Int) × Bool)}
 (al : List Int) (S : Int) (fin : List Int) (rs : List Rule) (hfin : fin.length ≤ 1000000000) (hVa : Sp Va (al, S, fin, rs) (fun r => r = true ↔ ValidA al (S, fin, rs)))
 (hSe : ValidA al (S, fin, rs) → Sp Se (al, S, fin, rs) (fun t => t.2 = true → t.1.length ≤ 300 ∧ (∀ s ∈ t.1, s.length ≤ 1000000) ∧ ∀ f, Closed St al S fin rs t.1 f))
 (hMe : ∀ l1 l2 : List Int, l1.length ≤ 1000000 → l2.length ≤ 1000000000 → Sp Me (l1, l2) (fun _ => True))
 (hSt : ValidA al (S, fin, rs) → StepOk St al S fin rs) (hLs : ∀ N r : Nat, N ≤ 301 → r ≤ 3 → Sp Ls ((N : Int), (r : Int)) (fun l => l = lsts N r))
 (hPk : ∀ (sets : List (List Int)) (l : List Int), l.length ≤ 1000 → (∀ q ∈ l, StOk ((sets.length : Nat) : Int) q) → Sp Pk (sets, l) (fun r => r = pickV sets l))
 (hPl : ∀ (l : List (List Int)) (x : List Int), l.length ≤ 1000000000 → x.length ≤ 1000000 → Sp Pl (l, x) (fun p => (p = -1 ∧ x ∉ l) ∨ ∃ i : Nat, l[i]? = some x ∧ p = (i : Int))) :
 Sp (fun n => ref04_Subset.P (Me n) (St n) (Va n) (Ls n) (Se n) (Pk n) (Pl n) n) (al, S, fin, rs) (fun t => t.2.2.2.2 = 0 → AlOk al ∧ ∃ m : Nat, m ≤ 300 ∧ t.1 = (m : Int) ∧ t.2.1.length ≤ 300 ∧ (∀ q ∈ t.2.1, StOk (m : Int) q) ∧ t.2.2.1.length ≤ 20000 ∧ ∀ r ∈ t.2.2.1, RuleD al m r) := by
 show Tt (fun n => ref04_Subset.P (Me n) (St n) (Va n) (Ls n) (Se n) (Pk n) (Pl n) n (al, S, fin, rs)) _
 unfold ref04_Subset.P; dsimp only
 refine Tt.bind hVa fun b hb => Tt.ite (fun _ => Tt.pure fun h => by simp at h) (fun hbf => ?_)
 have hv : ValidA al (S, fin, rs) := hb.1 (by simpa using hbf)
 have hal := hv.1
 have hal12 := hal.1
 refine Tt.bind (hSe hv) fun t ht => Tt.ite (fun _ => Tt.pure fun h => by simp at h) (fun htf => ?_)
 obtain ⟨sets, tb⟩ := t
 obtain ⟨h1, h2, h3⟩ := ht (by simpa using htf)
 simp only at h1 h2 h3 ⊢
 refine Tt.bind (R := fun t => ∃ fin' : List Int, fin'.length ≤ sets.length ∧ (∀ q ∈ fin', StOk ((sets.length : Nat) : Int) q) ∧ t = (al, S, fin, rs, (0 : Int), ([] : List Int), ([] : List Rule), sets, ((sets.length : Nat) : Int), fin', ([] : List Rule)))
  (Tt.loop (Lp.count sets.length (fun i s => ∃ fin' : List Int, fin'.length ≤ i ∧ (∀ q ∈ fin', StOk ((sets.length : Nat) : Int) q) ∧ s = (al, S, fin, rs, (0 : Int), ([] : List Int), ([] : List Rule), sets, ((sets.length : Nat) : Int), fin', ([] : List Rule), sets, ((sets.length : Nat) : Int), (i : Int))) ?_ ?_ ⟨[], by simp, by simp, rfl⟩)) ?_
 ·rintro i s hi ⟨fin', hf, hfq, rfl⟩
  unfold ref04_Subset.L1; dsimp only
  refine Bd.yes (dec_true (by omega)) (Bd.nth hi (Bd.bind (hMe _ _ (h2 _ (List.getElem_mem hi)) hfin) fun b _ => Bd.bindIte (fun _ => ?_) (fun _ => ?_)))
  ·refine Bd.bindChk (lenOk (by simp; omega)) (Bd.bindPure (Bd.again ⟨fin' ++ [(i : Int)], by simp; omega, fun q hq => ?_, by rw [wrap_next (by omega)]; rfl⟩))
   rcases List.mem_append.1 hq with h | h
   ·exact hfq q h
   ·rw [List.mem_singleton.1 h]; exact ⟨by omega, by omega⟩
  ·exact Bd.bindPure (Bd.again ⟨fin', by omega, hfq, by rw [wrap_next (by omega)]⟩)
 ·rintro s ⟨fin', hf, hfq, rfl⟩
  unfold ref04_Subset.L1; dsimp only
  exact Bd.no (decide_eq_false (by omega)) (Bd.done ⟨fin', hf, hfq, rfl⟩)
 rintro _ ⟨fin', hf, hfq, rfl⟩
 dsimp only
 refine Tt.bind (R := fun t => ∃ out : List Rule, (∀ r ∈ out, RuleD al sets.length r) ∧ t = ((0 : Int), ([] : List Int), ([] : List Rule), sets, ((sets.length : Nat) : Int), fin', out))
  (Tt.loop (Lp.count al.length (fun i s => ∃ out : List Rule, out.length ≤ i * 27270901 ∧ (∀ r ∈ out, RuleD al sets.length r) ∧ s = (S, fin, rs, (0 : Int), ([] : List Int), ([] : List Rule), sets, ((sets.length : Nat) : Int), fin', out, al, ((al.length : Nat) : Int), (i : Int))) ?_ ?_ ⟨[], by simp, by simp, rfl⟩)) ?_
 ·rintro i s hi ⟨out, ho1, ho2, rfl⟩
  unfold ref04_Subset.L3; dsimp only
  obtain ⟨r, hr3, hri⟩ := hal.rank hi
  have hsm := pow_small (n := sets.length) (r := r) (by omega) hr3
  have hll := lsts_length sets.length r
  have hbig : i * 27270901 ≤ 12 * 27270901 := Nat.mul_le_mul_right _ (by omega)
  refine Bd.yes (dec_true (by omega)) (Bd.nth hi ?_)
  rw [hri]
  refine Bd.bind (hLs sets.length r (by omega) hr3) fun l6 hl6 => ?_
  subst hl6
  refine Bd.bind (R := fun t => ∃ out' : List Rule, out'.length ≤ (i + 1) * 27270901 ∧ (∀ r ∈ out', RuleD al sets.length r) ∧ t = (S, fin, rs, (0 : Int), ([] : List Int), ([] : List Rule), sets, ((sets.length : Nat) : Int), fin', out', al, ((al.length : Nat) : Int), (i : Int)))
   (Tt.loop (Lp.count (lsts sets.length r).length (fun j s => ∃ out' : List Rule, out'.length ≤ out.length + j ∧ (∀ r ∈ out', RuleD al sets.length r) ∧
    s = (S, fin, rs, (0 : Int), ([] : List Int), ([] : List Rule), sets, ((sets.length : Nat) : Int), fin', out', (i : Int), al, ((al.length : Nat) : Int), (i : Int), lsts sets.length r, (((lsts sets.length r).length : Nat) : Int), (j : Int))) ?_ ?_ ⟨out, by omega, ho2, rfl⟩)) ?_
  ·rintro j s hj ⟨out', hx1, hx2, rfl⟩
   unfold ref04_Subset.L2; dsimp only
   refine Bd.yes (dec_true (by omega)) (Bd.chk (rng (by omega) (by omega)) ?_)
   rw [Int.toNat_natCast]
   refine Bd.at hj fun l hlm hlj => ?_
   obtain ⟨hlr, hlq⟩ := mem_lsts.1 hlm
   refine Bd.bind (hPk sets l (by omega) hlq) fun qs hqs => ?_
   subst hqs
   have hqsl : (pickV sets l).length = l.length := by simp [pickV]
   refine Bd.bind (Tt.val (hSt hv i hi (pickV sets l) (by rw [hqsl, hri, hlr]) (pickV_len h2 l))) fun to hto => ?_
   obtain ⟨hto1, hto2⟩ := hto
   refine Bd.bindIte (fun hne => ?_) (fun _ => ?_)
   ·have hne := dec_of hne
    have hmem : to ∈ sets := h3 i hi r hri l hlm to hto2 (by rintro rfl; simp at hne)
    refine Bd.bindBind (Bd.bind (hPl sets to (by omega) hto1) fun p hp => ?_)
    refine Bd.bindChk (lenOk (by simp; omega)) (Bd.bindPure (Bd.again ⟨out' ++ [((i : Int), l, p)], by simp; omega, fun r' hr' => ?_, by rw [wrap_next (by omega)]; rfl⟩))
    rcases List.mem_append.1 hr' with h | h
    ·exact hx2 r' h
    ·rw [List.mem_singleton.1 h]
     rcases hp with ⟨_, hn⟩ | ⟨q, hq, rfl⟩
     ·exact absurd hmem hn
     ·have hql : q < sets.length := by
       rcases Nat.lt_or_ge q sets.length with h | h
       ·exact h
       ·simp [List.getElem?_eq_none h] at hq
      exact ⟨i, r, by rw [List.getElem?_eq_getElem hi, hri], rfl, hlm, by simp only; omega, by simp only; omega⟩
   ·exact Bd.bindPure (Bd.again ⟨out', by omega, hx2, by rw [wrap_next (by omega)]⟩)
  ·rintro s ⟨out', hx1, hx2, rfl⟩
   unfold ref04_Subset.L2; dsimp only
   exact Bd.no (decide_eq_false (by omega)) (Bd.done ⟨out', by omega, hx2, rfl⟩)
  ·rintro _ ⟨out', hx1, hx2, rfl⟩
   dsimp only
   exact Bd.again ⟨out', hx1, hx2, by rw [wrap_next (by omega)]⟩
 ·rintro s ⟨out, ho1, ho2, rfl⟩
  unfold ref04_Subset.L3; dsimp only
  exact Bd.no (decide_eq_false (by omega)) (Bd.done ⟨out, ho2, rfl⟩)
 rintro _ ⟨out, ho2, rfl⟩
 dsimp only
 refine Tt.ite (fun _ => Tt.pure fun h => by simp at h) (fun hle => Tt.pure fun _ => ⟨hal, sets.length, h1, rfl, by simp only; omega, hfq, ?_, ho2⟩)
 have := dec_not hle
 simp only; omega
theorem tt_Over {Fu : Nat → List Int × Int → Option Int} (al : List Int) (m : Int) (hFu : Sp Fu (al, m) (fun _ => True)) : Sp (fun n => ref04_Over.P (Fu n) n) (al, m) (fun _ => True) := by
 show Tt (fun n => ref04_Over.P (Fu n) n (al, m)) _
 unfold ref04_Over.P; dsimp only
 refine Tt.bind (R := fun _ => True) (Tt.ite (fun _ => Tt.pure trivial) (fun _ => Tt.bind hFu fun _ _ => Tt.pure trivial)) fun r _ => Tt.pure trivial
theorem lsts_mono {m r : Nat} {l : List Int} (h : l ∈ lsts m r) : l ∈ lsts (m + 1) r := by
 obtain ⟨h1, h2⟩ := mem_lsts.1 h
 exact mem_lsts.2 ⟨h1, fun q hq => by obtain ⟨a, b⟩ := h2 q hq; exact ⟨a, by omega⟩⟩
def Compl (al : List Int) (m : Nat) (rs : List Rule) : Prop := ∀ (f a : Nat), al[f]? = some (a : Int) → ∀ l, l ∈ lsts m a → ∃ r ∈ rs, r.1 = (f : Int) ∧ r.2.1 = l
theorem tt_Filled {Li : Nat → List Int × List Int → Option Bool} (al : List Int) (m : Nat) (fin : List Int) (rs : List Rule) (hal : AlOk al) (hm : m ≤ 300) (hfin : fin.length ≤ 300) (hrl : rs.length ≤ 20000) (hr : ∀ r ∈ rs, RuleD al m r)
 (hLi : ∀ x y : List Int, x.length ≤ 1000 → Sp Li (x, y) (fun r => r = true ↔ x = y)) (hLs : ∀ N r : Nat, N ≤ 301 → r ≤ 3 → Sp Ls ((N : Int), (r : Int)) (fun l => l = lsts N r)) :
 Sp (fun n => ref04_Filled.P (Li n) (Ls n) n) (al, (m : Int), fin, rs) (fun t => t.1 = ((m + 1 : Nat) : Int) ∧ t.2.1 = fin ∧ t.2.2.length ≤ 1000000000 ∧ (∀ r ∈ t.2.2, RuleD al (m + 1) r) ∧ Compl al (m + 1) t.2.2) := by
 have hal12 := hal.1
 show Tt (fun n => ref04_Filled.P (Li n) (Ls n) n (al, (m : Int), fin, rs)) _
 unfold ref04_Filled.P; dsimp only
 have hw : IntKind.wrap .i64 ((m : Int) + 1) = ((m + 1 : Nat) : Int) := wrap_next (by omega)
 have hrank : ∀ r ∈ rs, r.2.1.length ≤ 3 := fun r hr' => by
  obtain ⟨f, a, h1, _, h2, _⟩ := hr r hr'
  obtain ⟨h3, h4⟩ := mem_lsts.1 h2
  obtain ⟨hf, he⟩ := List.getElem?_eq_some_iff.1 h1
  obtain ⟨a', ha', e'⟩ := hal.rank hf
  omega
 refine Tt.chk (lenOk (by simp; omega)) (Tt.chk (lenOk (by simp; omega)) ?_)
 rw [hw]
 refine Tt.bind (R := fun t => ∃ out : List Rule, out.length ≤ 1000000000 ∧ (∀ r ∈ out, RuleD al (m + 1) r) ∧ Compl al (m + 1) out ∧ t = ((0 : Int), ([] : List Int), ([] : List Rule), ((m + 1 : Nat) : Int), fin, out))
  (Tt.loop (Lp.count al.length (fun i s => ∃ out : List Rule, out.length ≤ 20000 + i * 27270901 ∧ (∀ r ∈ rs, r ∈ out) ∧ (∀ r ∈ out, RuleD al (m + 1) r) ∧
   (∀ (f a : Nat), f < i → al[f]? = some (a : Int) → ∀ l, l ∈ lsts (m + 1) a → ∃ r ∈ out, r.1 = (f : Int) ∧ r.2.1 = l) ∧ s = ((m : Int), fin, rs, (0 : Int), ([] : List Int), ([] : List Rule), ((m + 1 : Nat) : Int), fin, out, al, ((al.length : Nat) : Int), (i : Int))) ?_ ?_ ?_)) ?_
 ·rintro i s hi ⟨out, ho1, ho2, ho3, ho4, rfl⟩
  unfold ref04_Filled.L3; dsimp only
  obtain ⟨r, hr3, hri⟩ := hal.rank hi
  have hsm := pow_small (n := m + 1) (r := r) (by omega) hr3
  have hll := lsts_length (m + 1) r
  have hbig : i * 27270901 ≤ 12 * 27270901 := Nat.mul_le_mul_right _ (by omega)
  refine Bd.yes (dec_true (by omega)) (Bd.nth hi ?_)
  rw [hri, hw]
  refine Bd.bind (hLs (m + 1) r (by omega) hr3) fun l6 hl6 => ?_
  subst hl6
  refine Bd.bind (R := fun t => ∃ out' : List Rule, out'.length ≤ 20000 + (i + 1) * 27270901 ∧ (∀ r ∈ out, r ∈ out') ∧ (∀ r ∈ out', RuleD al (m + 1) r) ∧ (∀ l, l ∈ lsts (m + 1) r → ∃ r ∈ out', r.1 = (i : Int) ∧ r.2.1 = l) ∧
   t = ((m : Int), fin, rs, (0 : Int), ([] : List Int), ([] : List Rule), ((m + 1 : Nat) : Int), fin, out', al, ((al.length : Nat) : Int), (i : Int)))
   (Tt.loop (Lp.count (lsts (m + 1) r).length (fun j s => ∃ out' : List Rule, out'.length ≤ out.length + j ∧ (∀ r ∈ out, r ∈ out') ∧ (∀ r ∈ out', RuleD al (m + 1) r) ∧ (∀ l, l ∈ (lsts (m + 1) r).take j → ∃ r ∈ out', r.1 = (i : Int) ∧ r.2.1 = l) ∧
    s = ((m : Int), fin, rs, (0 : Int), ([] : List Int), ([] : List Rule), ((m + 1 : Nat) : Int), fin, out', (i : Int), al, ((al.length : Nat) : Int), (i : Int), lsts (m + 1) r, (((lsts (m + 1) r).length : Nat) : Int), (j : Int))) ?_ ?_ ⟨out, by omega, fun r h => h, ho3, by simp, rfl⟩)) ?_
  ·rintro j s hj ⟨out', hx1, hx2, hx3, hx4, rfl⟩
   unfold ref04_Filled.L2; dsimp only
   refine Bd.yes (dec_true (by omega)) (Bd.chk (rng (by omega) (by omega)) ?_)
   rw [Int.toNat_natCast]
   refine Bd.at hj fun l hlm hlj => ?_
   refine Bd.bind (R := fun t => ∃ b : Bool, (b = false → ∃ r ∈ rs, r.1 = (i : Int) ∧ r.2.1 = l) ∧ t = ((m : Int), fin, rs, (0 : Int), ([] : List Int), ([] : List Rule), ((m + 1 : Nat) : Int), fin, out', (i : Int), l, b, al, ((al.length : Nat) : Int), (i : Int), lsts (m + 1) r, (((lsts (m + 1) r).length : Nat) : Int), (j : Int)))
    (Tt.loop (Lp.count rs.length (fun k s => ∃ b : Bool, (b = false → ∃ r ∈ rs, r.1 = (i : Int) ∧ r.2.1 = l) ∧ s = ((m : Int), fin, rs, (0 : Int), ([] : List Int), ([] : List Rule), ((m + 1 : Nat) : Int), fin, out', (i : Int), l, b, al, ((al.length : Nat) : Int), (i : Int), lsts (m + 1) r, (((lsts (m + 1) r).length : Nat) : Int), (j : Int), rs, ((rs.length : Nat) : Int), (k : Int))) ?_ ?_ ⟨true, fun h => (by cases h), rfl⟩)) ?_
   ·rintro k s hk ⟨b, hb, rfl⟩
    unfold ref04_Filled.L1; dsimp only
    refine Bd.yes (dec_true (by omega)) (Bd.nth hk (Bd.bindIte (fun _ => Bd.bindIte (fun hsym => ?_) (fun _ => ?_)) (fun hbf => ?_)))
    ·refine Bd.bindBind (Bd.bind (hLi _ _ (by have := hrank _ (List.getElem_mem hk); omega)) fun c hc => Bd.bindPure (Bd.again ⟨!c, fun h => ?_, by rw [wrap_next (by omega)]⟩))
     exact ⟨rs[k], List.getElem_mem hk, dec_of hsym, hc.1 (by simpa using h)⟩
    ·exact Bd.bindPure (Bd.again ⟨!false, fun h => (by cases h), by rw [wrap_next (by omega)]⟩)
    ·exact Bd.bindPure (Bd.again ⟨false, fun _ => hb hbf, by rw [wrap_next (by omega)]⟩)
   ·rintro s ⟨b, hb, rfl⟩
    unfold ref04_Filled.L1; dsimp only
    exact Bd.no (decide_eq_false (by omega)) (Bd.done ⟨b, hb, rfl⟩)
   ·rintro _ ⟨b, hb, rfl⟩
    dsimp only
    have hcov : ∀ out'' : List Rule, (∀ r ∈ out', r ∈ out'') → (∃ r ∈ out'', r.1 = (i : Int) ∧ r.2.1 = l) → ∀ l', l' ∈ (lsts (m + 1) r).take (j + 1) → ∃ r ∈ out'', r.1 = (i : Int) ∧ r.2.1 = l' := by
     intro out'' hs he l' hl'
     rw [List.take_add_one, hlj] at hl'
     rcases List.mem_append.1 hl' with h | h
     ·obtain ⟨r, h1, h2⟩ := hx4 l' h
      exact ⟨r, hs r h1, h2⟩
     ·have : l' = l := by simpa using h
      subst this; exact he
    refine Bd.bindIte (fun hbt => ?_) (fun hbf => ?_)
    ·refine Bd.bindChk (lenOk (by simp; omega)) (Bd.bindPure (Bd.again ⟨out' ++ [((i : Int), l, (m : Int))], by simp; omega, fun r h => List.mem_append_left _ (hx2 r h), fun r' hr' => ?_, hcov _ (fun r h => List.mem_append_left _ h) ⟨_, List.mem_append_right _ (List.mem_singleton.2 rfl), rfl, rfl⟩, by rw [wrap_next (by omega)]; rfl⟩))
     rcases List.mem_append.1 hr' with h | h
     ·exact hx3 r' h
     ·rw [List.mem_singleton.1 h]
      exact ⟨i, r, by rw [List.getElem?_eq_getElem hi, hri], rfl, hlm, by simp only; omega, by simp only; omega⟩
    ·obtain ⟨r0, h1, h2⟩ := hb hbf
     exact Bd.bindPure (Bd.again ⟨out', by omega, hx2, hx3, hcov _ (fun r h => h) ⟨r0, hx2 r0 (ho2 r0 h1), h2⟩, by rw [wrap_next (by omega)]⟩)
  ·rintro s ⟨out', hx1, hx2, hx3, hx4, rfl⟩
   unfold ref04_Filled.L2; dsimp only
   exact Bd.no (decide_eq_false (by omega)) (Bd.done ⟨out', by omega, hx2, hx3, fun l hl => hx4 l (by rw [List.take_length]; exact hl), rfl⟩)
  ·rintro _ ⟨out', hx1, hx2, hx3, hx4, rfl⟩
   dsimp only
   refine Bd.again ⟨out', hx1, fun r h => hx2 r (ho2 r h), hx3, fun f a hf ha l hl => ?_, by rw [wrap_next (by omega)]⟩
   rcases Nat.lt_or_ge f i with h2 | h2
   ·obtain ⟨r, h3, h4⟩ := ho4 f a h2 ha l hl
    exact ⟨r, hx2 r h3, h4⟩
   ·obtain rfl : f = i := by omega
    rw [List.getElem?_eq_getElem hi, hri] at ha
    have : a = r := by have := Option.some.inj ha; omega
    subst this
    exact hx4 l hl
 ·rintro s ⟨out, ho1, ho2, ho3, ho4, rfl⟩
  unfold ref04_Filled.L3; dsimp only
  refine Bd.no (decide_eq_false (by omega)) (Bd.done ⟨out, by have : al.length * 27270901 ≤ 12 * 27270901 := Nat.mul_le_mul_right _ (by omega); omega, ho3, fun f a ha l hl => ho4 f a ?_ ha l hl, rfl⟩)
  exact (List.getElem?_eq_some_iff.1 ha).1
 ·refine ⟨rs, by omega, fun r h => h, fun r h => ?_, fun f a hf => absurd hf (by omega), rfl⟩
  obtain ⟨f, a, h1, h2, h3, h4⟩ := hr r h
  exact ⟨f, a, h1, h2, lsts_mono h3, h4.1, by have := h4.2; omega⟩
 rintro _ ⟨out, ho1, ho3, ho4, rfl⟩
 exact Tt.pure ⟨rfl, rfl, ho1, ho3, ho4⟩
end
end Go.Bk
end
noncomputable section
namespace Go.Bk
open Go Go.AM
set_option linter.unusedVariables false
def idxF (m : Nat) (n : Nat) (l : List Int) : Nat := l.foldl (fun n s => n * m + s.toNat) n
def idxN (m : Nat) (l : List Int) : Nat := idxF m 0 l
theorem idxF_lt (m : Nat) : ∀ (l : List Int) (n : Nat), (∀ q ∈ l, StOk (m : Int) q) → idxF m n l < (n + 1) * m ^ l.length
 | [], n, _ => by simp [idxF]
 | s :: l, n, h => by
   have h1 := h s (List.mem_cons_self ..)
   have ih := idxF_lt m l (n * m + s.toNat) (fun q hq => h q (List.mem_cons_of_mem _ hq))
   have hs : n * m + s.toNat + 1 ≤ (n + 1) * m := by
    have := h1.1; have := h1.2
    rw [Nat.add_mul]; omega
   show idxF m (n * m + s.toNat) l < _
   calc idxF m (n * m + s.toNat) l < (n * m + s.toNat + 1) * m ^ l.length := ih
    _ ≤ (n + 1) * m * m ^ l.length := Nat.mul_le_mul_right _ hs
    _ = (n + 1) * m ^ (s :: l).length := by rw [List.length_cons, Nat.pow_succ, Nat.mul_assoc, Nat.mul_comm m]
theorem idxN_lt {m : Nat} {l : List Int} (h : ∀ q ∈ l, StOk (m : Int) q) : idxN m l < m ^ l.length := by
 have := idxF_lt m l 0 h
 simpa [idxN] using this
theorem idxN_take {m : Nat} {l : List Int} {i : Nat} (hi : i < l.length) : idxN m (l.take (i + 1)) = idxN m (l.take i) * m + l[i].toNat := by
 rw [List.take_add_one, List.getElem?_eq_getElem hi]
 simp only [idxN, idxF, List.foldl_append, Option.toList_some, List.foldl_cons, List.foldl_nil]
theorem sp_index (m : Nat) (tab : List (List Int)) (l : List Int) (hm : m ≤ 301) (hl : l.length ≤ 3) (hq : ∀ q ∈ l, StOk (m : Int) q) :
 Sp ref04_Table_index.P ((m : Int), tab, l) (fun v => v = ((idxN m l : Nat) : Int)) := by
 show Tt (fun n => ref04_Table_index.P n ((m : Int), tab, l)) _
 unfold ref04_Table_index.P; dsimp only
 refine Tt.bind (R := fun v => v = ((idxN m l : Nat) : Int))
  (Tt.loop (Lp.count l.length (fun i s => s = ((m : Int), tab, ((idxN m (l.take i) : Nat) : Int), l, ((l.length : Nat) : Int), (i : Int))) ?_ ?_ ?_)) ?_
 ·rintro i s hi rfl
  unfold ref04_Table_index.L1; dsimp only
  refine Bd.yes (dec_true (by omega)) (Bd.nth hi (Bd.again ?_))
  have h1 : idxN m (l.take i) < m ^ (l.take i).length := idxN_lt fun q h => hq q (List.mem_of_mem_take h)
  have h2 := pow_small (n := m) (r := (l.take i).length) hm (by simp; omega)
  have h3 := hq _ (List.getElem_mem hi)
  have h4 : idxN m (l.take i) * m ≤ 27270901 * 301 := Nat.mul_le_mul (by omega) hm
  have h5 : ((idxN m (l.take i) : Nat) : Int) * (m : Int) = ((idxN m (l.take i) * m : Nat) : Int) := by simp
  have h6 := h3.1; have h7 := h3.2
  have h9 : IntKind.wrap .i64 ((idxN m (l.take i) * m : Nat) : Int) = ((idxN m (l.take i) * m : Nat) : Int) := wrap_id _ (by omega) (by omega)
  rw [h5, h9, wrap_id (((idxN m (l.take i) * m : Nat) : Int) + l[i]) (by omega) (by omega), wrap_next (by omega), idxN_take hi]
  have h8 : ((idxN m (l.take i) * m : Nat) : Int) + l[i] = ((idxN m (l.take i) * m + l[i].toNat : Nat) : Int) := by omega
  rw [h8]
 ·rintro s rfl
  unfold ref04_Table_index.L1; dsimp only
  exact Bd.no (decide_eq_false (by omega)) (Bd.done (by rw [List.take_length]))
 ·simp [idxN, idxF]
 ·rintro r rfl
  exact Tt.pure rfl
def RowOk (m a : Nat) (row : List Int) : Prop := row.length = m ^ a ∧ ∀ v ∈ row, v = -1 ∨ StOk (m : Int) v
def TabOk (al : List Int) (m : Nat) (t : List (List Int)) : Prop := t.length = al.length ∧ ∀ (f a : Nat), al[f]? = some (a : Int) → ∃ row, t[f]? = some row ∧ RowOk m a row
def TabAt (m : Nat) (t : List (List Int)) (f : Nat) (l : List Int) : Prop := ∀ row v, t[f]? = some row → row[idxN m l]? = some v → 0 ≤ v
def TabFull (al : List Int) (m : Nat) (t : List (List Int)) : Prop := ∀ (f a : Nat), al[f]? = some (a : Int) → ∀ l, l ∈ lsts m a → TabAt m t f l
theorem rowAt_map {α : Type} (t : List α) (i : Nat) : rowAt? (t.map some) i = t[i]? := by
 unfold rowAt?
 rw [List.getElem?_map]
 cases t[i]? <;> rfl
theorem rowsAll_map {α : Type} : ∀ (t : List α), rowsAll (t.map some) = some t
 | [] => rfl
 | x :: l => by
   show (rowsAll (l.map some)).map (x :: ·) = _
   rw [rowsAll_map l]; rfl
theorem tt_Make {Po : Nat → Int × Int → Option Int} {Ix : Nat → Int × List (List Int) × List Int → Option Int} (al : List Int) (m : Nat) (fin : List Int) (rs : List Rule) (hal : AlOk al) (hm : m ≤ 301) (hrl : rs.length ≤ 1000000000) (hr : ∀ r ∈ rs, RuleD al m r)
 (hPo : ∀ m r : Nat, m ≤ 1000 → r ≤ 3 → Sp Po ((m : Int), (r : Int)) (fun p => p = ((m ^ r : Nat) : Int)))
 (hIx : ∀ (m : Nat) (tab : List (List Int)) (l : List Int), m ≤ 301 → l.length ≤ 3 → (∀ q ∈ l, StOk (m : Int) q) → Sp Ix ((m : Int), tab, l) (fun v => v = ((idxN m l : Nat) : Int))) :
 Sp (fun n => ref04_Make.P (Po n) (Ix n) n) (al, (m : Int), fin, rs) (fun t => t.1 = (m : Int) ∧ TabOk al m t.2 ∧ (Compl al m rs → TabFull al m t.2)) := by
 have hal12 := hal.1
 show Tt (fun n => ref04_Make.P (Po n) (Ix n) n (al, (m : Int), fin, rs)) _
 unfold ref04_Make.P; dsimp only
 refine Tt.bind (R := fun t => ∃ tab : List (List Int), TabOk al m tab ∧ t = ((m : Int), fin, rs, (0 : Int), ([] : List (List Int)), (m : Int), tab.map some))
  (Tt.loop (Lp.count al.length (fun i s => ∃ tab : List (List Int), tab.length = i ∧ (∀ (f a : Nat), f < i → al[f]? = some (a : Int) → ∃ row, tab[f]? = some row ∧ RowOk m a row) ∧
   s = ((m : Int), fin, rs, (0 : Int), ([] : List (List Int)), (m : Int), tab.map some, al, ((al.length : Nat) : Int), (i : Int))) ?_ ?_ ⟨[], rfl, fun f a hf => absurd hf (by omega), rfl⟩)) ?_
 ·rintro i s hi ⟨tab, ht1, ht2, rfl⟩
  unfold ref04_Make.L2; dsimp only
  obtain ⟨r, hr3, hri⟩ := hal.rank hi
  have hsm := pow_small (n := m) (r := r) (by omega) hr3
  refine Bd.yes (dec_true (by omega)) (Bd.nth hi ?_)
  rw [hri]
  refine Bd.bind (hPo m r (by omega) hr3) fun p hp => ?_
  subst hp
  refine Bd.chk (mk_rng (by omega) (by omega)) ?_
  rw [Int.toNat_natCast, List.length_replicate]
  refine Bd.bind (R := fun t => ∃ row : List Int, RowOk m r row ∧ t = ((m : Int), fin, rs, (0 : Int), ([] : List (List Int)), (m : Int), tab.map some, row, al, ((al.length : Nat) : Int), (i : Int)))
   (Tt.loop (Lp.count (m ^ r) (fun j s => ∃ row : List Int, row.length = m ^ r ∧ (∀ k, k < j → row[k]? = some (-1)) ∧ s = ((m : Int), fin, rs, (0 : Int), ([] : List (List Int)), (m : Int), tab.map some, row, al, ((al.length : Nat) : Int), (i : Int), ((m ^ r : Nat) : Int), (j : Int))) ?_ ?_ ⟨List.replicate (m ^ r) 0, by simp, fun k hk => absurd hk (by omega), rfl⟩)) ?_
  ·rintro j s hj ⟨row, hl, hv, rfl⟩
   unfold ref04_Make.L1; dsimp only
   refine Bd.yes (dec_true (by omega)) (Bd.chk (rng (by omega) (by omega)) ?_)
   rw [Int.toNat_natCast]
   refine Bd.at (by omega) fun e _ _ => Bd.again ⟨row.set j (-1), by simpa using hl, fun k hk => ?_, by rw [wrap_next (by omega)]⟩
   rw [List.getElem?_set]
   by_cases h : j = k
   ·subst h; simp [hl, hj]
   ·simp [h]; exact hv k (by omega)
  ·rintro s ⟨row, hl, hv, rfl⟩
   unfold ref04_Make.L1; dsimp only
   refine Bd.no (decide_eq_false (by omega)) (Bd.done ⟨row, ⟨hl, fun v hm' => .inl ?_⟩, rfl⟩)
   obtain ⟨k, hk, rfl⟩ := List.getElem_of_mem hm'
   have := hv k (by omega)
   rw [List.getElem?_eq_getElem hk] at this
   exact Option.some.inj this
  ·rintro _ ⟨row, hrow, rfl⟩
   dsimp only
   refine Bd.chk (lenOk (by simp; omega)) (Bd.again ⟨tab ++ [row], by simp [ht1], fun f a hf ha => ?_, by rw [wrap_next (by omega), List.map_append]; rfl⟩)
   rcases Nat.lt_or_ge f i with h | h
   ·obtain ⟨row', h1, h2⟩ := ht2 f a h ha
    exact ⟨row', by rw [List.getElem?_append_left (by omega)]; exact h1, h2⟩
   ·obtain rfl : f = i := by omega
    rw [List.getElem?_eq_getElem hi, hri] at ha
    have : a = r := by have := Option.some.inj ha; omega
    subst this
    exact ⟨row, by rw [List.getElem?_append_right (by omega)]; simp [ht1], hrow⟩
 ·rintro s ⟨tab, ht1, ht2, rfl⟩
  unfold ref04_Make.L2; dsimp only
  exact Bd.no (decide_eq_false (by omega)) (Bd.done ⟨tab, ⟨ht1, fun f a ha => ht2 f a (List.getElem?_eq_some_iff.1 ha).1 ha⟩, rfl⟩)
 rintro _ ⟨tab0, htab0, rfl⟩
 dsimp only
 refine Tt.bind (R := fun t => ∃ tab : List (List Int), TabOk al m tab ∧ (∀ r ∈ rs, ∀ f : Nat, r.1 = (f : Int) → TabAt m tab f r.2.1) ∧ t = ((0 : Int), ([] : List (List Int)), (m : Int), tab.map some))
  (Tt.loop (Lp.count rs.length (fun i s => ∃ tab : List (List Int), TabOk al m tab ∧ (∀ r ∈ rs.take i, ∀ f : Nat, r.1 = (f : Int) → TabAt m tab f r.2.1) ∧ s = ((0 : Int), ([] : List (List Int)), (m : Int), tab.map some, rs, ((rs.length : Nat) : Int), (i : Int))) ?_ ?_ ⟨tab0, htab0, by simp, rfl⟩)) ?_
 ·rintro i s hi ⟨tab, ht1, ht2, rfl⟩
  unfold ref04_Make.L3; dsimp only
  obtain ⟨f, a, hfa, hrf, hll, hto⟩ := hr _ (List.getElem_mem hi)
  obtain ⟨hl1, hl2⟩ := mem_lsts.1 hll
  have hfl : f < al.length := (List.getElem?_eq_some_iff.1 hfa).1
  have ha3 : a ≤ 3 := by
   obtain ⟨a', h1, h2⟩ := hal.rank hfl
   rw [List.getElem?_eq_getElem hfl, h2] at hfa
   have := Option.some.inj hfa; omega
  obtain ⟨row, hrow, hrl', hrv⟩ := ht1.2 f a hfa
  have hix := idxN_lt hl2
  have hsm := pow_small (n := m) (r := a) (by omega) ha3
  refine Bd.yes (dec_true (by omega)) (Bd.nth hi ?_)
  rw [hrf]
  refine Bd.chk (rng (by omega) (by rw [List.length_map, ht1.1]; omega)) ?_
  rw [Int.toNat_natCast, rowsAll_map, rowAt_map, hrow]
  simp only [Option.bind_some]
  refine Bd.bind (hIx m tab _ hm (by omega) hl2) fun v hv => ?_
  subst hv
  rw [hl1] at hix
  refine Bd.chk (rng (by omega) (by omega)) ?_
  rw [Int.toNat_natCast]
  refine Bd.at (by omega) fun e _ _ => Bd.again ⟨tab.set f (row.set (idxN m rs[i].2.1) rs[i].2.2), ⟨by simpa using ht1.1, fun f' a' hfa' => ?_⟩, fun r' hr' f' hf' row' v hrw hv => ?_, by rw [wrap_next (by omega), List.map_set]⟩
  ·by_cases h : f = f'
   ·subst h
    rw [hfa] at hfa'
    have : a' = a := by have := Option.some.inj hfa'; omega
    subst this
    refine ⟨row.set (idxN m rs[i].2.1) rs[i].2.2, ?_, by simpa using hrl', fun v hv => ?_⟩
    ·rw [List.getElem?_set_self (by rw [ht1.1]; exact hfl)]
    ·rcases List.mem_or_eq_of_mem_set hv with h | h
     ·exact hrv v h
     ·subst h; exact .inr hto
   ·obtain ⟨row', h1, h2⟩ := ht1.2 f' a' hfa'
    exact ⟨row', by rw [List.getElem?_set_ne h]; exact h1, h2⟩
  ·by_cases h : f = f'
   ·subst h
    rw [List.getElem?_set_self (by rw [ht1.1]; exact hfl)] at hrw
    have hrw := Option.some.inj hrw
    subst hrw
    by_cases h2 : idxN m rs[i].2.1 = idxN m r'.2.1
    ·rw [← h2, List.getElem?_set_self (by omega)] at hv
     have := Option.some.inj hv
     have := hto.1
     omega
    ·rw [List.getElem?_set_ne h2] at hv
     rw [List.take_add_one, List.getElem?_eq_getElem hi] at hr'
     rcases List.mem_append.1 hr' with h3 | h3
     ·exact ht2 r' h3 f hf' row v hrow hv
     ·have : r' = rs[i] := by simpa using h3
      subst this
      exact absurd rfl h2
   ·rw [List.getElem?_set_ne h] at hrw
    rw [List.take_add_one, List.getElem?_eq_getElem hi] at hr'
    rcases List.mem_append.1 hr' with h3 | h3
    ·exact ht2 r' h3 f' hf' row' v hrw hv
    ·have : r' = rs[i] := by simpa using h3
     subst this
     rw [hrf] at hf'
     exact absurd (by omega) h
 ·rintro s ⟨tab, ht1, ht2, rfl⟩
  unfold ref04_Make.L3; dsimp only
  exact Bd.no (decide_eq_false (by omega)) (Bd.done ⟨tab, ht1, fun r h => ht2 r (by rw [List.take_length]; exact h), rfl⟩)
 rintro _ ⟨tab, ht1, ht2, rfl⟩
 dsimp only
 rw [rowsAll_map]
 refine Tt.pure ⟨rfl, ht1, fun hc f a hfa l hl => ?_⟩
 obtain ⟨r, h1, h2, rfl⟩ := hc f a hfa l hl
 exact ht2 r h1 f h2
theorem tt_Next {Ix : Nat → Int × List (List Int) × List Int → Option Int} (al : List Int) (m : Nat) (tab : List (List Int)) (f a : Nat) (l : List Int) (hal : AlOk al) (hm : m ≤ 301) (ht : TabOk al m tab) (hfa : al[f]? = some (a : Int)) (hl : l ∈ lsts m a)
 (hIx : ∀ (m : Nat) (tab : List (List Int)) (l : List Int), m ≤ 301 → l.length ≤ 3 → (∀ q ∈ l, StOk (m : Int) q) → Sp Ix ((m : Int), tab, l) (fun v => v = ((idxN m l : Nat) : Int))) :
 Sp (fun n => ref04_Table_Next.P (Ix n) n) ((m : Int), tab, (f : Int), l) (fun v => (v = -1 ∨ StOk (m : Int) v) ∧ (TabFull al m tab → 0 ≤ v)) := by
 show Tt (fun n => ref04_Table_Next.P (Ix n) n ((m : Int), tab, (f : Int), l)) _
 unfold ref04_Table_Next.P; dsimp only
 obtain ⟨hl1, hl2⟩ := mem_lsts.1 hl
 have hfl : f < al.length := (List.getElem?_eq_some_iff.1 hfa).1
 have ha3 : a ≤ 3 := by
  obtain ⟨a', h1, h2⟩ := hal.rank hfl
  rw [List.getElem?_eq_getElem hfl, h2] at hfa
  have := Option.some.inj hfa; omega
 obtain ⟨row, hrow, hrl', hrv⟩ := ht.2 f a hfa
 have hix := idxN_lt hl2
 rw [hl1] at hix
 have hft : f < tab.length := by rw [ht.1]; exact hfl
 rw [nth_lt hft]
 have he : tab[f] = row := by
  rw [List.getElem?_eq_getElem hft] at hrow
  exact Option.some.inj hrow
 rw [he]
 refine Tt.bindPure (Tt.bind (hIx m tab l hm (by omega) hl2) fun v hv => ?_)
 subst hv
 refine Tt.nthB (by omega) (Tt.pure ⟨hrv _ (List.getElem_mem _), fun hfull => hfull f a hfa l hl row _ hrow (List.getElem?_eq_getElem _)⟩)
end Go.Bk
end
noncomputable section
namespace Go.Bk
open Go Go.AM
set_option linter.unusedVariables false
def SInc (l : List Int) : Prop := l.Pairwise (· < ·)
theorem tt_Insert (l : List Int) (v : Int) (hl : l.length ≤ 1000000000) : Sp ref03_Insert.P (l, v) (fun r => (∀ y, y ∈ r ↔ y = v ∨ y ∈ l) ∧ r.length ≤ l.length + 1 ∧ (SInc l → SInc r)) := by
 show Tt (fun n => ref03_Insert.P n (l, v)) _
 unfold ref03_Insert.P; dsimp only
 refine Tt.bind (R := fun t => ∃ i : Nat, i ≤ l.length ∧ (∀ a ∈ l.take i, a < v) ∧ (∀ h : i < l.length, v ≤ l[i]) ∧ t = (l, v, (i : Int)))
  (Tt.loop (Lp.count l.length (fun i s => (∀ a ∈ l.take i, a < v) ∧ s = (l, v, (i : Int))) ?_ ?_ ⟨by simp, rfl⟩)) ?_
 ·rintro i s hi ⟨hI, rfl⟩
  unfold ref03_Insert.L1; dsimp only
  refine Bd.bindIte (fun _ => Bd.bindBind (Bd.nth hi (Bd.bindPure ?_))) (fun h => absurd (dec_not h) (by omega))
  dsimp only
  refine Bd.ite (fun h => Bd.again ⟨fun a ha => ?_, by rw [wrap_next (by omega)]⟩) (fun h => Bd.done ⟨i, by omega, hI, fun _ => by have := dec_not h; omega, rfl⟩)
  rw [List.take_add_one, List.getElem?_eq_getElem hi] at ha
  rcases List.mem_append.1 ha with h1 | h1
  ·exact hI a h1
  ·have : a = l[i] := by simpa using h1
   rw [this]; exact dec_of h
 ·rintro s ⟨hI, rfl⟩
  unfold ref03_Insert.L1; dsimp only
  refine Bd.bindIte (fun h => absurd (dec_of h) (by omega)) (fun _ => Bd.bindPure ?_)
  dsimp only
  exact Bd.no rfl (Bd.done ⟨l.length, by omega, hI, fun h => absurd h (by omega), rfl⟩)
 rintro _ ⟨i, hi, hI, hI2, rfl⟩
 dsimp only
 have hm : ∀ y, y ∈ l.take i ++ v :: l.drop i ↔ y = v ∨ y ∈ l := by
  intro y
  have : y ∈ l ↔ y ∈ l.take i ∨ y ∈ l.drop i := by rw [← List.mem_append, List.take_append_drop]
  rw [this]; simp only [List.mem_append, List.mem_cons]
  constructor
  ·rintro (h | h | h) <;> simp [h]
  ·rintro (h | h | h) <;> simp [h]
 have hll : (l.take i ++ v :: l.drop i).length = l.length + 1 := by
  simp only [List.length_append, List.length_take, List.length_drop, List.length_cons]; omega
 have hput : (∀ h : i < l.length, v < l[i]) → SInc l → SInc (l.take i ++ v :: l.drop i) := by
  intro hlt hs
  have hd : ∀ b ∈ l.drop i, v < b := by
   intro b hb
   by_cases hil : i < l.length
   ·rw [List.drop_eq_getElem_cons hil] at hb
    have hp : SInc (l.drop i) := hs.sublist (List.drop_sublist ..)
    rw [List.drop_eq_getElem_cons hil] at hp
    rcases List.mem_cons.1 hb with h | h
    ·rw [h]; exact hlt hil
    ·have := (List.pairwise_cons.1 hp).1 b h
     have := hlt hil
     omega
   ·rw [List.drop_eq_nil_of_le (by omega)] at hb
    cases hb
  refine List.pairwise_append.2 ⟨hs.sublist (List.take_sublist ..), List.pairwise_cons.2 ⟨hd, hs.sublist (List.drop_sublist ..)⟩, fun a ha b hb => ?_⟩
  have h1 := hI a ha
  rcases List.mem_cons.1 hb with h | h
  ·rw [h]; exact h1
  ·have := hd b h
   omega
 have hfin : (∀ h : i < l.length, v < l[i]) → Tt (fun n : Nat => (bif decide (0 ≤ (0 : Int)) && decide (0 ≤ (i : Int)) && decide ((i : Int) ≤ ((List.length l : Nat) : Int)) then
 bif decide (List.length ([] : List Int) + List.length (List.drop (Int.toNat 0) (List.take (Int.toNat (i : Int)) l)) ≤ maxRows) then
 bif decide (List.length (List.append ([] : List Int) (List.drop (Int.toNat 0) (List.take (Int.toNat (i : Int)) l))) + List.length ([v] : List Int) ≤ maxRows) then
 bif decide (0 ≤ (i : Int)) && decide ((i : Int) ≤ ((List.length l : Nat) : Int)) && decide (((List.length l : Nat) : Int) ≤ ((List.length l : Nat) : Int)) then
 bif decide (List.length (List.append (List.append ([] : List Int) (List.drop (Int.toNat 0) (List.take (Int.toNat (i : Int)) l))) ([v] : List Int)) + List.length (List.drop (Int.toNat (i : Int)) (List.take (Int.toNat ((List.length l : Nat) : Int)) l)) ≤ maxRows) then
 some (List.append (List.append (List.append ([] : List Int) (List.drop (Int.toNat 0) (List.take (Int.toNat (i : Int)) l))) ([v] : List Int)) (List.drop (Int.toNat (i : Int)) (List.take (Int.toNat ((List.length l : Nat) : Int)) l)))
 else none
 else none
 else none
 else none
 else none)) (fun r => (∀ y, y ∈ r ↔ y = v ∨ y ∈ l) ∧ r.length ≤ l.length + 1 ∧ (SInc l → SInc r)) := by
  intro hlt
  refine Tt.chk (by simp; omega) (Tt.chk (lenOk (by simp; omega)) (Tt.chk (lenOk (by simp; omega)) (Tt.chk (by simp; omega) (Tt.chk (lenOk (by simp; omega)) ?_))))
  have e : List.append (List.append (List.append ([] : List Int) (List.drop (Int.toNat 0) (List.take (Int.toNat (i : Int)) l))) ([v] : List Int)) (List.drop (Int.toNat (i : Int)) (List.take (Int.toNat ((List.length l : Nat) : Int)) l)) = l.take i ++ v :: l.drop i := by
   simp
  rw [e]
  exact Tt.pure ⟨hm, by omega, hput hlt⟩
 refine Tt.bindIte (fun h => ?_) (fun h => ?_)
 ·have hil : i < l.length := by have := dec_of h; omega
  refine Tt.bindBind (Tt.nthB hil (Tt.bindPure ?_))
  dsimp only
  refine Tt.ite (fun he => Tt.pure ⟨fun y => ⟨.inr, ?_⟩, by omega, fun hs => hs⟩) (fun hne => hfin fun h' => ?_)
  ·rintro (rfl | h)
   ·exact (dec_of he) ▸ List.getElem_mem hil
   ·exact h
  ·have h1 := hI2 hil
   have h2 := dec_not hne
   omega
 ·have hil := dec_not h
  refine Tt.bindPure ?_
  dsimp only
  exact Tt.no rfl (hfin fun h' => absurd h' (by omega))
def dd : List Int → List Int
 | [] => []
 | x :: l => if x ∈ l then dd l else x :: dd l
theorem mem_dd : ∀ {l : List Int} {x : Int}, x ∈ dd l ↔ x ∈ l
 | [], _ => Iff.rfl
 | a :: l, x => by
   unfold dd
   by_cases h : a ∈ l
   ·rw [if_pos h, mem_dd, List.mem_cons]
    exact ⟨.inr, fun h' => h'.elim (fun e => e ▸ h) id⟩
   ·rw [if_neg h, List.mem_cons, List.mem_cons, mem_dd]
theorem nodup_dd : ∀ l : List Int, (dd l).Nodup
 | [] => List.nodup_nil
 | a :: l => by
   unfold dd
   by_cases h : a ∈ l
   ·rw [if_pos h]; exact nodup_dd l
   ·rw [if_neg h]
    exact List.nodup_cons.2 ⟨fun h' => h (mem_dd.1 h'), nodup_dd l⟩
theorem nodup_le {α : Type} [BEq α] [LawfulBEq α] : ∀ {a b : List α}, a.Nodup → (∀ x ∈ a, x ∈ b) → a.length ≤ b.length
 | [], b, _, _ => by simp
 | x :: a, b, hn, hs => by
   obtain ⟨h1, h2⟩ := List.nodup_cons.1 hn
   have hx : x ∈ b := hs x (List.mem_cons_self ..)
   have := nodup_le (b := b.erase x) h2 fun y hy => by
    have hy' := hs y (List.mem_cons_of_mem _ hy)
    have hne : y ≠ x := fun e => h1 (e ▸ hy)
    exact (List.mem_erase_of_ne hne).2 hy'
   have hp := List.length_pos_of_mem hx
   rw [List.length_erase_of_mem hx] at this
   simp only [List.length_cons]; omega
theorem dd_le (l : List Int) : (dd l).length ≤ l.length := nodup_le (nodup_dd l) fun x h => mem_dd.1 h
theorem SInc.nodup {l : List Int} (h : SInc l) : l.Nodup := h.imp fun h => by omega
theorem tt_many {F : Nat → List Int × Int → Option (List Int)} (hF : ∀ l v, l.length ≤ 1000000000 → Sp F (l, v) (fun r => (∀ y, y ∈ r ↔ y = v ∨ y ∈ l) ∧ r.length ≤ l.length + 1 ∧ (SInc l → SInc r))) (l : List Int) (hl : l.length ≤ 1000000) :
 Sp (fun n => ref04_many.P (F n) n) l (fun v => v = (((dd l).length : Nat) : Int)) := by
 show Tt (fun n => ref04_many.P (F n) n l) _
 unfold ref04_many.P
 refine Tt.bind (R := fun out => SInc out ∧ ∀ y, y ∈ out ↔ y ∈ l)
  (Tt.loop (Lp.count l.length (fun i s => ∃ out : List Int, out.length ≤ i ∧ SInc out ∧ (∀ y, y ∈ out ↔ y ∈ l.take i) ∧ s = (out, l, ((l.length : Nat) : Int), (i : Int))) ?_ ?_ ⟨[], by simp, List.Pairwise.nil, by simp, rfl⟩)) ?_
 ·rintro i s hi ⟨out, h1, h2, h3, rfl⟩
  unfold ref04_many.L1; dsimp only
  refine Bd.yes (dec_true (by omega)) (Bd.nth hi (Bd.bind (hF out l[i] (by omega)) fun r hr => Bd.again ⟨r, by omega, hr.2.2 h2, fun y => ?_, by rw [wrap_next (by omega)]⟩))
  rw [hr.1, List.take_add_one, List.getElem?_eq_getElem hi, List.mem_append, h3]
  simp only [Option.toList_some, List.mem_singleton]
  exact ⟨fun h => h.symm, fun h => h.symm⟩
 ·rintro s ⟨out, h1, h2, h3, rfl⟩
  unfold ref04_many.L1; dsimp only
  exact Bd.no (decide_eq_false (by omega)) (Bd.done ⟨h2, fun y => by rw [h3, List.take_length]⟩)
 ·rintro out ⟨h1, h2⟩
  refine Tt.pure ?_
  have a := nodup_le h1.nodup (b := dd l) fun x hx => mem_dd.2 ((h2 x).1 hx)
  have b := nodup_le (nodup_dd l) (b := out) fun x hx => (h2 x).2 (mem_dd.1 hx)
  omega
theorem ins_lsts {m r : Nat} {l : List Int} {i : Nat} {s : Int} (h : l ∈ lsts m r) (hi : i ≤ l.length) (hs : StOk (m : Int) s) :
 List.append (List.append (List.append ([] : List Int) (List.drop (Int.toNat 0) (List.take (Int.toNat (i : Int)) l))) ([s] : List Int)) (List.drop (Int.toNat (i : Int)) (List.take (Int.toNat ((List.length l : Nat) : Int)) l)) ∈ lsts m (r + 1) := by
 obtain ⟨h1, h2⟩ := mem_lsts.1 h
 refine mem_lsts.2 ⟨?_, ?_⟩
 ·simp; omega
 ·intro q hq
  have : q ∈ l.take i ∨ q = s ∨ q ∈ l.drop i := by simpa [or_assoc] using hq
  rcases this with h | h | h
  ·exact h2 q (List.mem_of_mem_take h)
  ·rw [h]; exact hs
  ·exact h2 q (List.mem_of_mem_drop h)
theorem tt_alike {Ls : Nat → Int × Int → Option (List (List Int))} {Ne : Nat → Int × List (List Int) × Int × List Int → Option Int} (al : List Int) (m : Nat) (tab : List (List Int)) (num : List Int) (s t : Int) (hal : AlOk al) (hm : m ≤ 301)
 (hn : num.length = m) (hs : StOk (m : Int) s) (ht : StOk (m : Int) t) (hLs : ∀ N r : Nat, N ≤ 301 → r ≤ 3 → Sp Ls ((N : Int), (r : Int)) (fun l => l = lsts N r))
 (hNe : ∀ (f a : Nat) (l : List Int), al[f]? = some (a : Int) → l ∈ lsts m a → Sp Ne ((m : Int), tab, (f : Int), l) (fun v => StOk (m : Int) v)) :
 Sp (fun n => ref04_alike.P (Ls n) (Ne n) n) (al, (m : Int), tab, num, s, t) (fun _ => True) := by
 have hal12 := hal.1
 show Tt (fun n => ref04_alike.P (Ls n) (Ne n) n (al, (m : Int), tab, num, s, t)) _
 unfold ref04_alike.P; dsimp only
 refine Tt.bind (R := fun q => True) (Tt.loop (Lp.count al.length (fun i x => x = (num, s, t, (m : Int), tab, al, ((al.length : Nat) : Int), (i : Int))) ?_ ?_ rfl)) ?_
 ·rintro f x hf rfl
  unfold ref04_alike.L3; dsimp only
  obtain ⟨r, hr3, hri⟩ := hal.rank hf
  refine Bd.yes (dec_true (by omega)) (Bd.nth hf ?_)
  rw [hri]
  refine Bd.ite (fun _ => Bd.again (by rw [wrap_next (by omega)])) (fun hne => ?_)
  have hne := dec_not hne
  have e1 : IntKind.wrap .i64 ((r : Int) - 1) = ((r - 1 : Nat) : Int) := by
   rw [wrap_id _ (by omega) (by omega)]; omega
  rw [e1]
  have hsm := pow_small (n := m) (r := r - 1) (by omega) (by omega)
  have hll := lsts_length m (r - 1)
  refine Bd.bind (hLs m (r - 1) (by omega) (by omega)) fun ls hls => ?_
  subst hls
  refine Bd.bind (R := fun q => q = Sum.inl (num, s, t, (m : Int), tab, al, ((al.length : Nat) : Int), (f : Int)) ∨ ∃ b : Unit ⊕ Bool, q = Sum.inr b)
   (Tt.loop (Lp.count (lsts m (r - 1)).length (fun j x => x = (num, s, t, (m : Int), tab, (f : Int), (r : Int), al, ((al.length : Nat) : Int), (f : Int), lsts m (r - 1), (((lsts m (r - 1)).length : Nat) : Int), (j : Int))) ?_ ?_ rfl)) ?_
  ·rintro j x hj rfl
   unfold ref04_alike.L2; dsimp only
   refine Bd.yes (dec_true (by omega)) (Bd.chk (rng (by omega) (by omega)) ?_)
   rw [Int.toNat_natCast]
   refine Bd.at hj fun l hlm hlj => ?_
   obtain ⟨hlr, hlq⟩ := mem_lsts.1 hlm
   refine Bd.bind (R := fun q => q = Sum.inl (num, s, t, (m : Int), tab, (f : Int), (r : Int), al, ((al.length : Nat) : Int), (f : Int), lsts m (r - 1), (((lsts m (r - 1)).length : Nat) : Int), (j : Int)) ∨ ∃ b : Unit ⊕ Bool, q = Sum.inr (Sum.inr b))
    (Tt.loop (Lp.count r (fun i x => x = (num, s, t, (m : Int), tab, (f : Int), (r : Int), l, al, ((al.length : Nat) : Int), (f : Int), lsts m (r - 1), (((lsts m (r - 1)).length : Nat) : Int), (j : Int), (r : Int), (i : Int))) ?_ ?_ rfl)) ?_
   ·rintro i x hi rfl
    unfold ref04_alike.L1; dsimp only
    have hfa : al[f]? = some (((r - 1 + 1 : Nat) : Nat) : Int) := by
     rw [List.getElem?_eq_getElem hf, hri]; congr 1; omega
    have hone := ins_lsts (i := i) hlm (by omega) hs
    have hoth := ins_lsts (i := i) hlm (by omega) ht
    refine Bd.yes (dec_true (by omega)) (Bd.chk (by simp; omega) (Bd.chk (lenOk (by simp; omega)) (Bd.chk (lenOk (by simp; omega)) (Bd.chk (by simp; omega) (Bd.chk (lenOk (by simp; omega)) ?_)))))
    refine Bd.chk (by simp; omega) (Bd.chk (lenOk (by simp; omega)) (Bd.chk (lenOk (by simp; omega)) (Bd.chk (by simp; omega) (Bd.chk (lenOk (by simp; omega)) ?_))))
    refine Bd.bind (hNe f _ _ hfa hone) fun v1 hv1 => Bd.nthI hv1.1 (by have := hv1.2; omega) fun e1 _ _ => Bd.bind (hNe f _ _ hfa hoth) fun v2 hv2 => Bd.nthI hv2.1 (by have := hv2.2; omega) fun e2 _ _ => ?_
    exact Bd.ite (fun _ => Bd.done (t := Sum.inr (Sum.inr (Sum.inr false))) (.inr ⟨Sum.inr false, rfl⟩)) (fun _ => Bd.again (by rw [wrap_next (by omega)]))
   ·rintro x rfl
    unfold ref04_alike.L1; dsimp only
    exact Bd.no (decide_eq_false (by omega)) (Bd.done (.inl rfl))
   ·rintro q (rfl | ⟨b, rfl⟩)
    ·exact Bd.again (by rw [wrap_next (by omega)])
    ·exact Bd.done (.inr ⟨b, rfl⟩)
  ·rintro x rfl
   unfold ref04_alike.L2; dsimp only
   exact Bd.no (decide_eq_false (by omega)) (Bd.done (.inl rfl))
  ·rintro q (rfl | ⟨b, rfl⟩)
   ·exact Bd.again (by rw [wrap_next (by omega)])
   ·exact Bd.done trivial
 ·rintro x rfl
  unfold ref04_alike.L3; dsimp only
  exact Bd.no (decide_eq_false (by omega)) (Bd.done trivial)
 ·rintro (_ | (_ | b)) _
  ·exact Tt.pure trivial
  ·exact Tt.pure trivial
  ·exact Tt.pure trivial
end Go.Bk
end
noncomputable section
namespace Go.Bk
open Go Go.AM
set_option linter.unusedVariables false
def ClsAt (m : Nat) (num first after : List Int) (k : Nat) : Prop := ∃ c t : Nat, after[k]? = some (c : Int) ∧ first[c]? = some (t : Int) ∧ t < m ∧ num[k]? = num[t]?
theorem ClsAt.app {m : Nat} {num first after : List Int} {k : Nat} (h : ClsAt m num first after k) (x : Int) : ClsAt m num (first ++ [x]) after k := by
 obtain ⟨c, t, h1, h2, h3⟩ := h
 exact ⟨c, t, h1, by rw [List.getElem?_append_left (List.getElem?_eq_some_iff.1 h2).1]; exact h2, h3⟩
theorem cls_le {m : Nat} {num first after : List Int} (hn : num.length = m) (ha : after.length = m) (h : ∀ k, k < m → ClsAt m num first after k) : (dd num).length ≤ (dd after).length := by
 have hm := nodup_le (nodup_dd num) (b := (dd after).map fun v => num.getD (first.getD v.toNat 0).toNat 0) fun x hx => by
  obtain ⟨k, hk, rfl⟩ := List.getElem_of_mem (mem_dd.1 hx)
  obtain ⟨c, t, h1, h2, h3, h4⟩ := h k (by omega)
  refine List.mem_map.2 ⟨(c : Int), mem_dd.2 (List.mem_of_getElem? h1), ?_⟩
  rw [Int.toNat_natCast, List.getD_eq_getElem?_getD (l := first), h2, Option.getD_some, Int.toNat_natCast, List.getD_eq_getElem?_getD, ← h4, List.getElem?_eq_getElem hk, Option.getD_some]
 rwa [List.length_map] at hm
section
variable {Mk : Nat → List Int × Int × List Int × List Rule → Option (Int × List (List Int))} {Ak : Nat → List Int × Int × List (List Int) × List Int × Int × Int → Option Bool} {Mn : Nat → List Int → Option Int}
theorem tt_classes (al : List Int) (m : Nat) (fin : List Int) (rs : List Rule) (hm : m ≤ 301) (hfl : fin.length ≤ 1000000000) (hfin : ∀ q ∈ fin, StOk (m : Int) q)
 (P : List (List Int) → Prop) (hMk : Sp Mk (al, (m : Int), fin, rs) (fun t => t.1 = (m : Int) ∧ P t.2))
 (hAk : ∀ (tab : List (List Int)) (num : List Int) (s t : Int), P tab → num.length = m → StOk (m : Int) s → StOk (m : Int) t → Sp Ak (al, (m : Int), tab, num, s, t) (fun _ => True))
 (hMn : ∀ l : List Int, l.length ≤ 1000000 → Sp Mn l (fun v => v = (((dd l).length : Nat) : Int))) :
 Sp (fun n => ref04_classes.P (Mk n) (Ak n) (Mn n) n) (al, (m : Int), fin, rs) (fun l => l.length = m ∧ ∀ v ∈ l, StOk (m : Int) v) := by
 show Tt (fun n => ref04_classes.P (Mk n) (Ak n) (Mn n) n (al, (m : Int), fin, rs)) _
 unfold ref04_classes.P; dsimp only
 refine Tt.bind hMk fun t ht => ?_
 obtain ⟨t1, tab⟩ := t
 obtain ⟨h1, hP⟩ := ht
 dsimp only at h1 hP ⊢
 subst h1
 refine Tt.chk (mk_rng (by omega) (by omega)) ?_
 rw [Int.toNat_natCast]
 refine Tt.bind (R := fun x => ∃ num : List Int, num.length = m ∧ x = (al, (m : Int), fin, rs, (m : Int), tab, num))
  (Tt.loop (Lp.count fin.length (fun i s => ∃ num : List Int, num.length = m ∧ s = (al, (m : Int), fin, rs, (m : Int), tab, num, fin, ((fin.length : Nat) : Int), (i : Int))) ?_ ?_ ⟨List.replicate m 0, by simp, rfl⟩)) ?_
 ·rintro i s hi ⟨num, hn, rfl⟩
  unfold ref04_classes.L1; dsimp only
  have hq := hfin _ (List.getElem_mem hi)
  refine Bd.yes (dec_true (by omega)) (Bd.nth hi (Bd.chk (rng hq.1 (by have := hq.2; omega)) ?_))
  refine Bd.at (by have := hq.1; have := hq.2; omega) fun e _ _ => Bd.again ⟨num.set (Int.toNat fin[i]) 1, by simpa using hn, by rw [wrap_next (by omega)]⟩
 ·rintro s ⟨num, hn, rfl⟩
  unfold ref04_classes.L1; dsimp only
  exact Bd.no (decide_eq_false (by omega)) (Bd.done ⟨num, hn, rfl⟩)
 rintro _ ⟨num0, hn0, rfl⟩
 dsimp only
 refine Tt.bind (R := fun q => ∃ l : List Int, (l.length = m ∧ ∀ v ∈ l, StOk (m : Int) v) ∧ q = Sum.inr l)
  (Tt.loop (Lp.measure (fun s => ∃ num : List Int, num.length = m ∧ s = (al, (m : Int), fin, rs, (m : Int), tab, num)) (fun s => m - (dd s.2.2.2.2.2.2).length) ?_ ⟨num0, hn0, rfl⟩)) ?_
 ·rintro s ⟨num, hn, rfl⟩
  unfold ref04_classes.L4; dsimp only
  refine Bd.chk (mk_rng (by omega) (by omega)) ?_
  rw [Int.toNat_natCast, List.length_replicate]
  refine Bd.bind (R := fun x => ∃ first after : List Int, after.length = m ∧ first.length ≤ m ∧ (∀ k, k < m → ClsAt m num first after k) ∧ x = (al, (m : Int), fin, rs, (m : Int), tab, num, after))
   (Tt.loop (Lp.count m (fun i s => ∃ first after : List Int, after.length = m ∧ first.length ≤ i ∧ (∀ t ∈ first, StOk (m : Int) t) ∧ (∀ k, k < i → ClsAt m num first after k) ∧ s = (al, (m : Int), fin, rs, (m : Int), tab, num, first, after, (m : Int), (i : Int))) ?_ ?_ ⟨[], List.replicate m 0, by simp, by simp, by simp, fun k hk => absurd hk (by omega), rfl⟩)) ?_
  ·rintro i s hi ⟨first, after, ha, hf, hft, hI, rfl⟩
   unfold ref04_classes.L3; dsimp only
   refine Bd.yes (dec_true (by omega)) (Bd.chk (rng (by omega) (by omega)) ?_)
   rw [Int.toNat_natCast]
   refine Bd.at (by omega) fun e _ _ => ?_
   refine Bd.bind (R := fun x => ∃ c : Nat, (c = first.length ∨ ∃ t : Nat, first[c]? = some (t : Int) ∧ t < m ∧ num[i]? = num[t]?) ∧ x = (al, (m : Int), fin, rs, (m : Int), tab, num, first, after.set i (c : Int), (i : Int), (m : Int), (i : Int)))
    (Tt.loop (Lp.count first.length (fun k s => s = (al, (m : Int), fin, rs, (m : Int), tab, num, first, after.set i ((first.length : Nat) : Int), (i : Int), (m : Int), (i : Int), ((first.length : Nat) : Int), (k : Int))) ?_ ?_ rfl)) ?_
   ·rintro k s hk rfl
    unfold ref04_classes.L2; dsimp only
    refine Bd.yes (dec_true (by omega)) (Bd.chk (rng (by omega) (by omega)) ?_)
    rw [Int.toNat_natCast]
    refine Bd.at hk fun t htm htk => ?_
    have htok := hft t htm
    refine Bd.bindChk (rng (by omega) (by omega)) (Bd.bindBind ?_)
    rw [Int.toNat_natCast]
    refine Bd.at (by omega) fun e1 _ he1 => ?_
    refine Bd.bindChk (rng htok.1 (by have := htok.2; omega)) (Bd.bindBind ?_)
    refine Bd.at (by have := htok.1; have := htok.2; omega) fun e2 _ he2 => ?_
    refine Bd.bind (R := fun x => ∃ b : Bool, (b = true → e1 = e2) ∧ x = (al, (m : Int), fin, rs, (m : Int), tab, num, first, after.set i ((first.length : Nat) : Int), (i : Int), (k : Int), (m : Int), (i : Int), ((first.length : Nat) : Int), (k : Int), b))
     (Tt.ite (fun h => Tt.bind (hAk tab num (i : Int) t hP hn ⟨by omega, by omega⟩ htok) fun b _ => Tt.pure ⟨b, fun _ => dec_of h, rfl⟩) (fun _ => Tt.pure ⟨false, fun h => (by cases h), rfl⟩)) ?_
    rintro _ ⟨b, hb, rfl⟩
    dsimp only
    refine Bd.ite (fun hbt => ?_) (fun _ => Bd.again (by rw [wrap_next (by omega)]))
    refine Bd.chk (rng (by omega) (by simp; omega)) ?_
    rw [Int.toNat_natCast]
    refine Bd.at (by simp; omega) fun e3 _ _ => Bd.done ⟨k, .inr ⟨t.toNat, ?_, by have := htok.1; have := htok.2; omega, ?_⟩, by rw [List.set_set]⟩
    ·rw [htk]; congr 1; have := htok.1; omega
    ·rw [he1, he2, hb hbt]
   ·rintro s rfl
    unfold ref04_classes.L2; dsimp only
    exact Bd.no (decide_eq_false (by omega)) (Bd.done ⟨first.length, .inl rfl, rfl⟩)
   ·rintro _ ⟨c, hc, rfl⟩
    dsimp only
    refine Bd.chk (rng (by omega) (by simp; omega)) ?_
    rw [Int.toNat_natCast]
    refine Bd.at (by simp; omega) fun e4 _ he4 => ?_
    rw [List.getElem?_set_self (by omega)] at he4
    have he4 := Option.some.inj he4
    subst he4
    refine Bd.bindIte (fun h => ?_) (fun h => ?_)
    ·have hcl := dec_of h
     refine Bd.bindChk (lenOk (by simp; omega)) (Bd.bindPure (Bd.again ⟨first ++ [(i : Int)], after.set i (c : Int), by simpa using ha, by simp; omega, fun t ht => ?_, fun k hk => ?_, by rw [wrap_next (by omega)]; rfl⟩))
     ·rcases List.mem_append.1 ht with h | h
      ·exact hft t h
      ·rw [List.mem_singleton.1 h]; exact ⟨by omega, by omega⟩
     ·rcases Nat.lt_or_ge k i with h2 | h2
      ·have hk' := (hI k h2).app (i : Int)
       obtain ⟨c', t', a1, a2⟩ := hk'
       exact ⟨c', t', by rw [List.getElem?_set_ne (by omega)]; exact a1, a2⟩
      ·obtain rfl : k = i := by omega
       refine ⟨c, k, by rw [List.getElem?_set_self (by omega)], ?_, hi, rfl⟩
       have hcf : c = first.length := by omega
       subst hcf
       simp
    ·have hcl := dec_not h
     have hc' : ∃ t : Nat, first[c]? = some (t : Int) ∧ t < m ∧ num[i]? = num[t]? := by
      rcases hc with h | h
      ·exact absurd (by omega) hcl
      ·exact h
     refine Bd.bindPure (Bd.again ⟨first, after.set i (c : Int), by simpa using ha, by omega, hft, fun k hk => ?_, by rw [wrap_next (by omega)]⟩)
     rcases Nat.lt_or_ge k i with h2 | h2
     ·obtain ⟨c', t', a1, a2⟩ := hI k h2
      exact ⟨c', t', by rw [List.getElem?_set_ne (by omega)]; exact a1, a2⟩
     ·obtain rfl : k = i := by omega
      obtain ⟨t, b1, b2, b3⟩ := hc'
      exact ⟨c, t, by rw [List.getElem?_set_self (by omega)], b1, b2, b3⟩
  ·rintro s ⟨first, after, ha, hf, hft, hI, rfl⟩
   unfold ref04_classes.L3; dsimp only
   exact Bd.no (decide_eq_false (by omega)) (Bd.done ⟨first, after, ha, hf, hI, rfl⟩)
  ·rintro _ ⟨first, after, ha, hf, hI, rfl⟩
   dsimp only
   refine Bd.bind (hMn after (by omega)) fun v1 hv1 => Bd.bind (hMn num (by omega)) fun v2 hv2 => Bd.ite (fun h => Bd.done ⟨after, ⟨ha, fun v hv => ?_⟩, rfl⟩) (fun h => Bd.again ⟨⟨after, ha, rfl⟩, ?_⟩)
   ·obtain ⟨k, hk, rfl⟩ := List.getElem_of_mem hv
    obtain ⟨c, t, a1, a2, _⟩ := hI k (by omega)
    rw [List.getElem?_eq_getElem hk] at a1
    have a1 := Option.some.inj a1
    have a3 := (List.getElem?_eq_some_iff.1 a2).1
    rw [a1]; exact ⟨by omega, by omega⟩
   ·have hne := dec_not h
    have hle := cls_le hn ha hI
    have hle2 := dd_le after
    show m - (dd after).length < m - (dd num).length
    omega
 ·rintro _ ⟨l, hl, rfl⟩
  exact Tt.pure hl
end
end Go.Bk
end
noncomputable section
namespace Go.Bk
open Go Go.AM
set_option linter.unusedVariables false
def ng (l : List Int) : Nat := l.countP fun v => decide (v < 0)
theorem ng_set : ∀ {l : List Int} {i : Nat} {v w : Int}, l[i]? = some v → v < 0 → 0 ≤ w → ng (l.set i w) + 1 = ng l
 | [], i, v, w, h, _, _ => by simp at h
 | x :: l, 0, v, w, h, h1, h2 => by
   have hx : x = v := by simpa using h
   subst hx
   unfold ng
   rw [List.set_cons_zero, List.countP_cons, List.countP_cons, if_neg (by simp; omega), if_pos (by simp; omega)]
 | x :: l, i + 1, v, w, h, h1, h2 => by
   have ih := ng_set (l := l) (i := i) (by simpa using h) h1 h2
   unfold ng at ih ⊢
   rw [List.set_cons_succ, List.countP_cons, List.countP_cons]
   omega
theorem ng_all {l : List Int} (h : ∀ v ∈ l, v < 0) : ng l = l.length := by
 unfold ng
 exact List.countP_eq_length.2 fun a ha => decide_eq_true (h a ha)
def ROk (m : Nat) (num order : List Int) : Prop := num.length = m ∧ (∀ q ∈ order, StOk (m : Int) q) ∧ order.length + ng num = m
section
variable {In : Nat → List Int × Int → Option Bool} {So : Nat → List Rule → Option (List Rule)} {Ls : Nat → Int × Int → Option (List (List Int))} {Mk : Nat → List Int × Int × List Int × List Rule → Option (Int × List (List Int))} {Ne : Nat → Int × List (List Int) × Int × List Int → Option Int}
def RnOk (a : Aut) : Prop := a.2.1.length ≤ 1000 ∧ a.2.2.length ≤ 1000000000 ∧ ∀ r ∈ a.2.2, r.2.1.length ≤ 1000
theorem tt_Renumber (al : List Int) (m : Nat) (fin : List Int) (rs : List Rule) (hal : AlOk al) (hm : m ≤ 301) (hfl : fin.length ≤ 1000000000) (hrl : rs.length ≤ 1000000000) (hr : ∀ r ∈ rs, RuleD al m r)
 (P : List (List Int) → Prop) (hMk : Sp Mk (al, (m : Int), fin, rs) (fun t => t.1 = (m : Int) ∧ P t.2))
 (hNe : ∀ (tab : List (List Int)) (f a : Nat) (l : List Int), P tab → al[f]? = some (a : Int) → l ∈ lsts m a → Sp Ne ((m : Int), tab, (f : Int), l) (fun v => v = -1 ∨ StOk (m : Int) v))
 (hIn : ∀ (l : List Int) (v : Int), l.length ≤ 1000000000 → Sp In (l, v) (fun _ => True))
 (hSo : ∀ x : List Rule, x.length ≤ 1000000000 → (∀ r ∈ x, r.2.1.length ≤ 1000) → Sp So x (fun r : List Rule => r.length ≤ x.length ∧ ∀ y ∈ r, y ∈ x))
 (hLs : ∀ N r : Nat, N ≤ 301 → r ≤ 3 → Sp Ls ((N : Int), (r : Int)) (fun l => l = lsts N r)) :
 Sp (fun n => ref04_Renumber.P (In n) (So n) (Ls n) (Mk n) (Ne n) n) (al, (m : Int), fin, rs) RnOk := by
 have hal12 := hal.1
 show Tt (fun n => ref04_Renumber.P (In n) (So n) (Ls n) (Mk n) (Ne n) n (al, (m : Int), fin, rs)) _
 unfold ref04_Renumber.P; dsimp only
 refine Tt.bind hMk fun t ht => ?_
 obtain ⟨t1, tab⟩ := t
 obtain ⟨h1, hP⟩ := ht
 dsimp only at h1 hP ⊢
 subst h1
 refine Tt.chk (mk_rng (by omega) (by omega)) ?_
 rw [Int.toNat_natCast, List.length_replicate]
 refine Tt.bind (R := fun x => ∃ num : List Int, ROk m num [] ∧ x = (al, (m : Int), fin, rs, (0 : Int), ([] : List Int), ([] : List Rule), (m : Int), tab, num))
  (Tt.loop (Lp.count m (fun i s => ∃ num : List Int, num.length = m ∧ (∀ k, k < i → num[k]? = some (-1)) ∧ s = (al, (m : Int), fin, rs, (0 : Int), ([] : List Int), ([] : List Rule), (m : Int), tab, num, (m : Int), (i : Int))) ?_ ?_ ⟨List.replicate m 0, by simp, fun k hk => absurd hk (by omega), rfl⟩)) ?_
 ·rintro i s hi ⟨num, hn, hv, rfl⟩
  unfold ref04_Renumber.L1; dsimp only
  refine Bd.yes (dec_true (by omega)) (Bd.chk (rng (by omega) (by omega)) ?_)
  rw [Int.toNat_natCast]
  refine Bd.at (by omega) fun e _ _ => Bd.again ⟨num.set i (-1), by simpa using hn, fun k hk => ?_, by rw [wrap_next (by omega)]⟩
  rw [List.getElem?_set]
  by_cases h : i = k
  ·subst h; simp [hn, hi]
  ·simp [h]; exact hv k (by omega)
 ·rintro s ⟨num, hn, hv, rfl⟩
  unfold ref04_Renumber.L1; dsimp only
  refine Bd.no (decide_eq_false (by omega)) (Bd.done ⟨num, ⟨hn, by simp, ?_⟩, rfl⟩)
  rw [ng_all fun v hv' => ?_, hn]; · simp
  obtain ⟨k, hk, rfl⟩ := List.getElem_of_mem hv'
  have := hv k (by omega)
  rw [List.getElem?_eq_getElem hk] at this
  have := Option.some.inj this
  omega
 rintro _ ⟨num0, hn0, rfl⟩
 dsimp only
 refine Tt.bind (R := fun x => ∃ num order : List Int, ROk m num order ∧ x = ((m : Int), fin, rs, (0 : Int), ([] : List Int), ([] : List Rule), num, order))
  (Tt.loop (Lp.measure (fun s => ∃ num order : List Int, ROk m num order ∧ s = (al, (m : Int), fin, rs, (0 : Int), ([] : List Int), ([] : List Rule), (m : Int), tab, num, order)) (fun s => m - s.2.2.2.2.2.2.2.2.2.2.length) ?_ ⟨num0, [], hn0, rfl⟩)) ?_
 ·rintro s ⟨num, order, hI, rfl⟩
  unfold ref04_Renumber.L5; dsimp only
  refine Bd.bind (R := fun x => ∃ num' order' : List Int, ROk m num' order' ∧ order.length ≤ order'.length ∧ x = (al, (m : Int), fin, rs, (0 : Int), ([] : List Int), ([] : List Rule), (m : Int), tab, num', order', ((order.length : Nat) : Int)))
   (Tt.loop (Lp.count al.length (fun f s => ∃ num' order' : List Int, ROk m num' order' ∧ order.length ≤ order'.length ∧ s = (al, (m : Int), fin, rs, (0 : Int), ([] : List Int), ([] : List Rule), (m : Int), tab, num', order', ((order.length : Nat) : Int), al, ((al.length : Nat) : Int), (f : Int))) ?_ ?_ ⟨num, order, hI, Nat.le_refl _, rfl⟩)) ?_
  ·rintro f s hf ⟨num1, order1, hI1, hle1, rfl⟩
   unfold ref04_Renumber.L4; dsimp only
   obtain ⟨r, hr3, hri⟩ := hal.rank hf
   have hom : order.length ≤ m := by have := hI.2.2; omega
   have hsm := pow_small (n := order.length) (r := r) (by omega) hr3
   have hll := lsts_length order.length r
   refine Bd.yes (dec_true (by omega)) (Bd.nth hf ?_)
   rw [hri]
   refine Bd.bind (hLs order.length r (by omega) hr3) fun ls hls => ?_
   subst hls
   refine Bd.bind (R := fun x => ∃ num' order' : List Int, ROk m num' order' ∧ order.length ≤ order'.length ∧ x = (al, (m : Int), fin, rs, (0 : Int), ([] : List Int), ([] : List Rule), (m : Int), tab, num', order', ((order.length : Nat) : Int), al, ((al.length : Nat) : Int), (f : Int)))
    (Tt.loop (Lp.count (lsts order.length r).length (fun j s => ∃ num' order' : List Int, ROk m num' order' ∧ order.length ≤ order'.length ∧ s = (al, (m : Int), fin, rs, (0 : Int), ([] : List Int), ([] : List Rule), (m : Int), tab, num', order', ((order.length : Nat) : Int), (f : Int), al, ((al.length : Nat) : Int), (f : Int), lsts order.length r, (((lsts order.length r).length : Nat) : Int), (j : Int))) ?_ ?_ ⟨num1, order1, hI1, hle1, rfl⟩)) ?_
   ·rintro j s hj ⟨num2, order2, hI2, hle2, rfl⟩
    unfold ref04_Renumber.L3; dsimp only
    have hom2 : order2.length ≤ m := by have := hI2.2.2; omega
    refine Bd.yes (dec_true (by omega)) (Bd.chk (rng (by omega) (by omega)) ?_)
    rw [Int.toNat_natCast]
    refine Bd.at hj fun l hlm hlj => ?_
    obtain ⟨hlr, hlq⟩ := mem_lsts.1 hlm
    refine Bd.bind (R := fun x => ∃ from' : List Int, from' ∈ lsts m r ∧ x = (al, (m : Int), fin, rs, (0 : Int), ([] : List Int), ([] : List Rule), (m : Int), tab, num2, order2, ((order.length : Nat) : Int), (f : Int), from', al, ((al.length : Nat) : Int), (f : Int), lsts order.length r, (((lsts order.length r).length : Nat) : Int), (j : Int)))
     (Tt.loop (Lp.count l.length (fun i s => ∃ from' : List Int, from'.length = i ∧ (∀ q ∈ from', StOk (m : Int) q) ∧ s = (al, (m : Int), fin, rs, (0 : Int), ([] : List Int), ([] : List Rule), (m : Int), tab, num2, order2, ((order.length : Nat) : Int), (f : Int), from', al, ((al.length : Nat) : Int), (f : Int), lsts order.length r, (((lsts order.length r).length : Nat) : Int), (j : Int), l, ((l.length : Nat) : Int), (i : Int))) ?_ ?_ ⟨[], rfl, by simp, rfl⟩)) ?_
    ·rintro i s hi ⟨from', hg1, hg2, rfl⟩
     unfold ref04_Renumber.L2; dsimp only
     have hq := hlq _ (List.getElem_mem hi)
     refine Bd.yes (dec_true (by omega)) (Bd.nth hi (Bd.chk (rng hq.1 (by have := hq.2; omega)) ?_))
     refine Bd.at (by have := hq.1; have := hq.2; omega) fun e hem _ => Bd.chk (lenOk (by simp; omega)) (Bd.again ⟨from' ++ [e], by simp; omega, fun q hq' => ?_, by rw [wrap_next (by omega)]; rfl⟩)
     rcases List.mem_append.1 hq' with h | h
     ·exact hg2 q h
     ·rw [List.mem_singleton.1 h]; exact hI2.2.1 e hem
    ·rintro s ⟨from', hg1, hg2, rfl⟩
     unfold ref04_Renumber.L2; dsimp only
     exact Bd.no (decide_eq_false (by omega)) (Bd.done ⟨from', mem_lsts.2 ⟨by omega, hg2⟩, rfl⟩)
    rintro _ ⟨from', hg, rfl⟩
    dsimp only
    refine Bd.bind (hNe tab f r from' hP (by rw [List.getElem?_eq_getElem hf, hri]) hg) fun to hto => ?_
    refine Bd.bind (R := fun x => ∃ b : Bool, (b = true → StOk (m : Int) to ∧ ∃ v, num2[to.toNat]? = some v ∧ v < 0) ∧ x = (al, (m : Int), fin, rs, (0 : Int), ([] : List Int), ([] : List Rule), (m : Int), tab, num2, order2, ((order.length : Nat) : Int), (f : Int), to, al, ((al.length : Nat) : Int), (f : Int), lsts order.length r, (((lsts order.length r).length : Nat) : Int), (j : Int), b)) ?_ ?_
    ·refine Tt.ite (fun h => ?_) (fun _ => Tt.pure ⟨false, fun h => (by cases h), rfl⟩)
     have h0 := dec_of h
     have hok : StOk (m : Int) to := by
      rcases hto with h | h
      ·omega
      ·exact h
     have hnl := hI2.1
     refine Tt.chk (rng h0 (by have := hok.2; omega)) (Tt.atB (by have := hok.2; omega) fun e _ he => Tt.pure ⟨_, fun hb => ⟨hok, e, he, dec_of hb⟩, rfl⟩)
    rintro _ ⟨b, hb, rfl⟩
    dsimp only
    refine Bd.bindIte (fun hbt => ?_) (fun _ => Bd.bindPure (Bd.again ⟨num2, order2, hI2, hle2, by rw [wrap_next (by omega)]⟩))
    obtain ⟨hok, v, hv1, hv2⟩ := hb hbt
    have hnl := hI2.1
    refine Bd.bindChk (rng hok.1 (by have := hok.2; omega)) (Bd.bindBind (Bd.at (by have := hok.1; have := hok.2; omega) fun e _ _ => ?_))
    refine Bd.bindChk (lenOk (by simp; omega)) (Bd.bindPure (Bd.again ⟨num2.set to.toNat ((order2.length : Nat) : Int), order2 ++ [to], ⟨by simpa using hnl, fun q hq => ?_, ?_⟩, by simp; omega, by rw [wrap_next (by omega)]; rfl⟩))
    ·rcases List.mem_append.1 hq with h | h
     ·exact hI2.2.1 q h
     ·rw [List.mem_singleton.1 h]; exact hok
    ·have h1 := ng_set (w := ((order2.length : Nat) : Int)) hv1 hv2 (by omega)
     have h2 := hI2.2.2
     simp only [List.length_append, List.length_singleton]
     omega
   ·rintro s ⟨num2, order2, hI2, hle2, rfl⟩
    unfold ref04_Renumber.L3; dsimp only
    exact Bd.no (decide_eq_false (by omega)) (Bd.done ⟨num2, order2, hI2, hle2, rfl⟩)
   ·rintro _ ⟨num2, order2, hI2, hle2, rfl⟩
    dsimp only
    exact Bd.again ⟨num2, order2, hI2, hle2, by rw [wrap_next (by omega)]⟩
  ·rintro s ⟨num1, order1, hI1, hle1, rfl⟩
   unfold ref04_Renumber.L4; dsimp only
   exact Bd.no (decide_eq_false (by omega)) (Bd.done ⟨num1, order1, hI1, hle1, rfl⟩)
  ·rintro _ ⟨num1, order1, hI1, hle1, rfl⟩
   dsimp only
   refine Bd.ite (fun _ => Bd.done ⟨num1, order1, hI1, rfl⟩) (fun h => Bd.again ⟨⟨num1, order1, hI1, rfl⟩, ?_⟩)
   have h := dec_not h
   have h2 := hI1.2.2
   dsimp only
   omega
 rintro _ ⟨num, order, hI, rfl⟩
 dsimp only
 have hom : order.length ≤ m := by have := hI.2.2; omega
 have hnl := hI.1
 refine Tt.bind (R := fun x => ∃ fin' : List Int, fin'.length ≤ 1000 ∧ x = ((m : Int), fin, rs, (0 : Int), ([] : List Int), ([] : List Rule), num, ((order.length : Nat) : Int), fin', ([] : List Rule)))
  (Tt.loop (Lp.count order.length (fun i s => ∃ fin' : List Int, fin'.length ≤ i ∧ s = ((m : Int), fin, rs, (0 : Int), ([] : List Int), ([] : List Rule), num, order, ((order.length : Nat) : Int), fin', ([] : List Rule), ((order.length : Nat) : Int), (i : Int))) ?_ ?_ ⟨[], by simp, rfl⟩)) ?_
 ·rintro i s hi ⟨fin', hf, rfl⟩
  unfold ref04_Renumber.L6; dsimp only
  refine Bd.yes (dec_true (by omega)) (Bd.chk (rng (by omega) (by omega)) ?_)
  rw [Int.toNat_natCast]
  refine Bd.at hi fun e _ _ => Bd.bind (hIn fin e hfl) fun b _ => Bd.bindIte (fun _ => ?_) (fun _ => ?_)
  ·exact Bd.bindChk (lenOk (by simp; omega)) (Bd.bindPure (Bd.again ⟨fin' ++ [(i : Int)], by simp; omega, by rw [wrap_next (by omega)]; rfl⟩))
  ·exact Bd.bindPure (Bd.again ⟨fin', by omega, by rw [wrap_next (by omega)]⟩)
 ·rintro s ⟨fin', hf, rfl⟩
  unfold ref04_Renumber.L6; dsimp only
  exact Bd.no (decide_eq_false (by omega)) (Bd.done ⟨fin', by omega, rfl⟩)
 rintro _ ⟨fin', hf, rfl⟩
 dsimp only
 have hrank : ∀ r ∈ rs, r.2.1.length ≤ 3 := fun r hr' => by
  obtain ⟨f, a, h1, _, h2, _⟩ := hr r hr'
  obtain ⟨h3, h4⟩ := mem_lsts.1 h2
  obtain ⟨hf, he⟩ := List.getElem?_eq_some_iff.1 h1
  obtain ⟨a', ha', e'⟩ := hal.rank hf
  omega
 refine Tt.bind (R := fun x => ∃ out : List Rule, out.length ≤ 1000000000 ∧ (∀ r ∈ out, r.2.1.length ≤ 1000) ∧ x = ((0 : Int), ([] : List Int), ([] : List Rule), ((order.length : Nat) : Int), fin', out))
  (Tt.loop (Lp.count rs.length (fun i s => ∃ out : List Rule, out.length ≤ i ∧ (∀ r ∈ out, r.2.1.length ≤ 1000) ∧ s = ((0 : Int), ([] : List Int), ([] : List Rule), num, ((order.length : Nat) : Int), fin', out, rs, ((rs.length : Nat) : Int), (i : Int))) ?_ ?_ ⟨[], by simp, by simp, rfl⟩)) ?_
 ·rintro i s hi ⟨out, ho1, ho2, rfl⟩
  unfold ref04_Renumber.L8; dsimp only
  obtain ⟨f, a, h1, h2, h3, h4⟩ := hr _ (List.getElem_mem hi)
  obtain ⟨h5, h6⟩ := mem_lsts.1 h3
  have h7 := hrank _ (List.getElem_mem hi)
  refine Bd.yes (dec_true (by omega)) (Bd.nth hi (Bd.chk (rng h4.1 (by have := h4.2; omega)) (Bd.at (by have := h4.1; have := h4.2; omega) fun e _ _ => ?_)))
  refine Bd.bind (R := fun x => ∃ from' : List Int, from'.length ≤ 1000 ∧ x = ((0 : Int), ([] : List Int), ([] : List Rule), num, ((order.length : Nat) : Int), fin', out, rs[i].1, from', e, rs, ((rs.length : Nat) : Int), (i : Int)))
   (Tt.loop (Lp.count rs[i].2.1.length (fun j s => ∃ from' : List Int, from'.length ≤ j ∧ s = ((0 : Int), ([] : List Int), ([] : List Rule), num, ((order.length : Nat) : Int), fin', out, rs[i].1, from', e, rs, ((rs.length : Nat) : Int), (i : Int), rs[i].2.1, ((rs[i].2.1.length : Nat) : Int), (j : Int))) ?_ ?_ ⟨[], by simp, rfl⟩)) ?_
  ·rintro j s hj ⟨from', hg, rfl⟩
   unfold ref04_Renumber.L7; dsimp only
   have hq := h6 _ (List.getElem_mem hj)
   refine Bd.yes (dec_true (by omega)) (Bd.nth hj (Bd.chk (rng hq.1 (by have := hq.2; omega)) (Bd.at (by have := hq.1; have := hq.2; omega) fun e' _ _ => ?_)))
   exact Bd.chk (lenOk (by simp; omega)) (Bd.again ⟨from' ++ [e'], by simp; omega, by rw [wrap_next (by omega)]; rfl⟩)
  ·rintro s ⟨from', hg, rfl⟩
   unfold ref04_Renumber.L7; dsimp only
   exact Bd.no (decide_eq_false (by omega)) (Bd.done ⟨from', by omega, rfl⟩)
  ·rintro _ ⟨from', hg, rfl⟩
   dsimp only
   refine Bd.chk (lenOk (by simp; omega)) (Bd.again ⟨out ++ [(rs[i].1, from', e)], by simp; omega, fun r hr' => ?_, by rw [wrap_next (by omega)]; rfl⟩)
   rcases List.mem_append.1 hr' with h | h
   ·exact ho2 r h
   ·rw [List.mem_singleton.1 h]; exact hg
 ·rintro s ⟨out, ho1, ho2, rfl⟩
  unfold ref04_Renumber.L8; dsimp only
  exact Bd.no (decide_eq_false (by omega)) (Bd.done ⟨out, by omega, ho2, rfl⟩)
 rintro _ ⟨out, ho1, ho2, rfl⟩
 dsimp only
 refine Tt.bind (hSo out ho1 ho2) fun r hr' => Tt.pure ⟨hf, by have := hr'.1; simp only; omega, fun y hy => ho2 y (hr'.2 y hy)⟩
end
end Go.Bk
end
noncomputable section
namespace Go.Bk
open Go Go.AM
set_option linter.unusedVariables false
section
variable {In : Nat → List Int × Int → Option Bool} {Is : Nat → List Int × Int → Option (List Int)} {Tr : Nat → Int × List Int × List Rule → Option Aut} {Fi : Nat → List Int × Int × List Int × List Rule → Option Aut} {Ov : Nat → List Int × Int → Option Bool}
 {Re : Nat → List Int × Int × List Int × List Rule → Option Aut} {Su : Nat → List Int × Int × List Int × List Rule → Option (Int × List Int × List Rule × List (List Int) × Int)} {Cl : Nat → List Int × Int × List Int × List Rule → Option (List Int)}
def SubOk (al : List Int) (t : Int × List Int × List Rule × List (List Int) × Int) : Prop :=
 t.2.2.2.2 = 0 → AlOk al ∧ ∃ m : Nat, m ≤ 300 ∧ t.1 = (m : Int) ∧ t.2.1.length ≤ 300 ∧ (∀ q ∈ t.2.1, StOk (m : Int) q) ∧ t.2.2.1.length ≤ 20000 ∧ ∀ r ∈ t.2.2.1, RuleD al m r
def FilOk (al : List Int) (m : Nat) (fin : List Int) (t : Aut) : Prop :=
 t.1 = ((m + 1 : Nat) : Int) ∧ t.2.1 = fin ∧ t.2.2.length ≤ 1000000000 ∧ (∀ r ∈ t.2.2, RuleD al (m + 1) r) ∧ Compl al (m + 1) t.2.2
theorem StOk.mono {a b q : Int} (h : StOk a q) (hab : a ≤ b) : StOk b q := ⟨h.1, by have := h.2; omega⟩
theorem tt_Minimal (al : List Int) (S : Int) (fin : List Int) (rs : List Rule) (hw : WfS S fin rs)
 (hTr : ∀ S fin rs, WfS S fin rs → Sp Tr (S, fin, rs) (Kept S fin rs)) (hSu : ∀ S fin rs, WfS S fin rs → Sp Su (al, S, fin, rs) (SubOk al)) (hOv : ∀ m, AlOk al → Sp Ov (al, m) (fun _ => True))
 (hFi : ∀ (m : Nat) fin rs, AlOk al → m ≤ 300 → fin.length ≤ 300 → rs.length ≤ 20000 → (∀ r ∈ rs, RuleD al m r) → Sp Fi (al, (m : Int), fin, rs) (FilOk al m fin))
 (hCl : ∀ (m : Nat) fin rs, AlOk al → m ≤ 301 → fin.length ≤ 1000000000 → (∀ q ∈ fin, StOk (m : Int) q) → rs.length ≤ 1000000000 → (∀ r ∈ rs, RuleD al m r) → Compl al m rs → Sp Cl (al, (m : Int), fin, rs) (fun l => l.length = m ∧ ∀ v ∈ l, StOk (m : Int) v))
 (hRe : ∀ (m : Nat) fin rs, AlOk al → m ≤ 301 → fin.length ≤ 1000000000 → rs.length ≤ 1000000000 → (∀ r ∈ rs, RuleD al m r) → Sp Re (al, (m : Int), fin, rs) RnOk)
 (hIn : ∀ (l : List Int) (v : Int), l.length ≤ 1000000000 → Sp In (l, v) (fun _ => True))
 (hIs : ∀ l v, l.length ≤ 1000000000 → Sp Is (l, v) (fun r => (∀ y, y ∈ r ↔ y = v ∨ y ∈ l) ∧ r.length ≤ l.length + 1 ∧ (SInc l → SInc r))) :
 Sp (fun n => ref04_Minimal.P (In n) (Is n) (Tr n) (Fi n) (Ov n) (Re n) (Su n) (Cl n) n) (al, S, fin, rs) (fun t => RnOk (t.1, t.2.1, t.2.2.1)) := by
 have hz : RnOk ((0 : Int), ([] : List Int), ([] : List Rule)) := ⟨by simp, by simp, fun r h => by simp at h⟩
 show Tt (fun n => ref04_Minimal.P (In n) (Is n) (Tr n) (Fi n) (Ov n) (Re n) (Su n) (Cl n) n (al, S, fin, rs)) _
 unfold ref04_Minimal.P; dsimp only
 refine Tt.bind (hTr S fin rs hw) fun r1 hr1 => ?_
 refine Tt.bind (hSu _ _ _ (hr1.wf hw)) fun r2 hr2 => ?_
 refine Tt.bind (R := fun x => ∃ b : Bool, (b = false → r2.2.2.2.2 = 0) ∧ x = (al, (0 : Int), ([] : List Int), ([] : List Rule), r2.1, r2.2.1, r2.2.2.1, b)) ?_ ?_
 ·refine Tt.ite (fun _ => Tt.pure ⟨true, fun h => (by cases h), rfl⟩) (fun h => ?_)
  have h0 : r2.2.2.2.2 = 0 := by simpa using h
  exact Tt.bind (hOv _ (hr2 h0).1) fun b _ => Tt.pure ⟨b, fun _ => h0, rfl⟩
 rintro _ ⟨b, hb, rfl⟩
 dsimp only
 refine Tt.ite (fun _ => Tt.pure hz) (fun hbf => ?_)
 obtain ⟨hal, m, hm, e1, h2, h3, h4, h5⟩ := hr2 (hb hbf)
 rw [e1]
 refine Tt.bind (hFi m _ _ hal hm h2 h4 h5) fun d hd => ?_
 obtain ⟨dS, dF, dR⟩ := d
 obtain ⟨d1, d2, d3, d4, d5⟩ := hd
 dsimp only at d1 d2 d3 d4 d5 ⊢
 subst d1 d2
 have hfok : ∀ q ∈ r2.2.1, StOk ((m + 1 : Nat) : Int) q := fun q hq => (h3 q hq).mono (by omega)
 refine Tt.bind (hCl (m + 1) _ _ hal (by omega) (by omega) hfok d3 d4 d5) fun num hnum => ?_
 obtain ⟨hn1, hn2⟩ := hnum
 refine Tt.bind (R := fun x => ∃ C : Int, 0 ≤ C ∧ C ≤ ((m + 1 : Nat) : Int) ∧ (∀ v ∈ num, v < C) ∧ x = (al, (0 : Int), ([] : List Int), ([] : List Rule), ((m + 1 : Nat) : Int), r2.2.1, dR, num, C, ([] : List Int), ([] : List Rule)))
  (Tt.loop (Lp.count num.length (fun i s => ∃ C : Int, 0 ≤ C ∧ C ≤ ((m + 1 : Nat) : Int) ∧ (∀ v ∈ num.take i, v < C) ∧ s = (al, (0 : Int), ([] : List Int), ([] : List Rule), ((m + 1 : Nat) : Int), r2.2.1, dR, num, C, ([] : List Int), ([] : List Rule), ((num.length : Nat) : Int), (i : Int))) ?_ ?_ ⟨0, by omega, by omega, by simp, rfl⟩)) ?_
 ·rintro i s hi ⟨C, c0, c1, c2, rfl⟩
  unfold ref04_Minimal.L1; dsimp only
  refine Bd.yes (dec_true (by omega)) (Bd.chk (rng (by omega) (by omega)) ?_)
  rw [Int.toNat_natCast]
  refine Bd.at hi fun e hem he => ?_
  have hv := hn2 e hem
  have hv1 := hv.1; have hv2 := hv.2
  rw [wrap_id (e + 1) (by omega) (by omega)]
  refine Bd.again ⟨max C (e + 1), by omega, by omega, fun v hv => ?_, by rw [wrap_next (by omega)]⟩
  rw [List.take_add_one, he] at hv
  rcases List.mem_append.1 hv with h | h
  ·have := c2 v h; omega
  ·have : v = e := by simpa using h
   omega
 ·rintro s ⟨C, c0, c1, c2, rfl⟩
  unfold ref04_Minimal.L1; dsimp only
  exact Bd.no (decide_eq_false (by omega)) (Bd.done ⟨C, c0, c1, fun v hv => c2 v (by rw [List.take_length]; exact hv), rfl⟩)
 rintro _ ⟨C, c0, c1, c2, rfl⟩
 dsimp only
 have hnC : ∀ v ∈ num, StOk C v := fun v hv => ⟨(hn2 v hv).1, c2 v hv⟩
 refine Tt.bind (R := fun x => ∃ fin' : List Int, fin'.length ≤ num.length ∧ (∀ q ∈ fin', StOk C q) ∧ x = (al, (0 : Int), ([] : List Int), ([] : List Rule), ((m + 1 : Nat) : Int), r2.2.1, dR, num, C, fin', ([] : List Rule)))
  (Tt.loop (Lp.count num.length (fun i s => ∃ fin' : List Int, fin'.length ≤ i ∧ (∀ q ∈ fin', StOk C q) ∧ s = (al, (0 : Int), ([] : List Int), ([] : List Rule), ((m + 1 : Nat) : Int), r2.2.1, dR, num, C, fin', ([] : List Rule), ((num.length : Nat) : Int), (i : Int))) ?_ ?_ ⟨[], by simp, by simp, rfl⟩)) ?_
 ·rintro i s hi ⟨fin', f1, f2, rfl⟩
  unfold ref04_Minimal.L2; dsimp only
  refine Bd.yes (dec_true (by omega)) (Bd.chk (rng (by omega) (by omega)) ?_)
  rw [Int.toNat_natCast]
  refine Bd.at hi fun e hem he => Bd.bind (hIn _ _ (by omega)) fun b _ => Bd.bindIte (fun _ => ?_) (fun _ => ?_)
  ·refine Bd.bindBind (Bd.bind (hIs fin' e (by omega)) fun r hr => Bd.bindPure (Bd.again ⟨r, by have := hr.2.1; omega, fun q hq => ?_, by rw [wrap_next (by omega)]⟩))
   rcases (hr.1 q).1 hq with h | h
   ·rw [h]; exact hnC e hem
   ·exact f2 q h
  ·exact Bd.bindPure (Bd.again ⟨fin', by omega, f2, by rw [wrap_next (by omega)]⟩)
 ·rintro s ⟨fin', f1, f2, rfl⟩
  unfold ref04_Minimal.L2; dsimp only
  exact Bd.no (decide_eq_false (by omega)) (Bd.done ⟨fin', f1, f2, rfl⟩)
 rintro _ ⟨fin', f1, f2, rfl⟩
 dsimp only
 refine Tt.bind (R := fun x => ∃ out : List Rule, out.length ≤ dR.length ∧ (∀ r ∈ out, KeptR C dR r) ∧ x = (al, (0 : Int), ([] : List Int), ([] : List Rule), C, fin', out))
  (Tt.loop (Lp.count dR.length (fun i s => ∃ out : List Rule, out.length ≤ i ∧ (∀ r ∈ out, KeptR C dR r) ∧ s = (al, (0 : Int), ([] : List Int), ([] : List Rule), ((m + 1 : Nat) : Int), r2.2.1, dR, num, C, fin', out, ((dR.length : Nat) : Int), (i : Int))) ?_ ?_ ⟨[], by simp, by simp, rfl⟩)) ?_
 ·rintro i s hi ⟨out, o1, o2, rfl⟩
  unfold ref04_Minimal.L4; dsimp only
  obtain ⟨f, a, g1, g2, g3, g4⟩ := d4 _ (List.getElem_mem hi)
  obtain ⟨g5, g6⟩ := mem_lsts.1 g3
  have g7 := g4.1; have g8 := g4.2
  have hr3 : dR[i].2.1.length ≤ 3 := by
   obtain ⟨hf, he⟩ := List.getElem?_eq_some_iff.1 g1
   obtain ⟨a', ha', e'⟩ := hal.rank hf
   omega
  refine Bd.yes (dec_true (by omega)) (Bd.nth hi (Bd.chk (rng g7 (by omega)) (Bd.at (by omega) fun e hem _ => ?_)))
  refine Bd.bind (R := fun x => ∃ from' : List Int, from'.length = dR[i].2.1.length ∧ (∀ q ∈ from', StOk C q) ∧ x = (al, (0 : Int), ([] : List Int), ([] : List Rule), ((m + 1 : Nat) : Int), r2.2.1, dR, num, C, fin', out, dR[i].1, from', e, ((dR.length : Nat) : Int), (i : Int)))
   (Tt.loop (Lp.count dR[i].2.1.length (fun j s => ∃ from' : List Int, from'.length = j ∧ (∀ q ∈ from', StOk C q) ∧ s = (al, (0 : Int), ([] : List Int), ([] : List Rule), ((m + 1 : Nat) : Int), r2.2.1, dR, num, C, fin', out, dR[i].1, from', e, ((dR.length : Nat) : Int), (i : Int), dR[i].2.1, ((dR[i].2.1.length : Nat) : Int), (j : Int))) ?_ ?_ ⟨[], by simp, by simp, rfl⟩)) ?_
  ·rintro j s hj ⟨from', k1, k2, rfl⟩
   unfold ref04_Minimal.L3; dsimp only
   have hq := g6 _ (List.getElem_mem hj)
   have hq1 := hq.1; have hq2 := hq.2
   refine Bd.yes (dec_true (by omega)) (Bd.nth hj (Bd.chk (rng hq1 (by omega)) (Bd.at (by omega) fun e' hem' _ => ?_)))
   refine Bd.chk (lenOk (by simp; omega)) (Bd.again ⟨from' ++ [e'], by simp; omega, fun q hq => ?_, by rw [wrap_next (by omega)]; rfl⟩)
   rcases List.mem_append.1 hq with h | h
   ·exact k2 q h
   ·rw [List.mem_singleton.1 h]; exact hnC e' hem'
  ·rintro s ⟨from', k1, k2, rfl⟩
   unfold ref04_Minimal.L3; dsimp only
   exact Bd.no (decide_eq_false (by omega)) (Bd.done ⟨from', k1, k2, rfl⟩)
  ·rintro _ ⟨from', k1, k2, rfl⟩
   dsimp only
   refine Bd.chk (lenOk (by simp; omega)) (Bd.again ⟨out ++ [(dR[i].1, from', e)], by simp; omega, fun r hr => ?_, by rw [wrap_next (by omega)]; rfl⟩)
   rcases List.mem_append.1 hr with h | h
   ·exact o2 r h
   ·rw [List.mem_singleton.1 h]
    exact ⟨hnC e hem, k2, dR[i], List.getElem_mem hi, rfl, k1⟩
 ·rintro s ⟨out, o1, o2, rfl⟩
  unfold ref04_Minimal.L4; dsimp only
  exact Bd.no (decide_eq_false (by omega)) (Bd.done ⟨out, o1, o2, rfl⟩)
 rintro _ ⟨out, o1, o2, rfl⟩
 dsimp only
 have hlen3 : ∀ r ∈ dR, r.2.1.length ≤ 3 := fun r hr => by
  obtain ⟨f, a, g1, g2, g3, g4⟩ := d4 r hr
  obtain ⟨g5, g6⟩ := mem_lsts.1 g3
  obtain ⟨hf, he⟩ := List.getElem?_eq_some_iff.1 g1
  obtain ⟨a', ha', e'⟩ := hal.rank hf
  omega
 have hw2 : WfS C fin' out := ⟨c0, by omega, by omega, by omega, f2, fun r hr => by
  obtain ⟨a1, a2, r0, a3, a4, a5⟩ := o2 r hr
  have := hlen3 r0 a3
  exact ⟨a1, a2, by omega⟩⟩
 refine Tt.bind (hTr C fin' out hw2) fun t ht => ?_
 obtain ⟨t0, t1, t2, t3, t4, t5⟩ := ht
 obtain ⟨k, hk⟩ : ∃ k : Nat, t.1 = (k : Int) := ⟨t.1.toNat, by omega⟩
 rw [hk] at t5 ⊢
 refine Tt.bind (hRe k t.2.1 t.2.2 hal (by omega) (by omega) (by omega) fun r' hr' => ?_) fun r hr => Tt.pure hr
 obtain ⟨a1, a2, r0, a3, a4, a5⟩ := t5 r' hr'
 obtain ⟨b1, b2, r1', b3, b4, b5⟩ := o2 r0 a3
 obtain ⟨f, a, g1, g2, g3, g4⟩ := d4 r1' b3
 exact ⟨f, a, g1, by rw [a4, b4]; exact g2, mem_lsts.2 ⟨by have := (mem_lsts.1 g3).1; omega, a2⟩, a1⟩
end
theorem tt_Same {Li : Nat → List Int × List Int → Option Bool} (a : Aut) (h : RnOk a) (hLi : ∀ x y : List Int, x.length ≤ 1000 → Sp Li (x, y) (fun r => r = true ↔ x = y)) :
 Sp (fun n => ref03_Same.P (Li n) n) (a.1, a.2.1, a.2.2, a.1, a.2.1, a.2.2) (fun b => b = true) := by
 show Tt (fun n => ref03_Same.P (Li n) n (a.1, a.2.1, a.2.2, a.1, a.2.1, a.2.2)) _
 unfold ref03_Same.P; dsimp only
 obtain ⟨h1, h2, h3⟩ := h
 refine Tt.bind (R := fun x => x = (a.1, a.2.1, a.2.2, a.1, a.2.1, a.2.2, false)) ?_ ?_
 ·refine Tt.no (by simp) (Tt.bind (hLi _ _ h1) fun b hb => ?_)
  have : b = true := hb.2 rfl
  subst this
  exact Tt.no rfl (Tt.pure (by simp))
 rintro _ rfl
 dsimp only
 refine Tt.no rfl ?_
 refine Tt.bind (R := fun q => q = Sum.inl ()) (Tt.loop (Lp.count a.2.2.length (fun i s => s = (a.1, a.2.1, a.2.2, a.2.2, ((a.2.2.length : Nat) : Int), (i : Int))) ?_ ?_ rfl)) ?_
 ·rintro i s hi rfl
  unfold ref03_Same.L1; dsimp only
  refine Bd.yes (dec_true (by omega)) (Bd.nth hi ?_)
  refine Bd.bind (R := fun x => x = (a.1, a.2.1, a.2.2, a.2.2, ((a.2.2.length : Nat) : Int), (i : Int), false)) ?_ ?_
  ·refine Tt.nthB hi (Tt.no (by simp) (Tt.nthB hi (Tt.no (by simp) (Tt.nthB hi (Tt.bind (hLi _ _ (h3 _ (List.getElem_mem hi))) fun b hb => ?_)))))
   have : b = true := hb.2 rfl
   subst this
   exact Tt.pure rfl
  rintro _ rfl
  dsimp only
  exact Bd.no rfl (Bd.again (by rw [wrap_next (by omega)]))
 ·rintro s rfl
  unfold ref03_Same.L1; dsimp only
  exact Bd.no (decide_eq_false (by omega)) (Bd.done rfl)
 ·rintro _ rfl
  exact Tt.pure rfl
theorem tt_Equal {Sa : Nat → Int × List Int × List Rule × Int × List Int × List Rule → Option Bool} {Mi : Nat → List Int × Int × List Int × List Rule → Option (Int × List Int × List Rule × Bool)} (al : List Int) (a : Aut)
 (hMi : Sp Mi (al, a.1, a.2.1, a.2.2) (fun t => RnOk (t.1, t.2.1, t.2.2.1))) (hSa : ∀ a : Aut, RnOk a → Sp Sa (a.1, a.2.1, a.2.2, a.1, a.2.1, a.2.2) (fun b => b = true)) :
 Sp (fun n => ref04_Equal.P (Sa n) (Mi n) n) (al, a.1, a.2.1, a.2.2, a.1, a.2.1, a.2.2) (fun r => r.1 = true ∨ r.2 = false) := by
 show Tt (fun n => ref04_Equal.P (Sa n) (Mi n) n (al, a.1, a.2.1, a.2.2, a.1, a.2.1, a.2.2)) _
 unfold ref04_Equal.P; dsimp only
 refine Tt.bind (Tt.val hMi) fun t ht => Tt.bind (Tt.val hMi) fun t' ht' => ?_
 have := Val.uniq ht.2 ht'.2
 subst this
 refine Tt.bind (R := fun r => r.1 = true ∨ r.2 = false) ?_ fun r hr => Tt.pure hr
 refine Tt.ite (fun h => Tt.yes h (Tt.bind (hSa (t.1, t.2.1, t.2.2.1) ht.1) fun b hb => Tt.yes h (Tt.pure (.inl hb)))) (fun h => Tt.no h (Tt.pure (.inr rfl)))
end Go.Bk
end
