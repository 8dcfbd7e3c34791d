import Derived.Test.YtgkobbodicfofaaDoorMo
import Derived.Test.YtgkobbodicfofaaDoorMj
import Derived.Test.YtgkobbodicfofaaDoorMk
noncomputable section
namespace Go.Bk
open Go Go.AM
set_option linter.unusedVariables false
def MapOk (b to sy : List Int) : Prop := sy.length = b.length ∧ ∀ (i : Nat) (t : Int), sy[i]? = some t → StOk ((to.length : Nat) : Int) t ∧ to[t.toNat]? = b[i]?
def MapV (b to sy : List Int) (v : Int) : Prop := (v = 2 ∧ sy.length ≠ b.length) ∨ (v = 6 ∧ sy.length = b.length ∧ ¬ MapOk b to sy) ∨ (v = 0 ∧ MapOk b to sy)
theorem MapV.uniq {b to sy : List Int} {v w : Int} (h : MapV b to sy v) (h' : MapV b to sy w) : v = w := by
 rcases h with ⟨h1, h2⟩ | ⟨h1, h2, h3⟩ | ⟨h1, h2⟩ <;> rcases h' with ⟨k1, k2⟩ | ⟨k1, k2, k3⟩ | ⟨k1, k2⟩
 ·omega
 ·exact absurd k2 h2
 ·exact absurd k2.1 h2
 ·exact absurd h2 k2
 ·omega
 ·exact absurd k2 h3
 ·exact absurd h2.1 k2
 ·exact absurd h2 k3
 ·omega
theorem sp_mapped (b to sy : List Int) (h : sy.length ≤ 1000) : Sp boolean_mapped.P (b, to, sy) (MapV b to sy) := by
 show Tt (fun n => boolean_mapped.P n (b, to, sy)) _
 unfold boolean_mapped.P; dsimp only
 refine Tt.ite (fun hne => Tt.pure (.inl ⟨rfl, fun e => ?_⟩)) (fun heq => ?_)
 ·simp [e] at hne
 have heq : sy.length = b.length := by
  have : ((sy.length : Nat) : Int) = ((b.length : Nat) : Int) := by simpa using heq
  omega
 refine Tt.bind (R := fun q => (q = Sum.inl () ∧ MapOk b to sy) ∨ (q = Sum.inr 6 ∧ ¬ MapOk b to sy))
  (Tt.loop (Lp.count sy.length (fun i s => (∀ (k : Nat) (t : Int), k < i → sy[k]? = some t → StOk ((to.length : Nat) : Int) t ∧ to[t.toNat]? = b[k]?) ∧ s = (b, to, sy, ((sy.length : Nat) : Int), (i : Int))) ?_ ?_ ⟨fun k t hk => absurd hk (by omega), rfl⟩)) ?_
 ·rintro i s hi ⟨hI, rfl⟩
  unfold boolean_mapped.L1; dsimp only
  refine Bd.yes (dec_true (by omega)) (Bd.nth hi ?_)
  have hsi : sy[i]? = some sy[i] := List.getElem?_eq_getElem hi
  refine Bd.bind (R := fun x => ∃ c : Bool, (c = false ↔ (StOk ((to.length : Nat) : Int) sy[i] ∧ to[sy[i].toNat]? = b[i]?)) ∧ x = (b, to, sy, ((sy.length : Nat) : Int), (i : Int), c)) ?_ ?_
  ·refine Tt.ite (fun h => Tt.pure ⟨true, ⟨fun h' => (by cases h'), fun ⟨h1, _⟩ => ?_⟩, rfl⟩) (fun h1 => Tt.ite (fun h => Tt.pure ⟨true, ⟨fun h' => (by cases h'), fun ⟨h1, _⟩ => ?_⟩, rfl⟩) (fun h2 => ?_))
   ·have := dec_of h; have := h1.1; omega
   ·have := dec_of h; have := h1.2; omega
   ·have h1 := dec_not h1; have h2 := dec_not h2
    refine Tt.nthI (by omega) (by omega) fun e _ he => Tt.nthB (by omega) (Tt.pure ⟨_, ?_, rfl⟩)
    rw [he, List.getElem?_eq_getElem (by omega : i < b.length)]
    constructor
    ·intro h; exact ⟨⟨by omega, by omega⟩, by simpa using h⟩
    ·rintro ⟨_, h⟩; simpa using h
  ·rintro _ ⟨c, hc, rfl⟩
   dsimp only
   refine Bd.ite (fun hct => Bd.done (.inr ⟨rfl, fun hm => ?_⟩)) (fun hcf => Bd.again ⟨fun k t hk hkt => ?_, by rw [wrap_next (by omega)]⟩)
   ·have := hc.2 (hm.2 i _ hsi)
    rw [this] at hct; cases hct
   ·rcases Nat.lt_or_ge k i with h | h
    ·exact hI k t h hkt
    ·obtain rfl : k = i := by omega
     rw [hsi] at hkt
     have := Option.some.inj hkt
     subst this
     exact hc.1 hcf
 ·rintro s ⟨hI, rfl⟩
  unfold boolean_mapped.L1; dsimp only
  exact Bd.no (decide_eq_false (by omega)) (Bd.done (.inl ⟨rfl, heq, fun k t hk => hI k t (List.getElem?_eq_some_iff.1 hk).1 hk⟩))
 ·rintro q (⟨rfl, h⟩ | ⟨rfl, h⟩)
  ·exact Tt.pure (.inr (.inr ⟨rfl, h⟩))
  ·exact Tt.pure (.inr (.inl ⟨rfl, heq, h⟩))
theorem sp_ref05_Mapped (b to sy : List Int) (h : sy.length ≤ 1000) : Sp ref05_Mapped.P (b, to, sy) (MapV b to sy) := sp_mapped b to sy h
mutual
def mapT (sy : List Int) : RT Int → RT Int
 | .mk a ks => .mk (sy.getD a.toNat 0) (mapTs sy ks)
def mapTs (sy : List Int) : List (RT Int) → List (RT Int)
 | [] => []
 | k :: ks => mapT sy k :: mapTs sy ks
end
theorem mapTs_map (sy : List Int) : ∀ ks : List (RT Int), mapTs sy ks = ks.map (mapT sy)
 | [] => rfl
 | k :: ks => by rw [mapTs, mapTs_map sy ks]; rfl
theorem ndss_map {f : RT Int → RT Int} : ∀ ks : List (RT Int), (∀ k ∈ ks, nds (f k) = nds k) → ndss (ks.map f) = ndss ks
 | [], _ => rfl
 | k :: ks, h => by
   show nds (f k) + ndss (ks.map f) = nds k + ndss ks
   rw [h k (List.mem_cons_self ..), ndss_map ks fun x hx => h x (List.mem_cons_of_mem _ hx)]
theorem nds_mapT (sy : List Int) (t : RT Int) : nds (mapT sy t) = nds t := by
 induction t using rt_ind with
 | h a ks ih =>
 rw [mapT, mapTs_map]
 show ndss (ks.map (mapT sy)) + 1 = ndss ks + 1
 rw [ndss_map ks ih]
theorem MapOk.sym {b to sy : List Int} (h : MapOk b to sy) {a : Int} {ar : Int} (h0 : 0 ≤ a) (ha : b[a.toNat]? = some ar) : sy[a.toNat]? = some (sy.getD a.toNat 0) ∧ 0 ≤ sy.getD a.toNat 0 ∧ to[(sy.getD a.toNat 0).toNat]? = some ar := by
 obtain ⟨hl, _⟩ := List.getElem?_eq_some_iff.1 ha
 have hs : a.toNat < sy.length := by have := h.1; omega
 have e : sy.getD a.toNat 0 = sy[a.toNat] := by rw [List.getD_eq_getElem?_getD, List.getElem?_eq_getElem hs]; rfl
 have h1 := h.2 a.toNat sy[a.toNat] (List.getElem?_eq_getElem hs)
 rw [e]
 exact ⟨List.getElem?_eq_getElem hs, h1.1.1, h1.2.trans ha⟩
theorem mapT_shp {b to sy : List Int} (h : MapOk b to sy) (t : RT Int) : Shp b t → Shp to (mapT sy t) := by
 induction t using rt_ind with
 | h a ks ih =>
 intro hs
 rw [mapT, mapTs_map]
 have h1 := h.sym hs.nonneg hs.ar
 refine .mk _ _ h1.2.1 (by rw [List.length_map]; exact h1.2.2) fun k hk => ?_
 obtain ⟨k0, hk0, rfl⟩ := List.mem_map.1 hk
 exact ih k0 hk0 (hs.kid k0 hk0)
theorem sp_Map {F : Nat → List Int × Int × List (RT Int) → Option (Int × List (RT Int))} (hF : ∀ n x, F (n + 1) x = ref05_Map.P (F n) n x) {b to sy : List Int} (h : MapOk b to sy) (t : RT Int) :
 nds t ≤ 1000000000 → Shp b t → Sp F (sy, t.a, t.kids) (fun r => r = ((mapT sy t).a, (mapT sy t).kids)) := by
 induction t using rt_ind with
 | h a ks ih =>
 intro hn hs
 refine Sp.step (F := F) (G := fun n => ref05_Map.P (F n) n) hF ?_
 show Tt (fun n => ref05_Map.P (F n) n (sy, a, ks)) _
 unfold ref05_Map.P; dsimp only
 have h1 := h.sym hs.nonneg hs.ar
 obtain ⟨hsl, he⟩ := List.getElem?_eq_some_iff.1 h1.1
 have h0 := hs.nonneg
 have hkl : ks.length ≤ 1000000000 := Nat.le_trans nds_len hn
 refine Tt.nthI h0 (by omega) fun e _ hse => ?_
 have hee : e = sy.getD a.toNat 0 := by rw [h1.1] at hse; exact (Option.some.inj hse).symm
 refine Tt.bind (R := fun x => x = ((0 : Int), ([] : List (RT Int)), e, ks.map (mapT sy)))
  (Tt.loop (Lp.count ks.length (fun i s => s = (sy, (0 : Int), ([] : List (RT Int)), e, (ks.take i).map (mapT sy), ks, ((ks.length : Nat) : Int), (i : Int))) ?_ ?_ rfl)) ?_
 ·rintro i s hi rfl
  unfold ref05_Map.L1; dsimp only
  have hm := List.getElem_mem hi
  refine Bd.yes (dec_true (by omega)) (Bd.nth hi (Bd.bind (ih _ hm (Nat.le_trans (nds_kid hm) hn) (hs.kid _ hm)) fun r hr => ?_))
  subst hr
  refine Bd.chk (lenOk (by simp; omega)) (Bd.again ?_)
  rw [wrap_next (by omega), List.take_add_one, List.getElem?_eq_getElem hi, Option.toList_some, List.map_append, List.map_singleton]
  show (_, _, _, _, List.map (mapT sy) (List.take i ks) ++ [RT.mk (mapT sy ks[i]).a (mapT sy ks[i]).kids], _) = _
  rw [rt_eta]
 ·rintro s rfl
  unfold ref05_Map.L1; dsimp only
  exact Bd.no (decide_eq_false (by omega)) (Bd.done (by rw [List.take_length]))
 ·rintro _ rfl
  refine Tt.pure ?_
  rw [mapT, mapTs_map, hee]; rfl
def Mid (c : Aut) : Prop := c.2.1.length ≤ 100 ∧ c.2.2.length ≤ 2000 ∧ ∀ r ∈ c.2.2, r.2.1.length ≤ 10
theorem FewOk.mid {al : List Int} {c : Aut} (h : FewOk al c) : Mid c := ⟨by have := h.2.1; omega, by have := h.2.2.1; omega, h.2.2.2.2⟩
theorem ValidA.from3 {al : List Int} {c : Aut} (h : ValidA al c) : ∀ r ∈ c.2.2, r.2.1.length ≤ 3 := by
 intro r hr
 have h1 := (h.rule hr).ar
 obtain ⟨hk, hk'⟩ := List.getElem?_eq_some_iff.mp h1.2
 have := (h.1.2 _ hk).2
 omega
theorem one_iff {P : Aut → Prop} {a : Aut} : (∀ b ∈ [a], P b) ↔ P a := ⟨fun h => h _ (List.mem_singleton.mpr rfl), fun h b hb => List.mem_singleton.mp hb ▸ h⟩
end Go.Bk
end
noncomputable section
namespace Go.Bk
open Go Go.AM
set_option linter.unusedVariables false
theorem wrap_small {x : Int} (h0 : -4611686018427387904 ≤ x) (h1 : x ≤ 4611686018427387904) : IntKind.wrap .i64 x = x := wrap_id _ (by omega) (by omega)
theorem wrap_u {x : Int} (h0 : 0 ≤ x) (h1 : x < 4294967296) : IntKind.wrap .u64 x = x := by
 unfold IntKind.wrap
 simp only [IntKind.signed, IntKind.bits, Bool.false_and, Bool.false_eq_true, if_false]
 omega
abbrev OrF : Type := Nat → Int × List Int × Int × Int × List Int × Int → Option Int
def OrdT (O : OrF) : Prop := ∀ x y : Rule, x.2.1.length ≤ 1000 → y.2.1.length ≤ 1000 → Sp O (x.1, x.2.1, x.2.2, y.1, y.2.1, y.2.2) (fun v => v = 0 ↔ x = y)
def Base (D : List Rule) : Prop := D.length ≤ 40 ∧ ∀ r ∈ D, r.2.1.length ≤ 1000
theorem Base.from {D d : List Rule} (h : Base D) (hp : d.Perm D) {r : Rule} (hr : r ∈ d) : r.2.1.length ≤ 1000 := h.2 r (hp.mem_iff.1 hr)
theorem swap_perm {D d : List Rule} (hp : d.Perm D) {i j : Nat} {x y : Rule} (hx : d[i]? = some x) (hy : d[j]? = some y) : ((d.set i y).set j x).Perm D := by
 obtain ⟨hi, rfl⟩ := List.getElem?_eq_some_iff.1 hx
 obtain ⟨hj, rfl⟩ := List.getElem?_eq_some_iff.1 hy
 exact (List.set_set_perm hi hj).trans hp
section
variable {O : OrF} {D : List Rule}
theorem Tt.cmp2 {β : Type} {G : Nat → Int → Option β} {Q : β → Prop} (hO : OrdT O) (hD : Base D) {d : List Rule} (hp : d.Perm D) {p q : Int} (hp0 : 0 ≤ p) (hp1 : p < ((D.length : Nat) : Int)) (hq0 : 0 ≤ q) (hq1 : q < ((D.length : Nat) : Int)) (hG : ∀ v, Tt (fun n => G n v) Q) :
 Tt (fun n => bif decide (0 ≤ p) && decide (p < ((List.length d : Nat) : Int)) then (at? d p.toNat).bind fun e => bif decide (0 ≤ q) && decide (q < ((List.length d : Nat) : Int)) then (at? d q.toNat).bind fun e2 => (O n (e.1, e.2.1, e.2.2, e2.1, e2.2.1, e2.2.2)).bind (G n) else none else none) Q := by
 have hl := hp.length_eq
 exact Tt.chk (rng hp0 (by omega)) (Tt.atB (by omega) fun x hx _ => Tt.chk (rng hq0 (by omega)) (Tt.atB (by omega) fun y hy _ => Tt.bind (hO x y (hD.from hp hx) (hD.from hp hy)) fun v _ => hG v))
theorem Bd.cmp2 {σ τ : Type} {G : Nat → (σ → Option τ) → Int → Option τ} {I : σ → Prop} {Q : τ → Prop} (hO : OrdT O) (hD : Base D) {d : List Rule} (hp : d.Perm D) {p q : Int} (hp0 : 0 ≤ p) (hp1 : p < ((D.length : Nat) : Int)) (hq0 : 0 ≤ q) (hq1 : q < ((D.length : Nat) : Int)) (hG : ∀ v, Bd (fun n k => G n k v) I Q) :
 Bd (fun n k => bif decide (0 ≤ p) && decide (p < ((List.length d : Nat) : Int)) then (at? d p.toNat).bind fun e => bif decide (0 ≤ q) && decide (q < ((List.length d : Nat) : Int)) then (at? d q.toNat).bind fun e2 => (O n (e.1, e.2.1, e.2.2, e2.1, e2.2.1, e2.2.2)).bind (G n k) else none else none) I Q := by
 have hl := hp.length_eq
 exact Bd.chk (rng hp0 (by omega)) (Bd.at (by omega) fun x hx _ => Bd.chk (rng hq0 (by omega)) (Bd.at (by omega) fun y hy _ => Bd.bind (hO x y (hD.from hp hx) (hD.from hp hy)) fun v _ => hG v))
theorem Tt.swap {β : Type} {B : Nat → Rule → Rule → Option β} {Q : β → Prop} {d : List Rule} (hp : d.Perm D) {p q : Int} (hp0 : 0 ≤ p) (hp1 : p < ((D.length : Nat) : Int)) (hq0 : 0 ≤ q) (hq1 : q < ((D.length : Nat) : Int)) (h : ∀ x y, ((d.set q.toNat x).set p.toNat y).Perm D → Tt (fun n => B n x y) Q) :
 Tt (fun n => bif decide (0 ≤ p) && decide (p < ((List.length d : Nat) : Int)) then (at? d p.toNat).bind fun e => bif decide (0 ≤ q) && decide (q < ((List.length d : Nat) : Int)) then (at? d q.toNat).bind fun e2 => bif decide (0 ≤ q) && decide (q < ((List.length d : Nat) : Int)) then (at? d q.toNat).bind fun _ =>
  bif decide (0 ≤ p) && decide (p < ((List.length (List.set d q.toNat (e.1, e.2.1, e.2.2)) : Nat) : Int)) then (at? (List.set d q.toNat (e.1, e.2.1, e.2.2)) p.toNat).bind fun _ => B n e e2 else none else none else none else none) Q := by
 have hl := hp.length_eq
 exact Tt.chk (rng hp0 (by omega)) (Tt.atB (by omega) fun x _ hx => Tt.chk (rng hq0 (by omega)) (Tt.atB (by omega) fun y _ hy => Tt.chk (rng hq0 (by omega)) (Tt.atB (by omega) fun _ _ _ => Tt.chk (rng hp0 (by simp only [List.length_set]; omega)) (Tt.atB (by simp only [List.length_set]; omega) fun _ _ _ => h x y (swap_perm hp hy hx)))))
theorem Bd.swap {σ τ : Type} {B : Nat → (σ → Option τ) → Rule → Rule → Option τ} {I : σ → Prop} {Q : τ → Prop} {d : List Rule} (hp : d.Perm D) {p q : Int} (hp0 : 0 ≤ p) (hp1 : p < ((D.length : Nat) : Int)) (hq0 : 0 ≤ q) (hq1 : q < ((D.length : Nat) : Int)) (h : ∀ x y, ((d.set q.toNat x).set p.toNat y).Perm D → Bd (fun n k => B n k x y) I Q) :
 Bd (fun n k => bif decide (0 ≤ p) && decide (p < ((List.length d : Nat) : Int)) then (at? d p.toNat).bind fun e => bif decide (0 ≤ q) && decide (q < ((List.length d : Nat) : Int)) then (at? d q.toNat).bind fun e2 => bif decide (0 ≤ q) && decide (q < ((List.length d : Nat) : Int)) then (at? d q.toNat).bind fun _ =>
  bif decide (0 ≤ p) && decide (p < ((List.length (List.set d q.toNat (e.1, e.2.1, e.2.2)) : Nat) : Int)) then (at? (List.set d q.toNat (e.1, e.2.1, e.2.2)) p.toNat).bind fun _ => B n k e e2 else none else none else none else none) I Q := by
 have hl := hp.length_eq
 exact Bd.chk (rng hp0 (by omega)) (Bd.at (by omega) fun x _ hx => Bd.chk (rng hq0 (by omega)) (Bd.at (by omega) fun y _ hy => Bd.chk (rng hq0 (by omega)) (Bd.at (by omega) fun _ _ _ => Bd.chk (rng hp0 (by simp only [List.length_set]; omega)) (Bd.at (by simp only [List.length_set]; omega) fun _ _ _ => h x y (swap_perm hp hy hx)))))
theorem tt_ins (hO : OrdT O) (hD : Base D) (d : List Rule) (hp : d.Perm D) (a b : Int) (h0 : 0 ≤ a) (ha : a ≤ 1000) (hb : b ≤ (D.length : Int)) :
 Sp (fun n => slices_insertionSortX.P (O n) n) (d, a, b) (fun r => r.Perm D) := by
 have hD40 := hD.1
 show Tt (fun n => slices_insertionSortX.P (O n) n (d, a, b)) _
 unfold slices_insertionSortX.P; dsimp only
 simp (discharger := omega) only [wrap_small]
 refine Tt.bind (R := fun r => r.Perm D) (Tt.loop (Lp.measure (fun s => ∃ (d : List Rule) (i : Int), d.Perm D ∧ a + 1 ≤ i ∧ i ≤ 2000 ∧ s = (d, a, b, i)) (fun s => (b - s.2.2.2).toNat) ?_ ⟨d, a + 1, hp, by omega, by omega, rfl⟩)) fun r hr => Tt.pure hr
 rintro _ ⟨d, i, hp, hi1, hi2, rfl⟩
 unfold slices_insertionSortX.L2; dsimp only
 refine Bd.ite (fun h => ?_) (fun _ => Bd.done hp)
 have h := dec_of h
 refine Bd.bind (R := fun x => ∃ d : List Rule, d.Perm D ∧ x = (d, a, b, i)) (Tt.loop (Lp.measure (fun s => ∃ (d : List Rule) (j : Int), d.Perm D ∧ a ≤ j ∧ j ≤ i ∧ s = (d, a, b, i, j)) (fun s => s.2.2.2.2.toNat) ?_ ⟨d, i, hp, by omega, by omega, rfl⟩)) ?_
 ·rintro _ ⟨d, j, hp, hj1, hj2, rfl⟩
  unfold slices_insertionSortX.L1; dsimp only
  simp (discharger := omega) only [wrap_small]
  refine Bd.bind (R := fun x => ∃ c : Bool, (c = true → a < j) ∧ x = (d, a, b, i, j, c)) (Tt.ite (fun h => ?_) (fun _ => Tt.pure ⟨false, fun h => (by cases h), rfl⟩)) ?_
  ·have h := dec_of h
   exact Tt.cmp2 hO hD hp (by omega) (by omega) (by omega) (by omega) fun v => Tt.pure ⟨_, fun _ => h, rfl⟩
  ·rintro _ ⟨c, hc, rfl⟩
   dsimp only
   refine Bd.ite (fun hct => ?_) (fun _ => Bd.done ⟨d, hp, rfl⟩)
   have hlt := hc hct
   simp (discharger := omega) only [wrap_small]
   exact Bd.swap hp (by omega) (by omega) (by omega) (by omega) fun x y hp' => Bd.again ⟨⟨_, j - 1, hp', by omega, by omega, rfl⟩, by dsimp only; omega⟩
 ·rintro _ ⟨d, hp, rfl⟩
  dsimp only
  simp (discharger := omega) only [wrap_small]
  exact Bd.again ⟨⟨d, i + 1, hp, by omega, by omega, rfl⟩, by dsimp only; omega⟩
theorem tt_sift (hO : OrdT O) (hD : Base D) (d : List Rule) (hp : d.Perm D) (lo hi first : Int) (h0 : 0 ≤ lo) (hlo : lo ≤ 1000) (hh : 0 ≤ hi) (hf : 0 ≤ first) (hb : first + hi ≤ (D.length : Int)) :
 Sp (fun n => slices_siftDownX.P (O n) n) (d, lo, hi, first) (fun r => r.Perm D) := by
 have hD40 := hD.1
 show Tt (fun n => slices_siftDownX.P (O n) n (d, lo, hi, first)) _
 unfold slices_siftDownX.P; dsimp only
 refine Tt.bind (R := fun q : Sum (List Rule) (List Rule) => (∀ r, q = .inl r → r.Perm D) ∧ ∀ r, q = .inr r → r.Perm D) (Tt.loop (Lp.measure (fun s => ∃ (d : List Rule) (root : Int), d.Perm D ∧ 0 ≤ root ∧ root ≤ 1000 ∧ s = (d, hi, first, root)) (fun s => (hi - s.2.2.2).toNat) ?_ ⟨d, lo, hp, by omega, by omega, rfl⟩)) ?_
 ·rintro _ ⟨d, root, hp, hr0, hr1, rfl⟩
  unfold slices_siftDownX.L1; dsimp only
  simp (discharger := omega) only [wrap_small]
  refine Bd.ite (fun _ => Bd.done ⟨fun r h => by cases h; exact hp, fun r h => by cases h⟩) fun h => ?_
  have h := dec_not h
  refine Bd.bind (R := fun x => ∃ c : Bool, (c = true → 2 * root + 1 + 1 < hi) ∧ x = (d, hi, first, root, 2 * root + 1, c)) (Tt.ite (fun h => ?_) (fun _ => Tt.pure ⟨false, fun h => (by cases h), rfl⟩)) ?_
  ·have h := dec_of h
   exact Tt.cmp2 hO hD hp (by omega) (by omega) (by omega) (by omega) fun v => Tt.pure ⟨_, fun _ => h, rfl⟩
  ·rintro _ ⟨c, hc, rfl⟩
   dsimp only
   refine Bd.bind (R := fun x => ∃ ch : Int, root < ch ∧ ch < hi ∧ x = (d, hi, first, root, ch)) (Tt.ite (fun h => ?_) (fun _ => Tt.pure ⟨_, by omega, by omega, rfl⟩)) ?_
   ·have h := hc h
    simp (discharger := omega) only [wrap_small]
    exact Tt.pure ⟨_, by omega, by omega, rfl⟩
   ·rintro _ ⟨ch, hc1, hc2, rfl⟩
    dsimp only
    simp (discharger := omega) only [wrap_small]
    refine Bd.cmp2 hO hD hp (by omega) (by omega) (by omega) (by omega) fun v => Bd.ite (fun _ => Bd.done ⟨fun r h => (by cases h), fun r h => by cases h; exact hp⟩) fun _ => ?_
    exact Bd.swap hp (by omega) (by omega) (by omega) (by omega) fun x y hp' => Bd.again ⟨⟨_, ch, hp', by omega, by omega, rfl⟩, by dsimp only; omega⟩
 ·rintro (q | q) ⟨h1, h2⟩
  ·exact Tt.pure (h1 q rfl)
  ·exact Tt.pure (h2 q rfl)
theorem tt_heap (hO : OrdT O) (hD : Base D) {SD : Nat → List Rule × Int × Int × Int → Option (List Rule)}
 (hS : ∀ d lo hi first, d.Perm D → 0 ≤ lo → lo ≤ 1000 → 0 ≤ hi → 0 ≤ first → first + hi ≤ (D.length : Int) → Sp SD (d, lo, hi, first) (fun r => r.Perm D))
 (d : List Rule) (hp : d.Perm D) (a b : Int) (h0 : 0 ≤ a) (hab : a < b) (hb : b ≤ (D.length : Int)) :
 Sp (fun n => slices_heapSortX.P (SD n) n) (d, a, b) (fun r => r.Perm D) := by
 have hD40 := hD.1
 show Tt (fun n => slices_heapSortX.P (SD n) n (d, a, b)) _
 unfold slices_heapSortX.P; dsimp only
 refine Tt.chk (by decide) ?_
 simp (discharger := omega) only [wrap_small, Int.tdiv_eq_ediv_of_nonneg]
 refine Tt.bind (R := fun x => ∃ d : List Rule, d.Perm D ∧ x = (d, a, (0 : Int), b - a)) (Tt.loop (Lp.measure (fun s => ∃ (d : List Rule) (i : Int), d.Perm D ∧ -1 ≤ i ∧ i ≤ 1000 ∧ s = (d, a, (0 : Int), b - a, i)) (fun s => (s.2.2.2.2 + 1).toNat) ?_ ⟨d, _, hp, by omega, by omega, rfl⟩)) ?_
 ·rintro _ ⟨d, i, hp, hi1, hi2, rfl⟩
  unfold slices_heapSortX.L1; dsimp only
  refine Bd.ite (fun h => ?_) (fun _ => Bd.done ⟨d, hp, rfl⟩)
  have h := dec_of h
  simp (discharger := omega) only [wrap_small]
  exact Bd.bind (hS _ _ _ _ hp (by omega) (by omega) (by omega) (by omega) (by omega)) fun d hp => Bd.again ⟨⟨d, i - 1, hp, by omega, by omega, rfl⟩, by dsimp only; omega⟩
 ·rintro _ ⟨d, hp, rfl⟩
  dsimp only
  simp (discharger := omega) only [wrap_small]
  refine Tt.bind (R := fun r => r.Perm D) (Tt.loop (Lp.measure (fun s => ∃ (d : List Rule) (i : Int), d.Perm D ∧ -1 ≤ i ∧ i < b - a ∧ s = (d, a, (0 : Int), i)) (fun s => (s.2.2.2 + 1).toNat) ?_ ⟨d, _, hp, by omega, by omega, rfl⟩)) fun r hr => Tt.pure hr
  rintro _ ⟨d, i, hp, hi1, hi2, rfl⟩
  unfold slices_heapSortX.L2; dsimp only
  simp (discharger := omega) only [wrap_small]
  refine Bd.ite (fun h => ?_) (fun _ => Bd.done hp)
  have h := dec_of h
  exact Bd.swap hp (by omega) (by omega) (by omega) (by omega) fun x y hp' => Bd.bind (hS _ _ _ _ hp' (by omega) (by omega) (by omega) (by omega) (by omega)) fun d hp => Bd.again ⟨⟨d, i - 1, hp, by omega, by omega, rfl⟩, by dsimp only; omega⟩
theorem tt_rev (hD : Base D) (d : List Rule) (hp : d.Perm D) (a b : Int) (h0 : 0 ≤ a) (ha : a ≤ 1000) (hb0 : 0 ≤ b) (hb : b ≤ (D.length : Int)) :
 Sp (fun n => slices_reverseRangeX.P n) (d, a, b) (fun r => r.Perm D) := by
 have hD40 := hD.1
 show Tt (fun n => slices_reverseRangeX.P n (d, a, b)) _
 unfold slices_reverseRangeX.P; dsimp only
 simp (discharger := omega) only [wrap_small]
 refine Tt.bind (R := fun r => r.Perm D) (Tt.loop (Lp.measure (fun s => ∃ (d : List Rule) (i j : Int), d.Perm D ∧ 0 ≤ i ∧ i ≤ 2000 ∧ -1 ≤ j ∧ j < (D.length : Int) ∧ s = (d, i, j)) (fun s => (s.2.2 - s.2.1).toNat) ?_ ⟨d, a, b - 1, hp, by omega, by omega, by omega, by omega, rfl⟩)) fun r hr => Tt.pure hr
 rintro _ ⟨d, i, j, hp, hi0, hi1, hj0, hj1, rfl⟩
 unfold slices_reverseRangeX.L1; dsimp only
 refine Bd.ite (fun h => ?_) (fun _ => Bd.done hp)
 have h := dec_of h
 simp (discharger := omega) only [wrap_small]
 exact Bd.swap hp (by omega) (by omega) (by omega) (by omega) fun x y hp' => Bd.again ⟨⟨_, _, _, hp', by omega, by omega, by omega, by omega, rfl⟩, by dsimp only; omega⟩
end
end Go.Bk
end
noncomputable section
namespace Go.Bk
open Go Go.AM
set_option linter.unusedVariables false
theorem len64_small : ∀ k : Fin 41, (math_bits_Len64.P 0 (k.val : Int)).any (fun r => decide (0 ≤ r ∧ r ≤ 6 ∧ (1 ≤ k.val → (2:Int)^r.toNat ≤ 2 * k.val))) = true := by decide +kernel
theorem and_le (x m : Int) (h0 : 0 ≤ m) (h1 : m < 4294967296) : 0 ≤ Go.bits .and .u64 x m ∧ Go.bits .and .u64 x m ≤ m := by
 have e1 : (BitVec.ofInt 64 m).toNat = m.toNat := by
  rw [BitVec.toNat_ofInt]; rw [Int.emod_eq_of_lt h0 (by omega)]
 have h : (BitVec.ofInt 64 x &&& BitVec.ofInt 64 m).toNat ≤ m.toNat := by
  rw [BitVec.toNat_and, e1]; exact Nat.and_le_right
 have e : Go.bits .and .u64 x m = ((BitVec.ofInt 64 x &&& BitVec.ofInt 64 m).toNat : Int) := by
  show IntKind.wrap .u64 (((BitVec.ofInt 64 x &&& BitVec.ofInt 64 m).toNat : Nat) : Int) = _
  exact wrap_u (by omega) (by omega)
 rw [e]; omega
theorem sp_Len64 (z : Int) (h0 : 0 ≤ z) (h1 : z ≤ 40) : Sp (fun n => math_bits_Len64.P n) z (fun r => 0 ≤ r ∧ r ≤ 6 ∧ (1 ≤ z → (2:Int)^r.toNat ≤ 2 * z)) := by
 have hk := len64_small ⟨z.toNat, by omega⟩
 have hz : ((z.toNat : Nat) : Int) = z := by omega
 simp only [hz] at hk
 cases hr : math_bits_Len64.P 0 z with
 | none => rw [hr] at hk; cases hk
 | some r =>
   rw [hr] at hk
   obtain ⟨a, b, c⟩ := of_decide_eq_true hk
   exact ⟨r, ⟨a, b, fun h => hz ▸ c (by omega)⟩, .all fun n => hr⟩
theorem sp_Len {F : Nat → Int → Option Int} {z : Int} {Q : Int → Prop} (h : Sp F z Q) : Sp (fun n => math_bits_Len.P (F n) n) z Q := by
 show Tt (fun n => math_bits_Len.P (F n) n z) _
 unfold math_bits_Len.P
 exact Tt.bind h fun r hr => Tt.pure hr
theorem tt_npow {F : Nat → Int → Option Int} (hF : ∀ z, 0 ≤ z → z ≤ 40 → Sp F z (fun r => 0 ≤ r ∧ r ≤ 6 ∧ (1 ≤ z → (2:Int)^r.toNat ≤ 2 * z))) (z : Int) (h0 : 1 ≤ z) (h1 : z ≤ 40) : Sp (fun n => slices_nextPowerOfTwo.P (F n) n) z (fun r => 1 ≤ r ∧ r ≤ 2 * z) := by
 show Tt (fun n => slices_nextPowerOfTwo.P (F n) n z) _
 unfold slices_nextPowerOfTwo.P
 rw [wrap_u (by omega) (by omega)]
 refine Tt.bind (hF z (by omega) h1) fun r ⟨hr0, hr1, hr2⟩ => ?_
 have hr2 := hr2 h0
 refine Tt.chk ?_ (Tt.pure ?_)
 ·rw [Bool.and_eq_true, decide_eq_true_eq, decide_eq_true_eq]; exact ⟨hr0, Int.le_trans hr1 (by decide)⟩
 ·have hpos : (0 : Int) < 2 ^ r.toNat := Int.pow_pos (by omega)
  rw [Int.one_mul, wrap_u (by omega) (by omega)]
  exact ⟨hpos, hr2⟩
theorem tt_xor (z : Int) : Sp (fun n => slices_xorshift_Next.P n) z (fun _ => True) := by
 show Tt (fun n => slices_xorshift_Next.P n z) _
 unfold slices_xorshift_Next.P
 exact Tt.chk (by decide) (Tt.chk (by decide) (Tt.chk (by decide) (Tt.pure trivial)))
section
variable {O : OrF} {D : List Rule}
theorem tt_brk (hD : Base D) {NP : Nat → Int → Option Int} {X : Nat → Int → Option (Int × Int)}
 (hN : ∀ z, 1 ≤ z → z ≤ 40 → Sp NP z (fun r => 1 ≤ r ∧ r ≤ 2 * z)) (hX : ∀ z, Sp X z (fun _ => True))
 (d : List Rule) (hp : d.Perm D) (a b : Int) (h0 : 0 ≤ a) (hab : a ≤ b) (hb : b ≤ (D.length : Int)) :
 Sp (fun n => slices_breakPatternsX.P (NP n) (X n) n) (d, a, b) (fun r => r.Perm D) := by
 have hD40 := hD.1
 show Tt (fun n => slices_breakPatternsX.P (NP n) (X n) n (d, a, b)) _
 unfold slices_breakPatternsX.P; dsimp only
 simp (discharger := omega) only [wrap_small, wrap_u, Int.tdiv_eq_ediv_of_nonneg]
 refine Tt.bind (R := fun r => r.Perm D) (Tt.ite (fun h => ?_) (fun _ => Tt.pure hp)) fun r hr => Tt.pure hr
 have h := dec_of h
 refine Tt.bind (hN _ (by omega) (by omega)) fun m ⟨hm1, hm2⟩ => Tt.chk (by decide) ?_
 refine Tt.bind (R := fun r => r.Perm D) (Tt.loop (Lp.measure (fun s => ∃ (d : List Rule) (rnd i : Int), d.Perm D ∧ a ≤ i ∧ i ≤ a + (b - a) / 4 * 2 + 2 ∧ s = (d, a, b - a, rnd, m, i)) (fun s => (1000 - s.2.2.2.2.2).toNat) ?_ ⟨d, _, _, hp, by omega, by omega, rfl⟩)) fun r hr => Tt.pure hr
 rintro _ ⟨d, rnd, i, hp, hi0, hi1, rfl⟩
 unfold slices_breakPatternsX.L1; dsimp only
 simp (discharger := omega) only [wrap_small, wrap_u, Int.tdiv_eq_ediv_of_nonneg]
 refine Bd.chk (by decide) (Bd.ite (fun h => ?_) (fun _ => Bd.done hp))
 have h := dec_of h
 refine Bd.bind (hX rnd) fun r _ => ?_
 obtain ⟨ha0, ha1⟩ := and_le r.1 (m - 1) (by omega) (by omega)
 simp (discharger := omega) only [wrap_small]
 refine Bd.bind (R := fun x => ∃ o : Int, 0 ≤ o ∧ o < b - a ∧ x = (d, a, b - a, r.2, m, i, o)) (Tt.ite (fun h => ?_) (fun h => ?_)) ?_
 ·have h := dec_of h
  exact Tt.pure ⟨_, by omega, by omega, rfl⟩
 ·have h := dec_not h
  exact Tt.pure ⟨_, by omega, by omega, rfl⟩
 ·rintro _ ⟨o, ho0, ho1, rfl⟩
  dsimp only
  simp (discharger := omega) only [wrap_small]
  exact Bd.swap hp (by omega) (by omega) (by omega) (by omega) fun x y hp' => Bd.again ⟨⟨_, _, _, hp', by omega, by omega, rfl⟩, by dsimp only; omega⟩
theorem tt_ord2 (hO : OrdT O) (hD : Base D) (d : List Rule) (hp : d.Perm D) (a b c lo hi : Int) (hl : 0 ≤ lo) (hh : hi ≤ (D.length : Int)) (ha : lo ≤ a ∧ a < hi) (hb : lo ≤ b ∧ b < hi) :
 Sp (fun n => slices_order2X.P (O n) n) (d, a, b, c) (fun r => (lo ≤ r.1 ∧ r.1 < hi) ∧ (lo ≤ r.2.1 ∧ r.2.1 < hi) ∧ r.2.2.1.Perm D) := by
 show Tt (fun n => slices_order2X.P (O n) n (d, a, b, c)) _
 unfold slices_order2X.P; dsimp only
 exact Tt.cmp2 hO hD hp (by omega) (by omega) (by omega) (by omega) fun v => Tt.ite (fun _ => Tt.pure ⟨hb, ha, hp⟩) (fun _ => Tt.pure ⟨ha, hb, hp⟩)
theorem tt_med {F : Nat → List Rule × Int × Int × Int → Option (Int × Int × List Rule × Int)}
 (hF : ∀ d a b c lo hi, d.Perm D → 0 ≤ lo → hi ≤ (D.length : Int) → (lo ≤ a ∧ a < hi) → (lo ≤ b ∧ b < hi) → Sp F (d, a, b, c) (fun r => (lo ≤ r.1 ∧ r.1 < hi) ∧ (lo ≤ r.2.1 ∧ r.2.1 < hi) ∧ r.2.2.1.Perm D))
 (d : List Rule) (hp : d.Perm D) (a b c s lo hi : Int) (hl : 0 ≤ lo) (hh : hi ≤ (D.length : Int)) (ha : lo ≤ a ∧ a < hi) (hb : lo ≤ b ∧ b < hi) (hc : lo ≤ c ∧ c < hi) :
 Sp (fun n => slices_medianX.P (F n) n) (d, a, b, c, s) (fun r => (lo ≤ r.1 ∧ r.1 < hi) ∧ r.2.1.Perm D) := by
 show Tt (fun n => slices_medianX.P (F n) n (d, a, b, c, s)) _
 unfold slices_medianX.P; dsimp only
 exact Tt.bind (hF _ _ _ _ lo hi hp hl hh ha hb) fun r1 ⟨h1, h2, h3⟩ => Tt.bind (hF _ _ _ _ lo hi h3 hl hh h2 hc) fun r2 ⟨h4, h5, h6⟩ => Tt.bind (hF _ _ _ _ lo hi h6 hl hh h1 h4) fun r3 ⟨h7, h8, h9⟩ => Tt.pure ⟨h8, h9⟩
theorem tt_piv (hD : Base D) {A : Nat → List Rule × Int × Int → Option (Int × List Rule × Int)} {M : Nat → List Rule × Int × Int × Int × Int → Option (Int × List Rule × Int)}
 (hM : ∀ d a b c s lo hi, d.Perm D → 0 ≤ lo → hi ≤ (D.length : Int) → (lo ≤ a ∧ a < hi) → (lo ≤ b ∧ b < hi) → (lo ≤ c ∧ c < hi) → Sp M (d, a, b, c, s) (fun r => (lo ≤ r.1 ∧ r.1 < hi) ∧ r.2.1.Perm D))
 (d : List Rule) (hp : d.Perm D) (a b : Int) (h0 : 0 ≤ a) (hab : a < b) (hb : b ≤ (D.length : Int)) :
 Sp (fun n => slices_choosePivotX.P (A n) (M n) n) (d, a, b) (fun r => (a ≤ r.1 ∧ r.1 < b) ∧ r.2.2.Perm D) := by
 have hD40 := hD.1
 show Tt (fun n => slices_choosePivotX.P (A n) (M n) n (d, a, b)) _
 unfold slices_choosePivotX.P; dsimp only
 simp (discharger := omega) only [wrap_small, Int.tdiv_eq_ediv_of_nonneg]
 refine Tt.chk (by decide) (Tt.chk (by decide) (Tt.chk (by decide) ?_))
 refine Tt.bind (R := fun x => ∃ (d : List Rule) (s p : Int), d.Perm D ∧ a ≤ p ∧ p < b ∧ x = (d, s, p)) (Tt.ite (fun h => ?_) (fun h => ?_)) ?_
 ·have h := dec_of h
  refine Tt.bind (R := fun x => x = (d, (0 : Int), a + (b - a) / 4 * 1, a + (b - a) / 4 * 2, a + (b - a) / 4 * 3)) (Tt.no (by simp only [decide_eq_false_iff_not]; omega) (Tt.pure rfl)) ?_
  rintro _ rfl
  dsimp only
  exact Tt.bind (hM _ _ _ _ _ a b hp h0 hb (by omega) (by omega) (by omega)) fun r ⟨⟨h1, h2⟩, h3⟩ => Tt.pure ⟨_, _, _, h3, h1, h2, rfl⟩
 ·have h := dec_not h
  exact Tt.pure ⟨_, _, _, hp, by omega, by omega, rfl⟩
 ·rintro _ ⟨d, s, p, hp, h1, h2, rfl⟩
  dsimp only
  exact Tt.ite (fun _ => Tt.pure ⟨⟨h1, h2⟩, hp⟩) (fun _ => Tt.ite (fun _ => Tt.pure ⟨⟨h1, h2⟩, hp⟩) (fun _ => Tt.pure ⟨⟨h1, h2⟩, hp⟩))
theorem tt_part (hO : OrdT O) (hD : Base D) (d : List Rule) (hp : d.Perm D) (a b : Int) (h0 : 0 ≤ a) (hab : a < b) (hb : b ≤ (D.length : Int)) :
 Sp (fun n => slices_partialInsertionSortX.P (O n) n) (d, a, b) (fun r => r.2.Perm D) := by
 have hD40 := hD.1
 show Tt (fun n => slices_partialInsertionSortX.P (O n) n (d, a, b)) _
 unfold slices_partialInsertionSortX.P; dsimp only
 simp (discharger := omega) only [wrap_small]
 refine Tt.bind (R := fun q : Sum (List Rule) (Bool × List Rule) => (∀ r, q = .inl r → r.Perm D) ∧ ∀ r, q = .inr r → r.2.Perm D) (Tt.loop (Lp.measure (fun s => ∃ (d : List Rule) (i k : Int), d.Perm D ∧ a + 1 ≤ i ∧ i ≤ b ∧ s = (d, a, b, i, k)) (fun s => 0) ?_ ⟨d, _, _, hp, by omega, by omega, rfl⟩)) ?_
 ·rintro _ ⟨d, i, k, hp, hi0, hi1, rfl⟩
  unfold slices_partialInsertionSortX.L4; dsimp only
  refine Bd.ite (fun h => ?_) (fun _ => Bd.done ⟨fun r h => by cases h; exact hp, fun r h => by cases h⟩)
  refine Bd.bind (R := fun x => ∃ (d : List Rule) (i : Int), d.Perm D ∧ x = (d, a, b, i, k)) (Tt.loop (Lp.measure (fun s => ∃ (d : List Rule) (i : Int), d.Perm D ∧ a + 1 ≤ i ∧ i ≤ b ∧ s = (d, a, b, i, k)) (fun s => (b - s.2.2.2.1).toNat) ?_ ⟨d, i, hp, hi0, hi1, rfl⟩)) ?_
  ·rintro _ ⟨d, i, hp, hi0, hi1, rfl⟩
   unfold slices_partialInsertionSortX.L1; dsimp only
   simp (discharger := omega) only [wrap_small]
   refine Bd.bind (R := fun x => ∃ c : Bool, (c = true → i < b) ∧ x = (d, a, b, i, k, c)) (Tt.ite (fun h => ?_) (fun _ => Tt.pure ⟨false, fun h => (by cases h), rfl⟩)) ?_
   ·have h := dec_of h
    exact Tt.cmp2 hO hD hp (by omega) (by omega) (by omega) (by omega) fun v => Tt.pure ⟨_, fun _ => h, rfl⟩
   ·rintro _ ⟨c, hc, rfl⟩
    dsimp only
    refine Bd.ite (fun hct => ?_) (fun _ => Bd.done ⟨d, i, hp, rfl⟩)
    have hlt := hc hct
    simp (discharger := omega) only [wrap_small]
    exact Bd.again ⟨⟨_, _, hp, by omega, by omega, rfl⟩, by dsimp only; omega⟩
  ·rintro _ ⟨d, i, hp, rfl⟩
   dsimp only
   refine Bd.ite (fun _ => Bd.done ⟨fun r h => (by cases h), fun r h => by cases h; exact hp⟩) (fun _ => ?_)
   simp (discharger := omega) only [wrap_small]
   exact Bd.yes (dec_true (by omega)) (Bd.done ⟨fun r h => (by cases h), fun r h => by cases h; exact hp⟩)
 ·rintro (q | q) ⟨h1, h2⟩
  ·exact Tt.pure (h1 q rfl)
  ·exact Tt.pure (h2 q rfl)
end
end Go.Bk
end
noncomputable section
namespace Go.Bk
open Go Go.AM
set_option linter.unusedVariables false
section
variable {O : OrF} {D : List Rule}
theorem tt_peq (hO : OrdT O) (hD : Base D) (d : List Rule) (hp : d.Perm D) (a b p : Int) (h0 : 0 ≤ a) (hap : a ≤ p) (hpb : p < b) (hb : b ≤ (D.length : Int)) :
 Sp (fun n => slices_partitionEqualX.P (O n) n) (d, a, b, p) (fun r => (a < r.1 ∧ r.1 ≤ b) ∧ r.2.Perm D) := by
 have hD40 := hD.1
 show Tt (fun n => slices_partitionEqualX.P (O n) n (d, a, b, p)) _
 unfold slices_partitionEqualX.P; dsimp only
 simp (discharger := omega) only [wrap_small]
 refine Tt.swap hp (by omega) (by omega) (by omega) (by omega) fun x y hp' => ?_
 generalize (d.set a.toNat x).set p.toNat y = d1 at hp'
 refine Tt.bind (R := fun r : List Rule × Int => r.1.Perm D ∧ a < r.2 ∧ r.2 ≤ b) (Tt.loop (Lp.measure (fun s => ∃ (d : List Rule) (i j : Int), d.Perm D ∧ a < i ∧ i ≤ b ∧ i ≤ j + 2 ∧ j < b ∧ s = (d, a, i, j)) (fun s => (s.2.2.2 + 3 - s.2.2.1).toNat) ?_ ⟨d1, _, _, hp', by omega, by omega, by omega, by omega, rfl⟩)) fun r ⟨h1, h2, h3⟩ => Tt.pure ⟨⟨h2, h3⟩, h1⟩
 rintro _ ⟨d, i, j, hp, hi, hib, hij, hj, rfl⟩
 unfold slices_partitionEqualX.L3; dsimp only
 refine Bd.bind (R := fun x => ∃ i', i ≤ i' ∧ i' ≤ b ∧ i' ≤ j + 2 ∧ x = (d, a, i', j)) (Tt.loop (Lp.measure (fun s => ∃ i', i ≤ i' ∧ i' ≤ b ∧ i' ≤ j + 2 ∧ s = (d, a, i', j)) (fun s => (s.2.2.2 + 3 - s.2.2.1).toNat) ?_ ⟨i, by omega, hib, hij, rfl⟩)) ?_
 ·rintro _ ⟨i', hi1, hi2, hi3, rfl⟩
  unfold slices_partitionEqualX.L1; dsimp only
  refine Bd.bind (R := fun x => ∃ c : Bool, (c = true → i' ≤ j) ∧ x = (d, a, i', j, c)) (Tt.ite (fun h => ?_) (fun _ => Tt.pure ⟨false, fun h => (by cases h), rfl⟩)) ?_
  ·have h := dec_of h
   exact Tt.cmp2 hO hD hp (by omega) (by omega) (by omega) (by omega) fun v => Tt.pure ⟨_, fun _ => h, rfl⟩
  ·rintro _ ⟨c, hc, rfl⟩
   dsimp only
   refine Bd.ite (fun hct => ?_) (fun _ => Bd.done ⟨_, hi1, hi2, hi3, rfl⟩)
   have hlt := hc hct
   simp (discharger := omega) only [wrap_small]
   exact Bd.again ⟨⟨_, by omega, by omega, by omega, rfl⟩, by dsimp only; omega⟩
 rintro _ ⟨i1, hi1, hi2, hi3, rfl⟩
 dsimp only
 refine Bd.bind (R := fun x => ∃ j', j' ≤ j ∧ i1 ≤ j' + 2 ∧ x = (d, a, i1, j')) (Tt.loop (Lp.measure (fun s => ∃ j', j' ≤ j ∧ i1 ≤ j' + 2 ∧ s = (d, a, i1, j')) (fun s => (s.2.2.2 + 3 - s.2.2.1).toNat) ?_ ⟨j, by omega, hi3, rfl⟩)) ?_
 ·rintro _ ⟨j', hj1, hj2, rfl⟩
  unfold slices_partitionEqualX.L2; dsimp only
  refine Bd.bind (R := fun x => ∃ c : Bool, (c = true → i1 ≤ j') ∧ x = (d, a, i1, j', c)) (Tt.ite (fun h => ?_) (fun _ => Tt.pure ⟨false, fun h => (by cases h), rfl⟩)) ?_
  ·have h := dec_of h
   exact Tt.cmp2 hO hD hp (by omega) (by omega) (by omega) (by omega) fun v => Tt.pure ⟨_, fun _ => h, rfl⟩
  ·rintro _ ⟨c, hc, rfl⟩
   dsimp only
   refine Bd.ite (fun hct => ?_) (fun _ => Bd.done ⟨_, hj1, hj2, rfl⟩)
   have hlt := hc hct
   simp (discharger := omega) only [wrap_small]
   exact Bd.again ⟨⟨_, by omega, by omega, rfl⟩, by dsimp only; omega⟩
 rintro _ ⟨j1, hj1, hj2, rfl⟩
 dsimp only
 refine Bd.ite (fun h => Bd.done ⟨hp, by omega, by omega⟩) (fun h => ?_)
 have h := dec_not h
 simp (discharger := omega) only [wrap_small]
 exact Bd.swap hp (by omega) (by omega) (by omega) (by omega) fun x y hp' => Bd.again ⟨⟨_, _, _, hp', by omega, by omega, by omega, by omega, rfl⟩, by dsimp only; omega⟩
theorem lp_up (hO : OrdT O) (hD : Base D) {d : List Rule} (hp : d.Perm D) {a b j m : Int} (hm1 : 1 ≤ m) (hm2 : m ≤ 2) (h0 : 0 ≤ a) (hb : b ≤ (D.length : Int)) (hab : a < b) (hj : j < b) {L : Nat → List Rule × Int × Int × Int → (List Rule × Int × Int × Int → Option (List Rule × Int × Int × Int)) → Option (List Rule × Int × Int × Int)}
 (hL : ∀ n i k, a < i → i ≤ b → L n (d, a, i, j) k = ((bif decide (i ≤ j) then (bif decide (0 ≤ i) && decide (i < ((List.length d : Nat) : Int)) then (at? d i.toNat).bind fun e => bif decide (0 ≤ a) && decide (a < ((List.length d : Nat) : Int)) then (at? d a.toNat).bind fun e2 => (O n (e.1, e.2.1, e.2.2, e2.1, e2.2.1, e2.2.2)).bind fun r => some (d, a, i, j, decide (r < (0 : Int))) else none else none) else some (d, a, i, j, false)).bind fun x => bif x.2.2.2.2 then k (x.1, x.2.1, IntKind.wrap .i64 (x.2.2.1 + 1), x.2.2.2.1) else some (x.1, x.2.1, x.2.2.1, x.2.2.2.1)))
 {i : Int} (hai : a < i) (hib : i ≤ b) (hij : i ≤ j + m) : Lp L (d, a, i, j) (fun x => ∃ i', i ≤ i' ∧ i' ≤ b ∧ i' ≤ j + m ∧ x = (d, a, i', j)) := by
 have hD40 := hD.1
 refine Lp.measure (fun s => ∃ i', i ≤ i' ∧ i' ≤ b ∧ i' ≤ j + m ∧ s = (d, a, i', j)) (fun s => (s.2.2.2 + 3 - s.2.2.1).toNat) ?_ ⟨i, by omega, hib, hij, rfl⟩
 rintro _ ⟨i', hi1, hi2, hi3, rfl⟩
 simp only [hL _ i' _ (by omega) hi2]
 refine Bd.bind (R := fun x => ∃ c : Bool, (c = true → i' ≤ j) ∧ x = (d, a, i', j, c)) (Tt.ite (fun h => ?_) (fun _ => Tt.pure ⟨false, fun h => (by cases h), rfl⟩)) ?_
 ·have h := dec_of h
  exact Tt.cmp2 hO hD hp (by omega) (by omega) (by omega) (by omega) fun v => Tt.pure ⟨_, fun _ => h, rfl⟩
 ·rintro _ ⟨c, hc, rfl⟩
  dsimp only
  refine Bd.ite (fun hct => ?_) (fun _ => Bd.done ⟨_, hi1, hi2, hi3, rfl⟩)
  have hlt := hc hct
  simp (discharger := omega) only [wrap_small]
  exact Bd.again ⟨⟨_, by omega, by omega, by omega, rfl⟩, by dsimp only; omega⟩
theorem lp_down (hO : OrdT O) (hD : Base D) {d : List Rule} (hp : d.Perm D) {a b i m : Int} (hm1 : 1 ≤ m) (hm2 : m ≤ 2) (h0 : 0 ≤ a) (hb : b ≤ (D.length : Int)) (hab : a < b) (hi : a < i) {L : Nat → List Rule × Int × Int × Int → (List Rule × Int × Int × Int → Option (List Rule × Int × Int × Int)) → Option (List Rule × Int × Int × Int)}
 (hL : ∀ n j k, L n (d, a, i, j) k = ((bif decide (i ≤ j) then (bif decide (0 ≤ j) && decide (j < ((List.length d : Nat) : Int)) then (at? d j.toNat).bind fun e => bif decide (0 ≤ a) && decide (a < ((List.length d : Nat) : Int)) then (at? d a.toNat).bind fun e2 => (O n (e.1, e.2.1, e.2.2, e2.1, e2.2.1, e2.2.2)).bind fun r => some (d, a, i, j, !(decide (r < (0 : Int)))) else none else none) else some (d, a, i, j, false)).bind fun x => bif x.2.2.2.2 then k (x.1, x.2.1, x.2.2.1, IntKind.wrap .i64 (x.2.2.2.1 - 1)) else some (x.1, x.2.1, x.2.2.1, x.2.2.2.1)))
 {j : Int} (hj : j < b) (hij : i ≤ j + m) : Lp L (d, a, i, j) (fun x => ∃ j', j' ≤ j ∧ i ≤ j' + m ∧ x = (d, a, i, j')) := by
 have hD40 := hD.1
 refine Lp.measure (fun s => ∃ j', j' ≤ j ∧ i ≤ j' + m ∧ s = (d, a, i, j')) (fun s => (s.2.2.2 + 3 - s.2.2.1).toNat) ?_ ⟨j, by omega, hij, rfl⟩
 rintro _ ⟨j', hj1, hj2, rfl⟩
 simp only [hL _ j' _]
 refine Bd.bind (R := fun x => ∃ c : Bool, (c = true → i ≤ j') ∧ x = (d, a, i, j', c)) (Tt.ite (fun h => ?_) (fun _ => Tt.pure ⟨false, fun h => (by cases h), rfl⟩)) ?_
 ·have h := dec_of h
  exact Tt.cmp2 hO hD hp (by omega) (by omega) (by omega) (by omega) fun v => Tt.pure ⟨_, fun _ => h, rfl⟩
 ·rintro _ ⟨c, hc, rfl⟩
  dsimp only
  refine Bd.ite (fun hct => ?_) (fun _ => Bd.done ⟨_, hj1, hj2, rfl⟩)
  have hlt := hc hct
  simp (discharger := omega) only [wrap_small]
  exact Bd.again ⟨⟨_, by omega, by omega, rfl⟩, by dsimp only; omega⟩
theorem tt_ptn (hO : OrdT O) (hD : Base D) (d : List Rule) (hp : d.Perm D) (a b p : Int) (h0 : 0 ≤ a) (hap : a ≤ p) (hpb : p < b) (hb : b ≤ (D.length : Int)) :
 Sp (fun n => slices_partitionX.P (O n) n) (d, a, b, p) (fun r => (a ≤ r.1 ∧ r.1 < b) ∧ r.2.2.Perm D) := by
 have hD40 := hD.1
 show Tt (fun n => slices_partitionX.P (O n) n (d, a, b, p)) _
 unfold slices_partitionX.P; dsimp only
 simp (discharger := omega) only [wrap_small]
 refine Tt.swap hp (by omega) (by omega) (by omega) (by omega) fun x y hp' => ?_
 generalize (d.set a.toNat x).set p.toNat y = d1 at hp'
 refine Tt.bind (Tt.loop (lp_up (b := b) (m := 1) hO hD hp' (by omega) (by omega) h0 hb (by omega) (by omega) (fun n i k _ _ => rfl) (by omega) (by omega) (by omega))) ?_
 rintro _ ⟨i1, hi1, hi2, hi3, rfl⟩
 dsimp only
 refine Tt.bind (Tt.loop (lp_down (b := b) (m := 1) hO hD hp' (by omega) (by omega) h0 hb (by omega) (by omega) (fun n j k => rfl) (by omega) hi3)) ?_
 rintro _ ⟨j1, hj1, hj2, rfl⟩
 dsimp only
 refine Tt.ite (fun h => ?_) (fun h => ?_)
 ·have h := dec_of h
  exact Tt.swap hp' (by omega) (by omega) (by omega) (by omega) fun x y hp'' => Tt.pure ⟨⟨by omega, by omega⟩, hp''⟩
 ·have h := dec_not h
  simp (discharger := omega) only [wrap_small]
  refine Tt.swap hp' (by omega) (by omega) (by omega) (by omega) fun x y hp'' => ?_
  generalize (d1.set i1.toNat x).set j1.toNat y = d2 at hp''
  refine Tt.bind (R := fun x => ∃ (d : List Rule) (j : Int), d.Perm D ∧ a ≤ j ∧ j < b ∧ x = (d, a, j)) (Tt.loop (Lp.measure (fun s => ∃ (d : List Rule) (i j : Int), d.Perm D ∧ a + 1 < i ∧ i ≤ b ∧ i ≤ j + 2 ∧ j < b ∧ s = (d, a, i, j)) (fun s => (s.2.2.2 + 3 - s.2.2.1).toNat) ?_ ⟨d2, _, _, hp'', by omega, by omega, by omega, by omega, rfl⟩)) ?_
  ·rintro _ ⟨d, i, j, hp, hi, hib, hij, hj, rfl⟩
   unfold slices_partitionX.L5; dsimp only
   refine Bd.bind (Tt.loop (lp_up (b := b) (m := 2) hO hD hp (by omega) (by omega) h0 hb (by omega) (by omega) (fun n i k _ _ => rfl) (by omega) (by omega) (by omega))) ?_
   rintro _ ⟨i1, hi1, hi2, hi3, rfl⟩
   dsimp only
   refine Bd.bind (Tt.loop (lp_down (b := b) (m := 2) hO hD hp (by omega) (by omega) h0 hb (by omega) (by omega) (fun n j k => rfl) (by omega) hi3)) ?_
   rintro _ ⟨j1, hj1, hj2, rfl⟩
   dsimp only
   refine Bd.ite (fun h => Bd.done ⟨_, _, hp, by omega, by omega, rfl⟩) (fun h => ?_)
   have h := dec_not h
   simp (discharger := omega) only [wrap_small]
   exact Bd.swap hp (by omega) (by omega) (by omega) (by omega) fun x y hp' => Bd.again ⟨⟨_, _, _, hp', by omega, by omega, by omega, by omega, rfl⟩, by dsimp only; omega⟩
  ·rintro _ ⟨d, j, hp, hj0, hj1, rfl⟩
   dsimp only
   exact Tt.swap hp (by omega) (by omega) (by omega) (by omega) fun x y hp'' => Tt.pure ⟨⟨by omega, by omega⟩, hp''⟩
end
end Go.Bk
end
noncomputable section
namespace Go.Bk
open Go Go.AM
set_option linter.unusedVariables false
section
variable {O : OrF} {D : List Rule}
abbrev SortP (D : List Rule) (F : Nat → List Rule × Int × Int → Option (List Rule)) : Prop := ∀ d a b, d.Perm D → 0 ≤ a → a < b → b ≤ (D.length : Int) → Sp F (d, a, b) (fun r => r.Perm D)
theorem tt_pdq (hO : OrdT O) (hD : Base D) {I H B R : Nat → List Rule × Int × Int → Option (List Rule)} {C : Nat → List Rule × Int × Int → Option (Int × Int × List Rule)} {PI : Nat → List Rule × Int × Int → Option (Bool × List Rule)}
 {PE : Nat → List Rule × Int × Int × Int → Option (Int × List Rule)} {PT : Nat → List Rule × Int × Int × Int → Option (Int × Bool × List Rule)} {F : Nat → List Rule × Int × Int × Int → Option (List Rule)}
 (hF : ∀ n x, F (n + 1) x = slices_pdqsortX.P (O n) (B n) (C n) (H n) (I n) (PI n) (PT n) (PE n) (F n) (R n) n x)
 (hI : ∀ d a b, d.Perm D → 0 ≤ a → a ≤ 1000 → b ≤ (D.length : Int) → Sp I (d, a, b) (fun r => r.Perm D)) (hH : SortP D H) (hB : SortP D B) (hR : SortP D R)
 (hC : ∀ d a b, d.Perm D → 0 ≤ a → a < b → b ≤ (D.length : Int) → Sp C (d, a, b) (fun r => (a ≤ r.1 ∧ r.1 < b) ∧ r.2.2.Perm D))
 (hPI : ∀ d a b, d.Perm D → 0 ≤ a → a < b → b ≤ (D.length : Int) → Sp PI (d, a, b) (fun r => r.2.Perm D))
 (hPE : ∀ d a b p, d.Perm D → 0 ≤ a → a ≤ p → p < b → b ≤ (D.length : Int) → Sp PE (d, a, b, p) (fun r => (a < r.1 ∧ r.1 ≤ b) ∧ r.2.Perm D))
 (hPT : ∀ d a b p, d.Perm D → 0 ≤ a → a ≤ p → p < b → b ≤ (D.length : Int) → Sp PT (d, a, b, p) (fun r => (a ≤ r.1 ∧ r.1 < b) ∧ r.2.2.Perm D)) :
 ∀ (m : Nat) (d : List Rule) (a b lim : Int), d.Perm D → 0 ≤ a → a ≤ b → b ≤ (D.length : Int) → (b - a).toNat ≤ m → 0 ≤ lim → lim ≤ 1000 → Sp F (d, a, b, lim) (fun r => r.Perm D) := by
 have hD40 := hD.1
 intro m
 induction m using Nat.strongRecOn with
 | _ m ih =>
 intro d a b lim hp h0 hab hb hm hl0 hl1
 refine Sp.step hF ?_
 show Tt (fun n => slices_pdqsortX.P (O n) (B n) (C n) (H n) (I n) (PI n) (PT n) (PE n) (F n) (R n) n (d, a, b, lim)) _
 unfold slices_pdqsortX.P; dsimp only
 refine Tt.bind (R := fun q : Sum Unit (List Rule) => ∃ d, d.Perm D ∧ q = .inr d) (Tt.loop (Lp.measure (fun s => ∃ (d : List Rule) (a b lim : Int) (c1 c2 : Bool), d.Perm D ∧ 0 ≤ a ∧ a ≤ b ∧ b ≤ (D.length : Int) ∧ (b - a).toNat ≤ m ∧ 0 ≤ lim ∧ lim ≤ 1000 ∧ s = (d, a, b, lim, c1, c2)) (fun s => (s.2.2.1 - s.2.1).toNat) ?_ ⟨d, a, b, lim, true, true, hp, h0, hab, hb, hm, hl0, hl1, rfl⟩)) ?_
 rotate_left
 ·rintro _ ⟨d, hp, rfl⟩
  exact Tt.pure hp
 clear hp h0 hab hb hm hl0 hl1
 rintro _ ⟨d, a, b, lim, c1, c2, hp, h0, hab, hb, hm, hl0, hl1, rfl⟩
 unfold slices_pdqsortX.L1; dsimp only
 simp (discharger := omega) only [wrap_small]
 refine Bd.ite (fun _ => Bd.bind (hI _ _ _ hp h0 (by omega) hb) fun r hr => Bd.done ⟨r, hr, rfl⟩) (fun h12 => ?_)
 have h12 := dec_not h12
 refine Bd.ite (fun _ => Bd.bind (hH _ _ _ hp h0 (by omega) hb) fun r hr => Bd.done ⟨r, hr, rfl⟩) (fun hl => ?_)
 have hl := dec_not hl
 refine Bd.bind (R := fun x => ∃ (d : List Rule) (lim : Int), d.Perm D ∧ 0 ≤ lim ∧ lim ≤ 1000 ∧ x = (d, a, b, lim, c1, c2, b - a)) (Tt.ite (fun _ => Tt.bind (hB _ _ _ hp h0 (by omega) hb) fun r hr => Tt.pure ⟨r, _, hr, by omega, by omega, rfl⟩) (fun _ => Tt.pure ⟨d, _, hp, by omega, by omega, rfl⟩)) ?_
 clear hp hl0 hl1 hl
 rintro _ ⟨d, lim, hp, hl0, hl1, rfl⟩
 dsimp only
 refine Bd.bind (hC _ _ _ hp h0 (by omega) hb) ?_
 rintro ⟨p, hint, d⟩ ⟨⟨hp1, hp2⟩, hp⟩
 dsimp only at hp1 hp2 hp ⊢
 simp (discharger := omega) only [wrap_small]
 refine Bd.bind (R := fun x => ∃ (d : List Rule) (p hint : Int), d.Perm D ∧ a ≤ p ∧ p < b ∧ x = (d, a, b, lim, c1, c2, b - a, p, hint)) (Tt.ite (fun _ => Tt.bind (hR _ _ _ hp h0 (by omega) hb) fun r hr => Tt.pure ⟨r, _, _, hr, by omega, by omega, rfl⟩) (fun _ => Tt.pure ⟨d, _, _, hp, by omega, by omega, rfl⟩)) ?_
 clear hp hp1 hp2
 rintro _ ⟨d, p, hint, hp, hp1, hp2, rfl⟩
 dsimp only
 refine Bd.bind (R := fun x => ∃ c : Bool, x = (d, a, b, lim, c1, c2, b - a, p, c)) (Tt.ite (fun _ => Tt.ite (fun _ => Tt.pure ⟨_, rfl⟩) (fun _ => Tt.pure ⟨_, rfl⟩)) (fun _ => Tt.pure ⟨_, rfl⟩)) ?_
 rintro _ ⟨c, rfl⟩
 dsimp only
 refine Bd.bind (R := fun q : Sum _ (Sum Unit (List Rule)) => (∃ d : List Rule, d.Perm D ∧ q = .inl (d, a, b, lim, c1, c2, b - a, p)) ∨ (∃ d : List Rule, d.Perm D ∧ q = .inr (.inr d))) (Tt.ite (fun _ => Tt.bind (hPI _ _ _ hp h0 (by omega) hb) fun r hr => Tt.ite (fun _ => Tt.pure (.inr ⟨_, hr, rfl⟩)) (fun _ => Tt.pure (.inl ⟨_, hr, rfl⟩))) (fun _ => Tt.pure (.inl ⟨_, hp, rfl⟩))) ?_
 clear hp
 rintro _ (⟨d, hp, rfl⟩ | ⟨d, hp, rfl⟩)
 rotate_left
 ·exact Bd.done ⟨d, hp, rfl⟩
 dsimp only
 simp (discharger := omega) only [wrap_small]
 refine Bd.bind (R := fun x => ∃ c : Bool, x = (d, a, b, lim, c1, c2, b - a, p, c)) (Tt.ite (fun h => ?_) (fun _ => Tt.pure ⟨_, rfl⟩)) ?_
 ·have h := dec_of h
  exact Tt.cmp2 hO hD hp (by omega) (by omega) (by omega) (by omega) fun v => Tt.pure ⟨_, rfl⟩
 rintro _ ⟨c, rfl⟩
 dsimp only
 refine Bd.ite (fun _ => Bd.bind (hPE _ _ _ _ hp h0 hp1 hp2 hb) ?_) (fun _ => Bd.bind (hPT _ _ _ _ hp h0 hp1 hp2 hb) ?_)
 ·rintro ⟨i, d⟩ ⟨⟨hi1, hi2⟩, hp⟩
  dsimp only at hi1 hi2 hp ⊢
  exact Bd.again ⟨⟨_, _, _, _, _, _, hp, by omega, by omega, by omega, by omega, by omega, by omega, rfl⟩, by dsimp only; omega⟩
 ·rintro ⟨mid, fl, d⟩ ⟨⟨hi1, hi2⟩, hp⟩
  dsimp only at hi1 hi2 hp ⊢
  simp (discharger := omega) only [wrap_small]
  refine Bd.chk (by decide) (Bd.bind (R := fun x => ∃ (d : List Rule) (a' b' : Int) (c1 c2 : Bool), d.Perm D ∧ 0 ≤ a' ∧ a' ≤ b' ∧ b' ≤ (D.length : Int) ∧ b' - a' < b - a ∧ x = (d, a', b', lim, c1, c2)) (Tt.ite (fun _ => ?_) (fun _ => ?_)) ?_)
  ·exact Tt.bind (ih (mid - a).toNat (by omega) d a mid lim hp h0 (by omega) (by omega) (Nat.le_refl _) hl0 hl1) fun r hr => Tt.pure ⟨r, _, _, _, _, hr, by omega, by omega, by omega, by omega, rfl⟩
  ·exact Tt.bind (ih (b - (mid + 1)).toNat (by omega) d (mid + 1) b lim hp (by omega) (by omega) (by omega) (Nat.le_refl _) hl0 hl1) fun r hr => Tt.pure ⟨r, _, _, _, _, hr, by omega, by omega, by omega, by omega, rfl⟩
  ·rintro _ ⟨d, a', b', c1, c2, hp, ha', hab', hb', hlt, rfl⟩
   dsimp only
   exact Bd.again ⟨⟨_, _, _, _, _, _, hp, by omega, by omega, by omega, by omega, by omega, by omega, rfl⟩, by dsimp only; omega⟩
theorem tt_sort {L : Nat → Int → Option Int} {F : Nat → List Rule × Int × Int × Int → Option (List Rule)} (hD : Base D)
 (hL : ∀ z, 0 ≤ z → z ≤ 40 → Sp L z (fun r => 0 ≤ r ∧ r ≤ 6 ∧ (1 ≤ z → (2:Int)^r.toNat ≤ 2 * z)))
 (hF : ∀ lim, 0 ≤ lim → lim ≤ 1000 → Sp F (D, 0, (D.length : Int), lim) (fun r => r.Perm D)) :
 Sp (fun n => slices_SortFuncX.P (L n) (F n) n) D (fun r => r.Perm D) := by
 have hD40 := hD.1
 show Tt (fun n => slices_SortFuncX.P (L n) (F n) n D) _
 unfold slices_SortFuncX.P
 rw [wrap_u (by omega) (by omega)]
 exact Tt.bind (hL _ (by omega) (by omega)) fun r ⟨h1, h2, _⟩ => Tt.bind (hF r h1 (by omega)) fun r hr => Tt.pure hr
end
theorem sp_isNaN (z : Int) : Sp (fun n => cmp_isNaN_int.P n) z (fun r => r = false) := ⟨_, rfl, .all fun n => by simp only [cmp_isNaN_int.P, decide_true, Bool.not_true]⟩
theorem sp_Cmp {N : Nat → Int → Option Bool} (hN : ∀ z, Sp N z (fun r => r = false)) (x y : Int) : Sp (fun n => cmp_Compare_int.P (N n) n) (x, y) (fun v => v = 0 ↔ x = y) := by
 show Tt (fun n => cmp_Compare_int.P (N n) n (x, y)) _
 unfold cmp_Compare_int.P
 refine Tt.bind (hN _) ?_
 rintro _ rfl
 refine Tt.bind (hN _) ?_
 rintro _ rfl
 refine Tt.no rfl (Tt.no rfl (Tt.ite (fun h => ?_) (fun h => Tt.ite (fun h2 => ?_) (fun h2 => ?_))))
 ·have h := dec_of h; dsimp only at h
  exact Tt.pure (by constructor <;> intro h <;> omega)
 ·have h2 := dec_of h2; dsimp only at h2
  exact Tt.pure (by constructor <;> intro h <;> omega)
 ·have h := dec_not h; have h2 := dec_not h2; dsimp only at h h2
  exact Tt.pure (by constructor <;> intro h <;> omega)
theorem sp_sCompare {C : Nat → Int × Int → Option Int} (hC : ∀ x y, Sp C (x, y) (fun v => v = 0 ↔ x = y)) (xs ys : List Int) (hx : xs.length ≤ 1000) (hy : ys.length ≤ 1000) :
 Sp (fun n => slices_Compare_int_int.P (C n) n) (xs, ys) (fun v => v = 0 ↔ xs = ys) := by
 show Tt (fun n => slices_Compare_int_int.P (C n) n (xs, ys)) _
 unfold slices_Compare_int_int.P; dsimp only
 refine Tt.bind (R := fun q : Sum (List Int × List Int) Int => (q = .inl (xs, ys) ∧ ∀ k < xs.length, xs[k]? = ys[k]?) ∨ (∃ v, v ≠ 0 ∧ xs ≠ ys ∧ q = .inr v)) (Tt.loop (Lp.count xs.length (fun i s => s = (xs, ys, xs, (xs.length : Int), (i : Int)) ∧ ∀ k < i, xs[k]? = ys[k]?) ?_ ?_ ⟨rfl, fun k h => (by omega)⟩)) ?_
 ·rintro i _ hi ⟨rfl, hk⟩
  unfold slices_Compare_int_int.L1; dsimp only
  refine Bd.yes (dec_true (by omega)) (Bd.nth hi ?_)
  refine Bd.ite (fun h => ?_) (fun h => ?_)
  ·have h := dec_of h
   exact Bd.done (.inr ⟨_, by decide, fun e => (by rw [e] at hi; omega), rfl⟩)
  ·have h := dec_not h
   have hiy : i < ys.length := by omega
   refine Bd.nth hiy (Bd.bind (hC _ _) fun v hv => Bd.ite (fun h => ?_) (fun h => ?_))
   ·have hne : v ≠ 0 := by simpa using h
    exact Bd.done (.inr ⟨v, hne, fun e => hne (hv.2 (by subst e; rfl)), rfl⟩)
   ·have he : v = 0 := by simpa using h
    rw [wrap_next (by omega)]
    refine Bd.again ⟨rfl, fun k hki => ?_⟩
    by_cases hk2 : k < i
    ·exact hk k hk2
    ·have : k = i := by omega
     subst this
     rw [List.getElem?_eq_getElem hi, List.getElem?_eq_getElem hiy, hv.1 he]
 ·rintro _ ⟨rfl, hk⟩
  unfold slices_Compare_int_int.L1; dsimp only
  exact Bd.no (by simp only [decide_eq_false_iff_not]; omega) (Bd.done (.inl ⟨rfl, hk⟩))
 ·rintro _ (⟨rfl, hk⟩ | ⟨v, hv, hne, rfl⟩)
  ·dsimp only
   refine Tt.ite (fun h => ?_) (fun h => ?_)
   ·have h := dec_of h
    exact Tt.pure ⟨fun h => (by cases h), fun e => (by rw [e] at h; omega)⟩
   ·have h := dec_not h
    refine Tt.pure ⟨fun _ => List.ext_getElem? fun k => ?_, fun _ => rfl⟩
    by_cases hk2 : k < xs.length
    ·exact hk k hk2
    ·rw [List.getElem?_eq_none (by omega), List.getElem?_eq_none (by omega)]
  ·exact Tt.pure ⟨fun h => absurd h hv, fun e => absurd e hne⟩
theorem sp_cOr (xs : List Int) (hx : xs.length ≤ 1000) : Sp (fun n => cmp_Or_int.P n) xs (fun v => v = 0 ↔ ∀ x ∈ xs, x = 0) := by
 show Tt (fun n => cmp_Or_int.P n xs) _
 unfold cmp_Or_int.P
 refine Tt.bind (R := fun q : Sum Int Int => (q = .inl 0 ∧ ∀ x ∈ xs, x = 0) ∨ (∃ v, v ≠ 0 ∧ v ∈ xs ∧ q = .inr v)) (Tt.loop (Lp.count xs.length (fun i s => s = ((0 : Int), xs, (xs.length : Int), (i : Int)) ∧ ∀ k, ∀ h : k < xs.length, k < i → xs[k] = 0) ?_ ?_ ⟨rfl, fun k h _ => (by omega)⟩)) ?_
 ·rintro i _ hi ⟨rfl, hk⟩
  unfold cmp_Or_int.L1; dsimp only
  refine Bd.yes (dec_true (by omega)) (Bd.nth hi (Bd.ite (fun h => ?_) (fun h => ?_)))
  ·have hne : xs[i] ≠ 0 := by simpa using h
   exact Bd.done (.inr ⟨_, hne, List.getElem_mem hi, rfl⟩)
  ·have he : xs[i] = 0 := by simpa using h
   rw [wrap_next (by omega)]
   refine Bd.again ⟨rfl, fun k hkl hki => ?_⟩
   by_cases hk2 : k < i
   ·exact hk k hkl hk2
   ·have : k = i := by omega
    subst this
    exact he
 ·rintro _ ⟨rfl, hk⟩
  unfold cmp_Or_int.L1; dsimp only
  refine Bd.no (by simp only [decide_eq_false_iff_not]; omega) (Bd.done (.inl ⟨rfl, fun x hx => ?_⟩))
  obtain ⟨k, hkl, rfl⟩ := List.mem_iff_getElem.1 hx
  exact hk k hkl hkl
 ·rintro _ (⟨rfl, hk⟩ | ⟨v, hv, hm, rfl⟩)
  ·exact Tt.pure ⟨fun _ => hk, fun _ => rfl⟩
  ·exact Tt.pure ⟨fun h => absurd h hv, fun h => h v hm⟩
theorem ord_total {C : Nat → Int × Int → Option Int} {OR : Nat → List Int → Option Int} {S : Nat → List Int × List Int → Option Int}
 (hC : ∀ x y, Sp C (x, y) (fun v => v = 0 ↔ x = y)) (hOr : ∀ xs : List Int, xs.length ≤ 1000 → Sp OR xs (fun v => v = 0 ↔ ∀ x ∈ xs, x = 0))
 (hS : ∀ xs ys : List Int, xs.length ≤ 1000 → ys.length ≤ 1000 → Sp S (xs, ys) (fun v => v = 0 ↔ xs = ys)) : OrdT (fun n => auto_Order.P (C n) (OR n) (S n) n) := by
 rintro ⟨x1, x2, x3⟩ ⟨y1, y2, y3⟩ hx hy
 show Tt (fun n => auto_Order.P (C n) (OR n) (S n) n (x1, x2, x3, y1, y2, y3)) _
 unfold auto_Order.P; dsimp only
 refine Tt.bind (hC _ _) fun v1 h1 => Tt.bind (hS _ _ hx hy) fun v2 h2 => Tt.bind (hC _ _) fun v3 h3 => Tt.bind (hOr _ (by simp)) fun v hv => Tt.pure ?_
 rw [hv]
 simp only [List.mem_cons, List.not_mem_nil, or_false, forall_eq_or_imp, forall_eq, h1, h2, h3, Prod.mk.injEq]
end Go.Bk
end
noncomputable section
namespace Go.Bk
open Go Go.AM
set_option linter.unusedVariables false
abbrev Same {α : Type} (x y : List α) : Prop := ∀ r, r ∈ x ↔ r ∈ y
theorem sp_Sorted1 {O : OrF} (hO : OrdT O) (x y : Rule) (hx : x.2.1.length ≤ 1000) (hy : y.2.1.length ≤ 1000) :
 Sp (fun n => auto_Sorted_1.P (O n) n) (x.1, x.2.1, x.2.2, y.1, y.2.1, y.2.2) (fun v => v = true ↔ x = y) := by
 show Tt (fun n => auto_Sorted_1.P (O n) n (x.1, x.2.1, x.2.2, y.1, y.2.1, y.2.2)) _
 unfold auto_Sorted_1.P; dsimp only
 exact Tt.bind (hO x y hx hy) fun v hv => Tt.pure (by rw [decide_eq_true_eq, hv])
theorem mem_take_set {d : List Rule} {k : Nat} {y z : Rule} (hk : k < d.length) : z ∈ (d.set k y).take (k + 1) ↔ z ∈ d.take k ∨ z = y := by
 rw [List.take_add_one, List.take_set_of_le (Nat.le_refl k), List.getElem?_set_self hk]
 simp
theorem mem_take_next {d : List Rule} {k : Nat} {y z : Rule} (hk : d[k]? = some y) : z ∈ d.take (k + 1) ↔ z ∈ d.take k ∨ z = y := by
 rw [List.take_add_one, hk]; simp
theorem sp_Compact {O : OrF} (hO : OrdT O) {G : Nat → Int × List Int × Int × Int × List Int × Int → Option Bool} (hG : ∀ x y : Rule, x.2.1.length ≤ 1000 → y.2.1.length ≤ 1000 → Sp G (x.1, x.2.1, x.2.2, y.1, y.2.1, y.2.2) (fun v => v = true ↔ x = y))
 {X : List Rule} (hX : Base X) : Sp (fun n => slices_CompactFuncX.P (G n) n) X (fun r => Same r X ∧ r.length ≤ X.length) := by
 have hX40 := hX.1
 show Tt (fun n => slices_CompactFuncX.P (G n) n X) _
 unfold slices_CompactFuncX.P
 refine Tt.ite (fun _ => Tt.pure ⟨fun r => Iff.rfl, Nat.le_refl _⟩) (fun h2 => ?_)
 have h2 := dec_not h2
 refine Tt.bind (R := fun q : Sum (List Rule) (List Rule) => ∃ d, (Same d X ∧ d.length ≤ X.length) ∧ (q = .inl d ∨ q = .inr d)) (Tt.loop (Lp.measure (fun s => ∃ k : Nat, 1 ≤ k ∧ k ≤ X.length ∧ s = (X, (k : Int))) (fun s => X.length - s.2.toNat) ?_ ⟨1, by omega, by omega, rfl⟩)) ?_
 rotate_left
 ·rintro _ ⟨d, hd, (rfl | rfl)⟩
  ·exact Tt.pure hd
  ·exact Tt.pure hd
 rintro _ ⟨k0, hk0, hk1, rfl⟩
 unfold slices_CompactFuncX.L2; dsimp only
 refine Bd.ite (fun h => ?_) (fun _ => Bd.done ⟨X, ⟨fun r => Iff.rfl, Nat.le_refl _⟩, .inl rfl⟩)
 have hkl : k0 < X.length := by have := dec_of h; omega
 have e1 : (k0 : Int) - 1 = ((k0 - 1 : Nat) : Int) := by omega
 simp (discharger := omega) only [wrap_small]
 rw [e1]
 refine Bd.chk (rng (by omega) (by omega)) (Bd.at (by omega) fun x hxm hx => Bd.chk (rng (by omega) (by omega)) (Bd.at (by omega) fun y hym hy => Bd.bind (hG x y (hX.2 x hxm) (hX.2 y hym)) fun v hv => Bd.ite (fun hv1 => ?_) (fun _ => ?_)))
 rotate_left
 ·rw [show (k0 : Int) + 1 = ((k0 + 1 : Nat) : Int) by omega]
  exact Bd.again ⟨⟨k0 + 1, by omega, by omega, rfl⟩, by dsimp only; omega⟩
 have hxy := hv.1 hv1
 subst hxy
 have hall : (decide (0 ≤ (k0 : Int)) && decide ((k0 : Int) ≤ ((List.length X : Nat) : Int)) && decide (((List.length X : Nat) : Int) ≤ ((List.length X : Nat) : Int))) = true := by
  simp only [Bool.and_eq_true, decide_eq_true_eq]; omega
 refine Bd.chk hall ?_
 refine Bd.bind (R := fun t => ∃ (d : List Rule) (k : Nat), d.length = X.length ∧ k ≤ X.length ∧ Same (d.take k) X ∧ t = (d, (k : Int))) (Tt.loop (Lp.count (X.length - k0 - 1) (fun i s => ∃ (d : List Rule) (k : Nat), d.length = X.length ∧ 1 ≤ k ∧ k ≤ k0 + i ∧ Same (d.take k) (X.take (k0 + i + 1)) ∧ (∀ j, k0 + i ≤ j → d[j]? = X[j]?) ∧ s = (d, (k : Int), (k0 : Int), (X.length : Int), ((i + 1 : Nat) : Int))) ?_ ?_ ?_)) ?_
 ·rintro i _ hi ⟨d, k, hdl, hk, hki, hsm, hun, rfl⟩
  unfold slices_CompactFuncX.L1; dsimp only
  simp only [Int.toNat_natCast]
  simp (discharger := omega) only [wrap_small]
  rw [show ((i + 1 : Nat) : Int) - 1 = ((i : Nat) : Int) by omega]
  simp only [Int.toNat_natCast]
  refine Bd.yes (dec_true (by simp only [List.length_drop, List.length_take]; omega)) (Bd.chk (rng (by omega) (by omega)) (Bd.at (by omega) fun x hxm hx => Bd.chk (rng (by omega) (by omega)) (Bd.at (by omega) fun y hym hy => ?_)))
  have hx' : X[k0 + (i + 1)]? = some x := by rw [← hun _ (by omega)]; exact hx
  have hy' : X[k0 + i]? = some y := by rw [← hun _ (by omega)]; exact hy
  have hxX : x ∈ X := List.mem_of_getElem? hx'
  have hyX : y ∈ X := List.mem_of_getElem? hy'
  refine Bd.bind (hG x y (hX.2 x hxX) (hX.2 y hyX)) fun v hv => ?_
  refine Bd.bind (R := fun t => ∃ (d : List Rule) (k : Nat), d.length = X.length ∧ 1 ≤ k ∧ k ≤ k0 + (i + 1) ∧ Same (d.take k) (X.take (k0 + (i + 1) + 1)) ∧ (∀ j, k0 + (i + 1) ≤ j → d[j]? = X[j]?) ∧ t = (d, (k : Int), (k0 : Int), (X.length : Int), ((i + 1 : Nat) : Int))) (Tt.ite (fun hne => ?_) (fun heq => ?_)) ?_
  ·refine Tt.chk (rng (by omega) (by omega)) (Tt.atB (by omega) fun x2 _ hx2 => Tt.chk (rng (by omega) (by omega)) (Tt.atB (by omega) fun _ _ _ => ?_))
   have : x2 = x := by rw [hx] at hx2; exact (Option.some.inj hx2).symm
   subst this
   rw [show (k : Int) + 1 = ((k + 1 : Nat) : Int) by omega]
   refine Tt.pure ⟨d.set k x2, k + 1, by simp only [List.length_set]; exact hdl, by omega, by omega, fun z => ?_, fun j hj => ?_, rfl⟩
   ·rw [mem_take_set (by omega), mem_take_next hx', show k0 + (i + 1) = k0 + i + 1 by omega, hsm z]
   ·rw [List.getElem?_set_ne (by omega)]; exact hun j (by omega)
  ·have hve : v = true := by cases v <;> simp_all
   have hxy := hv.1 hve
   subst hxy
   refine Tt.pure ⟨d, k, hdl, hk, by omega, fun z => ?_, fun j hj => hun j (by omega), rfl⟩
   rw [mem_take_next hx', show k0 + (i + 1) = k0 + i + 1 by omega, hsm z]
   constructor
   ·exact .inl
   ·rintro (h | rfl)
    ·exact h
    ·rw [mem_take_next hy']; exact .inr rfl
  ·rintro _ ⟨d, k, hdl, hk, hki, hsm, hun, rfl⟩
   dsimp only
   simp only [Int.toNat_natCast]
   rw [wrap_next (by omega)]
   exact Bd.again ⟨d, k, hdl, hk, by omega, hsm, hun, rfl⟩
 ·rintro _ ⟨d, k, hdl, hk, hki, hsm, hun, rfl⟩
  unfold slices_CompactFuncX.L1; dsimp only
  simp only [Int.toNat_natCast]
  refine Bd.no (by simp only [decide_eq_false_iff_not, List.length_drop, List.length_take]; omega) (Bd.done ⟨d, k, hdl, by omega, ?_, rfl⟩)
  rw [show k0 + (X.length - k0 - 1) + 1 = X.length by omega, List.take_length] at hsm
  exact hsm
 ·refine ⟨X, k0, rfl, hk0, by omega, fun z => ?_, fun j _ => rfl, by simp only [Int.toNat_natCast]; rfl⟩
  rw [mem_take_next (k := k0 + 0) hx]
  constructor
  ·exact .inl
  ·rintro (h | rfl)
   ·exact h
   ·have hy2 : X[k0 - 1]? = some z := hy
    have := mem_take_next (z := z) hy2
    rw [show k0 - 1 + 1 = k0 by omega] at this
    exact this.2 (.inr rfl)
 ·rintro _ ⟨d, k, hdl, hk, hsm, rfl⟩
  dsimp only
  simp only [Int.toNat_natCast]
  have hlen : List.length (List.append (List.append (List.take k d) (List.replicate (List.length d - k) (((0 : Int), ([] : List Int), (0 : Int)) : Int × List Int × Int))) (List.drop (List.length d) d)) = X.length := by
   simp only [List.append_eq, List.length_append, List.length_take, List.length_replicate, List.length_drop]; omega
  refine Bd.chk (by simp only [Bool.and_eq_true, decide_eq_true_eq]; omega) (Bd.chk (by simp only [Bool.and_eq_true, decide_eq_true_eq]; rw [hlen]; omega) (Bd.done ⟨_, ⟨?_, ?_⟩, .inr rfl⟩))
  ·have e : List.drop (Int.toNat 0) (List.take k (List.append (List.append (List.take k d) (List.replicate (List.length d - k) (((0 : Int), ([] : List Int), (0 : Int)) : Int × List Int × Int))) (List.drop (List.length d) d))) = List.take k d := by
    simp only [List.append_eq, List.append_assoc]
    rw [List.take_append_of_le_length (by simp only [List.length_take]; omega), List.take_take, Nat.min_self]
    rfl
   rw [e]; exact hsm
  ·refine Nat.le_trans (List.Sublist.length_le (List.drop_sublist _ _)) ?_
   rw [List.length_take, hlen]; omega
theorem sp_AutoSorted {S C : Nat → List Rule → Option (List Rule)} {D : List Rule} (hD : Base D) (hS : Sp S D (fun r => r.Perm D)) (hC : ∀ X, Base X → Sp C X (fun r => Same r X ∧ r.length ≤ X.length)) :
 Sp (fun n => auto_Sorted.P (C n) (S n) n) D (fun r => Same r D ∧ r.length ≤ D.length) := by
 show Tt (fun n => auto_Sorted.P (C n) (S n) n D) _
 unfold auto_Sorted.P
 refine Tt.bind hS fun r hr => Tt.bind (hC r ⟨by rw [hr.length_eq]; exact hD.1, fun x hx => hD.2 x (hr.mem_iff.1 hx)⟩) fun r2 ⟨h1, h2⟩ => Tt.pure ⟨fun x => (h1 x).trans hr.mem_iff, by rw [← hr.length_eq]; exact h2⟩
end Go.Bk
end
noncomputable section
namespace Go.Bk
open Go Go.AM
set_option linter.unusedVariables false
def Klt : List Int → List Int → Prop
 | [], [] => False
 | [], _ :: _ => True
 | _ :: _, [] => False
 | a :: x, b :: y => a < b ∨ (a = b ∧ Klt x y)
theorem Klt.irr : ∀ x : List Int, ¬ Klt x x
 | [] => fun h => h
 | a :: x => fun h => h.elim (fun h => absurd h (by omega)) fun h => Klt.irr x h.2
theorem Klt.trans : ∀ {x y z : List Int}, Klt x y → Klt y z → Klt x z
 | _, [], [], _, h2 => absurd h2 (Klt.irr _)
 | [], [], _ :: _, _, _ => True.intro
 | _ :: _, [], _ :: _, h1, _ => absurd h1 (fun h => h)
 | _, _ :: _, [], _, h2 => absurd h2 (fun h => h)
 | [], _ :: _, _ :: _, _, _ => True.intro
 | a :: x, b :: y, c :: z, h1, h2 => by
   rcases h1 with h1 | ⟨rfl, h1⟩
   ·rcases h2 with h2 | ⟨rfl, h2⟩
    ·exact .inl (by omega)
    ·exact .inl h1
   ·rcases h2 with h2 | ⟨rfl, h2⟩
    ·exact .inl h2
    ·exact .inr ⟨rfl, Klt.trans h1 h2⟩
theorem Klt.tri : ∀ {x y : List Int}, ¬ Klt x y → x ≠ y → Klt y x
 | [], [], _, h => absurd rfl h
 | [], _ :: _, h, _ => absurd True.intro h
 | _ :: _, [], _, _ => True.intro
 | a :: x, b :: y, h, hne => by
   rcases Int.lt_trichotomy a b with h1 | rfl | h1
   ·exact absurd (.inl h1) h
   ·exact .inr ⟨rfl, Klt.tri (fun h2 => h (.inr ⟨rfl, h2⟩)) (fun e => hne (by rw [e]))⟩
   ·exact .inl h1
theorem Klt.app : ∀ {p x y : List Int}, Klt (p ++ x) (p ++ y) ↔ Klt x y
 | [], _, _ => Iff.rfl
 | a :: p, x, y => by
   show (a < a ∨ (a = a ∧ Klt (p ++ x) (p ++ y))) ↔ _
   constructor
   ·rintro (h | h)
    ·omega
    ·exact Klt.app.1 h.2
   ·exact fun h => .inr ⟨rfl, Klt.app.2 h⟩
theorem Klt.drop {a b : List Int} {i : Nat} (h : a.take i = b.take i) : Klt a b ↔ Klt (a.drop i) (b.drop i) := by
 have ea : a = a.take i ++ a.drop i := (List.take_append_drop i a).symm
 have eb : b = a.take i ++ b.drop i := by rw [h]; exact (List.take_append_drop i b).symm
 have : Klt a b ↔ Klt (a.take i ++ a.drop i) (a.take i ++ b.drop i) := by rw [← eb, ← ea]
 rw [this, Klt.app]
def LessV (a b : List Int) (v : Int) : Prop := (v < 0 ↔ Klt a b) ∧ (v = 0 ↔ a = b)
theorem LessV.lt {a b : List Int} {v : Int} (hv : v < 0) (h : Klt a b) : LessV a b v := ⟨⟨fun _ => h, fun _ => hv⟩, ⟨fun h => absurd h (by omega), fun e => (by subst e; exact absurd h (Klt.irr _))⟩⟩
theorem LessV.gt {a b : List Int} {v : Int} (hv : 0 < v) (h : Klt b a) : LessV a b v := ⟨⟨fun h => absurd h (by omega), fun h' => absurd (h.trans h') (Klt.irr _)⟩, ⟨fun h => absurd h (by omega), fun e => (by subst e; exact absurd h (Klt.irr _))⟩⟩
theorem sp_Less (a b : List Int) (ha : a.length ≤ 1002) : Sp ref03_Less.P (a, b) (LessV a b) := by
 show Tt (fun n => ref03_Less.P n (a, b)) _
 unfold ref03_Less.P; dsimp only
 have e : min ((a.length : Nat) : Int) ((b.length : Nat) : Int) = ((min a.length b.length : Nat) : Int) := by omega
 rw [e]
 refine Tt.bind (R := fun q => (∃ v, LessV a b v ∧ q = Sum.inr v) ∨ (a.take (min a.length b.length) = b.take (min a.length b.length) ∧ q = Sum.inl (a, b))) (Tt.loop (Lp.count (min a.length b.length) (fun i s => a.take i = b.take i ∧ s = (a, b, ((min a.length b.length : Nat) : Int), (i : Int))) ?_ ?_ ⟨rfl, rfl⟩)) ?_
 ·rintro i s hi ⟨hI, rfl⟩
  unfold ref03_Less.L1; dsimp only
  have hia : i < a.length := by omega
  have hib : i < b.length := by omega
  have hd := Klt.drop hI
  have hd' := Klt.drop hI.symm
  rw [List.drop_eq_getElem_cons hia, List.drop_eq_getElem_cons hib] at hd hd'
  refine Bd.yes (dec_true (by omega)) (Bd.nth hia (Bd.nth hib (Bd.ite (fun h => Bd.done (.inl ⟨_, .lt (by decide) (hd.2 (.inl (dec_of h))), rfl⟩)) (fun h1 => Bd.nth hia (Bd.nth hib (Bd.ite (fun h => Bd.done (.inl ⟨_, .gt (by decide) (hd'.2 (.inl (dec_of h))), rfl⟩)) (fun h2 => Bd.again ?_)))))))
  have h1 := dec_not h1; have h2 := dec_not h2
  refine ⟨?_, by rw [wrap_next (by omega)]⟩
  rw [List.take_add_one, List.take_add_one, hI, List.getElem?_eq_getElem hia, List.getElem?_eq_getElem hib, show a[i] = b[i] by omega]
 ·rintro s ⟨hI, rfl⟩
  unfold ref03_Less.L1; dsimp only
  exact Bd.no (decide_eq_false (by omega)) (Bd.done (.inr ⟨hI, rfl⟩))
 ·rintro q (⟨v, hv, rfl⟩ | ⟨hI, rfl⟩)
  ·exact Tt.pure hv
  ·dsimp only
   refine Tt.ite (fun h => ?_) (fun h => Tt.ite (fun h2 => ?_) (fun h2 => ?_))
   ·have h := dec_of h
    refine Tt.pure (.lt (by decide) ?_)
    rw [show min a.length b.length = a.length by omega] at hI
    rw [Klt.drop hI, List.drop_length, List.drop_eq_getElem_cons (by omega)]
    trivial
   ·have h2 := dec_of h2
    refine Tt.pure (.gt (by decide) ?_)
    rw [show min a.length b.length = b.length by omega] at hI
    rw [Klt.drop hI.symm, List.drop_length, List.drop_eq_getElem_cons (by omega)]
    trivial
   ·have h := dec_not h; have h2 := dec_not h2
    rw [show min a.length b.length = a.length by omega, List.take_length, List.take_of_length_le (by omega)] at hI
    subst hI
    exact Tt.pure ⟨⟨fun h => absurd h (by decide), fun h => absurd h (Klt.irr _)⟩, ⟨fun _ => rfl, fun _ => rfl⟩⟩
def key (r : Rule) : List Int := r.1 :: (r.2.1 ++ [r.2.2])
theorem key_inj {a b : Rule} (h : key a = key b) : a = b := by
 obtain ⟨a1, a2, a3⟩ := a
 obtain ⟨b1, b2, b3⟩ := b
 unfold key at h
 injection h with h1 h2
 have hl := congrArg List.length h2
 simp only [List.length_append, List.length_singleton] at hl
 obtain ⟨h3, h4⟩ := List.append_inj h2 (by dsimp only at hl ⊢; omega)
 injection h4 with h4 _
 dsimp only at h1 h3 h4
 rw [h1, h3, h4]
theorem key_len (r : Rule) : (key r).length = r.2.1.length + 2 := by simp [key]
theorem sp_key (r : Rule) (h : r.2.1.length ≤ 1000) : Sp ref03_key.P r (fun k => k = key r) := by
 show Tt (fun n => ref03_key.P n r) _
 unfold ref03_key.P
 refine Tt.chk (lenOk (by simp; omega)) (Tt.chk (lenOk ?_) (Tt.pure ?_))
 ·show List.length ([r.1] ++ r.2.1) + _ ≤ _
  simp; omega
 ·show ([r.1] ++ r.2.1) ++ [r.2.2] = key r
  simp [key]
def Rlt (a b : Rule) : Prop := Klt (key a) (key b)
def Srt (l : List Rule) : Prop := l.Pairwise Rlt
theorem Srt.lt {l : List Rule} (h : Srt l) {i j : Nat} {x y : Rule} (hx : l[i]? = some x) (hy : l[j]? = some y) (hij : i < j) : Rlt x y := by
 obtain ⟨hi, rfl⟩ := List.getElem?_eq_some_iff.1 hx
 obtain ⟨hj, rfl⟩ := List.getElem?_eq_some_iff.1 hy
 exact List.pairwise_iff_getElem.1 h i j hi hj hij
theorem Srt.uniq : ∀ {x y : List Rule}, Srt x → Srt y → (∀ r, r ∈ x ↔ r ∈ y) → x = y
 | [], [], _, _, _ => rfl
 | [], b :: y, _, _, h => absurd ((h b).2 (List.mem_cons_self)) (by simp)
 | a :: x, [], _, _, h => absurd ((h a).1 (List.mem_cons_self)) (by simp)
 | a :: x, b :: y, hx, hy, h => by
   obtain ⟨hx1, hx2⟩ := List.pairwise_cons.1 hx
   obtain ⟨hy1, hy2⟩ := List.pairwise_cons.1 hy
   have hab : a = b := by
    rcases List.mem_cons.1 ((h a).1 List.mem_cons_self) with e | h1
    ·exact e
    ·rcases List.mem_cons.1 ((h b).2 List.mem_cons_self) with e | h2
     ·exact e.symm
     ·exact absurd (Klt.trans (hy1 a h1) (hx1 b h2)) (Klt.irr _)
   subst hab
   have := Srt.uniq hx2 hy2 fun r => by
    constructor
    ·intro hr
     rcases List.mem_cons.1 ((h r).1 (List.mem_cons_of_mem _ hr)) with rfl | h1
     ·exact absurd (hx1 r hr) (Klt.irr _)
     ·exact h1
    ·intro hr
     rcases List.mem_cons.1 ((h r).2 (List.mem_cons_of_mem _ hr)) with rfl | h1
     ·exact absurd (hy1 r hr) (Klt.irr _)
     ·exact h1
   rw [this]
theorem Srt.put {out : List Rule} (h : Srt out) {lo : Nat} {r : Rule} (h1 : ∀ k y, out[k]? = some y → k < lo → Rlt y r) (h2 : ∀ k y, out[k]? = some y → lo ≤ k → ¬ Rlt y r) (h3 : ∀ y, out[lo]? = some y → y ≠ r) : Srt (out.take lo ++ r :: out.drop lo) := by
 have hT : Srt (out.take lo ++ out.drop lo) := by rw [List.take_append_drop]; exact h
 obtain ⟨p1, p2, p3⟩ := List.pairwise_append.1 hT
 have hd : ∀ y ∈ out.drop lo, Rlt r y := by
  intro y hy
  obtain ⟨k, hk⟩ := List.mem_iff_getElem?.1 hy
  rw [List.getElem?_drop] at hk
  have hl : lo < out.length := by
   have := (List.getElem?_eq_some_iff.1 hk).1; omega
  have hz := List.getElem?_eq_getElem hl
  have hrz : Rlt r out[lo] := Klt.tri (h2 lo _ hz (Nat.le_refl _)) fun e => h3 _ hz (key_inj e)
  rcases Nat.eq_zero_or_pos k with rfl | hk0
  ·rw [Nat.add_zero, hz] at hk
   exact Option.some.inj hk ▸ hrz
  ·exact Klt.trans hrz (h.lt hz hk (by omega))
 refine List.pairwise_append.2 ⟨p1, List.pairwise_cons.2 ⟨hd, p2⟩, fun x hx y hy => ?_⟩
 have hxr : Rlt x r := by
  obtain ⟨k, hk⟩ := List.mem_iff_getElem?.1 hx
  rw [List.getElem?_take] at hk
  split at hk
  ·rename_i hkl
   exact h1 k x hk hkl
  ·cases hk
 rcases List.mem_cons.1 hy with rfl | hy
 ·exact hxr
 ·exact Klt.trans hxr (hd y hy)
section
variable {K : Nat → Rule → Option (List Int)} {L : Nat → List Int × List Int → Option Int}
theorem sp_Sort (hK : ∀ r : Rule, r.2.1.length ≤ 1000 → Sp K r (fun k => k = key r)) (hL : ∀ a b : List Int, a.length ≤ 1002 → Sp L (a, b) (LessV a b)) (x : List Rule) (hx : x.length ≤ 1000000000) (hr : ∀ r ∈ x, r.2.1.length ≤ 1000) :
 Sp (fun n => ref03_Sort.P (L n) (K n) n) x (fun r : List Rule => Srt r ∧ r.length ≤ x.length ∧ ∀ y, y ∈ r ↔ y ∈ x) := by
 show Tt (fun n => ref03_Sort.P (L n) (K n) n x) _
 unfold ref03_Sort.P
 refine Tt.bind (R := fun r : List Rule => Srt r ∧ r.length ≤ x.length ∧ ∀ y, y ∈ r ↔ y ∈ x) (Tt.loop (Lp.count x.length (fun i s => ∃ out : List Rule, Srt out ∧ out.length ≤ i ∧ (∀ y, y ∈ out ↔ y ∈ x.take i) ∧ s = (out, x, ((x.length : Nat) : Int), (i : Int))) ?_ ?_ ⟨[], .nil, by simp, by simp, rfl⟩)) fun r hr => Tt.pure hr
 ·rintro i s hi ⟨out, hsrt, ho, hox, rfl⟩
  have hxi : x[i] ∈ x := List.getElem_mem hi
  have hor : ∀ y ∈ out, y.2.1.length ≤ 1000 := fun y hy => hr y (List.mem_of_mem_take ((hox y).1 hy))
  have hnext : ∀ y, y ∈ x.take (i + 1) ↔ y ∈ out ∨ y = x[i] := fun y => by rw [hox y, List.take_add_one, List.getElem?_eq_getElem hi, Option.toList_some, List.mem_append, List.mem_singleton]
  unfold ref03_Sort.L2; dsimp only
  refine Bd.yes (dec_true (by omega)) (Bd.nth hi ?_)
  refine Bd.bind (R := fun t => ∃ lo : Nat, lo ≤ out.length ∧ (∀ k y, out[k]? = some y → k < lo → Rlt y x[i]) ∧ (∀ k y, out[k]? = some y → lo ≤ k → ¬ Rlt y x[i]) ∧ t = (out, x[i].1, x[i].2.1, x[i].2.2, (lo : Int), x, ((x.length : Nat) : Int), (i : Int))) (Tt.loop (Lp.measure (fun s => ∃ lo hi : Nat, lo ≤ hi ∧ hi ≤ out.length ∧ (∀ k y, out[k]? = some y → k < lo → Rlt y x[i]) ∧ (∀ k y, out[k]? = some y → hi ≤ k → ¬ Rlt y x[i]) ∧ s = (out, x[i].1, x[i].2.1, x[i].2.2, (lo : Int), (hi : Int), x, ((x.length : Nat) : Int), (i : Int))) (fun s => (s.2.2.2.2.2.1 - s.2.2.2.2.1).toNat) ?_ ⟨0, out.length, by omega, by omega, fun k y _ h => absurd h (by omega), fun k y hk h => absurd (List.getElem?_eq_some_iff.1 hk).1 (by omega), rfl⟩)) ?_
  ·rintro s ⟨lo, hi', h1, h2, h3, h4, rfl⟩
   unfold ref03_Sort.L1; dsimp only
   refine Bd.ite (fun hlt => ?_) (fun hge => Bd.done ⟨lo, by omega, h3, fun k y hk hlk => h4 k y hk (by have := dec_not hge; omega), rfl⟩)
   have hlt := dec_of hlt
   have hm : (lo + hi') / 2 < hi' := by omega
   have hm2 : lo ≤ (lo + hi') / 2 := by omega
   rw [mid_val (by omega) h1]
   refine Bd.chk (by decide) (Bd.chk (rng (by omega) (by omega)) ?_)
   rw [Int.toNat_natCast]
   refine Bd.at (by omega) fun e he hei => ?_
   refine Bd.bind (hK e (hor e he)) fun r7 h7 => Bd.bind (hK (x[i].1, x[i].2.1, x[i].2.2) (hr _ hxi)) fun r8 h8 => ?_
   subst h7; subst h8
   refine Bd.bind (hL _ _ (by rw [key_len]; have := hor e he; omega)) fun r9 h9 => ?_
   refine Bd.bindIte (fun hc => ?_) (fun hc => ?_)
   ·have hel : Rlt e x[i] := h9.1.1 (dec_of hc)
    refine Bd.bindPure (Bd.again ⟨⟨(lo + hi') / 2 + 1, hi', by omega, h2, fun k y hk hkl => ?_, h4, ?_⟩, ?_⟩)
    ·rcases Nat.lt_or_ge k ((lo + hi') / 2) with h | h
     ·exact Klt.trans (hsrt.lt hk hei h) hel
     ·have : k = (lo + hi') / 2 := by omega
      subst this
      rw [hei] at hk
      exact Option.some.inj hk ▸ hel
    ·rw [wrap_next (by omega)]
    ·dsimp only
     rw [wrap_next (by omega)]; omega
   ·have hel : ¬ Rlt e x[i] := fun h => absurd (h9.1.2 h) (dec_not hc)
    refine Bd.bindPure (Bd.again ⟨⟨lo, (lo + hi') / 2, by omega, by omega, h3, fun k y hk hkl => ?_, rfl⟩, ?_⟩)
    ·rcases Nat.lt_or_ge ((lo + hi') / 2) k with h | h
     ·exact fun h' => hel (Klt.trans (hsrt.lt hei hk h) h')
     ·have : k = (lo + hi') / 2 := by omega
      subst this
      rw [hei] at hk
      exact Option.some.inj hk ▸ hel
    ·dsimp only
     omega
  ·rintro t ⟨lo, hlo, h3, h4, rfl⟩
   dsimp only
   refine Bd.bind (R := fun t => ∃ b : Bool, (b = true → ∀ y, out[lo]? = some y → y ≠ x[i]) ∧ (b = false → out[lo]? = some x[i]) ∧ t = (out, x[i].1, x[i].2.1, x[i].2.2, (lo : Int), x, ((x.length : Nat) : Int), (i : Int), b)) ?_ ?_
   ·refine Tt.ite (fun h => Tt.pure ⟨_, fun _ y hy => ?_, fun h => (by cases h), rfl⟩) (fun h => Tt.chk (rng (by omega) (by have := dec_not h; omega)) ?_)
    ·have := dec_of h
     have := (List.getElem?_eq_some_iff.1 hy).1
     omega
    have := dec_not h
    rw [Int.toNat_natCast]
    refine Tt.atB (by omega) fun e he hei => Tt.bind (hK e (hor e he)) fun r7 h7 => Tt.bind (hK (x[i].1, x[i].2.1, x[i].2.2) (hr _ hxi)) fun r8 h8 => ?_
    subst h7; subst h8
    refine Tt.bind (hL _ _ (by rw [key_len]; have := hor e he; omega)) fun r9 h9 => Tt.pure ⟨_, fun hb y hy hyx => ?_, fun hb => ?_, rfl⟩
    ·rw [hei] at hy
     have := Option.some.inj hy
     subst this
     subst hyx
     rw [h9.2.2 rfl] at hb
     cases hb
    ·have : r9 = 0 := by simpa using hb
     rw [hei, key_inj (h9.2.1 this)]
   ·rintro _ ⟨b, hb1, hb2, rfl⟩
    dsimp only
    refine Bd.bindIte (fun hbt => ?_) (fun hbf => ?_)
    ·have hal : (List.append out [((0 : Int), ([] : List Int), (0 : Int))]).length = out.length + 1 := by
      show (out ++ _).length = _
      simp
     have hlo1 : IntKind.wrap .i64 ((lo : Int) + 1) = ((lo + 1 : Nat) : Int) := wrap_next (by omega)
     rw [hlo1]
     refine Bd.bindChk (lenOk (by simp; omega)) (Bd.bindChk (by rw [hal]; simp; omega) (Bd.bindChk (by rw [hal]; simp; omega) ?_))
     simp only [Int.toNat_natCast]
     have hset := insert_at out ((0 : Int), ([] : List Int), (0 : Int)) (x[i].1, x[i].2.1, x[i].2.2) lo hlo
     have hlen := congrArg List.length hset
     rw [List.length_set] at hlen
     have hlen2 : (out.take lo ++ (x[i].1, x[i].2.1, x[i].2.2) :: out.drop lo).length = out.length + 1 := by simp; omega
     refine Bd.bindChk (rng (by omega) (by rw [hlen, hlen2]; omega)) (Bd.bindBind (Bd.at (by rw [hlen, hlen2]; omega) fun e _ _ => Bd.bindPure ?_))
     refine Bd.again ⟨out.take lo ++ (x[i].1, x[i].2.1, x[i].2.2) :: out.drop lo, hsrt.put h3 h4 (hb1 hbt), by omega, fun y => ?_, ?_⟩
     ·rw [hnext y]
      have hm : y ∈ out ↔ y ∈ out.take lo ∨ y ∈ out.drop lo := by rw [← List.mem_append, List.take_append_drop]
      rw [hm, List.mem_append, List.mem_cons]
      constructor
      ·rintro (h | h | h)
       ·exact .inl (.inl h)
       ·exact .inr h
       ·exact .inl (.inr h)
      ·rintro ((h | h) | h)
       ·exact .inl h
       ·exact .inr (.inr h)
       ·exact .inr (.inl h)
     ·dsimp only
      rw [hset, wrap_next (by omega)]
    ·refine Bd.bindPure (Bd.again ⟨out, hsrt, by omega, fun y => ?_, ?_⟩)
     ·rw [hnext y]
      constructor
      ·exact .inl
      ·rintro (h | rfl)
       ·exact h
       ·exact List.mem_of_getElem? (hb2 hbf)
     ·rw [wrap_next (by omega)]
 ·rintro s ⟨out, hsrt, ho, hox, rfl⟩
  unfold ref03_Sort.L2; dsimp only
  rw [List.take_length] at hox
  exact Bd.no (decide_eq_false (by omega)) (Bd.done ⟨hsrt, ho, hox⟩)
end
end Go.Bk
end
noncomputable section
namespace Go.Bk
open Go Go.AM
set_option linter.unusedVariables false
inductive Rch (rs : List Rule) : Int → Prop
 | mk {r : Rule} : r ∈ rs → (∀ q ∈ r.2.1, Rch rs q) → Rch rs r.2.2
inductive Usd (rs : List Rule) (fin : List Int) : Int → Prop
 | fin {q : Int} : q ∈ fin → Rch rs q → Usd rs fin q
 | step {r : Rule} {q : Int} : r ∈ rs → Usd rs fin r.2.2 → (∀ p ∈ r.2.1, Rch rs p) → q ∈ r.2.1 → Usd rs fin q
def Mk (S : Int) (P : Int → Prop) (l : List Bool) : Prop := l.length = S.toNat ∧ ∀ i : Nat, l[i]? = some true ↔ ((i : Int) < S ∧ P (i : Int))
theorem Mk.uniq {S : Int} {P : Int → Prop} {l m : List Bool} (h : Mk S P l) (h' : Mk S P m) : l = m := by
 apply List.ext_getElem?
 intro i
 by_cases hi : i < S.toNat
 ·have h1 : i < l.length := by rw [h.1]; exact hi
  have h2 : i < m.length := by rw [h'.1]; exact hi
  have e := (h.2 i).trans (h'.2 i).symm
  rw [List.getElem?_eq_getElem h1, List.getElem?_eq_getElem h2] at e ⊢
  cases hl : l[i] <;> cases hm : m[i] <;> simp_all
 ·rw [List.getElem?_eq_none (by rw [h.1]; omega), List.getElem?_eq_none (by rw [h'.1]; omega)]
theorem mark_set {l : List Bool} {k i : Nat} (hk : k < l.length) : (l.set k true)[i]? = some true ↔ (l[i]? = some true ∨ i = k) := by
 rw [List.getElem?_set]
 by_cases h : k = i
 ·subst h; simp [hk]
 ·rw [if_neg h]
  constructor
  ·exact .inl
  ·rintro (h' | h')
   ·exact h'
   ·exact absurd h'.symm h
abbrev On (l : List Bool) (q : Int) : Prop := l[q.toNat]? = some true
theorem on_take {l : List Bool} {f : List Int} {j : Nat} {b e : Bool} (hj : j < f.length) (hb : b = true ↔ ∀ q ∈ f.take j, On l q) (he : l[f[j].toNat]? = some e) (hbt : b = true) : e = true ↔ ∀ q ∈ f.take (j + 1), On l q := by
 rw [List.take_add_one, List.getElem?_eq_getElem hj, Option.toList_some]
 constructor
 ·intro h q hq
  rcases List.mem_append.1 hq with h1 | h1
  ·exact hb.1 hbt q h1
  ·rw [List.mem_singleton.1 h1]
   show l[f[j].toNat]? = some true
   rw [he, h]
 ·intro h
  have h2 := h f[j] (List.mem_append_right _ (List.mem_singleton.2 rfl))
  have h3 : l[f[j].toNat]? = some true := h2
  rw [he] at h3
  exact Option.some.inj h3
theorem on_take_no {l : List Bool} {f : List Int} {j : Nat} {b : Bool} (hj : j < f.length) (hb : b = true ↔ ∀ q ∈ f.take j, On l q) (hbf : b = false) : false = true ↔ ∀ q ∈ f.take (j + 1), On l q := by
 constructor
 ·intro h; cases h
 ·intro h
  have := hb.2 fun q hq => h q (by rw [List.take_add_one]; exact List.mem_append_left _ hq)
  rw [hbf] at this; cases this
theorem sp_Reached (S : Int) (fin : List Int) (rs : List Rule) (h : WfS S fin rs) : Sp ref03_Reached.P (S, fin, rs) (Mk S (Rch rs)) := by
 obtain ⟨h0, h1, _, hrl, _, hr⟩ := h
 have hfin : ∀ out : List Bool, out.length = S.toNat → (∀ i : Nat, out[i]? = some true → Rch rs (i : Int)) → (∀ r ∈ rs, (∀ q ∈ r.2.1, On out q) → On out r.2.2) → Mk S (Rch rs) out := by
  intro out ho hs hc
  have hcomp : ∀ q, Rch rs q → On out q := by
   intro q hq
   induction hq with
   | mk hm _ ih => exact hc _ hm ih
  refine ⟨ho, fun i => ⟨fun hi => ⟨?_, hs i hi⟩, fun hi => hcomp _ hi.2⟩⟩
  have := (List.getElem?_eq_some_iff.1 hi).1
  omega
 show Tt (fun n => ref03_Reached.P n (S, fin, rs)) _
 unfold ref03_Reached.P; dsimp only
 refine Tt.chk (mk_rng h0 (by omega)) (Tt.bind (R := Mk S (Rch rs)) (Tt.loop (Lp.measure (fun s => ∃ (out : List Bool) (more : Bool), out.length = S.toNat ∧ (∀ i : Nat, out[i]? = some true → Rch rs (i : Int)) ∧ (more = false → ∀ r ∈ rs, (∀ q ∈ r.2.1, On out q) → On out r.2.2) ∧ s = (S, fin, rs, out, more)) (fun s => if s.2.2.2.2 then nf s.2.2.2.1 + 1 else 0) ?_ ⟨_, true, by simp, fun i hi => ?_, fun h => (by cases h), rfl⟩)) fun r hr => Tt.pure hr)
 rotate_left
 ·rw [List.getElem?_replicate] at hi
  split at hi <;> cases hi
 rintro s ⟨out, more, ho, hsnd, hcl, rfl⟩
 unfold ref03_Reached.L3; dsimp only
 refine Bd.ite (fun hm => ?_) (fun hm => Bd.done (hfin out ho hsnd (hcl hm)))
 subst hm
 refine Bd.bind (R := fun t => ∃ (out' : List Bool) (more' : Bool), out'.length = S.toNat ∧ (∀ i : Nat, out'[i]? = some true → Rch rs (i : Int)) ∧ nf out' ≤ nf out ∧ (more' = true → nf out' < nf out) ∧ (more' = false → ∀ r ∈ rs, (∀ q ∈ r.2.1, On out' q) → On out' r.2.2) ∧ t = (S, fin, rs, out', more'))
  (Tt.loop (Lp.count rs.length (fun i s => ∃ (out' : List Bool) (more' : Bool), out'.length = S.toNat ∧ (∀ i : Nat, out'[i]? = some true → Rch rs (i : Int)) ∧ nf out' ≤ nf out ∧ (more' = true → nf out' < nf out) ∧ (more' = false → ∀ r ∈ rs.take i, (∀ q ∈ r.2.1, On out' q) → On out' r.2.2) ∧ s = (S, fin, rs, out', more', rs, ((rs.length : Nat) : Int), (i : Int))) ?_ ?_ ⟨out, false, ho, hsnd, Nat.le_refl _, fun h => (by cases h), fun _ r hr => (by simp at hr), rfl⟩)) ?_
 ·rintro i s hi ⟨out', more', ho', hsnd', hn, hlt, hcl', rfl⟩
  unfold ref03_Reached.L2; dsimp only
  obtain ⟨hto, hfrom, hfl⟩ := hr rs[i] (List.getElem_mem hi)
  refine Bd.yes (dec_true (by omega)) (Bd.nth hi ?_)
  refine Bd.bind (R := fun t => ∃ b : Bool, (b = true ↔ ∀ q ∈ rs[i].2.1, On out' q) ∧ t = (S, fin, rs, out', more', rs[i].1, rs[i].2.1, rs[i].2.2, b, rs, ((rs.length : Nat) : Int), (i : Int))) (Tt.loop (Lp.count rs[i].2.1.length (fun j s => ∃ b : Bool, (b = true ↔ ∀ q ∈ rs[i].2.1.take j, On out' q) ∧ s = (S, fin, rs, out', more', rs[i].1, rs[i].2.1, rs[i].2.2, b, rs, ((rs.length : Nat) : Int), (i : Int), rs[i].2.1, ((rs[i].2.1.length : Nat) : Int), (j : Int))) ?_ ?_ ⟨true, by simp, rfl⟩)) ?_
  ·rintro j s hj ⟨b, hb, rfl⟩
   unfold ref03_Reached.L1; dsimp only
   obtain ⟨q0, q1⟩ := hfrom rs[i].2.1[j] (List.getElem_mem hj)
   refine Bd.yes (dec_true (by omega)) (Bd.nth hj (Bd.bindIte (fun hbt => ?_) (fun hbf => ?_)))
   ·exact Bd.bindChk (rng q0 (by omega)) (Bd.bindBind (Bd.at (by omega) fun e _ he => Bd.bindPure (Bd.again ⟨e, on_take hj hb he hbt, by rw [wrap_next (by omega)]⟩)))
   ·exact Bd.bindPure (Bd.again ⟨false, on_take_no hj hb hbf, by rw [wrap_next (by omega)]⟩)
  ·rintro s ⟨b, hb, rfl⟩
   unfold ref03_Reached.L1; dsimp only
   rw [List.take_length] at hb
   exact Bd.no (decide_eq_false (by omega)) (Bd.done ⟨b, hb, rfl⟩)
  ·rintro _ ⟨b, hb, rfl⟩
   dsimp only
   have hcons : ∀ {o : List Bool}, (∀ r ∈ rs.take i, (∀ q ∈ r.2.1, On o q) → On o r.2.2) → ((∀ q ∈ rs[i].2.1, On o q) → On o rs[i].2.2) → ∀ r ∈ rs.take (i + 1), (∀ q ∈ r.2.1, On o q) → On o r.2.2 := by
    intro o ha hb r hr
    rw [List.take_add_one, List.getElem?_eq_getElem hi, Option.toList_some] at hr
    rcases List.mem_append.1 hr with h | h
    ·exact ha r h
    ·rw [List.mem_singleton.1 h]; exact hb
   refine Bd.bind (R := fun t => ∃ c : Bool, (c = true → b = true ∧ out'[rs[i].2.2.toNat]? = some false) ∧ (c = false → b = true → On out' rs[i].2.2) ∧ t = (S, fin, rs, out', more', rs[i].1, rs[i].2.1, rs[i].2.2, rs, ((rs.length : Nat) : Int), (i : Int), c)) ?_ ?_
   ·refine Tt.ite (fun hbt => Tt.chk (rng hto.1 (by have := hto.2; omega)) (Tt.atB (by have := hto.2; have := hto.1; omega) fun e _ he => Tt.pure ⟨!e, fun h => ⟨hbt, ?_⟩, fun h _ => ?_, rfl⟩)) (fun hbf => Tt.pure ⟨false, fun h => (by cases h), fun _ h => (by rw [hbf] at h; cases h), rfl⟩)
    ·cases e with
     | true => cases h
     | false => exact he
    ·cases e with
     | true => exact he
     | false => cases h
   ·rintro _ ⟨c, hc, hc2, rfl⟩
    dsimp only
    refine Bd.bindIte (fun hct => ?_) (fun hcf => ?_)
    ·have hk : rs[i].2.2.toNat < out'.length := by have := hto.2; have := hto.1; omega
     refine Bd.bindChk (rng hto.1 (by have := hto.2; omega)) (Bd.bindBind (Bd.at hk fun e _ he => Bd.bindPure (Bd.again ⟨out'.set rs[i].2.2.toNat true, true, by simpa using ho', fun k hk' => ?_, ?_, fun _ => ?_, fun h => (by cases h), by rw [wrap_next (by omega)]⟩)))
     ·rcases (mark_set hk).1 hk' with h | rfl
      ·exact hsnd' k h
      ·rw [Int.toNat_of_nonneg hto.1]
       refine .mk (List.getElem_mem hi) fun q hq => ?_
       have := hsnd' _ (hb.1 (hc hct).1 q hq)
       rwa [Int.toNat_of_nonneg (hfrom q hq).1] at this
     ·exact Nat.le_trans (nf_set_le _ _) hn
     ·exact Nat.lt_of_lt_of_le (nf_set_lt (hc hct).2) hn
    ·exact Bd.bindPure (Bd.again ⟨_, more', ho', hsnd', hn, hlt, fun hm => hcons (hcl' hm) fun hq => hc2 hcf (hb.2 hq), by rw [wrap_next (by omega)]⟩)
 ·rintro s ⟨out', more', ho', hsnd', hn, hlt, hcl', rfl⟩
  unfold ref03_Reached.L2; dsimp only
  rw [List.take_length] at hcl'
  exact Bd.no (decide_eq_false (by omega)) (Bd.done ⟨out', more', ho', hsnd', hn, hlt, hcl', rfl⟩)
 ·rintro _ ⟨out', more', ho', hsnd', hn, hlt, hcl', rfl⟩
  dsimp only
  refine Bd.again ⟨⟨out', more', ho', hsnd', hcl', rfl⟩, ?_⟩
  dsimp only
  cases more' with
  | true => have := hlt rfl; simp; omega
  | false => simp
theorem sp_Used {F : Nat → Int × List Int × List Rule → Option (List Bool)} (S : Int) (fin : List Int) (rs : List Rule) (h : WfS S fin rs) (hF : Sp F (S, fin, rs) (Mk S (Rch rs))) : Sp (fun n => ref03_Used.P (F n) n) (S, fin, rs) (Mk S (Usd rs fin)) := by
 obtain ⟨h0, h1, hfl0, hrl, hfin, hr⟩ := h
 show Tt (fun n => ref03_Used.P (F n) n (S, fin, rs)) _
 unfold ref03_Used.P; dsimp only
 refine Tt.bind hF fun rch hrch' => Tt.chk (mk_rng h0 (by omega)) ?_
 obtain ⟨hrch, hrx⟩ := hrch'
 have hrx1 : ∀ q, 0 ≤ q → On rch q → Rch rs q := fun q hq h => by
  have := ((hrx q.toNat).1 h).2
  rwa [Int.toNat_of_nonneg hq] at this
 have hrx2 : ∀ q, StOk S q → Rch rs q → On rch q := fun q hq h => (hrx q.toNat).2 ⟨by have := hq.1; have := hq.2; omega, by rwa [Int.toNat_of_nonneg hq.1]⟩
 have hend : ∀ out : List Bool, out.length = S.toNat → (∀ i : Nat, out[i]? = some true → Usd rs fin (i : Int)) → (∀ q ∈ fin, Rch rs q → On out q) → (∀ r ∈ rs, On out r.2.2 → (∀ q ∈ r.2.1, On rch q) → ∀ q ∈ r.2.1, On out q) → Mk S (Usd rs fin) out := by
  intro out ho hs hf hc
  have hcomp : ∀ q, Usd rs fin q → On out q := by
   intro q hq
   induction hq with
   | fin hm hq => exact hf _ hm hq
   | step hm _ hq hq2 ih => exact hc _ hm ih (fun p hp => hrx2 p ((hr _ hm).2.1 p hp) (hq p hp)) _ hq2
  refine ⟨ho, fun i => ⟨fun hi => ⟨?_, hs i hi⟩, fun hi => hcomp _ hi.2⟩⟩
  have := (List.getElem?_eq_some_iff.1 hi).1
  omega
 refine Tt.bind (R := fun t => ∃ out : List Bool, out.length = S.toNat ∧ (∀ i : Nat, out[i]? = some true → Usd rs fin (i : Int)) ∧ (∀ q ∈ fin, Rch rs q → On out q) ∧ t = (S, fin, rs, rch, out))
  (Tt.loop (Lp.count fin.length (fun i s => ∃ out : List Bool, out.length = S.toNat ∧ (∀ i : Nat, out[i]? = some true → Usd rs fin (i : Int)) ∧ (∀ q ∈ fin.take i, Rch rs q → On out q) ∧ s = (S, fin, rs, rch, out, fin, ((fin.length : Nat) : Int), (i : Int))) ?_ ?_ ⟨_, by simp, fun i hi => ?_, fun q hq => (by simp at hq), rfl⟩)) ?_
 ·rintro i s hi ⟨out, ho, hs, hf, rfl⟩
  unfold ref03_Used.L1; dsimp only
  have hm := List.getElem_mem hi
  obtain ⟨q0, q1⟩ := hfin fin[i] hm
  refine Bd.yes (dec_true (by omega)) (Bd.nth hi (Bd.chk (rng q0 (by omega)) (Bd.at (by omega) fun e _ he => Bd.chk (rng q0 (by omega)) (Bd.at (by omega) fun e' _ _ => Bd.again ⟨out.set fin[i].toNat e, by simpa using ho, fun k hk => ?_, fun q hq hqr => ?_, by rw [wrap_next (by omega)]⟩))))
  ·rw [List.getElem?_set] at hk
   split at hk
   ·rename_i hik
    split at hk
    ·have : e = true := Option.some.inj hk
     subst this
     subst hik
     rw [Int.toNat_of_nonneg q0]
     exact .fin hm (hrx1 _ q0 he)
    ·cases hk
   ·exact hs k hk
  ·show (out.set fin[i].toNat e)[q.toNat]? = some true
   rw [List.take_add_one, List.getElem?_eq_getElem hi, Option.toList_some] at hq
   have hqm : q ∈ fin := by
    rcases List.mem_append.1 hq with h | h
    ·exact List.mem_of_mem_take h
    ·rw [List.mem_singleton.1 h]; exact hm
   by_cases hqi : q = fin[i]
   ·subst hqi
    have h2 : rch[fin[i].toNat]? = some true := hrx2 _ (hfin _ hm) hqr
    rw [he] at h2
    rw [List.getElem?_set, if_pos rfl, if_pos (by omega), Option.some.inj h2]
   ·obtain ⟨p0, p1⟩ := hfin q hqm
    rw [List.getElem?_set, if_neg (by omega)]
    rcases List.mem_append.1 hq with h | h
    ·exact hf q h hqr
    ·exact absurd (List.mem_singleton.1 h) hqi
 ·rintro s ⟨out, ho, hs, hf, rfl⟩
  unfold ref03_Used.L1; dsimp only
  rw [List.take_length] at hf
  exact Bd.no (decide_eq_false (by omega)) (Bd.done ⟨out, ho, hs, hf, rfl⟩)
 ·rw [List.getElem?_replicate] at hi
  split at hi <;> cases hi
 rintro _ ⟨out0, ho0, hs0, hf0, rfl⟩
 dsimp only
 refine Tt.bind (R := Mk S (Usd rs fin)) (Tt.loop (Lp.measure (fun s => ∃ (out : List Bool) (more : Bool), out.length = S.toNat ∧ (∀ i : Nat, out[i]? = some true → Usd rs fin (i : Int)) ∧ (∀ q ∈ fin, Rch rs q → On out q) ∧ (more = false → ∀ r ∈ rs, On out r.2.2 → (∀ q ∈ r.2.1, On rch q) → ∀ q ∈ r.2.1, On out q) ∧ s = (S, fin, rs, rch, out, more)) (fun s => if s.2.2.2.2.2 then nf s.2.2.2.2.1 + 1 else 0) ?_ ⟨_, true, ho0, hs0, hf0, fun h => (by cases h), rfl⟩)) fun r hr => Tt.pure hr
 rintro s ⟨out, more, ho, hs, hf, hcl, rfl⟩
 unfold ref03_Used.L5; dsimp only
 refine Bd.ite (fun hm => ?_) (fun hm => Bd.done (hend out ho hs hf (hcl hm)))
 subst hm
 refine Bd.bind (R := fun t => ∃ (out' : List Bool) (more' : Bool), out'.length = S.toNat ∧ (∀ i : Nat, out'[i]? = some true → Usd rs fin (i : Int)) ∧ (∀ q ∈ fin, Rch rs q → On out' q) ∧ nf out' ≤ nf out ∧ (more' = true → nf out' < nf out) ∧ (more' = false → out' = out) ∧ (more' = false → ∀ r ∈ rs, On out r.2.2 → (∀ q ∈ r.2.1, On rch q) → ∀ q ∈ r.2.1, On out q) ∧ t = (S, fin, rs, rch, out', more'))
  (Tt.loop (Lp.count rs.length (fun i s => ∃ (out' : List Bool) (more' : Bool), out'.length = S.toNat ∧ (∀ i : Nat, out'[i]? = some true → Usd rs fin (i : Int)) ∧ (∀ q ∈ fin, Rch rs q → On out' q) ∧ nf out' ≤ nf out ∧ (more' = true → nf out' < nf out) ∧ (more' = false → out' = out) ∧ (more' = false → ∀ r ∈ rs.take i, On out r.2.2 → (∀ q ∈ r.2.1, On rch q) → ∀ q ∈ r.2.1, On out q) ∧ s = (S, fin, rs, rch, out', more', rs, ((rs.length : Nat) : Int), (i : Int))) ?_ ?_ ⟨out, false, ho, hs, hf, Nat.le_refl _, fun h => (by cases h), fun _ => rfl, fun _ r hr => (by simp at hr), rfl⟩)) ?_
 ·rintro i s hi ⟨out', more', ho', hs', hf', hn, hlt, heq', hcl', rfl⟩
  unfold ref03_Used.L4; dsimp only
  have hm := List.getElem_mem hi
  obtain ⟨hto, hfrom, hfl⟩ := hr rs[i] hm
  refine Bd.yes (dec_true (by omega)) (Bd.nth hi (Bd.chk (rng hto.1 (by have := hto.2; omega)) (Bd.at (by have := hto.2; have := hto.1; omega) fun e13 _ he13 => ?_)))
  refine Bd.bind (R := fun t => ∃ b : Bool, (b = true ↔ On out' rs[i].2.2 ∧ ∀ q ∈ rs[i].2.1, On rch q) ∧ t = (S, fin, rs, rch, out', more', rs[i].1, rs[i].2.1, rs[i].2.2, b, rs, ((rs.length : Nat) : Int), (i : Int))) (Tt.loop (Lp.count rs[i].2.1.length (fun j s => ∃ b : Bool, (b = true ↔ On out' rs[i].2.2 ∧ ∀ q ∈ rs[i].2.1.take j, On rch q) ∧ s = (S, fin, rs, rch, out', more', rs[i].1, rs[i].2.1, rs[i].2.2, b, rs, ((rs.length : Nat) : Int), (i : Int), rs[i].2.1, ((rs[i].2.1.length : Nat) : Int), (j : Int))) ?_ ?_ ⟨e13, ⟨fun h => ⟨by subst h; exact he13, by simp⟩, fun h => ?_⟩, rfl⟩)) ?_
  ·rintro j s hj ⟨b, hb, rfl⟩
   unfold ref03_Used.L2; dsimp only
   obtain ⟨q0, q1⟩ := hfrom rs[i].2.1[j] (List.getElem_mem hj)
   have hT : ∀ q, q ∈ rs[i].2.1.take (j + 1) ↔ q ∈ rs[i].2.1.take j ∨ q = rs[i].2.1[j] := fun q => by rw [List.take_add_one, List.getElem?_eq_getElem hj, Option.toList_some, List.mem_append, List.mem_singleton]
   refine Bd.yes (dec_true (by omega)) (Bd.nth hj (Bd.bindIte (fun hbt => ?_) (fun hbf => ?_)))
   ·refine Bd.bindChk (rng q0 (by omega)) (Bd.bindBind (Bd.at (by omega) fun e _ he => Bd.bindPure (Bd.again ⟨e, ⟨fun h => ⟨(hb.1 hbt).1, fun q hq => ?_⟩, fun h => ?_⟩, by rw [wrap_next (by omega)]⟩)))
    ·rcases (hT q).1 hq with h' | h'
     ·exact (hb.1 hbt).2 q h'
     ·subst h'; subst h; exact he
    ·have h3 : rch[rs[i].2.1[j].toNat]? = some true := h.2 _ ((hT _).2 (.inr rfl))
     rw [he] at h3
     exact Option.some.inj h3
   ·refine Bd.bindPure (Bd.again ⟨false, ⟨fun h => (by cases h), fun h => ?_⟩, by rw [wrap_next (by omega)]⟩)
    have := hb.2 ⟨h.1, fun q hq => h.2 q ((hT q).2 (.inl hq))⟩
    rw [hbf] at this; cases this
  ·rintro s ⟨b, hb, rfl⟩
   unfold ref03_Used.L2; dsimp only
   rw [List.take_length] at hb
   exact Bd.no (decide_eq_false (by omega)) (Bd.done ⟨b, hb, rfl⟩)
  ·have h3 : out'[rs[i].2.2.toNat]? = some true := h.1
   rw [he13] at h3
   exact Option.some.inj h3
  ·rintro _ ⟨b, hb, rfl⟩
   dsimp only
   refine Bd.bind (R := fun t => ∃ (out2 : List Bool) (more2 : Bool), out2.length = S.toNat ∧ (∀ i : Nat, out2[i]? = some true → Usd rs fin (i : Int)) ∧ (∀ q ∈ fin, Rch rs q → On out2 q) ∧ nf out2 ≤ nf out ∧ (more2 = true → nf out2 < nf out) ∧ (more2 = false → more' = false ∧ out2 = out) ∧ (more2 = false → b = true → ∀ q ∈ rs[i].2.1, On out q) ∧ t = (S, fin, rs, rch, out2, more2, rs, ((rs.length : Nat) : Int), (i : Int)))
    (Tt.loop (Lp.count rs[i].2.1.length (fun j s => ∃ (out2 : List Bool) (more2 : Bool), out2.length = S.toNat ∧ (∀ i : Nat, out2[i]? = some true → Usd rs fin (i : Int)) ∧ (∀ q ∈ fin, Rch rs q → On out2 q) ∧ nf out2 ≤ nf out ∧ (more2 = true → nf out2 < nf out) ∧ (more2 = false → more' = false ∧ out2 = out) ∧ (more2 = false → b = true → ∀ q ∈ rs[i].2.1.take j, On out q) ∧ s = (S, fin, rs, rch, out2, more2, b, rs, ((rs.length : Nat) : Int), (i : Int), rs[i].2.1, ((rs[i].2.1.length : Nat) : Int), (j : Int))) ?_ ?_ ⟨out', more', ho', hs', hf', hn, hlt, fun h => ⟨h, heq' h⟩, fun _ _ q hq => (by simp at hq), rfl⟩)) ?_
   ·rintro j s hj ⟨out2, more2, ho2, hs2, hf2, hn2, hlt2, heq2, hcl2, rfl⟩
    unfold ref03_Used.L3; dsimp only
    obtain ⟨q0, q1⟩ := hfrom rs[i].2.1[j] (List.getElem_mem hj)
    have hT : ∀ q, q ∈ rs[i].2.1.take (j + 1) ↔ q ∈ rs[i].2.1.take j ∨ q = rs[i].2.1[j] := fun q => by rw [List.take_add_one, List.getElem?_eq_getElem hj, Option.toList_some, List.mem_append, List.mem_singleton]
    refine Bd.yes (dec_true (by omega)) (Bd.nth hj ?_)
    refine Bd.bind (R := fun t => ∃ c : Bool, (c = true → b = true ∧ out2[rs[i].2.1[j].toNat]? = some false) ∧ (c = false → b = true → On out2 rs[i].2.1[j]) ∧ t = (S, fin, rs, rch, out2, more2, b, rs[i].2.1[j], rs, ((rs.length : Nat) : Int), (i : Int), rs[i].2.1, ((rs[i].2.1.length : Nat) : Int), (j : Int), c)) ?_ ?_
    ·refine Tt.ite (fun hbt => Tt.chk (rng q0 (by omega)) (Tt.atB (by omega) fun e _ he => Tt.pure ⟨!e, fun h => ⟨hbt, ?_⟩, fun h _ => ?_, rfl⟩)) (fun hbf => Tt.pure ⟨false, fun h => (by cases h), fun _ h => (by rw [hbf] at h; cases h), rfl⟩)
     ·cases e with
      | true => cases h
      | false => exact he
     ·cases e with
      | true => exact he
      | false => cases h
    ·rintro _ ⟨c, hc, hc2, rfl⟩
     dsimp only
     refine Bd.bindIte (fun hct => ?_) (fun hcf => ?_)
     ·have hk : rs[i].2.1[j].toNat < out2.length := by omega
      refine Bd.bindChk (rng q0 (by omega)) (Bd.bindBind (Bd.at hk fun e _ he => Bd.bindPure (Bd.again ⟨out2.set rs[i].2.1[j].toNat true, true, by simpa using ho2, fun k hk' => ?_, fun q hq hqr => (mark_set hk).2 (.inl (hf2 q hq hqr)), ?_, fun _ => ?_, fun h => (by cases h), fun h => (by cases h), by rw [wrap_next (by omega)]⟩)))
      ·rcases (mark_set hk).1 hk' with h | rfl
       ·exact hs2 k h
       ·rw [Int.toNat_of_nonneg q0]
        obtain ⟨hb1, hb2⟩ := hb.1 (hc hct).1
        have hu := hs' _ hb1
        rw [Int.toNat_of_nonneg hto.1] at hu
        exact .step hm hu (fun p hp => hrx1 p (hfrom p hp).1 (hb2 p hp)) (List.getElem_mem hj)
      ·exact Nat.le_trans (nf_set_le _ _) hn2
      ·exact Nat.lt_of_lt_of_le (nf_set_lt (hc hct).2) hn2
     ·refine Bd.bindPure (Bd.again ⟨_, more2, ho2, hs2, hf2, hn2, hlt2, heq2, fun hm2 hbt q hq => ?_, by rw [wrap_next (by omega)]⟩)
      rcases (hT q).1 hq with h' | rfl
      ·exact hcl2 hm2 hbt q h'
      ·have := hc2 hcf hbt
       rwa [(heq2 hm2).2] at this
   ·rintro s ⟨out2, more2, ho2, hs2, hf2, hn2, hlt2, heq2, hcl2, rfl⟩
    unfold ref03_Used.L3; dsimp only
    rw [List.take_length] at hcl2
    exact Bd.no (decide_eq_false (by omega)) (Bd.done ⟨out2, more2, ho2, hs2, hf2, hn2, hlt2, heq2, hcl2, rfl⟩)
   ·rintro _ ⟨out2, more2, ho2, hs2, hf2, hn2, hlt2, heq2, hcl2, rfl⟩
    dsimp only
    refine Bd.again ⟨out2, more2, ho2, hs2, hf2, hn2, hlt2, fun h => (heq2 h).2, fun h r hrm => ?_, by rw [wrap_next (by omega)]⟩
    rw [List.take_add_one, List.getElem?_eq_getElem hi, Option.toList_some] at hrm
    rcases List.mem_append.1 hrm with h' | h'
    ·exact hcl' (heq2 h).1 r h'
    ·rw [List.mem_singleton.1 h']
     intro hon hon2
     exact hcl2 h (hb.2 ⟨by rw [heq' (heq2 h).1]; exact hon, hon2⟩)
 ·rintro s ⟨out', more', ho', hs', hf', hn, hlt, heq', hcl', rfl⟩
  unfold ref03_Used.L4; dsimp only
  rw [List.take_length] at hcl'
  exact Bd.no (decide_eq_false (by omega)) (Bd.done ⟨out', more', ho', hs', hf', hn, hlt, heq', hcl', rfl⟩)
 ·rintro _ ⟨out', more', ho', hs', hf', hn, hlt, heq', hcl', rfl⟩
  dsimp only
  refine Bd.again ⟨⟨out', more', ho', hs', hf', fun h => (by rw [heq' h]; exact hcl' h), rfl⟩, ?_⟩
  dsimp only
  cases more' with
  | true => have := hlt rfl; simp; omega
  | false => simp
end Go.Bk
end
noncomputable section
namespace Go.Bk
open Go Go.AM
set_option linter.unusedVariables false
def cnt (keep : List Bool) (j : Nat) : Nat := (keep.take j).count true
def nu (keep : List Bool) (q : Int) : Int := ((cnt keep q.toNat : Nat) : Int)
def kp (keep : List Bool) (q : Int) : Bool := keep[q.toNat]? == some true
def kr (keep : List Bool) (r : Rule) : Bool := kp keep r.2.2 && r.2.1.all (kp keep)
def kmap (keep : List Bool) (r : Rule) : Rule := (r.1, r.2.1.map (nu keep), nu keep r.2.2)
theorem kp_iff {keep : List Bool} {q : Int} : kp keep q = true ↔ keep[q.toNat]? = some true := by simp [kp]
theorem cnt_le (keep : List Bool) (j : Nat) : cnt keep j ≤ j := by
 unfold cnt
 exact Nat.le_trans List.count_le_length (by rw [List.length_take]; omega)
theorem cnt_succ {keep : List Bool} {j : Nat} (h : j < keep.length) : cnt keep (j + 1) = cnt keep j + (if keep[j] = true then 1 else 0) := by
 unfold cnt
 rw [List.take_add_one, List.getElem?_eq_getElem h, Option.toList_some, List.count_append, List.count_singleton]
 cases keep[j] <;> rfl
def KeptX (S : Int) (fin : List Int) (rs : List Rule) (keep : List Bool) (a : Aut) : Prop :=
 a.1 = ((cnt keep keep.length : Nat) : Int) ∧ a.2.1 = (fin.filter (kp keep)).map (nu keep) ∧ Srt a.2.2 ∧ ∀ y, y ∈ a.2.2 ↔ y ∈ (rs.filter (kr keep)).map (kmap keep)
theorem KeptX.uniq {S : Int} {fin : List Int} {rs rs' : List Rule} {keep : List Bool} {a b : Aut} (ha : KeptX S fin rs keep a) (hb : KeptX S fin rs' keep b) (h : ∀ r, r ∈ rs ↔ r ∈ rs') : a = b := by
 obtain ⟨a1, a2, a3⟩ := a
 obtain ⟨b1, b2, b3⟩ := b
 obtain ⟨h1, h2, h3, h4⟩ := ha
 obtain ⟨k1, k2, k3, k4⟩ := hb
 dsimp only at h1 h2 h3 h4 k1 k2 k3 k4
 rw [h1, h2, k1, k2, Srt.uniq h3 k3 fun r => by rw [h4, k4]; simp only [List.mem_map, List.mem_filter, h]]
theorem sp_Keep {F : Nat → List Rule → Option (List Rule)} (S : Int) (fin : List Int) (rs : List Rule) (keep : List Bool) (h : WfS S fin rs) (hk : keep.length = S.toNat)
 (hF : ∀ x : List Rule, x.length ≤ 1000000000 → (∀ r ∈ x, r.2.1.length ≤ 1000) → Sp F x (fun r : List Rule => Srt r ∧ r.length ≤ x.length ∧ ∀ y, y ∈ r ↔ y ∈ x)) :
 Sp (fun n => ref03_Keep.P (F n) n) (S, fin, rs, keep) (KeptX S fin rs keep) := by
 obtain ⟨h0, h1, hfl0, hrl, hfin, hr⟩ := h
 show Tt (fun n => ref03_Keep.P (F n) n (S, fin, rs, keep)) _
 unfold ref03_Keep.P; dsimp only
 refine Tt.chk (mk_rng h0 (by omega)) ?_
 refine Tt.bind (R := fun t => ∃ num : List Int, num.length = S.toNat ∧ (∀ j : Nat, keep[j]? = some true → num[j]? = some ((cnt keep j : Nat) : Int)) ∧ t = (keep, S, fin, rs, (0 : Int), ([] : List Int), ([] : List Rule), num, ((cnt keep keep.length : Nat) : Int), ([] : List Int), ([] : List Rule)))
  (Tt.loop (Lp.count keep.length (fun i s => ∃ num : List Int, num.length = S.toNat ∧ (∀ j, j < i → keep[j]? = some true → num[j]? = some ((cnt keep j : Nat) : Int)) ∧
   s = (keep, S, fin, rs, (0 : Int), ([] : List Int), ([] : List Rule), num, ((cnt keep i : Nat) : Int), ([] : List Int), ([] : List Rule), keep, ((keep.length : Nat) : Int), (i : Int))) ?_ ?_ ⟨_, by simp, fun j hj => absurd hj (by omega), rfl⟩)) ?_
 ·rintro i s hi ⟨num, hn, hI, rfl⟩
  unfold ref03_Keep.L1; dsimp only
  have hc := cnt_le keep i
  have hcs := cnt_succ hi
  refine Bd.yes (dec_true (by omega)) (Bd.nth hi (Bd.bindIte (fun hki => ?_) (fun hki => ?_)))
  ·rw [if_pos hki] at hcs
   refine Bd.bindChk (rng (by omega) (by omega)) (Bd.bindBind ?_)
   rw [Int.toNat_natCast]
   refine Bd.at (by omega) fun e _ _ => Bd.bindPure (Bd.again ⟨num.set i ((cnt keep i : Nat) : Int), by simpa using hn, fun j hj hkj => ?_, by rw [wrap_next (by omega), wrap_next (by omega), hcs]⟩)
   rw [List.getElem?_set]
   by_cases hij : i = j
   ·rw [if_pos hij, if_pos (by omega), hij]
   ·rw [if_neg hij]
    exact hI j (by omega) hkj
  ·rw [if_neg (by rw [hki]; decide), Nat.add_zero] at hcs
   refine Bd.bindPure (Bd.again ⟨num, hn, fun j hj hkj => ?_, by rw [wrap_next (by omega), hcs]; rfl⟩)
   rcases Nat.lt_or_ge j i with h2 | h2
   ·exact hI j h2 hkj
   ·obtain rfl : j = i := by omega
    rw [List.getElem?_eq_getElem hi] at hkj
    rw [Option.some.inj hkj] at hki; cases hki
 ·rintro s ⟨num, hn, hI, rfl⟩
  unfold ref03_Keep.L1; dsimp only
  refine Bd.no (decide_eq_false (by omega)) (Bd.done ⟨num, hn, fun j hkj => hI j ?_ hkj, rfl⟩)
  rcases Nat.lt_or_ge j keep.length with h | h
  ·exact h
  ·simp [List.getElem?_eq_none h] at hkj
 rintro _ ⟨num, hn, hI, rfl⟩
 dsimp only
 refine Tt.bind (R := fun t => t = (keep, S, fin, rs, (0 : Int), ([] : List Int), ([] : List Rule), num, ((cnt keep keep.length : Nat) : Int), (fin.filter (kp keep)).map (nu keep), ([] : List Rule)))
  (Tt.loop (Lp.count fin.length (fun i s => s = (keep, S, fin, rs, (0 : Int), ([] : List Int), ([] : List Rule), num, ((cnt keep keep.length : Nat) : Int), ((fin.take i).filter (kp keep)).map (nu keep), ([] : List Rule), fin, ((fin.length : Nat) : Int), (i : Int))) ?_ ?_ rfl)) ?_
 ·rintro i s hi rfl
  unfold ref03_Keep.L2; dsimp only
  obtain ⟨q0, q1⟩ := hfin fin[i] (List.getElem_mem hi)
  have hfl : (((fin.take i).filter (kp keep)).map (nu keep)).length ≤ i := by
   rw [List.length_map]
   exact Nat.le_trans (List.length_filter_le _ _) (by rw [List.length_take]; omega)
  have hT : fin.take (i + 1) = fin.take i ++ [fin[i]] := by rw [List.take_add_one, List.getElem?_eq_getElem hi, Option.toList_some]
  refine Bd.yes (dec_true (by omega)) (Bd.nth hi (Bd.nthI q0 (by omega) fun b _ hb => Bd.bindIte (fun hbt => ?_) (fun hbf => ?_)))
  ·subst hbt
   have hk1 : kp keep fin[i] = true := kp_iff.2 hb
   refine Bd.bindChk (rng q0 (by omega)) (Bd.bindBind (Bd.at (by omega) fun v _ hv => Bd.bindChk (lenOk (by simp only [List.length_singleton]; omega)) (Bd.bindPure (Bd.again ?_))))
   rw [hI _ hb] at hv
   have hv := Option.some.inj hv
   subst hv
   rw [wrap_next (by omega), hT, List.filter_append, List.map_append, List.filter_cons_of_pos hk1]
   rfl
  ·subst hbf
   have hk1 : ¬ kp keep fin[i] = true := fun h => by have := kp_iff.1 h; rw [hb] at this; cases this
   refine Bd.bindPure (Bd.again ?_)
   rw [wrap_next (by omega), hT, List.filter_append, List.map_append, List.filter_cons_of_neg hk1, List.filter_nil, List.map_nil, List.append_nil]
 ·rintro s rfl
  unfold ref03_Keep.L2; dsimp only
  rw [List.take_length]
  exact Bd.no (decide_eq_false (by omega)) (Bd.done rfl)
 rintro _ rfl
 dsimp only
 refine Tt.bind (R := fun t => t = ((0 : Int), ([] : List Int), ([] : List Rule), ((cnt keep keep.length : Nat) : Int), (fin.filter (kp keep)).map (nu keep), (rs.filter (kr keep)).map (kmap keep)))
  (Tt.loop (Lp.count rs.length (fun i s => s = (keep, (0 : Int), ([] : List Int), ([] : List Rule), num, ((cnt keep keep.length : Nat) : Int), (fin.filter (kp keep)).map (nu keep), ((rs.take i).filter (kr keep)).map (kmap keep), rs, ((rs.length : Nat) : Int), (i : Int))) ?_ ?_ rfl)) ?_
 ·rintro i s hi rfl
  unfold ref03_Keep.L4; dsimp only
  obtain ⟨hto, hfrom, hfl⟩ := hr rs[i] (List.getElem_mem hi)
  have hol : (((rs.take i).filter (kr keep)).map (kmap keep)).length ≤ i := by
   rw [List.length_map]
   exact Nat.le_trans (List.length_filter_le _ _) (by rw [List.length_take]; omega)
  have hT : rs.take (i + 1) = rs.take i ++ [rs[i]] := by rw [List.take_add_one, List.getElem?_eq_getElem hi, Option.toList_some]
  refine Bd.yes (dec_true (by omega)) (Bd.nth hi (Bd.nthI hto.1 (by have := hto.2; omega) fun b0 _ hb0 => ?_))
  refine Bd.bind (R := fun t => ∃ (b : Bool) (from' : List Int), (b = true ↔ b0 = true ∧ ∀ q ∈ rs[i].2.1, keep[q.toNat]? = some true) ∧ (b = true → from' = rs[i].2.1.map (nu keep)) ∧ t = (keep, (0 : Int), ([] : List Int), ([] : List Rule), num, ((cnt keep keep.length : Nat) : Int), (fin.filter (kp keep)).map (nu keep), ((rs.take i).filter (kr keep)).map (kmap keep), rs[i].1, rs[i].2.1, rs[i].2.2, b, from', rs, ((rs.length : Nat) : Int), (i : Int)))
   (Tt.loop (Lp.count rs[i].2.1.length (fun j s => ∃ (b : Bool) (from' : List Int), from'.length = j ∧ (b = true ↔ b0 = true ∧ ∀ q ∈ rs[i].2.1.take j, keep[q.toNat]? = some true) ∧ (b = true → from' = (rs[i].2.1.take j).map (nu keep)) ∧
    s = (keep, (0 : Int), ([] : List Int), ([] : List Rule), num, ((cnt keep keep.length : Nat) : Int), (fin.filter (kp keep)).map (nu keep), ((rs.take i).filter (kr keep)).map (kmap keep), rs[i].1, rs[i].2.1, rs[i].2.2, b, from', rs, ((rs.length : Nat) : Int), (i : Int), rs[i].2.1, ((rs[i].2.1.length : Nat) : Int), (j : Int))) ?_ ?_ ⟨b0, [], rfl, by simp, fun _ => rfl, rfl⟩)) ?_
  ·rintro j s hj ⟨b, from', hl', hb, hfr, rfl⟩
   unfold ref03_Keep.L3; dsimp only
   obtain ⟨q0, q1⟩ := hfrom rs[i].2.1[j] (List.getElem_mem hj)
   have hT2 : rs[i].2.1.take (j + 1) = rs[i].2.1.take j ++ [rs[i].2.1[j]] := by rw [List.take_add_one, List.getElem?_eq_getElem hj, Option.toList_some]
   have hT3 : ∀ q, q ∈ rs[i].2.1.take (j + 1) ↔ q ∈ rs[i].2.1.take j ∨ q = rs[i].2.1[j] := fun q => by rw [hT2, List.mem_append, List.mem_singleton]
   refine Bd.yes (dec_true (by omega)) (Bd.nth hj ?_)
   refine Bd.bind (R := fun t => ∃ b' : Bool, (b' = true ↔ b = true ∧ keep[rs[i].2.1[j].toNat]? = some true) ∧ t = (keep, (0 : Int), ([] : List Int), ([] : List Rule), num, ((cnt keep keep.length : Nat) : Int), (fin.filter (kp keep)).map (nu keep), ((rs.take i).filter (kr keep)).map (kmap keep), rs[i].1, rs[i].2.1, rs[i].2.2, b', from', rs[i].2.1[j], rs, ((rs.length : Nat) : Int), (i : Int), rs[i].2.1, ((rs[i].2.1.length : Nat) : Int), (j : Int))) ?_ ?_
   ·refine Tt.ite (fun hbt => Tt.nthI q0 (by omega) fun e _ he => Tt.pure ⟨e, ⟨fun h => ⟨hbt, by rw [he, h]⟩, fun h => by rw [he] at h; exact Option.some.inj h.2⟩, rfl⟩) (fun hbf => Tt.pure ⟨false, ⟨fun h => (by cases h), fun h => (by rw [hbf] at h; cases h.1)⟩, rfl⟩)
   ·rintro _ ⟨b', hb', rfl⟩
    dsimp only
    refine Bd.chk (rng q0 (by omega)) (Bd.at (by omega) fun v _ hv => Bd.chk (lenOk (by simp; omega)) (Bd.again ⟨b', from' ++ [v], by simp [hl'], ?_, fun h => ?_, by rw [wrap_next (by omega)]; rfl⟩))
    ·rw [hb', hb]
     constructor
     ·rintro ⟨⟨h1, h2⟩, h3⟩
      refine ⟨h1, fun q hq => ?_⟩
      rcases (hT3 q).1 hq with h | rfl
      ·exact h2 q h
      ·exact h3
     ·rintro ⟨h1, h2⟩
      exact ⟨⟨h1, fun q hq => h2 q ((hT3 q).2 (.inl hq))⟩, h2 _ ((hT3 _).2 (.inr rfl))⟩
    ·obtain ⟨h1, h2⟩ := hb'.1 h
     rw [hI _ h2] at hv
     rw [hT2, List.map_append, hfr h1, ← Option.some.inj hv]
     rfl
  ·rintro s ⟨b, from', hl', hb, hfr, rfl⟩
   unfold ref03_Keep.L3; dsimp only
   rw [List.take_length] at hb hfr
   exact Bd.no (decide_eq_false (by omega)) (Bd.done ⟨b, from', hb, hfr, rfl⟩)
  ·rintro _ ⟨b, from', hb, hfr, rfl⟩
   dsimp only
   refine Bd.bindIte (fun hbt => ?_) (fun hbf => ?_)
   ·obtain ⟨hb1, hb2⟩ := hb.1 hbt
    have hk1 : kr keep rs[i] = true := by
     simp only [kr, Bool.and_eq_true, List.all_eq_true, kp_iff]
     exact ⟨by rw [hb0, hb1], hb2⟩
    refine Bd.bindChk (rng hto.1 (by have := hto.2; omega)) (Bd.bindBind (Bd.at (by have := hto.2; have := hto.1; omega) fun v _ hv => Bd.bindChk (lenOk (by simp only [List.length_singleton]; omega)) (Bd.bindPure (Bd.again ?_))))
    rw [hI _ (by rw [hb0, hb1])] at hv
    have hv := Option.some.inj hv
    subst hv
    rw [wrap_next (by omega), hT, List.filter_append, List.map_append, List.filter_cons_of_pos hk1, hfr hbt]
    rfl
   ·have hk1 : ¬ kr keep rs[i] = true := by
     intro h
     simp only [kr, Bool.and_eq_true, List.all_eq_true, kp_iff] at h
     have := hb.2 ⟨by rw [hb0] at h; exact Option.some.inj h.1, h.2⟩
     rw [hbf] at this; cases this
    refine Bd.bindPure (Bd.again ?_)
    rw [wrap_next (by omega), hT, List.filter_append, List.map_append, List.filter_cons_of_neg hk1, List.filter_nil, List.map_nil, List.append_nil]
 ·rintro s rfl
  unfold ref03_Keep.L4; dsimp only
  rw [List.take_length]
  exact Bd.no (decide_eq_false (by omega)) (Bd.done rfl)
 rintro _ rfl
 dsimp only
 have hol : ((rs.filter (kr keep)).map (kmap keep)).length ≤ rs.length := by
  rw [List.length_map]
  exact List.length_filter_le _ _
 refine Tt.bind (hF _ (by omega) fun r hr' => ?_) fun r hr' => Tt.pure ⟨rfl, rfl, hr'.1, hr'.2.2⟩
 obtain ⟨r0, hr0, rfl⟩ := List.mem_map.1 hr'
 show (r0.2.1.map (nu keep)).length ≤ 1000
 rw [List.length_map]
 exact (hr r0 (List.mem_filter.1 hr0).1).2.2
def TrimX (S : Int) (fin : List Int) (rs : List Rule) (a : Aut) : Prop := ∃ keep, Mk S (Usd rs fin) keep ∧ KeptX S fin rs keep a
theorem sp_Trimmed {U : Nat → Int × List Int × List Rule → Option (List Bool)} {K : Nat → Int × List Int × List Rule × List Bool → Option Aut} (S : Int) (fin : List Int) (rs : List Rule) (hU : Sp U (S, fin, rs) (Mk S (Usd rs fin)))
 (hK : ∀ keep : List Bool, keep.length = S.toNat → Sp K (S, fin, rs, keep) (KeptX S fin rs keep)) : Sp (fun n => ref03_Trimmed.P (K n) (U n) n) (S, fin, rs) (TrimX S fin rs) := by
 show Tt (fun n => ref03_Trimmed.P (K n) (U n) n (S, fin, rs)) _
 unfold ref03_Trimmed.P; dsimp only
 exact Tt.bind hU fun keep hk => Tt.bind (hK keep hk.1) fun r hr => Tt.pure ⟨keep, hk, hr⟩
theorem Rch.same {rs rs' : List Rule} (h : ∀ r, r ∈ rs → r ∈ rs') {q : Int} (hq : Rch rs q) : Rch rs' q := by
 induction hq with
 | mk hm _ ih => exact .mk (h _ hm) ih
theorem Usd.same {rs rs' : List Rule} {fin : List Int} (h : ∀ r, r ∈ rs → r ∈ rs') {q : Int} (hq : Usd rs fin q) : Usd rs' fin q := by
 induction hq with
 | fin hm hr => exact .fin hm (hr.same h)
 | step hm _ hr hq ih => exact .step (h _ hm) ih (fun p hp => (hr p hp).same h) hq
theorem TrimX.uniq {S : Int} {fin : List Int} {rs rs' : List Rule} {a b : Aut} (ha : TrimX S fin rs a) (hb : TrimX S fin rs' b) (h : ∀ r, r ∈ rs ↔ r ∈ rs') : a = b := by
 obtain ⟨k1, hk1, ha⟩ := ha
 obtain ⟨k2, hk2, hb⟩ := hb
 have : k1 = k2 := hk1.uniq (P := Usd rs fin) ⟨hk2.1, fun i => (hk2.2 i).trans ⟨fun h1 => ⟨h1.1, h1.2.same fun r => (h r).2⟩, fun h1 => ⟨h1.1, h1.2.same fun r => (h r).1⟩⟩⟩
 subst this
 exact ha.uniq hb h
end Go.Bk
end
noncomputable section
namespace Go.Bk
open Go Go.AM
set_option linter.unusedVariables false
theorem Ev.both {P Q : Nat → Prop} (h : Ev P) (h' : Ev Q) : Ev fun n => P n ∧ Q n := h.and h'
theorem trimmed_one {T : Nat → Int × List Int × List Rule → Option Aut} {S : Int} {fin : List Int} {rs rs' : List Rule} (h : ∀ r, r ∈ rs ↔ r ∈ rs')
 (h1 : Sp T (S, fin, rs) (TrimX S fin rs)) (h2 : Sp T (S, fin, rs') (TrimX S fin rs')) : Ev fun n => T n (S, fin, rs) = T n (S, fin, rs') := by
 obtain ⟨a, ha, e1⟩ := h1
 obtain ⟨b, hb, e2⟩ := h2
 have := ha.uniq hb h
 subst this
 exact (e1.and e2).mono fun n hn => hn.1.trans hn.2.symm
theorem minimal_one {In : Nat → List Int × Int → Option Bool} {Is : Nat → List Int × Int → Option (List Int)} {Tr : Nat → Int × List Int × List Rule → Option Aut} {Fi : Nat → List Int × Int × List Int × List Rule → Option Aut} {Ov : Nat → List Int × Int → Option Bool}
 {Re : Nat → List Int × Int × List Int × List Rule → Option Aut} {Su : Nat → List Int × Int × List Int × List Rule → Option (Int × List Int × List Rule × List (List Int) × Int)} {Cl : Nat → List Int × Int × List Int × List Rule → Option (List Int)}
 {M : Nat → List Int × Int × List Int × List Rule → Option (Int × List Int × List Rule × Bool)} (hM : ∀ n x, M (n + 1) x = ref04_Minimal.P (In n) (Is n) (Tr n) (Fi n) (Ov n) (Re n) (Su n) (Cl n) n x)
 {al : List Int} {S : Int} {fin : List Int} {rs rs' : List Rule} (h : Ev fun n => Tr n (S, fin, rs) = Tr n (S, fin, rs')) : Ev fun n => M n (al, S, fin, rs) = M n (al, S, fin, rs') := by
 obtain ⟨N, hN⟩ := h
 refine ⟨N + 1, fun n hn => ?_⟩
 obtain ⟨m, rfl⟩ : ∃ m, n = m + 1 := ⟨n - 1, by omega⟩
 have e := hN m (by omega)
 rw [hM, hM]
 unfold ref04_Minimal.P; dsimp only
 rw [e]
theorem tt_Equal2 {Sa : Nat → Int × List Int × List Rule × Int × List Int × List Rule → Option Bool} {Mi : Nat → List Int × Int × List Int × List Rule → Option (Int × List Int × List Rule × Bool)} (al : List Int) (a c : Aut)
 (hMi : Sp Mi (al, a.1, a.2.1, a.2.2) (fun t => RnOk (t.1, t.2.1, t.2.2.1))) (hSa : ∀ a : Aut, RnOk a → Sp Sa (a.1, a.2.1, a.2.2, a.1, a.2.1, a.2.2) (fun b => b = true))
 (hE : Ev fun n => Mi n (al, a.1, a.2.1, a.2.2) = Mi n (al, c.1, c.2.1, c.2.2)) :
 Sp (fun n => ref04_Equal.P (Sa n) (Mi n) n) (al, a.1, a.2.1, a.2.2, c.1, c.2.1, c.2.2) (fun r => r.1 = true ∨ r.2 = false) := by
 obtain ⟨r, hr, e⟩ := tt_Equal al a hMi hSa
 refine ⟨r, hr, (e.and hE).mono fun n hn => ?_⟩
 have h1 := hn.1
 unfold ref04_Equal.P at h1 ⊢
 dsimp only at h1 ⊢
 rw [← hn.2]
 exact h1
theorem tt_Alike2 {Eq : Nat → List Int × Int × List Int × List Rule × Int × List Int × List Rule → Option (Bool × Bool)} {Lg : Nat → List Int × List Aut → Option Bool} (al : List Int) (a c : Aut)
 (hLg : Sp Lg (al, [a, c]) (fun _ => True)) (hEq : Sp Eq (al, a.1, a.2.1, a.2.2, c.1, c.2.1, c.2.2) (fun r => r.1 = true ∨ r.2 = false)) :
 Sp (fun n => ref04_Alike.P (Eq n) (Lg n) n) (al, a.1, a.2.1, a.2.2, c.1, c.2.1, c.2.2) (fun b => b = true) := by
 show Tt (fun n => ref04_Alike.P (Eq n) (Lg n) n (al, a.1, a.2.1, a.2.2, c.1, c.2.1, c.2.2)) _
 unfold ref04_Alike.P; dsimp only
 refine Tt.bind hLg fun b _ => Tt.ite (fun _ => Tt.pure rfl) (fun _ => Tt.bind hEq fun r hr => ?_)
 refine Tt.bind (R := fun b => b = true) (Tt.ite (fun _ => Tt.pure rfl) (fun h => Tt.pure ?_)) fun b hb => Tt.pure hb
 rcases hr with h' | h'
 ·rw [h] at h'; cases h'
 ·rw [h']; rfl
end Go.Bk
end
noncomputable section
namespace Go.Bk
open Go Go.AM
set_option linter.unusedVariables false
def relR (sy : List Int) (r : Rule) : Rule := (sy.getD r.1.toNat 0, r.2.1, r.2.2)
def rel (sy : List Int) (rs : List Rule) : List Rule := rs.map (relR sy)
theorem getD_of {sy : List Int} {a : Int} (h0 : 0 ≤ a) (h1 : a < ((sy.length : Nat) : Int)) : sy[a.toNat]? = some (sy.getD a.toNat 0) := by
 have h : a.toNat < sy.length := by omega
 rw [List.getD_eq_getElem?_getD, List.getElem?_eq_getElem h]; rfl
section
variable {Cp : Nat → Int × List Int × List Rule → Option Aut} {So : Nat → List Rule → Option (List Rule)} {Va : Nat → List Int × Int × List Int × List Rule → Option Bool} {Ma : Nat → List Int × List Int × List Int → Option Int} {Al : Nat → List Int → Option Bool}
theorem tt_Relabel (b to sy : List Int) (S : Int) (fin : List Int) (rs : List Rule) (hrl : rs.length ≤ 30)
 (hAl : ∀ l : List Int, l = b ∨ l = to → Sp Al l (fun r => r = true ↔ AlOk l)) (hVa : Sp Va (b, S, fin, rs) (fun r => r = true ↔ ValidA b (S, fin, rs)))
 (hMa : Sp Ma (b, to, sy) (MapV b to sy)) (hCp : Sp Cp (S, fin, rs) (fun r => r = (S, fin, rs))) (hSo : Sp So (rel sy rs) (fun r => Same r (rel sy rs) ∧ r.length ≤ (rel sy rs).length)) :
 Sp (fun n => boolean_Relabel.P (Cp n) (So n) (Va n) (Ma n) (Al n) n) (b, to, sy, S, fin, rs) (fun u => (¬ (AlOk b ∧ AlOk to ∧ ValidA b (S, fin, rs)) → u.2.2.2 = 1) ∧
  (AlOk b → AlOk to → ValidA b (S, fin, rs) → ∃ v, MapV b to sy v ∧ (v ≠ 0 → u.2.2.2 = v) ∧ (v = 0 → ∃ R, Same R (rel sy rs) ∧ R.length ≤ rs.length ∧ u = (S, fin, R, 0)))) := by
 show Tt (fun n => boolean_Relabel.P (Cp n) (So n) (Va n) (Ma n) (Al n) n (b, to, sy, S, fin, rs)) _
 unfold boolean_Relabel.P; dsimp only
 refine Tt.bind (R := fun x => ∃ c : Bool, (c = false ↔ (AlOk b ∧ AlOk to ∧ ValidA b (S, fin, rs))) ∧ x = (sy, b, to, S, fin, rs, (0 : Int), ([] : List Int), ([] : List Rule), c)) ?_ ?_
 ·refine Tt.bind (hAl b (.inl rfl)) fun c1 h1 => Tt.ite (fun h => Tt.pure ⟨true, ⟨fun h' => (by cases h'), fun h' => ?_⟩, rfl⟩) (fun hc1 => Tt.bind (hAl to (.inr rfl)) fun c2 h2 => Tt.ite (fun h => Tt.pure ⟨true, ⟨fun h' => (by cases h'), fun h' => ?_⟩, rfl⟩) (fun hc2 => Tt.bind hVa fun c3 h3 => Tt.pure ⟨!c3, ?_, rfl⟩))
  ·rw [h1.2 h'.1] at h; cases h
  ·rw [h2.2 h'.2.1] at h; cases h
  ·have a1 := h1.1 (by simpa using hc1)
   have a2 := h2.1 (by simpa using hc2)
   constructor
   ·intro h; exact ⟨a1, a2, h3.1 (by simpa using h)⟩
   ·rintro ⟨_, _, h⟩; rw [h3.2 h]; rfl
 rintro _ ⟨c, hc, rfl⟩
 dsimp only
 refine Tt.ite (fun hct => Tt.pure ⟨fun _ => rfl, fun x y z => ?_⟩) (fun hcf => ?_)
 ·have := hc.2 ⟨x, y, z⟩
  rw [this] at hct; cases hct
 have hall := hc.1 hcf
 refine Tt.bind hMa fun v hv => Tt.ite (fun hne => Tt.pure ⟨fun h => absurd hall h, fun _ _ _ => ⟨v, hv, fun _ => rfl, fun h => ?_⟩⟩) (fun heq => ?_)
 ·rw [h] at hne; simp at hne
 have hv0 : v = 0 := by simpa using heq
 have hok : MapOk b to sy := by
  rcases hv with ⟨h1, _⟩ | ⟨h1, _⟩ | ⟨_, h1⟩
  ·omega
  ·omega
  ·exact h1
 refine Tt.bind hCp fun cp hcp => ?_
 subst hcp
 dsimp only
 refine Tt.bind (R := fun q => q = ((0 : Int), ([] : List Int), ([] : List Rule), S, fin, rel sy rs))
  (Tt.loop (Lp.count rs.length (fun i s => ∃ d : List Rule, d.length = rs.length ∧ (∀ j, d[j]? = if j < i then (rs[j]?).map (relR sy) else rs[j]?) ∧ s = (sy, (0 : Int), ([] : List Int), ([] : List Rule), S, fin, d, ((rs.length : Nat) : Int), (i : Int))) ?_ ?_ ⟨rs, rfl, fun j => by rw [if_neg (by omega)], rfl⟩)) ?_
 ·rintro i s hi ⟨d, hdl, hd, rfl⟩
  unfold boolean_Relabel.L1; dsimp only
  have hro := hall.2.2.rule (List.getElem_mem hi)
  refine Bd.yes (dec_true (by omega)) (Bd.chk (rng (by omega) (by omega)) (Bd.at (by omega) fun e _ he => ?_))
  rw [Int.toNat_natCast, hd i, if_neg (by omega), List.getElem?_eq_getElem hi] at he
  have he := Option.some.inj he
  subst he
  have h1 : rs[i].1 < ((sy.length : Nat) : Int) := by have := hro.2.1; have := hok.1; omega
  refine Bd.nthI hro.1 h1 fun s hs1 hs2 => Bd.chk (rng (by omega) (by omega)) (Bd.at (by omega) fun e2 _ he2 => ?_)
  rw [Int.toNat_natCast, hd i, if_neg (by omega), List.getElem?_eq_getElem hi] at he2
  have he2 := Option.some.inj he2
  subst he2
  rw [getD_of hro.1 h1] at hs2
  refine Bd.again ⟨d.set i (relR sy rs[i]), by simpa using hdl, fun j => ?_, ?_⟩
  ·rw [List.getElem?_set]
   by_cases hij : i = j
   ·subst hij
    rw [if_pos rfl, if_pos (by omega), if_pos (by omega), List.getElem?_eq_getElem hi]; rfl
   ·rw [if_neg hij, hd j]
    by_cases hj : j < i
    ·rw [if_pos hj, if_pos (by omega)]
    ·rw [if_neg hj, if_neg (by omega)]
  ·rw [Int.toNat_natCast, wrap_next (by have := maxRows_eq; omega)]
   simp only [relR, Option.some.inj hs2]
 ·rintro s ⟨d, hdl, hd, rfl⟩
  unfold boolean_Relabel.L1; dsimp only
  refine Bd.no (decide_eq_false (by omega)) (Bd.done ?_)
  have : d = rel sy rs := List.ext_getElem? fun j => by
   rw [hd j, rel, List.getElem?_map]
   by_cases hj : j < rs.length
   ·rw [if_pos hj]
   ·rw [if_neg hj, List.getElem?_eq_none (by omega)]; rfl
  rw [this]
 ·rintro _ rfl
  refine Tt.bind hSo fun R ⟨h1, h2⟩ => Tt.pure ⟨fun h => absurd hall h, fun _ _ _ => ⟨v, hv, fun h => absurd hv0 h, fun _ => ⟨R, h1, by simpa [rel] using h2, rfl⟩⟩⟩
end
theorem tt_ref05_Relabel (sy : List Int) (S : Int) (fin : List Int) (rs : List Rule) (hfl : fin.length ≤ 30) (hrl : rs.length ≤ 30) (hr : ∀ r ∈ rs, 0 ≤ r.1 ∧ r.1 < ((sy.length : Nat) : Int)) :
 Sp (fun n => ref05_Relabel.P n) (sy, S, fin, rs) (fun u => u = (S, fin, rel sy rs)) := by
 have hm := maxRows_eq
 show Tt (fun n => ref05_Relabel.P n (sy, S, fin, rs)) _
 unfold ref05_Relabel.P; dsimp only
 refine Tt.chk (lenOk (by simp; omega)) ?_
 refine Tt.bind (R := fun q => q = ((0 : Int), ([] : List Int), ([] : List Rule), S, fin, rel sy rs))
  (Tt.loop (Lp.count rs.length (fun i s => s = (sy, (0 : Int), ([] : List Int), ([] : List Rule), S, fin, rel sy (rs.take i), rs, ((rs.length : Nat) : Int), (i : Int))) ?_ ?_ rfl)) ?_
 ·rintro i s hi rfl
  unfold ref05_Relabel.L1; dsimp only
  obtain ⟨h0, h1⟩ := hr _ (List.getElem_mem hi)
  have hl : (rel sy (rs.take i)).length ≤ i := by
   rw [rel, List.length_map, List.length_take]; omega
  refine Bd.yes (dec_true (by omega)) (Bd.nth hi (Bd.nthI h0 h1 fun s _ hs => Bd.chk (lenOk (by simp only [List.length_singleton]; omega)) (Bd.again ?_)))
  rw [getD_of h0 h1] at hs
  rw [wrap_next (by omega), ← Option.some.inj hs]
  have : rel sy (rs.take (i + 1)) = rel sy (rs.take i) ++ [relR sy rs[i]] := by
   rw [rel, rel, List.take_add_one, List.getElem?_eq_getElem hi, Option.toList_some, List.map_append]; rfl
  rw [this]; rfl
 ·rintro s rfl
  unfold ref05_Relabel.L1; dsimp only
  exact Bd.no (decide_eq_false (by omega)) (Bd.done (by rw [List.take_length]))
 ·rintro _ rfl
  exact Tt.pure rfl
theorem rel_from {sy : List Int} {rs R : List Rule} (h : Same R (rel sy rs)) {r : Rule} (hr : r ∈ R) : ∃ r0 ∈ rs, r = relR sy r0 := by
 obtain ⟨r0, h0, h1⟩ := List.mem_map.1 ((h r).1 hr)
 exact ⟨r0, h0, h1.symm⟩
theorem rel_valid {b to sy : List Int} {S : Int} {fin : List Int} {rs R : List Rule} (h : MapOk b to sy) (hto : AlOk to) (hrl : rs.length ≤ 30) (hv : ValidA b (S, fin, rs)) (hR : Same R (rel sy rs)) (hl : R.length ≤ rs.length) : ValidA to (S, fin, R) := by
 refine ⟨hto, hv.2.1, hv.2.2.1, by simp only; omega, hv.2.2.2.2.1, fun i hi hi' => ?_⟩
 obtain ⟨r, hr, e⟩ := rel_from hR (List.getElem_mem hi)
 have ho := hv.rule hr
 have h1 : r.1 < ((sy.length : Nat) : Int) := by have := ho.2.1; have := h.1; omega
 have hm := h.2 _ _ (getD_of ho.1 h1)
 simp only at e ⊢
 rw [e]
 refine ⟨hm.1.1, hm.1.2, fun hx => ?_, ho.2.2.2.1, ho.2.2.2.2⟩
 have har := ho.ar.2
 have hx2 : (sy.getD r.1.toNat 0).toNat < to.length := hx
 rw [← hm.2, List.getElem?_eq_getElem hx2] at har
 exact (Option.some.inj har).symm
theorem rel_reach {sy : List Int} {rs R : List Rule} (hR : Same R (rel sy rs)) (t : RT Int) : ∀ q, Reach rs t q → Reach R (mapT sy t) q := by
 induction t using rt_ind with
 | h a ks ih =>
 intro q hq
 obtain ⟨r, hr, h1, h2, h3, h4⟩ := reach_iff.1 hq
 rw [mapT, mapTs_map]
 refine reach_iff.2 ⟨relR sy r, (hR _).2 (List.mem_map.2 ⟨r, hr, rfl⟩), by rw [relR, h1], h2, by rw [List.length_map]; exact h3, fun i k f hk hf => ?_⟩
 rw [List.getElem?_map] at hk
 cases hk2 : ks[i]? with
 | none => rw [hk2] at hk; cases hk
 | some k2 =>
   rw [hk2] at hk
   have := Option.some.inj hk
   subst this
   exact ih k2 (List.mem_of_getElem? hk2) f (h4 i k2 f hk2 hf)
theorem rel_acc {sy : List Int} {rs R : List Rule} {fin : List Int} (hR : Same R (rel sy rs)) (t : RT Int) (h : Acc rs fin t) : Acc R fin (mapT sy t) := by
 obtain ⟨q, h1, h2⟩ := h
 exact ⟨q, rel_reach hR t q h1, h2⟩
end Go.Bk
end
noncomputable section
namespace Go.Bk
open Go Go.AM
set_option linter.unusedVariables false
theorem sp_BooleanRelabels {Rl : Nat → List Int × List Int × List Int × Int × List Int × List Rule → Option (Int × List Int × List Rule × Int)} {Aw : Nat → Unit → Option Bool} {Fw : Nat → List Int × Int × List (RT Int) × List Aut → Option Bool}
 {Va : Nat → List Int × List Aut → Option Bool} {Tv : Nat → List Int × Int × List (RT Int) → Option Bool} {Av : Nat → List Int → Option Bool}
 {Ha : Nat → Int × List Int × List Rule × Int × List (RT Int) → Option Bool} {Ak : Nat → List Int × Int × List Int × List Rule × Int × List Int × List Rule → Option Bool}
 {Mp : Nat → List Int × Int × List (RT Int) → Option (Int × List (RT Int))} {Md : Nat → List Int × List Int × List Int → Option Int} {Rr : Nat → List Int × Int × List Int × List Rule → Option Aut}
 (b to sy : List Int) (S : Int) (fin : List Int) (rs : List Rule) (t : RT Int)
 (hA : Sp Aw () (fun r => r = true)) (hW : Sp Fw (b, t.a, t.kids, [(S, fin, rs)]) (fun r => r = true → ∀ c ∈ [((S, fin, rs) : Aut)], FewOk b c))
 (hU : FewOk b (S, fin, rs) → to.length ≤ 40 → sy.length ≤ 40 → Sp Rl (b, to, sy, S, fin, rs) (fun u => (¬ (AlOk b ∧ AlOk to ∧ ValidA b (S, fin, rs)) → u.2.2.2 = 1) ∧
  (AlOk b → AlOk to → ValidA b (S, fin, rs) → ∃ v, MapV b to sy v ∧ (v ≠ 0 → u.2.2.2 = v) ∧ (v = 0 → ∃ R, Same R (rel sy rs) ∧ R.length ≤ rs.length ∧ u = (S, fin, R, 0)))))
 (hV : ∀ (al : List Int) (c : Aut), Mid c → Sp Va (al, [c]) (fun r => r = true ↔ ∀ c' ∈ [c], ValidA al c')) (hAv : Sp Av to (fun r => r = true ↔ AlOk to)) (hMd : sy.length ≤ 40 → Sp Md (b, to, sy) (MapV b to sy))
 (hT : Sp Tv (b, t.a, t.kids) (fun r => r = true → Shp b t))
 (hMp : MapOk b to sy → Shp b t → Sp Mp (sy, t.a, t.kids) (fun r => r = ((mapT sy t).a, (mapT sy t).kids)))
 (hHa : ∀ (al : List Int) (t' : RT Int) (c : Aut), nds t' = nds t → Mid c → ValidA al c → Shp al t' → Sp Ha (c.1, c.2.1, c.2.2, t'.a, t'.kids) (fun r => r = true ↔ Acc c.2.2 c.2.1 t'))
 (hRr : FewOk b (S, fin, rs) → (∀ r ∈ rs, 0 ≤ r.1 ∧ r.1 < ((sy.length : Nat) : Int)) → Sp Rr (sy, S, fin, rs) (fun u => u = (S, fin, rel sy rs)))
 (hAk : ∀ R R', Mid (S, fin, R) → Mid (S, fin, R') → ValidA to (S, fin, R) → ValidA to (S, fin, R') → Same R R' → Sp Ak (to, S, fin, R, S, fin, R') (fun r => r = true)) :
 Sp (fun n => law05_BooleanRelabels.P (Rl n) (Aw n) (Fw n) (Va n) (Tv n) (Av n) (Ha n) (Ak n) (Mp n) (Md n) (Rr n) n) (b, to, sy, S, fin, rs, t.a, t.kids) (fun r => r = true) := by
 show Tt (fun n => law05_BooleanRelabels.P (Rl n) (Aw n) (Fw n) (Va n) (Tv n) (Av n) (Ha n) (Ak n) (Mp n) (Md n) (Rr n) n (b, to, sy, S, fin, rs, t.a, t.kids)) _
 unfold law05_BooleanRelabels.P; dsimp only
 refine Tt.bind (R := fun x => ∃ c : Bool, (c = false → FewOk b (S, fin, rs) ∧ to.length ≤ 40 ∧ sy.length ≤ 40) ∧ x = (sy, b, to, S, fin, rs, t.a, t.kids, c)) ?_ ?_
 ·refine Tt.bind hW fun w hw => Tt.ite (fun _ => Tt.pure ⟨true, fun h => (by cases h), rfl⟩) (fun h1 => Tt.ite (fun _ => Tt.pure ⟨true, fun h => (by cases h), rfl⟩) (fun h2 => Tt.pure ⟨_, fun h3 => ?_, rfl⟩))
  have h2 := dec_not h2; have h3 := dec_not h3
  exact ⟨one_iff.1 (hw (by simpa using h1)), by omega, by omega⟩
 rintro _ ⟨c, hc, rfl⟩
 dsimp only
 refine Tt.ite (fun _ => Tt.bind hA fun r hr => Tt.pure hr) (fun hcf => ?_)
 obtain ⟨hfew, hb40, hsy⟩ := hc hcf
 refine Tt.bind (hU hfew hb40 hsy) fun u hu => ?_
 obtain ⟨hu1, hu2⟩ := hu
 refine Tt.bind (R := fun x => ∃ c : Bool, (c = true → ¬ (AlOk b ∧ AlOk to ∧ ValidA b (S, fin, rs))) ∧ (c = false → AlOk to ∧ ValidA b (S, fin, rs)) ∧ x = (sy, b, to, S, fin, rs, t.a, t.kids, u.1, u.2.1, u.2.2.1, u.2.2.2, c)) ?_ ?_
 ·refine Tt.bind (hV b (S, fin, rs) hfew.mid) fun v hv => Tt.ite (fun h => Tt.pure ⟨true, fun _ h' => ?_, fun h => (by cases h), rfl⟩) (fun hvt => Tt.bind hAv fun w hw => Tt.pure ⟨!w, fun h h' => ?_, fun h => ⟨hw.1 (by simpa using h), one_iff.1 (hv.1 (by simpa using hvt))⟩, rfl⟩)
  ·rw [hv.2 (one_iff.2 h'.2.2)] at h; cases h
  ·rw [hw.2 h'.2.1] at h; cases h
 rintro _ ⟨c2, hc2, hc3, rfl⟩
 dsimp only
 refine Tt.ite (fun h => Tt.bind (R := fun r => r = true) (Tt.yes (dec_true (hu1 (hc2 h))) (Tt.bind hA fun r hr => Tt.pure hr)) fun r hr => Tt.pure hr) (fun hcf2 => ?_)
 obtain ⟨hto, hva⟩ := hc3 hcf2
 obtain ⟨v, hv, hv1, hv2⟩ := hu2 hva.1 hto hva
 refine Tt.bind (hMd hsy) fun v' hv' => ?_
 have := hv'.uniq hv
 subst this
 refine Tt.ite (fun h => Tt.bind (R := fun r => r = true) (Tt.yes (dec_true (hv1 fun h0 => ?_)) (Tt.bind hA fun r hr => Tt.pure hr)) fun r hr => Tt.pure hr) (fun h => ?_)
 ·rw [h0] at h; simp at h
 have hv0 : v' = 0 := by simpa using h
 obtain ⟨R, hR, hRl, hue⟩ := hv2 hv0
 subst hue
 dsimp only
 have hok : MapOk b to sy := by
  rcases hv with ⟨h1, _⟩ | ⟨h1, _⟩ | ⟨_, h1⟩
  ·omega
  ·omega
  ·exact h1
 have hf2 : fin.length ≤ 30 := hfew.2.1
 have hf3 : rs.length ≤ 30 := hfew.2.2.1
 have hsame : Same (rel sy rs) (rel sy rs) := fun r => Iff.rfl
 have hrl : (rel sy rs).length = rs.length := List.length_map ..
 have hvu := rel_valid hok hto hf3 hva hR hRl
 have hvv := rel_valid hok hto hf3 hva hsame (by omega)
 have hmid : Mid (S, fin, R) := ⟨by simp only; omega, by simp only; omega, fun r hr => by have := hvu.from3 r hr; omega⟩
 have hmid2 : Mid (S, fin, rel sy rs) := ⟨by simp only; omega, by simp only; omega, fun r hr => by have := hvv.from3 r hr; omega⟩
 refine Tt.bind (R := fun x => x = (sy, b, to, S, fin, rs, t.a, t.kids, S, fin, R, false)) ?_ ?_
 ·refine Tt.no (by simp) (Tt.bind (hV to _ hmid) fun w hw => ?_)
  have : w = true := hw.2 (one_iff.2 hvu)
  subst this
  exact Tt.pure rfl
 rintro _ rfl
 dsimp only
 refine Tt.no rfl (Tt.bind (R := fun x => x = (sy, to, S, fin, rs, S, fin, R, false)) ?_ ?_)
 ·refine Tt.bind hT fun w hw => Tt.ite (fun h => ?_) (fun _ => Tt.pure rfl)
  have hsh := hw h
  refine Tt.bind (hHa b t (S, fin, rs) rfl hfew.mid hva hsh) fun hs hhs => Tt.ite (fun hst => ?_) (fun _ => Tt.pure rfl)
  refine Tt.bind (hMp hok hsh) fun mt hmt => ?_
  subst hmt
  refine Tt.bind (hHa to (mapT sy t) (S, fin, R) (nds_mapT sy t) hmid hvu (mapT_shp hok t hsh)) fun h2 hh2 => ?_
  have : h2 = true := hh2.2 (rel_acc hR t (hhs.1 hst))
  subst this
  exact Tt.pure rfl
 rintro _ rfl
 dsimp only
 refine Tt.no rfl (Tt.bind (R := fun r => r = true) (Tt.bind (hRr hfew fun r hr => ⟨(hva.rule hr).1, by have := (hva.rule hr).2.1; have := hok.1; omega⟩) fun v hv => ?_) fun r hr => Tt.pure hr)
 subst hv
 refine Tt.bind (hAk R (rel sy rs) hmid hmid2 hvu hvv hR) fun ak hak => ?_
 subst hak
 exact Tt.yes rfl (Tt.bind hA fun r hr => Tt.pure hr)
end Go.Bk
end
