import Derived.Test.YtgkobbodicfofaaDoorMa
import Derived.Test.YtgkobbodicfofaaDoorMk
import Derived.KernelRfl
import Derived.Test.YtgkobbodicfofaaDoorMd
noncomputable section
namespace Go.Bk
open Go Go.AM
set_option linter.unusedVariables false
def Ev (p : Nat → Prop) : Prop := ∃ N, ∀ n, N ≤ n → p n
theorem Ev.all {p : Nat → Prop} (h : ∀ n, p n) : Ev p := ⟨0, fun n _ => h n⟩
theorem Ev.mono {p q : Nat → Prop} (h : Ev p) (hq : ∀ n, p n → q n) : Ev q := h.elim fun N hN => ⟨N, fun n hn => hq n (hN n hn)⟩
theorem Ev.and {p q : Nat → Prop} (h : Ev p) (h' : Ev q) : Ev fun n => p n ∧ q n := by
 obtain ⟨N, hN⟩ := h
 obtain ⟨M, hM⟩ := h'
 exact ⟨max N M, fun n hn => ⟨hN n (by omega), hM n (by omega)⟩⟩
theorem Ev.pred {p : Nat → Prop} (h : Ev fun n => p (n + 1)) : Ev p := by
 obtain ⟨N, hN⟩ := h
 refine ⟨N + 1, fun n hn => ?_⟩
 obtain ⟨k, rfl⟩ : ∃ k, n = k + 1 := ⟨n - 1, by omega⟩
 exact hN k (by omega)
theorem Ev.succ {p : Nat → Prop} (h : Ev p) : Ev fun n => p (n + 1) := h.elim fun N hN => ⟨N, fun n hn => hN (n + 1) (by omega)⟩
def Sp {α β : Type} (F : Nat → α → Option β) (x : α) (Q : β → Prop) : Prop := ∃ r, Q r ∧ Ev fun n => F n x = some r
theorem Sp.mono {α β : Type} {F : Nat → α → Option β} {x : α} {Q R : β → Prop} (h : Sp F x Q) (hq : ∀ r, Q r → R r) : Sp F x R := h.elim fun r hr => ⟨r, hq r hr.1, hr.2⟩
theorem Sp.step {α β : Type} {F G : Nat → α → Option β} {x : α} {Q : β → Prop} (hF : ∀ n x, F (n + 1) x = G n x) (h : Sp G x Q) : Sp F x Q := by
 obtain ⟨r, hr, he⟩ := h
 exact ⟨r, hr, (he.mono (q := fun n => F (n + 1) x = some r) fun n hn => by rw [hF]; exact hn).pred⟩
def Lp {σ τ : Type} (L : Nat → σ → (σ → Option τ) → Option τ) (s : σ) (Q : τ → Prop) : Prop := ∃ t, Q t ∧ ∃ N, ∀ n, N ≤ n → ∀ m, N ≤ m → loopN (L n) m s = some t
theorem Lp.ev {σ τ : Type} {L : Nat → σ → (σ → Option τ) → Option τ} {s : σ} {Q : τ → Prop} (h : Lp L s Q) : ∃ t, Q t ∧ Ev fun n => loopN (L n) n s = some t := by
 obtain ⟨t, ht, N, hN⟩ := h
 exact ⟨t, ht, N, fun n hn => hN n hn n hn⟩
theorem Lp.mono {σ τ : Type} {L : Nat → σ → (σ → Option τ) → Option τ} {s : σ} {Q R : τ → Prop} (h : Lp L s Q) (hq : ∀ r, Q r → R r) : Lp L s R := h.elim fun r hr => ⟨r, hq r hr.1, hr.2⟩
def St {σ τ : Type} (L : Nat → σ → (σ → Option τ) → Option τ) (s : σ) (I : σ → Prop) (Q : τ → Prop) : Prop :=
 (∃ s', I s' ∧ Ev fun n => ∀ k, L n s k = k s') ∨ (∃ t, Q t ∧ Ev fun n => ∀ k, L n s k = some t)
theorem Lp.of_st {σ τ : Type} {L : Nat → σ → (σ → Option τ) → Option τ} {s : σ} {I : σ → Prop} {Q : τ → Prop} (h : St L s I Q) (hI : ∀ s', I s' → Lp L s' Q) : Lp L s Q := by
 rcases h with ⟨s', hs, N, hN⟩ | ⟨t, ht, N, hN⟩
 ·obtain ⟨t, ht, M, hM⟩ := hI s' hs
  refine ⟨t, ht, max N M + 1, fun n hn m hm => ?_⟩
  obtain ⟨k, rfl⟩ : ∃ k, m = k + 1 := ⟨m - 1, by omega⟩
  show L n s (loopN (L n) k) = some t
  rw [hN n (by omega)]
  exact hM n (by omega) k (by omega)
 ·refine ⟨t, ht, N + 1, fun n hn m hm => ?_⟩
  obtain ⟨k, rfl⟩ : ∃ k, m = k + 1 := ⟨m - 1, by omega⟩
  show L n s (loopN (L n) k) = some t
  exact hN n (by omega) _
theorem Lp.range {σ τ : Type} {L : Nat → σ → (σ → Option τ) → Option τ} {Q : τ → Prop} (len : Nat) (I : Nat → σ → Prop)
 (hs : ∀ i s, i < len → I i s → St L s (I (i + 1)) Q) (hf : ∀ s, I len s → St L s (fun _ => False) Q) : ∀ s, I 0 s → Lp L s Q := by
 have key : ∀ d i s, i + d = len → I i s → Lp L s Q := by
  intro d
  induction d with
  | zero => intro i s hi h; obtain rfl : i = len := by omega
            exact Lp.of_st (hf s h) fun _ hx => hx.elim
  | succ d ih => intro i s hi h; exact Lp.of_st (hs i s (by omega) h) fun s' h' => ih (i + 1) s' (by omega) h'
 intro s h
 exact key len 0 s (by omega) h
theorem Lp.search {σ τ : Type} {L : Nat → σ → (σ → Option τ) → Option τ} (len : Nat) (st : Nat → σ) (P : Nat → Prop) (no : Nat → τ) (yes : τ)
 (hs : ∀ i, i < len → (P i ∧ Ev fun n => ∀ k, L n (st i) k = k (st (i + 1))) ∨ (¬ P i ∧ Ev fun n => ∀ k, L n (st i) k = some (no i)))
 (hf : Ev fun n => ∀ k, L n (st len) k = some yes) :
 Lp L (st 0) (fun t => (t = yes ∧ ∀ i, i < len → P i) ∨ ∃ i, i < len ∧ ¬ P i ∧ t = no i) := by
 refine Lp.range len (fun i s => s = st i ∧ ∀ j, j < i → P j) ?_ ?_ _ ⟨rfl, fun j h => absurd h (by omega)⟩
 ·rintro i s hi ⟨rfl, hI⟩
  rcases hs i hi with ⟨hp, he⟩ | ⟨hp, he⟩
  ·refine .inl ⟨_, ⟨rfl, fun j hj => ?_⟩, he⟩
   rcases Nat.lt_or_eq_of_le (Nat.le_of_lt_succ hj) with h3 | rfl
   ·exact hI j h3
   ·exact hp
  ·exact .inr ⟨_, .inr ⟨i, hi, hp, rfl⟩, he⟩
 ·rintro s ⟨rfl, hI⟩
  exact .inr ⟨_, .inl ⟨rfl, hI⟩, hf⟩
theorem wrap_id (z : Int) (h : -9223372036854775808 ≤ z) (h' : z < 9223372036854775808) : IntKind.wrap .i64 z = z := by
 simp only [IntKind.wrap, IntKind.signed, IntKind.bits]
 simp only [Bool.true_and, decide_eq_true_eq, Nat.reduceSub, ge_iff_le]
 split <;> omega
theorem wrap_succ {i m : Nat} (h : i < m) (hm : m ≤ maxRows) : IntKind.wrap .i64 ((i : Int) + 1) = ((i + 1 : Nat) : Int) := by
 have : maxRows = 1099511627776 := by decide
 rw [wrap_id _ (by omega) (by omega)]; omega
theorem nth_lt {α : Type} {l : List α} {i : Nat} (h : i < l.length) : nth? l (i : Int) = some l[i] := by
 simp [nth?, h]
theorem nth_int {α : Type} {l : List α} {z : Int} (h : 0 ≤ z) (h' : z < ((l.length : Nat) : Int)) : nth? l z = some (l[z.toNat]'(by omega)) := by
 have : z.toNat < l.length := by omega
 simp [nth?, h, this]
theorem wrap_pred {i m : Nat} (h : i < m) (hm : m ≤ maxRows) (h0 : 0 < i) : IntKind.wrap .i64 ((i : Int) - 1) = ((i - 1 : Nat) : Int) := by
 have : maxRows = 1099511627776 := by decide
 rw [wrap_id _ (by omega) (by omega)]; omega
theorem lt_yes {i m : Nat} (h : i < m) : ((i : Int) < (m : Int)) = True := eq_true (by omega)
theorem lt_no {m : Nat} : ((m : Int) < (m : Int)) = False := eq_false (by omega)
end Go.Bk
end
noncomputable section
namespace Go.Bk
open Go Go.AM
set_option linter.unusedVariables false
def Tt {β : Type} (F : Nat → Option β) (Q : β → Prop) : Prop := ∃ r, Q r ∧ Ev fun n => F n = some r
def Bd {σ τ : Type} (F : Nat → (σ → Option τ) → Option τ) (I : σ → Prop) (Q : τ → Prop) : Prop :=
 (∃ s', I s' ∧ Ev fun n => ∀ k, F n k = k s') ∨ (∃ t, Q t ∧ Ev fun n => ∀ k, F n k = some t)
section
variable {α β γ σ τ : Type} {Q : β → Prop}
theorem Tt.mono {F : Nat → Option β} {R : β → Prop} (h : Tt F Q) (hq : ∀ r, Q r → R r) : Tt F R := h.elim fun r hr => ⟨r, hq r hr.1, hr.2⟩
theorem Tt.pure {r : β} (h : Q r) : Tt (fun _ => some r) Q := ⟨r, h, .all fun _ => rfl⟩
theorem Tt.bind {A : Nat → Option α} {G : Nat → α → Option β} {R : α → Prop} (hA : Tt A R) (hG : ∀ r, R r → Tt (fun n => G n r) Q) : Tt (fun n => (A n).bind (G n)) Q := by
 obtain ⟨r, hr, he⟩ := hA
 obtain ⟨t, ht, he2⟩ := hG r hr
 exact ⟨t, ht, (he.and he2).mono fun n hn => by
  show (A n).bind (G n) = _
  rw [hn.1]; exact hn.2⟩
theorem Tt.chk {c : Bool} {A : Nat → Option β} (hc : c = true) (h : Tt A Q) : Tt (fun n => bif c then A n else none) Q := by
 subst hc; exact h
theorem Tt.ite {c : Bool} {A B : Nat → Option β} (h1 : c = true → Tt A Q) (h2 : c = false → Tt B Q) : Tt (fun n => bif c then A n else B n) Q := by
 cases c with
 | true => exact h1 rfl
 | false => exact h2 rfl
theorem Tt.nth {l : List β} {i : Int} (h0 : 0 ≤ i) (h1 : i < ((l.length : Nat) : Int)) (hq : ∀ h : i.toNat < l.length, Q l[i.toNat]) : Tt (fun _ => nth? l i) Q :=
 ⟨_, hq (by omega), .all fun _ => nth_int h0 h1⟩
theorem Tt.at {l : List β} {i : Nat} (h : i < l.length) (hq : Q l[i]) : Tt (fun _ => at? l i) Q := ⟨_, hq, .all fun _ => List.getElem?_eq_getElem h⟩
theorem Tt.loop {L : Nat → σ → (σ → Option β) → Option β} {s : σ} (h : Lp L s Q) : Tt (fun n => loopN (L n) n s) Q := h.ev
theorem Tt.bindChk {c : Bool} {A : Nat → Option α} {G : Nat → α → Option β} (hc : c = true) (h : Tt (fun n => (A n).bind (G n)) Q) : Tt (fun n => (bif c then A n else none).bind (G n)) Q := by
 subst hc; exact h
theorem Tt.bindIte {c : Bool} {A B : Nat → Option α} {G : Nat → α → Option β} (h1 : c = true → Tt (fun n => (A n).bind (G n)) Q) (h2 : c = false → Tt (fun n => (B n).bind (G n)) Q) : Tt (fun n => (bif c then A n else B n).bind (G n)) Q := by
 cases c with
 | true => exact h1 rfl
 | false => exact h2 rfl
theorem Tt.bindBind {A : Nat → Option α} {B : Nat → α → Option γ} {G : Nat → γ → Option β} (h : Tt (fun n => (A n).bind fun a => (B n a).bind (G n)) Q) : Tt (fun n => ((A n).bind (B n)).bind (G n)) Q := by
 obtain ⟨r, hr, he⟩ := h
 exact ⟨r, hr, he.mono fun n hn => (Option.bind_assoc ..).trans hn⟩
theorem Tt.bindPure {r : α} {G : Nat → α → Option β} (h : Tt (fun n => G n r) Q) : Tt (fun n => (some r).bind (G n)) Q := h
end
section
variable {α β γ σ τ : Type} {I : σ → Prop} {Q : τ → Prop}
theorem Bd.mono {F : Nat → (σ → Option τ) → Option τ} {J : σ → Prop} {R : τ → Prop} (h : Bd F I Q) (hi : ∀ s, I s → J s) (hq : ∀ t, Q t → R t) : Bd F J R := by
 rcases h with ⟨s, h1, h2⟩ | ⟨t, h1, h2⟩
 ·exact .inl ⟨s, hi s h1, h2⟩
 ·exact .inr ⟨t, hq t h1, h2⟩
theorem Bd.again {s : σ} (h : I s) : Bd (fun _ k => k s) I Q := .inl ⟨s, h, .all fun _ _ => rfl⟩
theorem Bd.done {t : τ} (h : Q t) : Bd (fun _ (_ : σ → Option τ) => some t) I Q := .inr ⟨t, h, .all fun _ _ => rfl⟩
theorem Bd.bind {A : Nat → Option α} {G : Nat → (σ → Option τ) → α → Option τ} {R : α → Prop} (hA : Tt A R) (hG : ∀ r, R r → Bd (fun n k => G n k r) I Q) : Bd (fun n k => (A n).bind (G n k)) I Q := by
 obtain ⟨r, hr, he⟩ := hA
 rcases hG r hr with ⟨s, h1, h2⟩ | ⟨t, h1, h2⟩
 ·exact .inl ⟨s, h1, (he.and h2).mono fun n hn k => by
   show (A n).bind (G n k) = _
   rw [hn.1]; exact hn.2 k⟩
 ·exact .inr ⟨t, h1, (he.and h2).mono fun n hn k => by
   show (A n).bind (G n k) = _
   rw [hn.1]; exact hn.2 k⟩
theorem Bd.chk {c : Bool} {A : Nat → (σ → Option τ) → Option τ} (hc : c = true) (h : Bd A I Q) : Bd (fun n k => bif c then A n k else none) I Q := by
 subst hc; exact h
theorem Bd.ite {c : Bool} {A B : Nat → (σ → Option τ) → Option τ} (h1 : c = true → Bd A I Q) (h2 : c = false → Bd B I Q) : Bd (fun n k => bif c then A n k else B n k) I Q := by
 cases c with
 | true => exact h1 rfl
 | false => exact h2 rfl
theorem Bd.bindChk {c : Bool} {A : Nat → Option α} {G : Nat → (σ → Option τ) → α → Option τ} (hc : c = true) (h : Bd (fun n k => (A n).bind (G n k)) I Q) : Bd (fun n k => (bif c then A n else none).bind (G n k)) I Q := by
 subst hc; exact h
theorem Bd.bindIte {c : Bool} {A B : Nat → Option α} {G : Nat → (σ → Option τ) → α → Option τ} (h1 : c = true → Bd (fun n k => (A n).bind (G n k)) I Q) (h2 : c = false → Bd (fun n k => (B n).bind (G n k)) I Q) : Bd (fun n k => (bif c then A n else B n).bind (G n k)) I Q := by
 cases c with
 | true => exact h1 rfl
 | false => exact h2 rfl
theorem Bd.bindBind {A : Nat → Option α} {B : Nat → α → Option γ} {G : Nat → (σ → Option τ) → γ → Option τ} (h : Bd (fun n k => (A n).bind fun a => (B n a).bind (G n k)) I Q) : Bd (fun n k => ((A n).bind (B n)).bind (G n k)) I Q := by
 rcases h with ⟨s, h1, h2⟩ | ⟨t, h1, h2⟩
 ·exact .inl ⟨s, h1, h2.mono fun n hn k => (Option.bind_assoc ..).trans (hn k)⟩
 ·exact .inr ⟨t, h1, h2.mono fun n hn k => (Option.bind_assoc ..).trans (hn k)⟩
theorem Bd.bindPure {r : α} {G : Nat → (σ → Option τ) → α → Option τ} (h : Bd (fun n k => G n k r) I Q) : Bd (fun n k => (some r).bind (G n k)) I Q := h
end
section
variable {α β σ τ : Type} {I : σ → Prop} {Q : τ → Prop} {P : β → Prop}
theorem Bd.yes {c : Bool} {A B : Nat → (σ → Option τ) → Option τ} (hc : c = true) (h : Bd A I Q) : Bd (fun n k => bif c then A n k else B n k) I Q := by subst hc; exact h
theorem Bd.no {c : Bool} {A B : Nat → (σ → Option τ) → Option τ} (hc : c = false) (h : Bd B I Q) : Bd (fun n k => bif c then A n k else B n k) I Q := by subst hc; exact h
theorem Tt.yes {c : Bool} {A B : Nat → Option β} (hc : c = true) (h : Tt A P) : Tt (fun n => bif c then A n else B n) P := by subst hc; exact h
theorem Tt.no {c : Bool} {A B : Nat → Option β} (hc : c = false) (h : Tt B P) : Tt (fun n => bif c then A n else B n) P := by subst hc; exact h
theorem Bd.nth {l : List α} {i : Nat} {G : Nat → (σ → Option τ) → α → Option τ} (h : i < l.length) (hG : Bd (fun n k => G n k l[i]) I Q) : Bd (fun n k => (nth? l (i : Int)).bind (G n k)) I Q := by
 rw [nth_lt h]; exact hG
theorem Bd.nthI {l : List α} {z : Int} {G : Nat → (σ → Option τ) → α → Option τ} (h0 : 0 ≤ z) (h1 : z < ((l.length : Nat) : Int)) (hG : ∀ e, e ∈ l → l[z.toNat]? = some e → Bd (fun n k => G n k e) I Q) : Bd (fun n k => (nth? l z).bind (G n k)) I Q := by
 rw [nth_int h0 h1]
 exact hG _ (List.getElem_mem _) (List.getElem?_eq_getElem _)
theorem Bd.at {l : List α} {i : Nat} {G : Nat → (σ → Option τ) → α → Option τ} (h : i < l.length) (hG : ∀ e, e ∈ l → l[i]? = some e → Bd (fun n k => G n k e) I Q) : Bd (fun n k => (at? l i).bind (G n k)) I Q := by
 unfold at?
 rw [List.getElem?_eq_getElem h]
 exact hG _ (List.getElem_mem _) (List.getElem?_eq_getElem _)
theorem Tt.nthB {l : List α} {i : Nat} {G : Nat → α → Option β} (h : i < l.length) (hG : Tt (fun n => G n l[i]) P) : Tt (fun n => (nth? l (i : Int)).bind (G n)) P := by
 rw [nth_lt h]; exact hG
theorem Tt.nthI {l : List α} {z : Int} {G : Nat → α → Option β} (h0 : 0 ≤ z) (h1 : z < ((l.length : Nat) : Int)) (hG : ∀ e, e ∈ l → l[z.toNat]? = some e → Tt (fun n => G n e) P) : Tt (fun n => (nth? l z).bind (G n)) P := by
 rw [nth_int h0 h1]
 exact hG _ (List.getElem_mem _) (List.getElem?_eq_getElem _)
theorem Tt.atB {l : List α} {i : Nat} {G : Nat → α → Option β} (h : i < l.length) (hG : ∀ e, e ∈ l → l[i]? = some e → Tt (fun n => G n e) P) : Tt (fun n => (at? l i).bind (G n)) P := by
 unfold at?
 rw [List.getElem?_eq_getElem h]
 exact hG _ (List.getElem_mem _) (List.getElem?_eq_getElem _)
end
theorem Lp.count {σ τ : Type} {L : Nat → σ → (σ → Option τ) → Option τ} {Q : τ → Prop} (len : Nat) (I : Nat → σ → Prop)
 (hs : ∀ i s, i < len → I i s → Bd (fun n k => L n s k) (I (i + 1)) Q) (hf : ∀ s, I len s → Bd (fun n k => L n s k) (fun _ => False) Q) {s : σ} (h : I 0 s) : Lp L s Q := Lp.range len I hs hf s h
theorem Lp.measure {σ τ : Type} {L : Nat → σ → (σ → Option τ) → Option τ} {Q : τ → Prop} (I : σ → Prop) (m : σ → Nat)
 (hs : ∀ s, I s → Bd (fun n k => L n s k) (fun s' => I s' ∧ m s' < m s) Q) {s : σ} (h : I s) : Lp L s Q := by
 have key : ∀ d s, m s < d → I s → Lp L s Q := by
  intro d
  induction d with
  | zero => intro s hm; omega
  | succ d ih => intro s hm h; exact Lp.of_st (hs s h) fun s' h' => ih s' (by omega) h'.1
 exact key (m s + 1) s (by omega) h
theorem dec_true {p : Prop} [Decidable p] (h : p) : decide p = true := decide_eq_true h
theorem dec_of {p : Prop} [Decidable p] (h : decide p = true) : p := of_decide_eq_true h
theorem dec_not {p : Prop} [Decidable p] (h : decide p = false) : ¬ p := of_decide_eq_false h
theorem rng {i m : Int} (h0 : 0 ≤ i) (h1 : i < m) : (decide (0 ≤ i) && decide (i < m)) = true := by simp [h0, h1]
theorem mk_rng {i : Int} (h0 : 0 ≤ i) (h1 : i ≤ 1099511627776) : (decide (0 ≤ i) && decide (i ≤ i) && decide (i ≤ ((maxRows : Nat) : Int))) = true := by
 have : maxRows = 1099511627776 := by decide
 simp [h0]; omega
theorem wrap_next {i : Nat} (h : i < 1099511627776) : IntKind.wrap .i64 ((i : Int) + 1) = ((i + 1 : Nat) : Int) := by
 rw [wrap_id _ (by omega) (by omega)]; omega
theorem maxRows_val : maxRows = 1099511627776 := by decide
theorem lenOk {n : Nat} (h : n ≤ 1099511627776) : decide (n ≤ maxRows) = true := by
 rw [maxRows_val]; exact decide_eq_true h
end Go.Bk
end
noncomputable section
namespace Go.Bk
open Go Go.AM
set_option linter.unusedVariables false
abbrev Rule := Int × List Int × Int
abbrev Aut := Int × List Int × List Rule
theorem few_L1 (a b : Int) (c : List Int) (d : List Aut) (e f : Int) (rs : List Rule) (hr : rs.length ≤ maxRows) :
 Lp (fun _ => ref03_Few.L1) (a, b, c, d, e, f, rs, ((rs.length : Nat) : Int), (0 : Int)) (fun t => (t = .inl (a, b, c, d, e, f) ∧ ∀ r ∈ rs, r.2.1.length ≤ 10) ∨ t = .inr (.inr false)) := by
 refine Lp.range rs.length (fun i s => s = (a, b, c, d, e, f, rs, ((rs.length : Nat) : Int), (i : Int)) ∧ ∀ j (h : j < rs.length), j < i → rs[j].2.1.length ≤ 10) ?_ ?_ _ ⟨rfl, by intro j h h0; omega⟩
 ·rintro i s hi ⟨rfl, hI⟩
  by_cases h : (10 : Int) < ((rs[i].2.1.length : Nat) : Int)
  ·exact .inr ⟨_, .inr rfl, .all fun n k => by simp only [decide_true, cond_true, Option.bind_some, ref03_Few.L1, lt_yes hi, nth_lt hi, h]⟩
  ·refine .inl ⟨_, ⟨rfl, fun j hj h2 => ?_⟩, .all fun n k => by simp only [decide_true, decide_false, cond_true, cond_false, Option.bind_some, ref03_Few.L1, lt_yes hi, nth_lt hi, h, wrap_succ hi hr]⟩
   rcases Nat.lt_or_eq_of_le (Nat.le_of_lt_succ h2) with h3 | rfl
   ·exact hI j hj h3
   ·omega
 ·rintro s ⟨rfl, hI⟩
  refine .inr ⟨_, .inl ⟨rfl, fun r hr' => ?_⟩, .all fun n k => by simp only [decide_false, cond_false, Option.bind_some, lt_no, ref03_Few.L1]⟩
  obtain ⟨j, hj, rfl⟩ := List.getElem_of_mem hr'
  exact hI j hj hj
theorem few_L2 (al : List Int) (bs : List Aut) (hb : bs.length ≤ maxRows) (hr : ∀ b ∈ bs, b.2.2.length ≤ maxRows) :
 Lp (ref03_Few.L2) ((6 : Int), (30 : Int), al, bs, ((bs.length : Nat) : Int), (0 : Int)) (fun t => (t = .inl al ∧ ∀ b ∈ bs, b.2.1.length ≤ 30 ∧ b.2.2.length ≤ 30 ∧ (b.1 ≤ 6 ∨ 300 < b.1) ∧ ∀ r ∈ b.2.2, r.2.1.length ≤ 10) ∨ t = .inr false) := by
 refine Lp.range bs.length (fun i s => s = ((6 : Int), (30 : Int), al, bs, ((bs.length : Nat) : Int), (i : Int)) ∧ ∀ j (h : j < bs.length), j < i → (bs[j].2.1.length ≤ 30 ∧ bs[j].2.2.length ≤ 30 ∧ (bs[j].1 ≤ 6 ∨ 300 < bs[j].1) ∧ ∀ r ∈ bs[j].2.2, r.2.1.length ≤ 10)) ?_ ?_ _ ⟨rfl, by intro j h h0; omega⟩
 ·rintro i s hi ⟨rfl, hI⟩
  by_cases h1 : (30 : Int) < ((bs[i].2.1.length : Nat) : Int)
  ·exact .inr ⟨_, .inr rfl, .all fun n k => by simp only [decide_true, cond_true, Option.bind_some, ref03_Few.L2, lt_yes hi, nth_lt hi, h1]⟩
  by_cases h2 : (30 : Int) < ((bs[i].2.2.length : Nat) : Int)
  ·exact .inr ⟨_, .inr rfl, .all fun n k => by simp only [decide_true, decide_false, cond_true, cond_false, Option.bind_some, ref03_Few.L2, lt_yes hi, nth_lt hi, h1, h2]⟩
  by_cases h3 : (6 : Int) < bs[i].1 ∧ bs[i].1 ≤ 300
  ·exact .inr ⟨_, .inr rfl, .all fun n k => by simp only [decide_true, decide_false, cond_true, cond_false, Option.bind_some, ref03_Few.L2, lt_yes hi, nth_lt hi, h1, h2, h3.1, h3.2]⟩
  have hx : ∀ n k, ref03_Few.L2 n ((6 : Int), (30 : Int), al, bs, ((bs.length : Nat) : Int), (i : Int)) k = ((loopN (ref03_Few.L1) n ((6 : Int), (30 : Int), al, bs, ((bs.length : Nat) : Int), (i : Int), bs[i].2.2, ((List.length bs[i].2.2 : Nat) : Int), (0 : Int))).bind fun q => match q with
   | Sum.inl x8 => (k (x8.1, x8.2.1, x8.2.2.1, x8.2.2.2.1, x8.2.2.2.2.1, IntKind.wrap .i64 (x8.2.2.2.2.2 + (1 : Int))))
   | Sum.inr r => some r) := by
   intro n k
   by_cases h4 : (6 : Int) < bs[i].1
   ·have h5 : ¬ bs[i].1 ≤ 300 := fun h => h3 ⟨h4, h⟩
    simp only [decide_true, decide_false, cond_true, cond_false, Option.bind_some, ref03_Few.L2, lt_yes hi, nth_lt hi, h1, h2, h4, h5] <;> rfl
   ·simp only [decide_true, decide_false, cond_true, cond_false, Option.bind_some, ref03_Few.L2, lt_yes hi, nth_lt hi, h1, h2, h4] <;> rfl
  obtain ⟨t, ht, he⟩ := (few_L1 6 30 al bs ((bs.length : Nat) : Int) (i : Int) bs[i].2.2 (hr _ (List.getElem_mem hi))).ev
  rcases ht with ⟨rfl, ht⟩ | rfl
  ·refine .inl ⟨_, ⟨rfl, fun j hj h2' => ?_⟩, he.mono fun n hn k => by rw [hx, hn]; simp only [Option.bind_some, wrap_succ hi hb]⟩
   rcases Nat.lt_or_eq_of_le (Nat.le_of_lt_succ h2') with h3' | rfl
   ·exact hI j hj h3'
   ·exact ⟨by omega, by omega, by omega, ht⟩
  ·exact .inr ⟨_, .inr rfl, he.mono fun n hn k => by rw [hx, hn]; simp only [Option.bind_some]⟩
 ·rintro s ⟨rfl, hI⟩
  refine .inr ⟨_, .inl ⟨rfl, fun r hr' => ?_⟩, .all fun n k => by simp only [decide_false, cond_false, Option.bind_some, lt_no, ref03_Few.L2]⟩
  obtain ⟨j, hj, rfl⟩ := List.getElem_of_mem hr'
  exact hI j hj hj
def FewOk (al : List Int) (b : Aut) : Prop := al.length ≤ 40 ∧ b.2.1.length ≤ 30 ∧ b.2.2.length ≤ 30 ∧ (b.1 ≤ 6 ∨ 300 < b.1) ∧ ∀ r ∈ b.2.2, r.2.1.length ≤ 10
theorem sp_ref03_Few (al : List Int) (bs : List Aut) (hb : bs.length ≤ maxRows) (hr : ∀ b ∈ bs, b.2.2.length ≤ maxRows) :
 Sp ref03_Few.P (al, (6 : Int), (30 : Int), bs) (fun r => r = true → ∀ b ∈ bs, FewOk al b) := by
 obtain ⟨t, ht, he⟩ := (few_L2 al bs hb hr).ev
 rcases ht with ⟨rfl, ht⟩ | rfl
 ·refine ⟨_, fun h b hb => ⟨?_, ht b hb⟩, he.mono fun n hn => by simp only [ref03_Few.P, hn, Option.bind_some]; rfl⟩
  have := of_decide_eq_true h
  omega
 ·exact ⟨false, fun h => (by cases h), he.mono fun n hn => by simp only [ref03_Few.P, hn, Option.bind_some]⟩
end Go.Bk
end
noncomputable section
namespace Go.Bk
open Go Go.AM
set_option linter.unusedVariables false
theorem rt_ind {P : RT Int → Prop} (h : ∀ a ks, (∀ k ∈ ks, P k) → P (.mk a ks)) (t : RT Int) : P t := by
 match t with
 | .mk a ks => exact h a ks (fun k hk => rt_ind h k)
termination_by SizeOf.sizeOf t
decreasing_by
 have := List.sizeOf_lt_of_mem hk
 simp only [RT.mk.sizeOf_spec]
 omega
mutual
def nds : RT Int → Nat
 | .mk _ ks => ndss ks + 1
def ndss : List (RT Int) → Nat
 | [] => 0
 | k :: ks => nds k + ndss ks
end
theorem nds_pos : ∀ t, 1 ≤ nds t
 | .mk _ ks => by simp only [nds]; omega
theorem ndss_mem {k : RT Int} : ∀ {ks : List (RT Int)}, k ∈ ks → nds k ≤ ndss ks
 | a :: ks, h => by
   simp only [ndss]
   rcases List.mem_cons.mp h with rfl | h
   ·omega
   ·have := ndss_mem h; omega
theorem ndss_len : ∀ ks : List (RT Int), ks.length ≤ ndss ks
 | [] => by simp [ndss]
 | k :: ks => by
   have := ndss_len ks
   have := nds_pos k
   simp only [ndss, List.length_cons]; omega
theorem maxRows_eq : maxRows = 1099511627776 := by decide
theorem sp_count {F : Nat → Int × List (RT Int) × Int → Option Int} (hF : ∀ n x, F (n + 1) x = ref01_count.P (F n) n x) (t : RT Int) :
 nds t ≤ maxRows → ∀ m : Int, 0 ≤ m → m ≤ 1000 → Sp F (t.a, t.kids, m) (fun r => 1 ≤ r ∧ r ≤ m + 1) := by
 induction t using rt_ind with
 | h a ks ih =>
 intro hn m h0 h1
 have hk : ks.length ≤ maxRows := by have := ndss_len ks; simp only [nds] at hn; omega
 have hl : Lp (fun n => ref01_count.L1 (F n)) (m, (1 : Int), ks, ((ks.length : Nat) : Int), (0 : Int)) (fun r => 1 ≤ r ∧ r ≤ m + 1) := by
  refine Lp.range ks.length (fun i s => ∃ c : Int, 1 ≤ c ∧ c ≤ m + 1 ∧ s = (m, c, ks, ((ks.length : Nat) : Int), (i : Int))) ?_ ?_ _ ⟨1, by omega, by omega, rfl⟩
  ·rintro i s hi ⟨c, hc, hc', rfl⟩
   by_cases h : c ≤ m
   ·obtain ⟨r, ⟨hr, hr'⟩, he⟩ := ih ks[i] (List.getElem_mem hi) (by have := ndss_mem (List.getElem_mem hi); simp only [nds] at hn; omega) (m - c) (by omega) (by omega)
    refine .inl ⟨_, ⟨c + r, by omega, by omega, rfl⟩, he.mono fun n hn k => ?_⟩
    simp only [decide_true, cond_true, Option.bind_some, ref01_count.L1, lt_yes hi, nth_lt hi, h, wrap_id (m - c) (by omega) (by omega), hn, wrap_id (c + r) (by omega) (by omega), wrap_succ hi hk]
   ·refine .inl ⟨_, ⟨c, hc, hc', rfl⟩, .all fun n k => ?_⟩
    simp only [decide_true, decide_false, cond_true, cond_false, Option.bind_some, ref01_count.L1, lt_yes hi, nth_lt hi, h, wrap_succ hi hk]
  ·rintro s ⟨c, hc, hc', rfl⟩
   exact .inr ⟨_, ⟨hc, hc'⟩, .all fun n k => by simp only [decide_false, cond_false, lt_no, ref01_count.L1]⟩
 obtain ⟨r, hr, he⟩ := hl.ev
 exact Sp.step (F := F) (G := fun n => ref01_count.P (F n) n) hF ⟨r, hr, he.mono fun n hn => by simp only [ref01_count.P, RT.kids, hn, Option.bind_some]⟩
theorem sp_ref01_Few {F : Nat → Int × List (RT Int) × Int → Option Int} {s : Int} {ks : List (RT Int)} {m : Int} {Q : Int → Prop} (h : Sp F (s, ks, m) Q) :
 Sp (fun n => ref01_Few.P (F n) n) (s, ks, m) (fun _ => True) := by
 obtain ⟨r, hr, he⟩ := h
 exact ⟨_, trivial, he.mono fun n hn => by simp only [ref01_Few.P, hn, Option.bind_some]; rfl⟩
theorem sp_law05_few {F : Nat → Int × List (RT Int) × Int → Option Bool} {G : Nat → List Int × Int × Int × List Aut → Option Bool} {al : List Int} {s : Int} {ks : List (RT Int)} {bs : List Aut} {R : Bool → Prop}
 (h1 : Sp F (s, ks, (400 : Int)) R) (h2 : Sp G (al, (6 : Int), (30 : Int), bs) (fun r => r = true → ∀ b ∈ bs, FewOk al b)) :
 Sp (fun n => law05_few.P (F n) (G n) n) (al, s, ks, bs) (fun r => r = true → ∀ b ∈ bs, FewOk al b) := by
 obtain ⟨r1, hr1, he1⟩ := h1
 obtain ⟨r2, hr2, he2⟩ := h2
 cases r2
 ·exact ⟨false, fun h => (by cases h), he2.mono fun n hn => by simp only [law05_few.P, hn, Option.bind_some, cond_false]⟩
 ·exact ⟨r1, fun _ => hr2 rfl, (he1.and he2).mono fun n hn => by simp only [law05_few.P, hn.1, hn.2, Option.bind_some, cond_true]⟩
def LetOk (x : Int) : Prop := 0 ≤ x ∧ x ≤ 3
def AlOk (al : List Int) : Prop := al.length ≤ 12 ∧ ∀ i (h : i < al.length), LetOk al[i]
theorem sp_tree_ValidAlphabet_1 (x : Int) : Sp (fun n => tree_ValidAlphabet_1.P n) x (fun r => r = true ↔ ¬ LetOk x) := by
 by_cases h : x < 0
 ·exact ⟨true, by simp only [LetOk]; simp; omega, .all fun n => by simp only [decide_true, cond_true, Option.bind_some, tree_ValidAlphabet_1.P, h]⟩
 ·by_cases h' : 3 < x
  ·exact ⟨true, by simp only [LetOk]; simp; omega, .all fun n => by simp only [decide_true, decide_false, cond_false, Option.bind_some, tree_ValidAlphabet_1.P, h, h']⟩
  ·exact ⟨false, by simp only [LetOk]; simp; omega, .all fun n => by simp only [decide_false, cond_false, Option.bind_some, tree_ValidAlphabet_1.P, h, h']⟩
theorem sp_IndexFunc {F : Nat → Int → Option Bool} (hF : ∀ x, Sp F x (fun r => r = true ↔ ¬ LetOk x)) (al : List Int) (hl : al.length ≤ maxRows) :
 Sp (fun n => slices_IndexFuncY.P (F n) n) al (fun r => 0 ≤ r ↔ ∃ i, ∃ h : i < al.length, ¬ LetOk al[i]) := by
 have := Lp.search (L := fun n => slices_IndexFuncY.L1 (F n)) al.length (fun i => (al, ((al.length : Nat) : Int), (i : Int))) (fun i => ∀ h : i < al.length, LetOk al[i]) (fun i => .inr (i : Int)) (.inl ()) ?_ ?_
 ·obtain ⟨t, ht, he⟩ := this.ev
  rcases ht with ⟨rfl, ht⟩ | ⟨i, hi, hn, rfl⟩
  ·refine ⟨-1, ⟨fun h => absurd h (by omega), ?_⟩, he.mono fun n hn => ?_⟩
   ·rintro ⟨i, hi, h⟩; exact absurd (ht i hi hi) h
   ·show (loopN _ n (al, ((al.length : Nat) : Int), (((0 : Nat) : Nat) : Int))).bind _ = _
    rw [hn]; rfl
  ·refine ⟨(i : Int), ⟨fun _ => ⟨i, hi, fun h => hn fun _ => h⟩, fun _ => by omega⟩, he.mono fun n hn => ?_⟩
   show (loopN _ n (al, ((al.length : Nat) : Int), (((0 : Nat) : Nat) : Int))).bind _ = _
   rw [hn]; rfl
 ·intro i hi
  obtain ⟨r, hr, he⟩ := hF al[i]
  cases r
  ·exact .inl ⟨fun _ => Classical.byContradiction fun h => (by have := hr.mpr h; cases this), he.mono fun n hn k => by simp only [decide_true, cond_true, cond_false, Option.bind_some, slices_IndexFuncY.L1, lt_yes hi, nth_lt hi, hn, wrap_succ hi hl]⟩
  ·exact .inr ⟨fun h => hr.mp rfl (h hi), he.mono fun n hn k => by simp only [decide_true, cond_true, Option.bind_some, slices_IndexFuncY.L1, lt_yes hi, nth_lt hi, hn]⟩
 ·exact .all fun n k => by simp only [decide_false, cond_false, Option.bind_some, lt_no, slices_IndexFuncY.L1]
theorem sp_ContainsFunc {F : Nat → List Int → Option Int} {al : List Int} {P : Prop} (h : Sp F al (fun r => 0 ≤ r ↔ P)) :
 Sp (fun n => slices_ContainsFuncY.P (F n) n) al (fun r => r = true ↔ P) := by
 obtain ⟨r, hr, he⟩ := h
 exact ⟨decide (0 ≤ r), decide_eq_true_iff.trans hr, he.mono fun n hn => by simp only [slices_ContainsFuncY.P, hn, Option.bind_some]⟩
theorem sp_tree_ValidAlphabet {F : Nat → List Int → Option Bool} {al : List Int} (h : Sp F al (fun r => r = true ↔ ∃ i, ∃ h : i < al.length, ¬ LetOk al[i])) :
 Sp (fun n => tree_ValidAlphabet.P (F n) n) al (fun r => r = true ↔ AlOk al) := by
 obtain ⟨r, hr, he⟩ := h
 by_cases hl : ((al.length : Nat) : Int) ≤ 12
 ·refine ⟨!r, ?_, he.mono fun n hn => by simp only [decide_true, cond_true, Option.bind_some, tree_ValidAlphabet.P, hl, hn]⟩
  cases r
  ·simp only [Bool.not_false, true_iff]
   refine ⟨by omega, fun i hi => Classical.byContradiction fun h => ?_⟩
   have := hr.mpr ⟨i, hi, h⟩; cases this
  ·simp only [Bool.not_true]
   refine ⟨fun h => (by cases h), fun h => ?_⟩
   obtain ⟨i, hi, h'⟩ := hr.mp rfl
   exact absurd (h.2 i hi) h'
 ·exact ⟨false, ⟨fun h => (by cases h), fun h => absurd h.1 (by omega)⟩, .all fun n => by simp only [decide_false, cond_false, Option.bind_some, tree_ValidAlphabet.P, hl]⟩
theorem sp_ref01_ValidAlphabet (al : List Int) : Sp ref01_ValidAlphabet.P al (fun r => r = true ↔ AlOk al) := by
 by_cases hl : (12 : Int) < ((al.length : Nat) : Int)
 ·exact ⟨false, ⟨fun h => (by cases h), fun h => absurd h.1 (by omega)⟩, .all fun n => by simp only [decide_true, cond_true, ref01_ValidAlphabet.P, hl]⟩
 have hb : al.length ≤ maxRows := by have := maxRows_eq; omega
 have := Lp.search (L := fun _ => ref01_ValidAlphabet.L1) al.length (fun i => (al, ((al.length : Nat) : Int), (i : Int))) (fun i => ∀ h : i < al.length, LetOk al[i]) (fun i => .inr false) (.inl ()) ?_ ?_
 ·obtain ⟨t, ht, he⟩ := this.ev
  rcases ht with ⟨rfl, ht⟩ | ⟨i, hi, hn, rfl⟩
  ·refine ⟨true, ⟨fun _ => ⟨by omega, fun i hi => ht i hi hi⟩, fun _ => rfl⟩, he.mono fun n hn => ?_⟩
   simp only [decide_false, cond_false, ref01_ValidAlphabet.P, hl]
   exact congrArg (Option.bind · _) hn
  ·refine ⟨false, ⟨fun h => (by cases h), fun h => absurd (fun _ => h.2 i hi) hn⟩, he.mono fun n hn => ?_⟩
   simp only [decide_false, cond_false, ref01_ValidAlphabet.P, hl]
   exact congrArg (Option.bind · _) hn
 ·intro i hi
  by_cases h1 : al[i] < 0
  ·exact .inr ⟨fun h => absurd (h hi).1 (by omega), .all fun n k => by simp only [decide_true, cond_true, Option.bind_some, ref01_ValidAlphabet.L1, lt_yes hi, nth_lt hi, h1]⟩
  by_cases h2 : 3 < al[i]
  ·exact .inr ⟨fun h => absurd (h hi).2 (by omega), .all fun n k => by simp only [decide_true, decide_false, cond_true, cond_false, Option.bind_some, ref01_ValidAlphabet.L1, lt_yes hi, nth_lt hi, h1, h2]⟩
  ·exact .inl ⟨fun _ => ⟨by omega, by omega⟩, .all fun n k => by simp only [decide_true, decide_false, cond_true, cond_false, Option.bind_some, ref01_ValidAlphabet.L1, lt_yes hi, nth_lt hi, h1, h2, wrap_succ hi hb]⟩
 ·exact .all fun n k => by simp only [decide_false, cond_false, Option.bind_some, lt_no, ref01_ValidAlphabet.L1]
end Go.Bk
end
noncomputable section
namespace Go.Bk
open Go Go.AM
set_option linter.unusedVariables false
def StOk (S f : Int) : Prop := 0 ≤ f ∧ f < S
def FinAt (S : Int) (l : List Int) (i : Nat) : Prop := ∀ h : i < l.length, StOk S l[i] ∧ (0 < i → l[i - 1] < l[i])
def FromAt (S : Int) (l : List Int) (i : Nat) : Prop := ∀ h : i < l.length, StOk S l[i]
def RuleOk (al : List Int) (S : Int) (r : Rule) : Prop := 0 ≤ r.1 ∧ r.1 < ((al.length : Nat) : Int) ∧ (∀ h : r.1.toNat < al.length, ((r.2.1.length : Nat) : Int) = al[r.1.toNat]) ∧ StOk S r.2.2 ∧ ∀ i, i < r.2.1.length → FromAt S r.2.1 i
def RuleAt (al : List Int) (S : Int) (l : List Rule) (i : Nat) : Prop := ∀ h : i < l.length, RuleOk al S l[i]
def ValidA (al : List Int) (a : Aut) : Prop := AlOk al ∧ 0 ≤ a.1 ∧ a.1 ≤ 300 ∧ a.2.2.length ≤ 20000 ∧ (∀ i, i < a.2.1.length → FinAt a.1 a.2.1 i) ∧ ∀ i, i < a.2.2.length → RuleAt al a.1 a.2.2 i
theorem sp_auto_Valid_1 (x S : Int) (f : List Int) (rs : List Rule) : Sp (fun n => auto_Valid_1.P n) (x, S, f, rs) (fun r => r = true ↔ StOk S x) := by
 by_cases h : 0 ≤ x
 ·exact ⟨decide (x < S), decide_eq_true_iff.trans ⟨fun h' => ⟨h, h'⟩, fun h' => h'.2⟩, .all fun n => by simp only [decide_true, cond_true, Option.bind_some, auto_Valid_1.P, h]⟩
 ·exact ⟨false, ⟨fun h => (by cases h), fun h' => absurd h'.1 h⟩, .all fun n => by simp only [decide_false, cond_false, Option.bind_some, auto_Valid_1.P, h]⟩
section
variable {F : Nat → Int × Int × List Int × List Rule → Option Bool} (hF : ∀ x S f rs, Sp F (x, S, f, rs) (fun r => r = true ↔ StOk S x))
include hF
theorem auto_Valid_L1 (al : List Int) (S : Int) (fin : List Int) (rs : List Rule) (hl : fin.length ≤ maxRows) :
 Lp (fun n => auto_Valid.L1 (F n)) (al, S, fin, rs, fin, ((fin.length : Nat) : Int), (0 : Int)) (fun t => (t = .inl (al, S, fin, rs) ∧ ∀ i, i < fin.length → FinAt S fin i) ∨ ∃ i, i < fin.length ∧ ¬ FinAt S fin i ∧ t = .inr false) := by
 refine Lp.search fin.length (fun i => (al, S, fin, rs, fin, ((fin.length : Nat) : Int), (i : Int))) (FinAt S fin) (fun _ => Sum.inr false) (Sum.inl (al, S, fin, rs)) ?_ ?_
 ·intro i hi
  obtain ⟨r, hr, he⟩ := hF fin[i] S fin rs
  cases r
  ·exact .inr ⟨fun h => (by have := hr.mpr (h hi).1; cases this), he.mono fun n hn k => by simp only [decide_true, cond_true, Option.bind_some, Bool.not_false, auto_Valid.L1, lt_yes hi, nth_lt hi, hn]⟩
  ·have hs := hr.mp rfl
   by_cases h0 : 0 < i
   ·have h0' : (0 : Int) < (i : Int) := by omega
    have hp : i - 1 < fin.length := by omega
    by_cases h1 : fin[i] ≤ fin[i - 1]
    ·exact .inr ⟨fun h => by have := (h hi).2 h0; omega, he.mono fun n hn k => by simp only [decide_true, cond_true, cond_false, Option.bind_some, Bool.not_true, auto_Valid.L1, lt_yes hi, nth_lt hi, hn, h0', wrap_pred hi hl h0, nth_lt hp, h1]⟩
    ·exact .inl ⟨fun _ => ⟨hs, fun _ => by omega⟩, he.mono fun n hn k => by simp only [decide_true, decide_false, cond_true, cond_false, Option.bind_some, Bool.not_true, auto_Valid.L1, lt_yes hi, nth_lt hi, hn, h0', wrap_pred hi hl h0, nth_lt hp, h1, wrap_succ hi hl]⟩
   ·have h0' : ¬ (0 : Int) < (i : Int) := by omega
    exact .inl ⟨fun _ => ⟨hs, fun h => absurd h h0⟩, he.mono fun n hn k => by simp only [decide_true, decide_false, cond_true, cond_false, Option.bind_some, Bool.not_true, auto_Valid.L1, lt_yes hi, nth_lt hi, hn, h0', wrap_succ hi hl]⟩
 ·exact .all fun n k => by simp only [decide_false, cond_false, Option.bind_some, lt_no, auto_Valid.L1]
theorem auto_Valid_L2 (al : List Int) (S : Int) (fin : List Int) (rs rs' : List Rule) (a b : Int) (l : List Int) (hl : l.length ≤ maxRows) :
 Lp (fun n => auto_Valid.L2 (F n)) (al, S, fin, rs, rs', a, b, l, ((l.length : Nat) : Int), (0 : Int)) (fun t => (t = .inl (al, S, fin, rs, rs', a, b) ∧ ∀ i, i < l.length → FromAt S l i) ∨ ∃ i, i < l.length ∧ ¬ FromAt S l i ∧ t = .inr (.inr false)) := by
 refine Lp.search l.length (fun i => (al, S, fin, rs, rs', a, b, l, ((l.length : Nat) : Int), (i : Int))) (FromAt S l) (fun _ => Sum.inr (Sum.inr false)) (Sum.inl (al, S, fin, rs, rs', a, b)) ?_ ?_
 ·intro i hi
  obtain ⟨r, hr, he⟩ := hF l[i] S fin rs
  cases r
  ·exact .inr ⟨fun h => (by have := hr.mpr (h hi); cases this), he.mono fun n hn k => by simp only [decide_true, cond_true, Option.bind_some, Bool.not_false, auto_Valid.L2, lt_yes hi, nth_lt hi, hn]⟩
  ·exact .inl ⟨fun _ => hr.mp rfl, he.mono fun n hn k => by simp only [decide_true, cond_true, cond_false, Option.bind_some, Bool.not_true, auto_Valid.L2, lt_yes hi, nth_lt hi, hn, wrap_succ hi hl]⟩
 ·exact .all fun n k => by simp only [decide_false, cond_false, Option.bind_some, lt_no, auto_Valid.L2]
theorem auto_Valid_L3 (al : List Int) (S : Int) (fin : List Int) (rs : List Rule) (hl : rs.length ≤ maxRows) (hr : ∀ r ∈ rs, r.2.1.length ≤ maxRows) :
 Lp (fun n => auto_Valid.L3 (F n) n) (al, S, fin, rs, rs, ((rs.length : Nat) : Int), (0 : Int)) (fun t => (t = .inl () ∧ ∀ i, i < rs.length → RuleAt al S rs i) ∨ ∃ i, i < rs.length ∧ ¬ RuleAt al S rs i ∧ t = .inr false) := by
 refine Lp.search rs.length (fun i => (al, S, fin, rs, rs, ((rs.length : Nat) : Int), (i : Int))) (RuleAt al S rs) (fun _ => Sum.inr false) (Sum.inl ()) ?_ ?_
 ·intro i hi
  by_cases h1 : rs[i].1 < 0
  ·exact .inr ⟨fun h => absurd (h hi).1 (by omega), .all fun n k => by simp only [decide_true, cond_true, Option.bind_some, auto_Valid.L3, lt_yes hi, nth_lt hi, h1]⟩
  by_cases h2 : ((al.length : Nat) : Int) ≤ rs[i].1
  ·exact .inr ⟨fun h => absurd (h hi).2.1 (by omega), .all fun n k => by simp only [decide_true, decide_false, cond_true, cond_false, Option.bind_some, auto_Valid.L3, lt_yes hi, nth_lt hi, h1, h2]⟩
  have hx := nth_int (l := al) (z := rs[i].1) (by omega) (by omega)
  by_cases h3 : ((rs[i].2.1.length : Nat) : Int) = al[rs[i].1.toNat]'(by omega)
  ·obtain ⟨r, hr1, he⟩ := hF rs[i].2.2 S fin rs
   cases r
   ·exact .inr ⟨fun h => (by have := hr1.mpr (h hi).2.2.2.1; cases this), he.mono fun n hn k => by simp only [decide_true, decide_false, cond_true, cond_false, Option.bind_some, Bool.not_true, Bool.not_false, auto_Valid.L3, lt_yes hi, nth_lt hi, h1, h2, hx, h3, hn]⟩
   ·obtain ⟨t, ht, he2⟩ := (auto_Valid_L2 hF al S fin rs rs ((rs.length : Nat) : Int) (i : Int) rs[i].2.1 (hr _ (List.getElem_mem hi))).ev
    rcases ht with ⟨rfl, ht⟩ | ⟨j, hj, hn, rfl⟩
    ·exact .inl ⟨fun _ => ⟨by omega, by omega, fun _ => h3, hr1.mp rfl, ht⟩, (he.and he2).mono fun n hn k => by rw [h3] at hn; simp only [decide_true, decide_false, cond_true, cond_false, Option.bind_some, Bool.not_true, auto_Valid.L3, lt_yes hi, nth_lt hi, h1, h2, hx, h3, hn.1, hn.2, wrap_succ hi hl]⟩
    ·exact .inr ⟨fun h => hn ((h hi).2.2.2.2 j hj), (he.and he2).mono fun n hn k => by rw [h3] at hn; simp only [decide_true, decide_false, cond_true, cond_false, Option.bind_some, Bool.not_true, auto_Valid.L3, lt_yes hi, nth_lt hi, h1, h2, hx, h3, hn.1, hn.2]⟩
  ·exact .inr ⟨fun h => h3 ((h hi).2.2.1 (by omega)), .all fun n k => by simp only [decide_true, decide_false, cond_true, cond_false, Option.bind_some, Bool.not_false, auto_Valid.L3, lt_yes hi, nth_lt hi, h1, h2, hx, h3]⟩
 ·exact .all fun n k => by simp only [decide_false, cond_false, Option.bind_some, lt_no, auto_Valid.L3]
theorem sp_auto_Valid {G : Nat → List Int → Option Bool} (hG : ∀ al, al.length ≤ maxRows → Sp G al (fun r => r = true ↔ AlOk al)) (al : List Int) (S : Int) (fin : List Int) (rs : List Rule) (h0 : al.length ≤ maxRows) (h1 : fin.length ≤ maxRows) (h2 : rs.length ≤ maxRows) (h3 : ∀ r ∈ rs, r.2.1.length ≤ maxRows) :
 Sp (fun n => auto_Valid.P (F n) (G n) n) (al, S, fin, rs) (fun r => r = true ↔ ValidA al (S, fin, rs)) := by
 obtain ⟨r, hr, he⟩ := hG al h0
 cases r
 ·exact ⟨false, ⟨fun h => (by cases h), fun h => hr.mpr h.1⟩, he.mono fun n hn => by simp only [cond_true, Option.bind_some, Bool.not_false, auto_Valid.P, hn]⟩
 have hal := hr.mp rfl
 by_cases h4 : S < 0
 ·exact ⟨false, ⟨fun h => (by cases h), fun h => absurd h.2.1 (by simp only; omega)⟩, he.mono fun n hn => by simp only [decide_true, cond_true, cond_false, Option.bind_some, Bool.not_true, auto_Valid.P, hn, h4]⟩
 by_cases h5 : 300 < S
 ·exact ⟨false, ⟨fun h => (by cases h), fun h => absurd h.2.2.1 (by simp only; omega)⟩, he.mono fun n hn => by simp only [decide_true, decide_false, cond_true, cond_false, Option.bind_some, Bool.not_true, auto_Valid.P, hn, h4, h5]⟩
 by_cases h6 : 20000 < ((rs.length : Nat) : Int)
 ·exact ⟨false, ⟨fun h => (by cases h), fun h => absurd h.2.2.2.1 (by simp only; omega)⟩, he.mono fun n hn => by simp only [decide_true, decide_false, cond_true, cond_false, Option.bind_some, Bool.not_true, auto_Valid.P, hn, h4, h5, h6]⟩
 obtain ⟨t1, ht1, he1⟩ := (auto_Valid_L1 hF al S fin rs h1).ev
 rcases ht1 with ⟨rfl, ht1⟩ | ⟨i, hi, hno, rfl⟩
 ·obtain ⟨t2, ht2, he2⟩ := (auto_Valid_L3 hF al S fin rs h2 h3).ev
  rcases ht2 with ⟨rfl, ht2⟩ | ⟨i, hi, hno, rfl⟩
  ·exact ⟨true, ⟨fun _ => ⟨hal, by simp only; omega, by simp only; omega, by simp only; omega, ht1, ht2⟩, fun _ => rfl⟩, (he.and (he1.and he2)).mono fun n hn => by simp only [decide_false, cond_false, Option.bind_some, Bool.not_true, auto_Valid.P, hn.1, h4, h5, h6, hn.2.1, hn.2.2]⟩
  ·exact ⟨false, ⟨fun h => (by cases h), fun h => absurd (h.2.2.2.2.2 i hi) hno⟩, (he.and (he1.and he2)).mono fun n hn => by simp only [decide_false, cond_false, Option.bind_some, Bool.not_true, auto_Valid.P, hn.1, h4, h5, h6, hn.2.1, hn.2.2]⟩
 ·exact ⟨false, ⟨fun h => (by cases h), fun h => absurd (h.2.2.2.2.1 i hi) hno⟩, (he.and he1).mono fun n hn => by simp only [decide_false, cond_false, Option.bind_some, Bool.not_true, auto_Valid.P, hn.1, h4, h5, h6, hn.2]⟩
end
theorem ref03_Valid_L1 (al : List Int) (S : Int) (fin : List Int) (rs : List Rule) (hl : fin.length ≤ maxRows) :
 Lp (fun _ => ref03_Valid.L1) (al, S, fin, rs, fin, ((fin.length : Nat) : Int), (0 : Int)) (fun t => (t = .inl (al, S, fin, rs) ∧ ∀ i, i < fin.length → FinAt S fin i) ∨ ∃ i, i < fin.length ∧ ¬ FinAt S fin i ∧ t = .inr false) := by
 refine Lp.search fin.length (fun i => (al, S, fin, rs, fin, ((fin.length : Nat) : Int), (i : Int))) (FinAt S fin) (fun _ => Sum.inr false) (Sum.inl (al, S, fin, rs)) ?_ ?_
 ·intro i hi
  by_cases h1 : fin[i] < 0
  ·exact .inr ⟨fun h => absurd (h hi).1.1 (by omega), .all fun n k => by simp only [decide_true, cond_true, Option.bind_some, ref03_Valid.L1, lt_yes hi, nth_lt hi, h1]⟩
  by_cases h2 : S ≤ fin[i]
  ·exact .inr ⟨fun h => absurd (h hi).1.2 (by omega), .all fun n k => by simp only [decide_true, decide_false, cond_true, cond_false, Option.bind_some, ref03_Valid.L1, lt_yes hi, nth_lt hi, h1, h2]⟩
  by_cases h0 : 0 < i
  ·have h0' : (0 : Int) < (i : Int) := by omega
   have hp : i - 1 < fin.length := by omega
   by_cases h3 : fin[i] ≤ fin[i - 1]
   ·exact .inr ⟨fun h => by have := (h hi).2 h0; omega, .all fun n k => by simp only [decide_true, decide_false, cond_true, cond_false, Option.bind_some, ref03_Valid.L1, lt_yes hi, nth_lt hi, h1, h2, h0', wrap_pred hi hl h0, nth_lt hp, h3]⟩
   ·exact .inl ⟨fun _ => ⟨⟨by omega, by omega⟩, fun _ => by omega⟩, .all fun n k => by simp only [decide_true, decide_false, cond_true, cond_false, Option.bind_some, ref03_Valid.L1, lt_yes hi, nth_lt hi, h1, h2, h0', wrap_pred hi hl h0, nth_lt hp, h3, wrap_succ hi hl]⟩
  ·have h0' : ¬ (0 : Int) < (i : Int) := by omega
   exact .inl ⟨fun _ => ⟨⟨by omega, by omega⟩, fun h => absurd h h0⟩, .all fun n k => by simp only [decide_true, decide_false, cond_true, cond_false, Option.bind_some, ref03_Valid.L1, lt_yes hi, nth_lt hi, h1, h2, h0', wrap_succ hi hl]⟩
 ·exact .all fun n k => by simp only [decide_false, cond_false, Option.bind_some, lt_no, ref03_Valid.L1]
theorem ref03_Valid_L2 (al : List Int) (S : Int) (fin : List Int) (rs rs' : List Rule) (a b : Int) (l : List Int) (hl : l.length ≤ maxRows) :
 Lp (fun _ => ref03_Valid.L2) (al, S, fin, rs, rs', a, b, l, ((l.length : Nat) : Int), (0 : Int)) (fun t => (t = .inl (al, S, fin, rs, rs', a, b) ∧ ∀ i, i < l.length → FromAt S l i) ∨ ∃ i, i < l.length ∧ ¬ FromAt S l i ∧ t = .inr (.inr false)) := by
 refine Lp.search l.length (fun i => (al, S, fin, rs, rs', a, b, l, ((l.length : Nat) : Int), (i : Int))) (FromAt S l) (fun _ => Sum.inr (Sum.inr false)) (Sum.inl (al, S, fin, rs, rs', a, b)) ?_ ?_
 ·intro i hi
  by_cases h1 : l[i] < 0
  ·exact .inr ⟨fun h => absurd (h hi).1 (by omega), .all fun n k => by simp only [decide_true, cond_true, Option.bind_some, ref03_Valid.L2, lt_yes hi, nth_lt hi, h1]⟩
  by_cases h2 : S ≤ l[i]
  ·exact .inr ⟨fun h => absurd (h hi).2 (by omega), .all fun n k => by simp only [decide_true, decide_false, cond_true, cond_false, Option.bind_some, ref03_Valid.L2, lt_yes hi, nth_lt hi, h1, h2]⟩
  ·exact .inl ⟨fun _ => ⟨by omega, by omega⟩, .all fun n k => by simp only [decide_true, decide_false, cond_true, cond_false, Option.bind_some, ref03_Valid.L2, lt_yes hi, nth_lt hi, h1, h2, wrap_succ hi hl]⟩
 ·exact .all fun n k => by simp only [decide_false, cond_false, Option.bind_some, lt_no, ref03_Valid.L2]
theorem ref03_Valid_L3 (al : List Int) (S : Int) (fin : List Int) (rs : List Rule) (hl : rs.length ≤ maxRows) (hr : ∀ r ∈ rs, r.2.1.length ≤ maxRows) :
 Lp ref03_Valid.L3 (al, S, fin, rs, rs, ((rs.length : Nat) : Int), (0 : Int)) (fun t => (t = .inl () ∧ ∀ i, i < rs.length → RuleAt al S rs i) ∨ ∃ i, i < rs.length ∧ ¬ RuleAt al S rs i ∧ t = .inr false) := by
 refine Lp.search rs.length (fun i => (al, S, fin, rs, rs, ((rs.length : Nat) : Int), (i : Int))) (RuleAt al S rs) (fun _ => Sum.inr false) (Sum.inl ()) ?_ ?_
 ·intro i hi
  by_cases h1 : rs[i].1 < 0
  ·exact .inr ⟨fun h => absurd (h hi).1 (by omega), .all fun n k => by simp only [decide_true, cond_true, Option.bind_some, ref03_Valid.L3, lt_yes hi, nth_lt hi, h1]⟩
  by_cases h2 : ((al.length : Nat) : Int) ≤ rs[i].1
  ·exact .inr ⟨fun h => absurd (h hi).2.1 (by omega), .all fun n k => by simp only [decide_true, decide_false, cond_true, cond_false, Option.bind_some, ref03_Valid.L3, lt_yes hi, nth_lt hi, h1, h2]⟩
  have hx := nth_int (l := al) (z := rs[i].1) (by omega) (by omega)
  by_cases h3 : ((rs[i].2.1.length : Nat) : Int) = al[rs[i].1.toNat]'(by omega)
  ·by_cases h4 : rs[i].2.2 < 0
   ·exact .inr ⟨fun h => absurd (h hi).2.2.2.1.1 (by omega), .all fun n k => by simp only [decide_true, decide_false, cond_true, cond_false, Option.bind_some, Bool.not_true, ref03_Valid.L3, lt_yes hi, nth_lt hi, h1, h2, hx, h3, h4]⟩
   by_cases h5 : S ≤ rs[i].2.2
   ·exact .inr ⟨fun h => absurd (h hi).2.2.2.1.2 (by omega), .all fun n k => by simp only [decide_true, decide_false, cond_true, cond_false, Option.bind_some, Bool.not_true, ref03_Valid.L3, lt_yes hi, nth_lt hi, h1, h2, hx, h3, h4, h5]⟩
   obtain ⟨t, ht, he2⟩ := (ref03_Valid_L2 al S fin rs rs ((rs.length : Nat) : Int) (i : Int) rs[i].2.1 (hr _ (List.getElem_mem hi))).ev
   rcases ht with ⟨rfl, ht⟩ | ⟨j, hj, hn, rfl⟩
   ·exact .inl ⟨fun _ => ⟨by omega, by omega, fun _ => h3, ⟨by omega, by omega⟩, ht⟩, he2.mono fun n hn k => by rw [h3] at hn; simp only [decide_true, decide_false, cond_true, cond_false, Option.bind_some, Bool.not_true, ref03_Valid.L3, lt_yes hi, nth_lt hi, h1, h2, hx, h3, h4, h5, hn, wrap_succ hi hl]⟩
   ·exact .inr ⟨fun h => hn ((h hi).2.2.2.2 j hj), he2.mono fun n hn k => by rw [h3] at hn; simp only [decide_true, decide_false, cond_true, cond_false, Option.bind_some, Bool.not_true, ref03_Valid.L3, lt_yes hi, nth_lt hi, h1, h2, hx, h3, h4, h5, hn]⟩
  ·exact .inr ⟨fun h => h3 ((h hi).2.2.1 (by omega)), .all fun n k => by simp only [decide_true, decide_false, cond_true, cond_false, Option.bind_some, Bool.not_false, ref03_Valid.L3, lt_yes hi, nth_lt hi, h1, h2, hx, h3]⟩
 ·exact .all fun n k => by simp only [decide_false, cond_false, Option.bind_some, lt_no, ref03_Valid.L3]
theorem sp_ref03_Valid {G : Nat → List Int → Option Bool} (hG : ∀ al, Sp G al (fun r => r = true ↔ AlOk al)) (al : List Int) (S : Int) (fin : List Int) (rs : List Rule) (h1 : fin.length ≤ maxRows) (h2 : rs.length ≤ maxRows) (h3 : ∀ r ∈ rs, r.2.1.length ≤ maxRows) :
 Sp (fun n => ref03_Valid.P (G n) n) (al, S, fin, rs) (fun r => r = true ↔ ValidA al (S, fin, rs)) := by
 obtain ⟨r, hr, he⟩ := hG al
 cases r
 ·exact ⟨false, ⟨fun h => (by cases h), fun h => hr.mpr h.1⟩, he.mono fun n hn => by simp only [cond_true, Option.bind_some, Bool.not_false, ref03_Valid.P, hn]⟩
 have hal := hr.mp rfl
 by_cases h4 : S < 0
 ·exact ⟨false, ⟨fun h => (by cases h), fun h => absurd h.2.1 (by simp only; omega)⟩, he.mono fun n hn => by simp only [decide_true, cond_true, cond_false, Option.bind_some, Bool.not_true, ref03_Valid.P, hn, h4]⟩
 by_cases h5 : 300 < S
 ·exact ⟨false, ⟨fun h => (by cases h), fun h => absurd h.2.2.1 (by simp only; omega)⟩, he.mono fun n hn => by simp only [decide_true, decide_false, cond_true, cond_false, Option.bind_some, Bool.not_true, ref03_Valid.P, hn, h4, h5]⟩
 by_cases h6 : 20000 < ((rs.length : Nat) : Int)
 ·exact ⟨false, ⟨fun h => (by cases h), fun h => absurd h.2.2.2.1 (by simp only; omega)⟩, he.mono fun n hn => by simp only [decide_true, decide_false, cond_true, cond_false, Option.bind_some, Bool.not_true, ref03_Valid.P, hn, h4, h5, h6]⟩
 obtain ⟨t1, ht1, he1⟩ := (ref03_Valid_L1 al S fin rs h1).ev
 rcases ht1 with ⟨rfl, ht1⟩ | ⟨i, hi, hno, rfl⟩
 ·obtain ⟨t2, ht2, he2⟩ := (ref03_Valid_L3 al S fin rs h2 h3).ev
  rcases ht2 with ⟨rfl, ht2⟩ | ⟨i, hi, hno, rfl⟩
  ·exact ⟨true, ⟨fun _ => ⟨hal, by simp only; omega, by simp only; omega, by simp only; omega, ht1, ht2⟩, fun _ => rfl⟩, (he.and (he1.and he2)).mono fun n hn => by simp only [decide_false, cond_false, Option.bind_some, Bool.not_true, ref03_Valid.P, hn.1, h4, h5, h6, hn.2.1, hn.2.2]⟩
  ·exact ⟨false, ⟨fun h => (by cases h), fun h => absurd (h.2.2.2.2.2 i hi) hno⟩, (he.and (he1.and he2)).mono fun n hn => by simp only [decide_false, cond_false, Option.bind_some, Bool.not_true, ref03_Valid.P, hn.1, h4, h5, h6, hn.2.1, hn.2.2]⟩
 ·exact ⟨false, ⟨fun h => (by cases h), fun h => absurd (h.2.2.2.2.1 i hi) hno⟩, (he.and he1).mono fun n hn => by simp only [decide_false, cond_false, Option.bind_some, Bool.not_true, ref03_Valid.P, hn.1, h4, h5, h6, hn.2]⟩
end Go.Bk
end
noncomputable section
namespace Go.Bk
open Go Go.AM
set_option linter.unusedVariables false
theorem len1 {α : Type} {a : α} : List.length [a] = 1 := rfl
theorem app_one {α : Type} {l : List α} {i : Nat} (h : i < l.length) : List.append (l.take i) [l[i]] = l.take (i + 1) := by
 show l.take i ++ [l[i]] = _
 rw [List.take_add_one]; simp [h]
theorem sp_In (l : List Int) (v : Int) (hl : l.length ≤ maxRows) : Sp ref03_In.P (l, v) (fun r => r = true ↔ v ∈ l) := by
 have := Lp.search (L := fun _ => ref03_In.L1) l.length (fun i => (v, l, ((l.length : Nat) : Int), (i : Int))) (fun i => ∀ h : i < l.length, l[i] ≠ v) (fun _ => Sum.inr true) (Sum.inl ()) ?_ ?_
 ·obtain ⟨t, ht, he⟩ := this.ev
  rcases ht with ⟨rfl, ht⟩ | ⟨i, hi, hn, rfl⟩
  ·refine ⟨false, ⟨fun h => (by cases h), fun h => ?_⟩, he.mono fun n hn => congrArg (Option.bind · _) hn⟩
   obtain ⟨j, hj, rfl⟩ := List.getElem_of_mem h
   exact absurd rfl (ht j hj hj)
  ·refine ⟨true, ⟨fun _ => ?_, fun _ => rfl⟩, he.mono fun n hn => congrArg (Option.bind · _) hn⟩
   have : l[i] = v := Classical.byContradiction fun h => hn fun _ => h
   exact this ▸ List.getElem_mem hi
 ·intro i hi
  by_cases h : l[i] = v
  ·exact .inr ⟨fun h' => h' hi h, .all fun n k => by simp only [decide_true, cond_true, Option.bind_some, ref03_In.L1, lt_yes hi, nth_lt hi, h]⟩
  ·exact .inl ⟨fun _ => h, .all fun n k => by simp only [decide_true, decide_false, cond_true, cond_false, Option.bind_some, ref03_In.L1, lt_yes hi, nth_lt hi, h, wrap_succ hi hl]⟩
 ·exact .all fun n k => by simp only [decide_false, cond_false, Option.bind_some, lt_no, ref03_In.L1]
theorem sp_Insert (l : List Int) (v : Int) (hl : l.length + 1 ≤ maxRows) : Sp ref03_Insert.P (l, v) (fun r => (∀ y, y ∈ r ↔ y = v ∨ y ∈ l) ∧ r.length ≤ l.length + 1) := by
 have hL : Lp (fun _ => ref03_Insert.L1) (l, v, (0 : Int)) (fun t => ∃ i : Nat, i ≤ l.length ∧ t = (l, v, (i : Int))) := by
  refine Lp.range l.length (fun i s => s = (l, v, (i : Int))) ?_ ?_ _ rfl
  ·rintro i s hi rfl
   by_cases h : l[i] < v
   ·exact .inl ⟨_, rfl, .all fun n k => by simp only [decide_true, cond_true, Option.bind_some, ref03_Insert.L1, lt_yes hi, nth_lt hi, h, wrap_succ hi (m := l.length) (by omega)]⟩
   ·exact .inr ⟨_, ⟨i, by omega, rfl⟩, .all fun n k => by simp only [decide_true, decide_false, cond_true, cond_false, Option.bind_some, ref03_Insert.L1, lt_yes hi, nth_lt hi, h]⟩
  ·rintro s rfl
   exact .inr ⟨_, ⟨_, Nat.le_refl _, rfl⟩, .all fun n k => by simp only [decide_false, cond_false, Option.bind_some, lt_no, ref03_Insert.L1]⟩
 obtain ⟨t, ⟨i, hi, rfl⟩, he⟩ := hL.ev
 have h1 : ((0 : Int) ≤ (i : Int)) = True := eq_true (by omega)
 have h2 : ((i : Int) ≤ ((l.length : Nat) : Int)) = True := eq_true (by omega)
 have e1 : min i l.length ≤ maxRows := by omega
 have e2 : min i l.length + 1 ≤ maxRows := by omega
 have e3 : min i l.length + 1 + (l.length - i) ≤ maxRows := by omega
 have hm : ∀ y, y ∈ l.take i ++ v :: l.drop i ↔ y = v ∨ y ∈ l := by
  intro y
  have : y ∈ l ↔ y ∈ l.take i ∨ y ∈ l.drop i := by rw [← List.mem_append, List.take_append_drop]
  rw [this]; simp only [List.mem_append, List.mem_cons]
  constructor
  ·rintro (h | h | h) <;> simp [h]
  ·rintro (h | h | h) <;> simp [h]
 have hll : (l.take i ++ v :: l.drop i).length ≤ l.length + 1 := by
  simp only [List.length_append, List.length_take, List.length_drop, List.length_cons]; omega
 by_cases hlt : i < l.length
 ·by_cases hv : l[i] = v
  ·refine ⟨l, ⟨fun y => ⟨.inr, ?_⟩, by omega⟩, he.mono fun n hn => by simp only [decide_true, cond_true, Option.bind_some, ref03_Insert.P, hn, lt_yes hlt, nth_lt hlt, hv]⟩
   rintro (rfl | h)
   ·exact hv ▸ List.getElem_mem hlt
   ·exact h
  ·refine ⟨_, ⟨hm, hll⟩, he.mono fun n hn => ?_⟩
   simp only [decide_true, decide_false, cond_true, cond_false, Option.bind_some, Bool.and_true, Bool.true_and, ref03_Insert.P, hn, lt_yes hlt, nth_lt hlt, hv, h1, h2]
   simp [Int.toNat_natCast, List.take_of_length_le]
   simp only [decide_true, cond_true, e1, e2, e3]
 ·have hlt' : ((i : Int) < ((l.length : Nat) : Int)) = False := eq_false (by omega)
  refine ⟨_, ⟨hm, hll⟩, he.mono fun n hn => ?_⟩
  simp only [decide_true, decide_false, cond_false, Option.bind_some, Bool.and_true, Bool.true_and, ref03_Insert.P, hn, hlt', h1, h2]
  simp [Int.toNat_natCast, List.take_of_length_le]
  simp only [decide_true, cond_true, e1, e2, e3]
theorem sp_Meet {F : Nat → List Int × Int → Option Bool} (hF : ∀ l v, l.length ≤ maxRows → Sp F (l, v) (fun r => r = true ↔ v ∈ l)) (l1 l2 : List Int) (h1 : l1.length ≤ maxRows) (h2 : l2.length ≤ maxRows) :
 Sp (fun n => ref03_Meet.P (F n) n) (l1, l2) (fun r => r = true ↔ ∃ q, q ∈ l1 ∧ q ∈ l2) := by
 have := Lp.search (L := fun n => ref03_Meet.L1 (F n)) l1.length (fun i => (l2, l1, ((l1.length : Nat) : Int), (i : Int))) (fun i => ∀ h : i < l1.length, ¬ l1[i] ∈ l2) (fun _ => Sum.inr true) (Sum.inl ()) ?_ ?_
 ·obtain ⟨t, ht, he⟩ := this.ev
  rcases ht with ⟨rfl, ht⟩ | ⟨i, hi, hn, rfl⟩
  ·refine ⟨false, ⟨fun h => (by cases h), fun h => ?_⟩, he.mono fun n hn => congrArg (Option.bind · _) hn⟩
   obtain ⟨q, hq, hq2⟩ := h
   obtain ⟨j, hj, rfl⟩ := List.getElem_of_mem hq
   exact absurd hq2 (ht j hj hj)
  ·refine ⟨true, ⟨fun _ => ?_, fun _ => rfl⟩, he.mono fun n hn => congrArg (Option.bind · _) hn⟩
   exact ⟨l1[i], List.getElem_mem hi, Classical.byContradiction fun h => hn fun _ => h⟩
 ·intro i hi
  obtain ⟨r, hr, he⟩ := hF l2 l1[i] h2
  cases r
  ·exact .inl ⟨fun _ h => (by have := hr.mpr h; cases this), he.mono fun n hn k => by simp only [decide_true, cond_true, cond_false, Option.bind_some, ref03_Meet.L1, lt_yes hi, nth_lt hi, hn, wrap_succ hi h1]⟩
  ·exact .inr ⟨fun h' => h' hi (hr.mp rfl), he.mono fun n hn k => by simp only [decide_true, cond_true, Option.bind_some, ref03_Meet.L1, lt_yes hi, nth_lt hi, hn]⟩
 ·exact .all fun n k => by simp only [decide_false, cond_false, Option.bind_some, lt_no, ref03_Meet.L1]
theorem sp_Copy {F : Nat → List Int → Option (List Int)} (hF : ∀ l : List Int, l.length ≤ maxRows → Sp F l (fun r => r = l)) (S : Int) (fin : List Int) (rs : List Rule) (h1 : fin.length ≤ maxRows) (h2 : rs.length ≤ maxRows) (h3 : ∀ r ∈ rs, r.2.1.length ≤ maxRows) :
 Sp (fun n => auto_Copy.P (F n) n) (S, fin, rs) (fun r => r = (S, fin, rs)) := by
 have hL : Lp (fun n => auto_Copy.L1 (F n)) ((0 : Int), ([] : List Int), ([] : List Rule), S, fin, ([] : List Rule), rs, ((rs.length : Nat) : Int), (0 : Int)) (fun t => t = ((0 : Int), ([] : List Int), ([] : List Rule), S, fin, rs)) := by
  refine Lp.range rs.length (fun i s => s = ((0 : Int), ([] : List Int), ([] : List Rule), S, fin, rs.take i, rs, ((rs.length : Nat) : Int), (i : Int))) ?_ ?_ _ rfl
  ·rintro i s hi rfl
   obtain ⟨r, rfl, he⟩ := hF rs[i].2.1 (h3 _ (List.getElem_mem hi))
   refine .inl ⟨_, rfl, he.mono fun n hn k => ?_⟩
   have e : (rs.take i).length + 1 ≤ maxRows := by rw [List.length_take]; omega
   simp only [decide_true, cond_true, Option.bind_some, auto_Copy.L1, lt_yes hi, nth_lt hi, hn, len1, e, wrap_succ hi h2]
   rw [← app_one hi]
  ·rintro s rfl
   exact .inr ⟨_, rfl, .all fun n k => by simp only [decide_false, cond_false, lt_no, auto_Copy.L1, List.take_length]⟩
 obtain ⟨r, rfl, he⟩ := hF fin h1
 obtain ⟨t, rfl, he2⟩ := hL.ev
 exact ⟨_, rfl, (he.and he2).mono fun n hn => by simp only [Option.bind_some, auto_Copy.P, hn.1, hn.2]⟩
end Go.Bk
end
noncomputable section
namespace Go.Bk
open Go Go.AM
set_option linter.unusedVariables false
theorem rt_eta (t : RT Int) : RT.mk t.a t.kids = t := by cases t; rfl
inductive Shp (al : List Int) : RT Int → Prop
 | mk (a : Int) (ks : List (RT Int)) (h0 : 0 ≤ a) (h : al[a.toNat]? = some ((ks.length : Nat) : Int)) (hk : ∀ k, k ∈ ks → Shp al k) : Shp al (.mk a ks)
theorem Shp.nonneg {al : List Int} {a : Int} {ks : List (RT Int)} (h : Shp al (.mk a ks)) : 0 ≤ a := by cases h; assumption
theorem Shp.ar {al : List Int} {a : Int} {ks : List (RT Int)} (h : Shp al (.mk a ks)) : al[a.toNat]? = some ((ks.length : Nat) : Int) := by cases h; assumption
theorem Shp.kid {al : List Int} {a : Int} {ks : List (RT Int)} (h : Shp al (.mk a ks)) : ∀ k, k ∈ ks → Shp al k := by cases h; assumption
theorem nds_kid {a : Int} {ks : List (RT Int)} {k : RT Int} (h : k ∈ ks) : nds k ≤ nds (.mk a ks) := by
 have := ndss_mem h; simp only [nds]; omega
theorem nds_len {a : Int} {ks : List (RT Int)} : ks.length ≤ nds (.mk a ks) := by
 have := ndss_len ks; simp only [nds]; omega
theorem sp_shaped {F : Nat → List Int × Int × List (RT Int) → Option Bool} (hF : ∀ n x, F (n + 1) x = ref01_shaped.P (F n) n x) (al : List Int) (t : RT Int) :
 nds t ≤ maxRows → Sp F (al, t.a, t.kids) (fun r => r = true ↔ Shp al t) := by
 induction t using rt_ind with
 | h a ks ih =>
 intro hn
 have hk : ks.length ≤ maxRows := Nat.le_trans nds_len hn
 refine Sp.step (F := F) (G := fun n => ref01_shaped.P (F n) n) hF ?_
 simp only [RT.a, RT.kids]
 by_cases h1 : a < 0
 ·exact ⟨false, ⟨fun h => (by cases h), fun h => absurd h.nonneg (by omega)⟩, .all fun n => by simp only [decide_true, cond_true, Option.bind_some, ref01_shaped.P, h1]⟩
 by_cases h2 : ((al.length : Nat) : Int) ≤ a
 ·exact ⟨false, ⟨fun h => (by cases h), fun h => absurd h.ar (by rw [List.getElem?_eq_none (by omega)]; simp)⟩, .all fun n => by simp only [decide_true, decide_false, cond_true, cond_false, Option.bind_some, ref01_shaped.P, h1, h2]⟩
 have ha : a.toNat < al.length := by omega
 have hx := nth_int (l := al) (z := a) (by omega) (by omega)
 by_cases h3 : ((ks.length : Nat) : Int) = al[a.toNat]
 ·have hL := Lp.search (L := fun n => ref01_shaped.L1 (F n)) ks.length (fun i => (al, ks, ((ks.length : Nat) : Int), (i : Int))) (fun i => ∀ h : i < ks.length, Shp al ks[i]) (fun _ => Sum.inr false) (Sum.inl ()) ?_ ?_
  ·obtain ⟨t, ht, he⟩ := hL.ev
   have hx' : nth? al a = some ((ks.length : Nat) : Int) := by rw [hx, h3]
   have hh : ∀ n, ref01_shaped.P (F n) n (al, a, ks) = (loopN (ref01_shaped.L1 (F n)) n (al, ks, ((ks.length : Nat) : Int), (0 : Int))).bind fun q => match q with
    | Sum.inl _ => (some true)
    | Sum.inr r => some r := by
    intro n
    simp only [decide_true, decide_false, cond_false, Option.bind_some, Bool.not_true, ref01_shaped.P, h1, h2, hx'] <;> rfl
   rcases ht with ⟨rfl, ht⟩ | ⟨i, hi, hn', rfl⟩
   ·refine ⟨true, ⟨fun _ => .mk _ _ (by omega) (by rw [List.getElem?_eq_getElem ha, h3]) fun k hk => ?_, fun _ => rfl⟩, he.mono fun n hn => ?_⟩
    ·obtain ⟨j, hj, rfl⟩ := List.getElem_of_mem hk
     exact ht j hj hj
    ·exact (hh n).trans (congrArg (Option.bind · _) hn)
   ·refine ⟨false, ⟨fun h => (by cases h), fun h => absurd (fun _ => h.kid _ (List.getElem_mem hi)) hn'⟩, he.mono fun n hn => ?_⟩
    exact (hh n).trans (congrArg (Option.bind · _) hn)
  ·intro i hi
   obtain ⟨r, hr, he⟩ := ih ks[i] (List.getElem_mem hi) (Nat.le_trans (nds_kid (List.getElem_mem hi)) hn)
   cases r
   ·exact .inr ⟨fun h => (by have := hr.mpr (h hi); cases this), he.mono fun n hn k => by simp only [decide_true, cond_true, Option.bind_some, Bool.not_false, ref01_shaped.L1, lt_yes hi, nth_lt hi, hn]⟩
   ·exact .inl ⟨fun _ => hr.mp rfl, he.mono fun n hn k => by simp only [decide_true, cond_true, cond_false, Option.bind_some, Bool.not_true, ref01_shaped.L1, lt_yes hi, nth_lt hi, hn, wrap_succ hi hk]⟩
  ·exact .all fun n k => by simp only [decide_false, cond_false, Option.bind_some, lt_no, ref01_shaped.L1]
 ·refine ⟨false, ⟨fun h => (by cases h), fun h => absurd h.ar ?_⟩, .all fun n => by simp only [decide_false, cond_true, cond_false, Option.bind_some, Bool.not_false, ref01_shaped.P, h1, h2, hx, h3]⟩
  rw [List.getElem?_eq_getElem ha]
  intro h; exact h3 (Option.some.inj h).symm
theorem sp_ref01_Valid {F : Nat → Int × List (RT Int) × Int → Option Bool} {G : Nat → List Int → Option Bool} {K : Nat → List Int × Int × List (RT Int) → Option Bool} {al : List Int} {t : RT Int} {R : Bool → Prop}
 (h1 : Sp F (t.a, t.kids, (300 : Int)) R) (h2 : Sp G al (fun r => r = true ↔ AlOk al)) (h3 : Sp K (al, t.a, t.kids) (fun r => r = true ↔ Shp al t)) :
 Sp (fun n => ref01_Valid.P (F n) (G n) (K n) n) (al, t.a, t.kids) (fun r => r = true → Shp al t) := by
 obtain ⟨r1, hr1, he1⟩ := h1
 obtain ⟨r2, hr2, he2⟩ := h2
 obtain ⟨r3, hr3, he3⟩ := h3
 cases r2
 ·exact ⟨false, fun h => (by cases h), he2.mono fun n hn => by simp only [cond_false, Option.bind_some, ref01_Valid.P, hn]⟩
 cases r1
 ·exact ⟨false, fun h => (by cases h), (he1.and he2).mono fun n hn => by simp only [cond_true, cond_false, Option.bind_some, ref01_Valid.P, hn.1, hn.2]⟩
 exact ⟨r3, hr3.mp, (he1.and (he2.and he3)).mono fun n hn => by simp only [cond_true, Option.bind_some, ref01_Valid.P, hn.1, hn.2.1, hn.2.2]⟩
inductive Reach (rs : List Rule) : RT Int → Int → Prop
 | mk (r : Rule) (a : Int) (ks : List (RT Int)) (hr : r ∈ rs) (ha : r.1 = a) (hl : r.2.1.length = ks.length)
  (hk : ∀ (i : Nat) (k : RT Int) (f : Int), ks[i]? = some k → r.2.1[i]? = some f → Reach rs k f) : Reach rs (.mk a ks) r.2.2
theorem reach_iff {rs : List Rule} {a : Int} {ks : List (RT Int)} {q : Int} : Reach rs (.mk a ks) q ↔ ∃ r ∈ rs, r.1 = a ∧ r.2.2 = q ∧ r.2.1.length = ks.length ∧ ∀ (i : Nat) (k : RT Int) (f : Int), ks[i]? = some k → r.2.1[i]? = some f → Reach rs k f := by
 constructor
 ·intro h
  cases h with
  | mk r _ _ hr ha hl hk => exact ⟨r, hr, ha, rfl, hl, hk⟩
 ·rintro ⟨r, hr, ha, rfl, hl, hk⟩
  exact .mk r a ks hr ha hl hk
inductive Sub : RT Int → RT Int → Prop
 | refl (t) : Sub t t
 | kid (u k : RT Int) (a : Int) (ks : List (RT Int)) (hk : k ∈ ks) (h : Sub u k) : Sub u (.mk a ks)
theorem Shp.sub {al : List Int} {u t : RT Int} (h : Sub u t) (hs : Shp al t) : Shp al u := by
 induction h with
 | refl => exact hs
 | kid k a ks hk h ih => exact ih (hs.kid k hk)
def Ar (al : List Int) (rs : List Rule) : Prop := ∀ r ∈ rs, 0 ≤ r.1 ∧ al[r.1.toNat]? = some ((r.2.1.length : Nat) : Int)
def Fit (s : Int) (qs : List (List Int)) (r : Rule) : Prop := r.1 = s ∧ r.2.1.length = qs.length ∧ ∀ (i : Nat) (l : List Int) (f : Int), qs[i]? = some l → r.2.1[i]? = some f → f ∈ l
theorem sp_Step {F : Nat → List Int × Int → Option Bool} {G : Nat → List Int × Int → Option (List Int)}
 (hF : ∀ l v, l.length ≤ maxRows → Sp F (l, v) (fun r => r = true ↔ v ∈ l))
 (hG : ∀ (l : List Int) v, l.length + 1 ≤ maxRows → Sp G (l, v) (fun r => (∀ y, y ∈ r ↔ y = v ∨ y ∈ l) ∧ r.length ≤ l.length + 1))
 (S : Int) (fin : List Int) (rs : List Rule) (s : Int) (qs : List (List Int)) (h1 : rs.length + 1 ≤ maxRows) (h2 : qs.length ≤ maxRows) (h3 : ∀ l ∈ qs, l.length ≤ maxRows)
 (har : ∀ r ∈ rs, r.1 = s → r.2.1.length = qs.length) :
 Sp (fun n => ref03_Step.P (F n) (G n) n) (S, fin, rs, s, qs) (fun l => (∀ q, q ∈ l ↔ ∃ r ∈ rs, Fit s qs r ∧ r.2.2 = q) ∧ l.length ≤ rs.length) := by
 have inner : ∀ (acc : List Int) (i : Nat) (r : Rule), r ∈ rs → Lp (fun n => ref03_Step.L1 (F n)) (s, qs, acc, r.1, r.2.1, r.2.2, decide (r.1 = s), (0 : Int), rs, ((rs.length : Nat) : Int), (i : Int))
  (fun t => ∃ b : Bool, t = (s, qs, acc, r.1, r.2.1, r.2.2, b, rs, ((rs.length : Nat) : Int), (i : Int)) ∧ (b = true ↔ Fit s qs r)) := by
  intro acc i r hr
  refine Lp.range qs.length (fun j x => ∃ b : Bool, x = (s, qs, acc, r.1, r.2.1, r.2.2, b, (j : Int), rs, ((rs.length : Nat) : Int), (i : Int)) ∧ (b = true ↔ r.1 = s ∧ ∀ (i : Nat) (l : List Int) (f : Int), i < j → qs[i]? = some l → r.2.1[i]? = some f → f ∈ l)) ?_ ?_ _ ⟨_, rfl, ?_⟩
  ·rintro j x hj ⟨b, rfl, hb⟩
   cases b
   ·refine .inr ⟨_, ⟨false, rfl, ⟨fun h => (by cases h), fun h => ?_⟩⟩, .all fun n k => by simp only [cond_false, Option.bind_some, ref03_Step.L1]⟩
    exact hb.mpr ⟨h.1, fun i l f _ hl hf => h.2.2 i l f hl hf⟩
   ·have hb' := hb.mp rfl
    have hl := har r hr hb'.1
    have hj' : j < r.2.1.length := by omega
    obtain ⟨v, hv, he⟩ := hF qs[j] r.2.1[j] (h3 _ (List.getElem_mem hj))
    refine .inl ⟨_, ⟨v, rfl, hv.trans ⟨fun h => ⟨hb'.1, fun i l f hi hl hf => ?_⟩, fun h => h.2 j _ _ (by omega) (List.getElem?_eq_getElem hj) (List.getElem?_eq_getElem hj')⟩⟩, he.mono fun n hn k => by simp only [decide_true, cond_true, Option.bind_some, ref03_Step.L1, lt_yes hj, nth_lt hj, nth_lt hj', hn, wrap_succ hj h2]⟩
    rcases Nat.lt_or_eq_of_le (Nat.le_of_lt_succ hi) with hi | rfl
    ·exact hb'.2 i l f hi hl hf
    ·rw [List.getElem?_eq_getElem hj] at hl
     rw [List.getElem?_eq_getElem hj'] at hf
     cases hl; cases hf; exact h
  ·rintro x ⟨b, rfl, hb⟩
   refine .inr ⟨_, ⟨b, rfl, hb.trans ⟨fun h => ⟨h.1, har r hr h.1, fun i l f hl hf => h.2 i l f ?_ hl hf⟩, fun h => ⟨h.1, fun i l f _ hl hf => h.2.2 i l f hl hf⟩⟩⟩, .all fun n k => by cases b <;> simp only [decide_false, cond_true, cond_false, Option.bind_some, lt_no, ref03_Step.L1]⟩
   exact (List.getElem?_eq_some_iff.mp hl).1
  ·rw [decide_eq_true_iff]
   exact ⟨fun h => ⟨h, fun i l f hi => absurd hi (by omega)⟩, fun h => h.1⟩
 have outer : Lp (fun n => ref03_Step.L2 (F n) n (G n)) (s, qs, ([] : List Int), rs, ((rs.length : Nat) : Int), (0 : Int)) (fun l => (∀ q, q ∈ l ↔ ∃ r ∈ rs, Fit s qs r ∧ r.2.2 = q) ∧ l.length ≤ rs.length) := by
  refine Lp.range rs.length (fun i x => ∃ acc : List Int, x = (s, qs, acc, rs, ((rs.length : Nat) : Int), (i : Int)) ∧ (∀ q, q ∈ acc ↔ ∃ r ∈ rs.take i, Fit s qs r ∧ r.2.2 = q) ∧ acc.length ≤ i) ?_ ?_ _ ⟨[], rfl, fun q => by simp, Nat.le_refl _⟩
  ·rintro i x hi ⟨acc, rfl, hacc, hlen⟩
   obtain ⟨t, ⟨b, rfl, hb⟩, he⟩ := (inner acc i rs[i] (List.getElem_mem hi)).ev
   have e : rs.take (i + 1) = rs.take i ++ [rs[i]] := (app_one hi).symm
   cases b
   ·refine .inl ⟨_, ⟨acc, rfl, fun q => (hacc q).trans ?_, by omega⟩, he.mono fun n hn k => by simp only [decide_true, cond_true, cond_false, Option.bind_some, ref03_Step.L2, lt_yes hi, nth_lt hi, hn, wrap_succ hi (m := rs.length) (by omega)]⟩
    rw [e]
    constructor
    ·rintro ⟨r, hr, h⟩; exact ⟨r, List.mem_append_left _ hr, h⟩
    ·rintro ⟨r, hr, h⟩
     rcases List.mem_append.mp hr with hr | hr
     ·exact ⟨r, hr, h⟩
     ·obtain rfl := List.mem_singleton.mp hr
      exact absurd (hb.mpr h.1) (by simp)
   ·obtain ⟨acc', ⟨hm, hl'⟩, he'⟩ := hG acc rs[i].2.2 (by omega)
    refine .inl ⟨_, ⟨acc', rfl, fun q => (hm q).trans ?_, by omega⟩, (he.and he').mono fun n hn k => by simp only [decide_true, cond_true, Option.bind_some, ref03_Step.L2, lt_yes hi, nth_lt hi, hn.1, hn.2, wrap_succ hi (m := rs.length) (by omega)]⟩
    rw [e, hacc]
    constructor
    ·rintro (rfl | ⟨r, hr, h⟩)
     ·exact ⟨rs[i], List.mem_append_right _ (List.mem_singleton.mpr rfl), hb.mp rfl, rfl⟩
     ·exact ⟨r, List.mem_append_left _ hr, h⟩
    ·rintro ⟨r, hr, h⟩
     rcases List.mem_append.mp hr with hr | hr
     ·exact .inr ⟨r, hr, h⟩
     ·obtain rfl := List.mem_singleton.mp hr
      exact .inl h.2.symm
  ·rintro x ⟨acc, rfl, hacc, hlen⟩
   exact .inr ⟨_, ⟨fun q => by rw [hacc, List.take_length], hlen⟩, .all fun n k => by simp only [decide_false, cond_false, lt_no, ref03_Step.L2]⟩
 obtain ⟨t, ht, he⟩ := outer.ev
 exact ⟨t, ht, he.mono fun n hn => by simp only [ref03_Step.P, hn, Option.bind_some]⟩
theorem sp_Of {F : Nat → Int × List Int × List Rule × Int × List (RT Int) → Option (List Int)} {G : Nat → Int × List Int × List Rule × Int × List (List Int) → Option (List Int)}
 (hF : ∀ n x, F (n + 1) x = ref03_Of.P (F n) (G n) n x) (al : List Int) (S : Int) (fin : List Int) (rs : List Rule) (h1 : rs.length + 1 ≤ maxRows) (har : Ar al rs)
 (hG : ∀ s (qs : List (List Int)), qs.length ≤ maxRows → (∀ l ∈ qs, l.length ≤ maxRows) → (∀ r ∈ rs, r.1 = s → r.2.1.length = qs.length) → Sp G (S, fin, rs, s, qs) (fun l => (∀ q, q ∈ l ↔ ∃ r ∈ rs, Fit s qs r ∧ r.2.2 = q) ∧ l.length ≤ rs.length))
 (t : RT Int) : nds t ≤ maxRows → Shp al t → Sp F (S, fin, rs, t.a, t.kids) (fun l => (∀ q, q ∈ l ↔ Reach rs t q) ∧ l.length ≤ rs.length) := by
 induction t using rt_ind with
 | h a ks ih =>
 intro hn hs
 have hk : ks.length ≤ maxRows := Nat.le_trans nds_len hn
 refine Sp.step (F := F) (G := fun n => ref03_Of.P (F n) (G n) n) hF ?_
 simp only [RT.a, RT.kids]
 have hL : Lp (fun n => ref03_Of.L1 (F n)) (S, fin, rs, a, ks, ([] : List (List Int)), ks, ((ks.length : Nat) : Int), (0 : Int))
  (fun x => ∃ qs : List (List Int), x = (S, fin, rs, a, ks, qs) ∧ qs.length = ks.length ∧ ∀ (j : Nat) (k : RT Int) (l : List Int), ks[j]? = some k → qs[j]? = some l → (∀ q, q ∈ l ↔ Reach rs k q) ∧ l.length ≤ rs.length) := by
  refine Lp.range ks.length (fun i x => ∃ qs : List (List Int), x = (S, fin, rs, a, ks, qs, ks, ((ks.length : Nat) : Int), (i : Int)) ∧ qs.length = i ∧ ∀ (j : Nat) (k : RT Int) (l : List Int), ks[j]? = some k → qs[j]? = some l → (∀ q, q ∈ l ↔ Reach rs k q) ∧ l.length ≤ rs.length) ?_ ?_ _ ⟨[], rfl, rfl, fun j k l _ h => by simp at h⟩
  ·rintro i x hi ⟨qs, rfl, hq, hqs⟩
   obtain ⟨r, hr, he⟩ := ih ks[i] (List.getElem_mem hi) (Nat.le_trans (nds_kid (List.getElem_mem hi)) hn) (hs.kid _ (List.getElem_mem hi))
   have e : qs.length + 1 ≤ maxRows := by omega
   refine .inl ⟨_, ⟨qs ++ [r], rfl, by simp [hq], fun j k l hk hl => ?_⟩, he.mono fun n hn k => by simp only [decide_true, cond_true, Option.bind_some, ref03_Of.L1, lt_yes hi, nth_lt hi, hn, len1, e, wrap_succ hi hk]; rfl⟩
   rw [List.getElem?_append] at hl
   split at hl
   ·exact hqs j k l hk hl
   ·have hj : j = i := by
     have := (List.getElem?_eq_some_iff.mp hl).1
     simp at this; omega
    subst hj
    rw [List.getElem?_eq_getElem hi] at hk
    have : l = r := by simpa [hq] using hl.symm
    cases hk; rw [this]; exact hr
  ·rintro x ⟨qs, rfl, hq, hqs⟩
   exact .inr ⟨_, ⟨qs, rfl, hq, hqs⟩, .all fun n k => by simp only [decide_false, cond_false, lt_no, ref03_Of.L1]⟩
 obtain ⟨x, ⟨qs, rfl, hq, hqs⟩, he⟩ := hL.ev
 have hkid : ∀ j (hj : j < ks.length), ∃ l, qs[j]? = some l := fun j hj => ⟨_, List.getElem?_eq_getElem (by omega)⟩
 obtain ⟨r, ⟨hr, hr'⟩, he2⟩ := hG a qs (by omega) (fun l hl => by
  obtain ⟨j, hj, rfl⟩ := List.getElem_of_mem hl
  have := (hqs j _ _ (List.getElem?_eq_getElem (by omega)) (List.getElem?_eq_getElem hj)).2
  omega) (fun r hr ha => by
  have h := (har r hr).2
  rw [ha, hs.ar] at h
  have := Option.some.inj h
  omega)
 refine ⟨r, ⟨fun q => ?_, hr'⟩, (he.and he2).mono fun n hn => by simp only [ref03_Of.P, hn.1, hn.2, Option.bind_some]⟩
 rw [hr, reach_iff]
 constructor
 ·rintro ⟨r, hrm, ⟨ha, hl, hf⟩, rfl⟩
  refine ⟨r, hrm, ha, rfl, by omega, fun i k f hk' hf' => ?_⟩
  obtain ⟨l, hl'⟩ := hkid i (List.getElem?_eq_some_iff.mp hk').1
  exact ((hqs i k l hk' hl').1 f).mp (hf i l f hl' hf')
 ·rintro ⟨r, hrm, ha, rfl, hl, hf⟩
  refine ⟨r, hrm, ⟨ha, by omega, fun i l f hl' hf' => ?_⟩, rfl⟩
  have hi : i < ks.length := by have := (List.getElem?_eq_some_iff.mp hl').1; omega
  exact ((hqs i _ l (List.getElem?_eq_getElem hi) hl').1 f).mpr (hf i _ f (List.getElem?_eq_getElem hi) hf')
def Acc (rs : List Rule) (fin : List Int) (t : RT Int) : Prop := ∃ q, Reach rs t q ∧ q ∈ fin
theorem sp_Has {F : Nat → List Int × List Int → Option Bool} {G : Nat → Int × List Int × List Rule × Int × List (RT Int) → Option (List Int)} {S : Int} {fin : List Int} {rs : List Rule} {t : RT Int}
 (h1 : rs.length ≤ maxRows) (h2 : fin.length ≤ maxRows)
 (hF : ∀ l1 l2 : List Int, l1.length ≤ maxRows → l2.length ≤ maxRows → Sp F (l1, l2) (fun r => r = true ↔ ∃ q, q ∈ l1 ∧ q ∈ l2))
 (hG : Sp G (S, fin, rs, t.a, t.kids) (fun l => (∀ q, q ∈ l ↔ Reach rs t q) ∧ l.length ≤ rs.length)) :
 Sp (fun n => ref03_Has.P (F n) (G n) n) (S, fin, rs, t.a, t.kids) (fun r => r = true ↔ Acc rs fin t) := by
 obtain ⟨l, ⟨hl, hl'⟩, he⟩ := hG
 obtain ⟨r, hr, he2⟩ := hF l fin (by omega) h2
 refine ⟨r, hr.trans ?_, (he.and he2).mono fun n hn => by simp only [ref03_Has.P, hn.1, hn.2, Option.bind_some]⟩
 simp only [hl, Acc]
end Go.Bk
end
noncomputable section
namespace Go.Bk
open Go Go.AM
set_option linter.unusedVariables false
theorem ValidA.rule {al : List Int} {a : Aut} (h : ValidA al a) {r : Rule} (hr : r ∈ a.2.2) : RuleOk al a.1 r := by
 obtain ⟨i, hi, rfl⟩ := List.getElem_of_mem hr
 exact h.2.2.2.2.2 i hi hi
theorem ValidA.final {al : List Int} {a : Aut} (h : ValidA al a) {q : Int} (hq : q ∈ a.2.1) : StOk a.1 q := by
 obtain ⟨i, hi, rfl⟩ := List.getElem_of_mem hq
 exact (h.2.2.2.2.1 i hi hi).1
theorem sp_law05_valid {FV : Nat → List Int × Int × List Int × List Rule → Option Bool} {al : List Int} {bs : List Aut} (hb : bs.length ≤ maxRows) (hV : ∀ b ∈ bs, Sp FV (al, b) (fun r => r = true ↔ ValidA al b)) :
 Sp (fun n => law05_valid.P (FV n) n) (al, bs) (fun r => r = true ↔ ∀ b ∈ bs, ValidA al b) := by
 have hL := Lp.search (L := fun n => law05_valid.L1 (FV n)) bs.length (fun i => (al, bs, ((bs.length : Nat) : Int), (i : Int))) (fun i => ∀ h : i < bs.length, ValidA al bs[i]) (fun _ => Sum.inr false) (Sum.inl ()) ?_ ?_
 ·obtain ⟨t, ht, he⟩ := hL.ev
  rcases ht with ⟨rfl, ht⟩ | ⟨i, hi, hn, rfl⟩
  ·refine ⟨true, ⟨fun _ b hb => ?_, fun _ => rfl⟩, he.mono fun n hn => congrArg (Option.bind · _) hn⟩
   obtain ⟨j, hj, rfl⟩ := List.getElem_of_mem hb
   exact ht j hj hj
  ·exact ⟨false, ⟨fun h => (by cases h), fun h => absurd (fun _ => h _ (List.getElem_mem hi)) hn⟩, he.mono fun n hn => congrArg (Option.bind · _) hn⟩
 ·intro i hi
  obtain ⟨r, hr, he⟩ := hV bs[i] (List.getElem_mem hi)
  cases r
  ·exact .inr ⟨fun h => (by have := hr.mpr (h hi); cases this), he.mono fun n hn k => by simp only [decide_true, cond_true, Option.bind_some, Bool.not_false, law05_valid.L1, lt_yes hi, nth_lt hi, hn]⟩
  ·exact .inl ⟨fun _ => hr.mp rfl, he.mono fun n hn k => by simp only [decide_true, cond_true, cond_false, Option.bind_some, Bool.not_true, law05_valid.L1, lt_yes hi, nth_lt hi, hn, wrap_succ hi hb]⟩
 ·exact .all fun n k => by simp only [decide_false, cond_false, Option.bind_some, lt_no, law05_valid.L1]
section
variable {al : List Int} {S : Int} {fin : List Int} {rs : List Rule}
theorem RuleOk.from {r : Rule} (h : RuleOk al S r) {i : Nat} {f : Int} (hf : r.2.1[i]? = some f) : StOk S f := by
 obtain ⟨hi, rfl⟩ := List.getElem?_eq_some_iff.mp hf
 exact h.2.2.2.2 i hi hi
theorem RuleOk.ar {r : Rule} (h : RuleOk al S r) : 0 ≤ r.1 ∧ al[r.1.toNat]? = some ((r.2.1.length : Nat) : Int) := by
 refine ⟨h.1, ?_⟩
 have : r.1.toNat < al.length := by have := h.1; have := h.2.1; omega
 rw [List.getElem?_eq_getElem this, h.2.2.1 this]
theorem ValidA.ar {a : Aut} (h : ValidA al a) : Ar al a.2.2 := fun r hr => (h.rule hr).ar
end
end Go.Bk
end
noncomputable section
namespace Go.Bk
open Go Go.AM
set_option linter.unusedVariables false
theorem sumW_mem {α : Type} {f : α → Nat} : ∀ {l : List α} {x : α}, x ∈ l → f x ≤ sumW f l
 | a :: l, x, h => by
   simp only [sumW]
   rcases List.mem_cons.mp h with rfl | h
   ·omega
   ·have := sumW_mem (f := f) h; omega
theorem sumW_len {α : Type} {f : α → Nat} (h : ∀ x, 1 ≤ f x) : ∀ l : List α, l.length ≤ sumW f l
 | [] => by simp [sumW]
 | a :: l => by
   have := sumW_len h l
   have := h a
   simp only [sumW, List.length_cons]; omega
mutual
theorem nds_wt (f : Int → Nat) : ∀ t : RT Int, nds t ≤ RT.wt f t
 | .mk a ks => by
   have := ndss_wts f ks
   simp only [nds, RT.wt]; omega
theorem ndss_wts (f : Int → Nat) : ∀ ks : List (RT Int), ndss ks ≤ RT.wts f ks
 | [] => by simp [ndss, RT.wts]
 | k :: ks => by
   have := nds_wt f k
   have := ndss_wts f ks
   simp only [ndss, RT.wts]; omega
end
theorem len_wt (l : List Int) : l.length + 1 ≤ wt (.sl [.int .i64]) l := by
 have := sumW_len (f := wtA [.int .i64]) (fun x => Nat.le_refl _) l
 exact Nat.succ_le_succ this
theorem rules_wt (l : List Rule) : l.length + 1 ≤ wt (.sl [.int .i64, .sl [.int .i64], .int .i64]) l ∧ ∀ r ∈ l, r.2.1.length ≤ wt (.sl [.int .i64, .sl [.int .i64], .int .i64]) l := by
 have h1 : ∀ r : Rule, 1 ≤ wtA [.int .i64, .sl [.int .i64], .int .i64] r := fun r => by
  show 1 ≤ 1 + _
  omega
 have := sumW_len (f := wtA [.int .i64, .sl [.int .i64], .int .i64]) h1 l
 refine ⟨Nat.succ_le_succ this, fun r hr => ?_⟩
 have h2 := sumW_mem (f := wtA [.int .i64, .sl [.int .i64], .int .i64]) hr
 have h3 : r.2.1.length + 1 ≤ wtA [.int .i64, .sl [.int .i64], .int .i64] r := by
  have := len_wt r.2.1
  show _ ≤ 1 + (wt (.sl [.int .i64]) r.2.1 + 1)
  omega
 exact Nat.le_trans (Nat.le_trans (Nat.le_succ _) h3) (Nat.le_trans h2 (Nat.le_succ _))
theorem kids_wt (s : Int) (ks : List (RT Int)) : nds (.mk s ks) ≤ wt (.rsl [.int .i64]) ks := by
 have := ndss_wts (wtA [.int .i64]) ks
 exact Nat.succ_le_succ this
end Go.Bk
end
