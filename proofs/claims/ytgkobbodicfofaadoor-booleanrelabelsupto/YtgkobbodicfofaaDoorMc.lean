import Derived.Test.YtgkobbodicfofaaDoorMb
import Derived.Orders
section
set_option linter.unusedVariables false
namespace Go.AM
open Go
section
variable {P : Program} {E : Env} {C : Ctx} {s s' : St} {a a' : Act} {w w' : World} {g g' : Gh} {o : Oper} {Q : Exit → Act → World → Prop}
def Tg.moves : Tg → Bool | .own => true | .tip => true | _ => false
theorem weaken_get : ∀ {cs : List CV} {want : List (Sh × Tg)} {ds : List CV}, weaken cs want = some ds → cs.length = want.length ∧ ds.length = want.length ∧
 ∀ (k : Nat) (c : CV), cs[k]? = some c → ∃ sh tg, want[k]? = some (sh, tg) ∧ ds[k]? = some (c.to tg) ∧ c.sh = sh ∧ Tg.le tg c.tg = true ∧ (leftAll cs want)[k]? = some (bif c.isPure then c else leftAs c tg)
 | [], [], ds, h => by
   simp only [weaken, Option.some.injEq] at h; subst h
   exact ⟨rfl, rfl, fun k c hc => by simp at hc⟩
 | [], _ :: _, ds, h => by simp [weaken] at h
 | _ :: _, [], ds, h => by simp [weaken] at h
 | c :: cs, (sh, tg) :: want, ds, h => by
   simp only [weaken, cond_eq_ite, Bool.and_eq_true] at h
   split at h
   ·rename_i hc
    obtain ⟨d', hd', rfl⟩ := Option.map_eq_some_iff.1 h
    obtain ⟨h1, h2, h3⟩ := weaken_get hd'
    refine ⟨by simp [h1], by simp [h2], fun k c' hc' => ?_⟩
    cases k with
    | zero => simp at hc'; subst hc'; exact ⟨sh, tg, rfl, rfl, Sh.eq_of_beq hc.1.1, hc.1.2, rfl⟩
    | succ k =>
      obtain ⟨sh', tg', e1, e2, e3, e4, e5⟩ := h3 k c' (by simpa using hc')
      exact ⟨sh', tg', by simpa using e1, by simpa using e2, e3, e4, by simpa [leftAll] using e5⟩
   ·cases h
theorem leftAs_own (c : CV) (tg : Tg) : (leftAs c tg).tg ≠ .own := by
 obtain ⟨sh, ct, x⟩ := c
 cases tg <;> cases ct <;> simp [leftAs, CV.kill, CV.to]
theorem leftAll_own : ∀ {cs : List CV} {want : List (Sh × Tg)} {d : CV}, d ∈ leftAll cs want → d.tg ≠ .own
 | [], _, d, h => by simp [leftAll] at h
 | _ :: _, [], d, h => by simp [leftAll] at h
 | c :: cs, (sh, tg) :: want, d, h => by
   simp only [leftAll, List.mem_cons] at h
   rcases h with rfl | h
   ·cases hp : c.isPure with
    | true =>
      simp only [cond_true]
      intro e
      simp [CV.isPure, Tg.isPure, e] at hp
    | false => exact leftAs_own c tg
   ·exact leftAll_own h
theorem CRep.of_pure {ρ : Owner → Owner} {ow ow' : Owner} {c : CV} {v : Value} (hc : c.tg = .pure) (h : CRep w g ow c v) : CRep w (g.ren ρ) ow' c v := by
 have := h.pure (w' := w) (g' := g.ren ρ) (ow' := ow') (show Keeps w w g.F (g.ren ρ).F from Keeps.refl w g.F) (by unfold CV.isPure; rw [hc]; rfl)
 exact this
theorem give_hand (h : Rel E C s a w g) {hs : List CV} {hv : List Value} (hh : CsRep w g .hand 0 hs hv) {p : Pl} {m : Nat} {cs ds : List CV} {want : List (Sh × Tg)} {us : List Upd} (hc : plCells s p m = some cs) (hw : weaken cs want = some ds)
 (hu : plPut s p (leftAll cs want) false = some us) :
 ∃ g', Rel E C (s.upds us) a w g' ∧ CsRep w g' .hand 0 (hs ++ ds) (hv ++ ((rootVals a w g p.root).drop p.cell).take m) ∧ g'.at_ = g.at_ ∧ Keeps w w g.F g'.F ∧ (∀ b n, g.own b = some (.box n) → g'.own b = some (.box n)) := by
 obtain ⟨hp, hl⟩ := h.pl hc
 obtain ⟨hwl, hdl, hget⟩ := weaken_get hw
 obtain ⟨g1, f1, b1, o1, a1, hd1, hl1, _, _, hsh1⟩ := weaken_ok (rootMk_inj p.root) cs want ds p.cell _ g h.base hw hp
 let mv : Nat → Bool := fun j => decide (p.cell ≤ j ∧ j < p.cell + m) && (match want[j - p.cell]? with | some (_, tg) => tg.moves | none => false)
 let ρ : Owner → Owner := fun o => match p.root, o with
  | .tmp n, .tm k j => if k = n ∧ mv j = true then .hand (hs.length + (j - p.cell)) else o
  | .box n, .cell k j => if k = n ∧ mv j = true then .hand (hs.length + (j - p.cell)) else o
  | _, o => o
 have hmv : ∀ j, mv j = true → p.cell ≤ j ∧ j < p.cell + m := fun j hj => by
  simp only [mv, Bool.and_eq_true, decide_eq_true_eq] at hj; exact hj.1
 have hfix : ∀ o, (∀ j, mv j = true → o ≠ rootMk p.root j) → ρ o = o := by
  intro o ho
  simp only [ρ]
  cases hr : p.root with
  | tmp n =>
    cases o <;> simp only
    rename_i k j
    split
    ·rename_i hk; exact absurd (by rw [hr, hk.1]; rfl) (ho j hk.2)
    ·rfl
  | box n =>
    cases o <;> simp only
    rename_i k j
    split
    ·rename_i hk; exact absurd (by rw [hr, hk.1]; rfl) (ho j hk.2)
    ·rfl
 have hhand : ∀ i, ρ (.hand i) = .hand i := fun i => hfix _ (fun j _ => by cases p.root <;> simp [rootMk])
 have hmove : ∀ k, mv (p.cell + k) = true → ρ (rootMk p.root (p.cell + k)) = .hand (hs.length + k) := by
  intro k hk
  simp only [ρ]
  cases hr : p.root with
  | tmp n => simp only [rootMk]; rw [if_pos ⟨trivial, hk⟩]; congr 1; omega
  | box n => simp only [rootMk]; rw [if_pos ⟨trivial, hk⟩]; congr 1; omega
 have hlen : (leftAll cs want).length = cs.length := by have := congrArg List.length hsh1; simpa using this
 have hvl := hp.length
 have hleft : CsRep w (g1.ren ρ) (rootMk p.root) p.cell (leftAll cs want) (((rootVals a w g p.root).drop p.cell).take m) := by
  refine CsRep.of _ _ _ (by rw [hlen]; exact hvl) fun k c v hk hv => ?_
  have hkl : k < cs.length := by
   rw [← hlen]; rcases Nat.lt_or_ge k (leftAll cs want).length with h | h
   ·exact h
   ·simp [List.getElem?_eq_none h] at hk
  obtain ⟨sh, tg, e1, e2, _, e4, e5⟩ := hget k cs[k] (List.getElem?_eq_getElem hkl)
  obtain ⟨u, hu', hr⟩ := hl1.get _ p.cell _ k c hk
  rw [hu'] at hv; cases hv
  rw [e5] at hk; cases hk
  cases hmvk : tg.moves with
  | true =>
    have hnp : cs[k].isPure = false := by
     unfold CV.isPure
     cases htg : cs[k].tg <;> rw [htg] at e4 <;> first | rfl | (cases tg <;> simp_all [Tg.moves, Tg.le])
    rw [hnp] at hr ⊢
    simp only [cond_false] at hr ⊢
    have : leftAs cs[k] tg = cs[k].kill := by cases tg <;> first | rfl | simp [Tg.moves] at hmvk
    rw [this]; exact trivial
  | false =>
    have hρ : ρ (rootMk p.root (p.cell + k)) = rootMk p.root (p.cell + k) := hfix _ fun j hj e => by
     have := rootMk_inj p.root _ _ e
     subst this
     simp only [mv, Bool.and_eq_true] at hj
     rw [show p.cell + k - p.cell = k by omega, e1] at hj
     simp only [hmvk] at hj
     exact absurd hj.2 (by simp)
    have := hr.ren (ρ := ρ)
    rwa [hρ] at this
 have hhd : CsRep w (g1.ren ρ) .hand hs.length ds (((rootVals a w g p.root).drop p.cell).take m) := by
  refine CsRep.of _ _ _ (by omega) fun k c v hk hv => ?_
  have hkl : k < cs.length := by
   rcases Nat.lt_or_ge k ds.length with h | h
   ·omega
   ·simp [List.getElem?_eq_none h] at hk
  obtain ⟨sh, tg, e1, e2, _, e4, e5⟩ := hget k cs[k] (List.getElem?_eq_getElem hkl)
  obtain ⟨u, hu', hr⟩ := hd1.get _ p.cell _ k c hk
  rw [hu'] at hv; cases hv
  rw [e2] at hk; cases hk
  cases hmvk : tg.moves with
  | true =>
    have := hr.ren (ρ := ρ)
    rwa [hmove k (by
     simp only [mv, Bool.and_eq_true, decide_eq_true_eq]
     exact ⟨by omega, by rw [show p.cell + k - p.cell = k by omega, e1]; exact hmvk⟩)] at this
  | false =>
    cases tg with
    | pure => exact CRep.of_pure rfl hr
    | dead => exact trivial
    | own => cases hmvk
    | tip => cases hmvk
 have f2 : Fr (fun o => (∀ j, p.cell ≤ j → j < p.cell + cs.length → o ≠ rootMk p.root j) ∧ ∀ j, o ≠ .hand j) w w g (g1.ren ρ) :=
  (f1.mono fun o ho => ho.1).trans (Fr.ren w g1 fun o ho => hfix o fun j hj e => by
   obtain ⟨h1, h2⟩ := hmv j hj
   exact ho.1 j h1 (by omega) e)
 refine ⟨g1.ren ρ, ?_, ?_, a1, f1.keeps, fun b n e => ?_⟩
 ·refine plPut_keep h (ds := leftAll cs want) (by rw [hlen, hl]; exact hc) hu hsh1 (by rw [hlen]; exact f2) (b1.ren ρ) a1 ?_ (DlKeep.of fun d hd e => absurd e (leftAll_own hd))
  rw [hlen, hl]; exact hleft
 ·refine CsRep.append hs 0 hv ds _ ?_ (by rw [Nat.zero_add]; exact hhd)
  have h1 : CsRep w g1 .hand 0 hs hv := CsRep.fr (K := fun o => ∃ i, o = .hand i) (f1.mono fun o ⟨i, e⟩ j _ _ => by subst e; cases p.root <;> simp [rootMk]) hs 0 hv (fun j => ⟨j, rfl⟩) hh
  exact CsRep.ren hs 0 0 hv (fun k _ => by simpa using hhand (0 + k)) h1
 ·have e1 : g1.own b = some (.box n) := by rw [o1]; exact e
  simp only [Gh.ren, e1, Option.map_some]
  rw [hfix _ fun j _ => by cases p.root <;> simp [rootMk]]
theorem Sh.beq_refl : ∀ sh : Sh, Sh.beq sh sh = true := by
 intro sh
 induction sh using Sh.rec (motive_2 := fun as => Sh.beqs as as = true) with
 | int k => simp [Sh.beq]
 | bool => rfl
 | str => rfl
 | sl es ih => simpa [Sh.beq] using ih
 | rsl es ih => simpa [Sh.beq] using ih
 | dl es ih => simpa [Sh.beq] using ih
 | nil => rfl
 | cons s ss ih1 ih2 => simp [Sh.beqs, ih1, ih2]
theorem weaken_pure {mk mk' : Nat → Owner} {cs ds : List CV} {want : List (Sh × Tg)} {i j : Nat} {vs : List Value} (hp : allPure cs = true) (hw : weaken cs want = some ds) (h : CsRep w g mk i cs vs) : CsRep w g mk' j ds vs := by
 obtain ⟨hwl, hdl, hget⟩ := weaken_get hw
 have hvl := h.length
 refine CsRep.of _ _ _ (by omega) fun k c v hk hv => ?_
 have hkl : k < cs.length := by
  rcases Nat.lt_or_ge k ds.length with h | h
  ·omega
  ·simp [List.getElem?_eq_none h] at hk
 obtain ⟨sh, tg, e1, e2, _, e4, _⟩ := hget k cs[k] (List.getElem?_eq_getElem hkl)
 obtain ⟨u, hu, hr⟩ := h.get _ i _ k _ (List.getElem?_eq_getElem hkl)
 rw [hu] at hv; cases hv
 rw [e2] at hk; cases hk
 have hpc := allPure_tg hp cs[k] (List.getElem_mem hkl)
 rw [hpc] at e4
 cases tg with
 | dead => exact trivial
 | pure => exact (crep_pure rfl).2 ((crep_pure hpc).1 hr)
 | own => simp [Tg.le] at e4
 | tip => simp [Tg.le] at e4
def Tagged (cs : List CV) (want : List (Sh × Tg)) : Prop := cs.map (fun c => (c.sh, c.tg)) = want
theorem weaken_tagged {cs ds : List CV} {want : List (Sh × Tg)} (hw : weaken cs want = some ds) : Tagged ds want := by
 obtain ⟨hwl, hdl, hget⟩ := weaken_get hw
 apply List.ext_getElem?
 intro k
 rw [List.getElem?_map]
 rcases Nat.lt_or_ge k cs.length with hk | hk
 ·obtain ⟨sh, tg, e1, e2, e3, _, _⟩ := hget k cs[k] (List.getElem?_eq_getElem hk)
  rw [e1, e2, ← e3]; rfl
 ·rw [List.getElem?_eq_none (by omega), List.getElem?_eq_none (by omega)]; rfl
theorem zero_any {ow : Owner} {sh : Sh} (hpl : sh.isPl = true) (tg : Tg) : CRep w g ow ((zeroC sh).to tg) (.slice none 0 0) := by
 have hsl := isSl_of_isPl hpl
 have hl : slLen sh (zeroEl sh) = 0 := by cases sh <;> first | rfl | (simp [Sh.isSl] at hsl)
 cases tg with
 | dead => exact trivial
 | pure =>
   show PureC w g.F sh (zeroEl sh) _
   rw [pureC_sl hpl]; exact ⟨none, 0, by rw [hl], by omega, .inl hl⟩
 | own =>
   show if sh.isSl = true then OwnS w g ow false sh (zeroEl sh) _ else _
   rw [if_pos hsl]; exact .inl ⟨rfl, hl⟩
 | tip =>
   show if sh.isSl = true then OwnS w g ow true sh (zeroEl sh) _ else _
   rw [if_pos hsl]; exact .inl ⟨rfl, hl⟩
theorem nilAs_ok {want : List (Sh × Tg)} {ds : List CV} (h : (nilAs want).run = some ds) : ∃ sh tg, want = [(sh, tg)] ∧ sh.isPl = true ∧ ds = [(zeroC sh).to tg] := by
 unfold nilAs at h
 split at h
 ·obtain ⟨h1, h⟩ := bif_some h
  exact ⟨_, _, rfl, h1, (ret_some h).symm⟩
 ·exact (fail_some h).elim
theorem weaken_one {d : CV} {want : List (Sh × Tg)} {ds : List CV} (h : weaken [d] want = some ds) : ∃ tg, want = [(d.sh, tg)] ∧ ds = [d.to tg] ∧ Tg.le tg d.tg = true := by
 match want, h with
 | [], h => simp [weaken] at h
 | [(sh, tg)], h =>
   simp only [weaken, cond_eq_ite, Bool.and_eq_true] at h
   split at h
   ·rename_i hc
    simp only [Option.map_some, Option.some.injEq] at h
    exact ⟨tg, by rw [Sh.eq_of_beq hc.1.1], h.symm, hc.1.2⟩
   ·cases h
 | (sh, tg) :: y :: ys, h =>
   simp only [weaken, cond_eq_ite, Bool.and_eq_true] at h
   split at h
   ·simp at h
   ·cases h
theorem giveT_ok (h : Rel E C s a w g) {hs : List CV} {hv : List Value} (hh : CsRep w g .hand 0 hs hv) {x : Operand} {ag : Bool} {want : List (Sh × Tg)} {ds : List CV} {us : List Upd} (hg : (giveT s (at_ E s x) x ag want).run = some (ds, us)) :
 ∃ g', Rel E C (s.upds us) a w g' ∧ CsRep w g' .hand 0 (hs ++ ds) (hv ++ (a.eval x).cells.toList) ∧ g'.at_ = g.at_ ∧ Keeps w w g.F g'.F ∧ (∀ b n, g.own b = some (.box n) → g'.own b = some (.box n)) ∧ isAgg (a.eval x) = ag ∧ Tagged ds want := by
 unfold giveT at hg
 have stay : ∀ {mk : Nat → Owner} {i : Nat} {cs : List CV} {vs : List Value}, CsRep w g mk i cs vs → allPure cs = true → weaken cs want = some ds → us = [] → vs = (a.eval x).cells.toList → isAgg (a.eval x) = ag →
  ∃ g', Rel E C (s.upds us) a w g' ∧ CsRep w g' .hand 0 (hs ++ ds) (hv ++ (a.eval x).cells.toList) ∧ g'.at_ = g.at_ ∧ Keeps w w g.F g'.F ∧ (∀ b n, g.own b = some (.box n) → g'.own b = some (.box n)) ∧ isAgg (a.eval x) = ag ∧ Tagged ds want := by
  intro mk i cs vs hc hp hw hu hvs hag
  subst hu; rw [← hvs]
  exact ⟨g, h, CsRep.append hs 0 hv _ _ hh (weaken_pure hp hw hc), rfl, Keeps.refl _ _, fun _ _ e => e, hag, weaken_tagged hw⟩
 split at hg
 ·rename_i ag' cs hx
  have hv := val_of_at h hx (by simp)
  obtain ⟨hag, hg⟩ := bif_some hg
  have hag : ag' = ag := by simpa using hag
  split at hg
  ·exact (fail_some hg).elim
  ·rename_i ds' hw
   simp only [cond_eq_ite] at hg
   split at hg
   ·rename_i hp
    have := ret_some hg
    simp only [Prod.mk.injEq] at this
    obtain ⟨rfl, rfl⟩ := this
    exact stay hv.2 hp hw rfl rfl (hv.1.trans hag)
   ·cases x with
    | tmp n =>
      have := ret_some hg
      simp only [Prod.mk.injEq] at this
      obtain ⟨rfl, rfl⟩ := this
      have hx' : (s.tm n).1 = .val ag' cs := hx
      have e : s.tm n = (.val ag' cs, (s.tm n).2) := by rw [← hx']
      have hpl : plCells s ⟨.tmp n, (s.tm n).2, [], 0, none⟩ cs.length = some cs := by
       rw [plCells_iff]
       refine ⟨cs.map fun c => (c, (s.tm n).2), ?_, by simp, by simp, by rw [← map_take_drop, map_pair]; simp⟩
       simp only [rootCells]; rw [e]
      have hll : (leftAll cs want).length = cs.length := by
       obtain ⟨h1, _, h3⟩ := weaken_get hw
       have : ∀ (cs : List CV) (want : List (Sh × Tg)), cs.length = want.length → (leftAll cs want).length = cs.length := by
        intro cs
        induction cs with
        | nil => intro want _; cases want <;> rfl
        | cons c cs ih =>
          intro want hl
          cases want with
          | nil => simp at hl
          | cons y ys => obtain ⟨_, _⟩ := y; simp [leftAll, ih ys (by simpa using hl)]
       exact this cs want h1
      have hput : plPut s ⟨.tmp n, (s.tm n).2, [], 0, none⟩ (leftAll cs want) false = some [.keep n (.val ag' (leftAll cs want))] := by
       simp only [plPut]; rw [e]
       simp only [cond_false, Nat.beq_refl, cond_true, setCells_all _ _ hll]
      obtain ⟨g', r, k, ea, kp, kb⟩ := give_hand h hh hpl hw hput
      have hlen := hv.2.length
      have : ((rootVals a w g (.tmp n)).drop 0).take cs.length = (a.eval (.tmp n)).cells.toList := by
       simp only [rootVals, List.drop_zero]; exact List.take_of_length_le (by omega)
      rw [this] at k
      exact ⟨g', r, k, ea, kp, kb, hv.1.trans hag, weaken_tagged hw⟩
    | const v => exact (fail_some hg).elim
    | global v => exact (fail_some hg).elim
    | func v => exact (fail_some hg).elim
 ·rename_i p ag' n hx
  obtain ⟨_, _, hsub, hv⟩ := val_of_at h hx (by simp)
  obtain ⟨hag, hg⟩ := bif_some hg
  have hag : ag' = ag := by simpa using hag
  obtain ⟨cs, hc, hg⟩ := dyn_bind hg
  have hc := content_none hsub hc
  obtain ⟨h1, h2⟩ := hv _ hc
  unfold giveAt at hg
  split at hg
  ·exact (fail_some hg).elim
  ·rename_i ds' hw
   simp only [cond_eq_ite] at hg
   split at hg
   ·rename_i hp
    have := ret_some hg
    simp only [Prod.mk.injEq] at this
    obtain ⟨rfl, rfl⟩ := this
    exact stay (h.pl hc).1 hp hw rfl h2.symm (h1.trans hag)
   ·rw [hsub] at hg
    simp only [] at hg
    split at hg
    ·rename_i us' hu
     have := ret_some hg
     simp only [Prod.mk.injEq] at this
     obtain ⟨rfl, rfl⟩ := this
     obtain ⟨g', r, k, ea, kp, kb⟩ := give_hand h hh hc hw hu
     rw [← h2] at k
     exact ⟨g', r, k, ea, kp, kb, h1.trans hag, weaken_tagged hw⟩
    ·exact (fail_some hg).elim
 ·rename_i p z lo hi hx
  obtain ⟨_, _, hsub, _, hv⟩ := val_of_at h hx (by simp)
  cases hag0 : ag with
  | true => rw [hag0] at hg; exact (fail_some hg).elim
  | false =>
    rw [hag0] at hg
    simp only [cond_false] at hg
    obtain ⟨cs, hc, hg⟩ := dyn_bind hg
    have hc := content_none hsub hc
    obtain ⟨c, rfl⟩ := pl_one hc
    simp only [] at hg
    split at hg
    ·exact (fail_some hg).elim
    ·rename_i d hd
     split at hg
     ·exact (fail_some hg).elim
     ·rename_i ds' hw
      obtain ⟨hpu, hg⟩ := bif_some hg
      rw [hsub] at hg
      simp only [] at hg
      split at hg
      ·rename_i us' hu
       have := ret_some hg
       simp only [Prod.mk.injEq] at this
       obtain ⟨rfl, rfl⟩ := this
       obtain ⟨hsl, hnd, rfl⟩ := subRange_some hd
       obtain ⟨tg, rfl, rfl, hle⟩ := weaken_one hw
       have htg : tg = .pure := by
        have := allPure_tg hpu _ (List.mem_singleton.2 rfl); exact this
       subst htg
       obtain ⟨A, l, k, e1, h1, h2, h3, h4⟩ := hv c hc
       have hw1 : weaken [c] [(c.sh, .pure)] = some [c.to .pure] := by
        have hle' : Tg.le .pure c.tg = true := hle
        have hdl : c.sh.dlOk .pure = true := by cases hs : c.sh <;> first | rfl | (rw [hs] at hsl; simp [Sh.isPl] at hsl)
        simp [weaken, Sh.beq_refl, hle', hdl]
       obtain ⟨g', r, hcs, ea, kp, kb⟩ := give_hand h hh hc hw1 hu
       obtain ⟨u, e2, _, e3⟩ := root_one h hc
       rw [e1] at e2; cases e2
       rw [e3] at hcs
       obtain ⟨l1, l2, l3⟩ := hand_last.1 hcs
       have hagx : isAgg (a.eval x) = false := by rw [h4]; rfl
       refine ⟨g', r, ?_, ea, kp, kb, hagx, weaken_tagged hw⟩
       rw [cells_of_notAgg hagx]
       refine hand_last.2 ⟨l1, l2, ?_⟩
       rw [h4]
       exact PureC.sub hsl l3 h1 h2
      ·exact (fail_some hg).elim
 ·rename_i hx
  cases hag0 : ag with
  | true => rw [hag0] at hg; exact (fail_some hg).elim
  | false =>
    rw [hag0] at hg
    simp only [cond_false] at hg
    obtain ⟨ds', hn, hg⟩ := dyn_bind hg
    have := ret_some hg
    simp only [Prod.mk.injEq] at this
    obtain ⟨rfl, rfl⟩ := this
    obtain ⟨sh, tg, rfl, hsl, rfl⟩ := nilAs_ok hn
    have hval : a.eval x = .slice none 0 0 := by
     rcases h.at_ x with ⟨_, e⟩ | e
     ·exact e
     ·rw [hx] at e; exact e.elim
    rw [hval]
    exact ⟨g, h, hand_last.2 ⟨hh.length, hh, zero_any hsl tg⟩, rfl, Keeps.refl _ _, fun _ _ e => e, rfl, rfl⟩
 ·exact (fail_some hg).elim
def ParamV (w : World) (g : Gh) : PK → Option Nat → Value → List Value → Prop
 | .val ag _, none, v, sg => isAgg v = ag ∧ v.cells.toList = sg
 | .rptr want, none, v, sg => (∃ b off, v = .pointer (some ⟨b, off, none⟩) ∧ RowF w g.F ⟨b, off, none⟩ sg) ∧ want.all (·.2.isPure) = true
 | .ptr _, some n, v, sg => v = .pointer (some ⟨g.at_ n, 0, none⟩) ∧ g.own (g.at_ n) = some (.box n) ∧ ∃ cur et, w.heap[g.at_ n]? = some (.cells cur et (0, 0)) ∧ sg = cur.toList
 | .fn f, none, v, _ => v = .func (.func f) #[] #[]
 | .io _, none, v, sg => isAgg v = false ∧ v.cells.toList = sg
 | _, _, _, _ => False
def ParamsV (w : World) (g : Gh) : List PK → List (Option Nat) → List Value → List (List Value) → Prop
 | [], [], [], [] => True
 | p :: ps, b :: bs, v :: vs, sg :: sgs => ParamV w g p b v sg ∧ sg.length = p.cells.length ∧ ParamsV w g ps bs vs sgs
 | _, _, _, _ => False
theorem ParamV.mono (k : Keeps w w g.F g'.F) (hat : g'.at_ = g.at_) (hb : ∀ b n, g.own b = some (.box n) → g'.own b = some (.box n)) {p : PK} {b : Option Nat} {v : Value} {sg : List Value} (h : ParamV w g p b v sg) : ParamV w g' p b v sg := by
 cases p with
 | val ag want => cases b <;> exact h
 | fn f => cases b <;> exact h
 | io want => cases b <;> exact h
 | rptr want =>
   cases b with
   | none => obtain ⟨⟨b, off, e, hr⟩, hp⟩ := h; exact ⟨⟨b, off, e, hr.keeps k⟩, hp⟩
   | some n => exact h
 | ptr want =>
   cases b with
   | none => exact h
   | some n => obtain ⟨e, ho, cur, et, h1, h2⟩ := h; exact ⟨by rw [hat]; exact e, by rw [hat]; exact hb _ _ ho, cur, et, by rw [hat]; exact h1, h2⟩
theorem Keeps.same {F F' : Fz} (h : ∀ b o, F b o → F' b o) : Keeps w w F F' := ⟨h, fun _ _ _ => rfl⟩
theorem Tagged.append {as bs : List CV} {xs ys : List (Sh × Tg)} (h1 : Tagged as xs) (h2 : Tagged bs ys) : Tagged (as ++ bs) (xs ++ ys) := by
 simp only [Tagged, List.map_append] at *; rw [h1, h2]
theorem notIn_mem {n : Nat} {bs : List (Option Nat)} (h : notIn n bs = true) : n ∉ bs.filterMap id := by
 intro hm
 obtain ⟨b, hb, e⟩ := List.mem_filterMap.1 hm
 simp only [id] at e; subst e
 have := List.all_eq_true.1 h _ hb
 simp at this
theorem tagged_pure {cs : List CV} {want : List (Sh × Tg)} (h : Tagged cs want) (hp : allPure cs = true) : want.all (·.2.isPure) = true := by
 rw [← h, List.all_eq_true]
 intro x hx
 obtain ⟨c, hc, rfl⟩ := List.mem_map.1 hx
 exact List.all_eq_true.1 hp c hc
theorem pure_tagged {cs : List CV} {want : List (Sh × Tg)} (h : Tagged cs want) (hp : want.all (·.2.isPure) = true) : allPure cs = true := by
 rw [← h, List.all_map] at hp
 exact hp
theorem giveR_ok (h : Rel E C s a w g) {hs : List CV} {hv : List Value} (hh : CsRep w g .hand 0 hs hv) {x : Operand} {want : List (Sh × Tg)} {ds : List CV} (hg : (giveR (at_ E s x) want).run = some ds) :
 ∃ sg, ParamV w g (.rptr want) none (a.eval x) sg ∧ CsRep w g .hand 0 (hs ++ ds) (hv ++ sg) ∧ Tagged ds want ∧ allPure ds = true := by
 unfold giveR at hg
 split at hg
 ·rename_i cs off hx
  obtain ⟨ad, vs, e, hrow, hp, hc⟩ := val_of_at h hx (by simp)
  obtain ⟨hle, hg⟩ := bif_some hg
  have hle := Nat.le_of_ble_eq_true hle
  split at hg
  ·rename_i ds' hw
   obtain ⟨hpd, hg⟩ := bif_some hg
   obtain rfl := ret_some hg
   have hvl := hc.length
   have hsub := hc.sub off want.length
   have hp2 : allPure ((cs.drop off).take want.length) = true := by
    rw [allPure, List.all_eq_true] at hp ⊢
    intro c hc
    exact hp c (List.mem_of_mem_drop (List.mem_of_mem_take hc))
   refine ⟨(vs.drop off).take want.length, ⟨⟨ad.block, ad.off + off, e, fun j hj => ?_⟩, tagged_pure (weaken_tagged hw) hpd⟩, CsRep.append hs 0 hv _ _ hh (weaken_pure hp2 hw hsub), weaken_tagged hw, hpd⟩
   have hlt : j < want.length ∧ off + j < vs.length := by simp at hj; omega
   have := hrow (off + j) hlt.2
   simp only at this ⊢
   rw [List.getElem?_take, if_pos hlt.1, List.getElem?_drop, Nat.add_assoc]; exact this
  ·exact (fail_some hg).elim
 ·exact (fail_some hg).elim
theorem some_upds {n : Nat} : ∀ (us : List Upd) (s : St), (s.bx n).isSome = true → ((s.upds us).bx n).isSome = true
 | [], _, h => h
 | u :: us, s, h => by
   refine some_upds us (u.on s) ?_
   cases u with
   | tm k t => exact h
   | keep k t => exact h
   | bx k b =>
     simp only [Upd.on, put]
     cases Nat.beq n k <;> simp [h]
theorem giveP_ok (h : Rel E C s a w g) {hs : List CV} {hv : List Value} (hh : CsRep w g .hand 0 hs hv) {x : Operand} {pk : PK} {bs : List (Option Nat)} {ds : List CV} {us : List Upd} {b : Option Nat} (hg : (giveP s bs pk (at_ E s x) x).run = some (ds, us, b)) :
 ∃ g' sg, Rel E C (s.upds us) a w g' ∧ CsRep w g' .hand 0 (hs ++ ds) (hv ++ sg) ∧ g'.at_ = g.at_ ∧ Keeps w w g.F g'.F ∧ (∀ b n, g.own b = some (.box n) → g'.own b = some (.box n)) ∧ ParamV w g' pk b (a.eval x) sg ∧ Tagged ds pk.cells ∧
  (∀ n, b = some n → n ∉ bs.filterMap id ∧ (s.bx n).isSome = true) := by
 unfold giveP at hg
 cases pk with
 | val ag want =>
   simp only [] at hg
   obtain ⟨⟨ds', us'⟩, hgt, hg⟩ := dyn_bind hg
   have := ret_some hg
   simp only [Prod.mk.injEq] at this
   obtain ⟨rfl, rfl, rfl⟩ := this
   obtain ⟨g', r, k, ea, kp, kb, hag, ht⟩ := giveT_ok h hh hgt
   exact ⟨g', _, r, k, ea, kp, kb, ⟨hag, rfl⟩, ht, fun n e => by cases e⟩
 | io want =>
   simp only [] at hg
   obtain ⟨⟨ds', us'⟩, hgt, hg⟩ := dyn_bind hg
   have := ret_some hg
   simp only [Prod.mk.injEq] at this
   obtain ⟨rfl, rfl, rfl⟩ := this
   obtain ⟨g', r, k, ea, kp, kb, hag, ht⟩ := giveT_ok h hh hgt
   exact ⟨g', _, r, k, ea, kp, kb, ⟨hag, rfl⟩, ht, fun n e => by cases e⟩
 | rptr want =>
   simp only [] at hg
   obtain ⟨ds', hgt, hg⟩ := dyn_bind hg
   have := ret_some hg
   simp only [Prod.mk.injEq] at this
   obtain ⟨rfl, rfl, rfl⟩ := this
   obtain ⟨sg, k1, k2, k3, _⟩ := giveR_ok h hh hgt
   exact ⟨g, sg, h, k2, rfl, Keeps.refl _ _, fun _ _ e => e, k1, k3, fun n e => by cases e⟩
 | fn f =>
   simp only [] at hg
   split at hg
   ·rename_i f' hx
    have hg2 := bif_some hg
    have hf := Nat.eq_of_beq_eq_true hg2.1
    have := ret_some hg2.2
    simp only [Prod.mk.injEq] at this
    obtain ⟨rfl, rfl, rfl⟩ := this
    have hv := val_of_at h hx (by simp)
    subst hf
    exact ⟨g, [], h, by simpa using hh, rfl, Keeps.refl _ _, fun _ _ e => e, hv, rfl, fun n e => by cases e⟩
   ·exact (fail_some hg).elim
 | ptr want =>
   simp only [] at hg
   split at hg
   ·rename_i p hx
    split at hg
    ·rename_i n cs hr hs0 hc
     obtain ⟨hcond, hg⟩ := bif_some hg
     simp only [Bool.and_eq_true] at hcond
     obtain ⟨⟨hc0, hni⟩, hbl⟩ := hcond
     have hc0 := Nat.eq_of_beq_eq_true hc0
     split at hg
     ·rename_i ds' us' hw hu
      have := ret_some hg
      simp only [Prod.mk.injEq] at this
      obtain ⟨rfl, rfl, rfl⟩ := this
      obtain ⟨_, hv⟩ := val_of_at h hx (by simp)
      rw [hs0] at hv
      obtain ⟨n', hn', hv⟩ := hv
      rw [hr] at hn'; cases hn'
      obtain ⟨g', r, k, ea, kp, kb⟩ := give_hand h hh hc hw hu
      have hb : ∃ b, s.bx n = some b ∧ b.inst = p.inst := by
       have := hc
       rw [plCells_iff] at this
       obtain ⟨cells, e, _⟩ := this
       rw [hr] at e; simp only [rootCells] at e
       cases hb : s.bx n with
       | none => rw [hb] at e; simp at e
       | some b => rw [hb] at e; simp only [Option.some.injEq, Prod.mk.injEq] at e; exact ⟨b, rfl, e.1⟩
      obtain ⟨b, hb, hbi⟩ := hb
      obtain ⟨cur, et, h1, h2, _, h4⟩ := h.bx n b hb
      rw [hb] at hbl
      simp only at hbl
      have hbl := Nat.eq_of_beq_eq_true hbl
      have hcl := h4.length
      simp only [List.length_map, Array.length_toList] at hcl
      refine ⟨g', _, r, k, ea, kp, kb, ⟨by rw [ea, ← hc0]; exact hv b hb hbi, by rw [ea]; exact kb _ _ h2, cur, et, by rw [ea]; exact h1, ?_⟩, weaken_tagged hw, fun m e => by cases e; exact ⟨notIn_mem hni, by rw [hb]; rfl⟩⟩
      rw [hr, hc0, rootVals_box h1, List.drop_zero]
      exact List.take_of_length_le (by simp; omega)
     ·exact (fail_some hg).elim
    ·exact (fail_some hg).elim
   ·exact (fail_some hg).elim
theorem ParamsV.mono (k : Keeps w w g.F g'.F) (hat : g'.at_ = g.at_) (hb : ∀ b n, g.own b = some (.box n) → g'.own b = some (.box n)) : ∀ {ps : List PK} {bs : List (Option Nat)} {vs : List Value} {sgs : List (List Value)}, ParamsV w g ps bs vs sgs → ParamsV w g' ps bs vs sgs
 | [], [], [], [], _ => trivial
 | p :: ps, b :: bs, v :: vs, sg :: sgs, ⟨h1, h2, h3⟩ => ⟨h1.mono k hat hb, h2, ParamsV.mono k hat hb h3⟩
theorem giveAll_ok : ∀ (ps : List PK) (xs : List Operand) (bs : List (Option Nat)) (s : St) (g : Gh) (hs : List CV) (hv : List Value) (us : List Upd) (cs' : List CV) (us' : List Upd) (bs' : List (Option Nat)), Rel E C s a w g → CsRep w g .hand 0 hs hv →
 (bs.filterMap id).Nodup → (giveAll E ps xs bs s hs us).run = some (cs', us', bs') →
 ∃ us2 bs2 ds g' sgs, us' = us ++ us2 ∧ bs' = bs ++ bs2 ∧ cs' = hs ++ ds ∧ Rel E C (s.upds us2) a w g' ∧ CsRep w g' .hand 0 cs' (hv ++ sgs.flatten) ∧ g'.at_ = g.at_ ∧ Keeps w w g.F g'.F ∧ (∀ b n, g.own b = some (.box n) → g'.own b = some (.box n)) ∧
  ParamsV w g' ps bs2 (xs.map a.eval) sgs ∧ Tagged ds (ps.flatMap PK.cells) ∧ (bs'.filterMap id).Nodup ∧ (∀ n, some n ∈ bs2 → ((s.upds us2).bx n).isSome = true)
 | [], [], bs, s, g, hs, hv, us, cs', us', bs', h, hh, hnd, hg => by
   have := ret_some hg
   simp only [Prod.mk.injEq] at this
   obtain ⟨rfl, rfl, rfl⟩ := this
   exact ⟨[], [], [], g, [], by simp, by simp, by simp, h, by simpa using hh, rfl, Keeps.refl _ _, fun _ _ e => e, trivial, rfl, hnd, fun n hn => by cases hn⟩
 | [], _ :: _, _, _, _, _, _, _, _, _, _, _, _, _, hg => (fail_some hg).elim
 | _ :: _, [], _, _, _, _, _, _, _, _, _, _, _, _, hg => (fail_some hg).elim
 | p :: ps, x :: xs, bs, s, g, hs, hv, us, cs', us', bs', h, hh, hnd, hg => by
   simp only [giveAll] at hg
   obtain ⟨⟨ds, us1, b⟩, hgp, hg⟩ := dyn_bind hg
   simp only [] at hg
   obtain ⟨g1, sg, r1, k1, a1, kp1, kb1, pv, ht, hb⟩ := giveP_ok h hh hgp
   obtain ⟨us2, bs2, ds2, g', sgs, e1, e2, e3, r2, k2, a2, kp2, kb2, pvs, ht2, hnd2, hsome⟩ := giveAll_ok ps xs (bs ++ [b]) (s.upds us1) g1 (hs ++ ds) (hv ++ sg) (us ++ us1) cs' us' bs' r1 k1 (by
    cases b with
    | none => simpa using hnd
    | some n =>
      have := (hb n rfl).1
      simp only [List.filterMap_append, List.filterMap_cons, id, List.filterMap_nil]
      rw [List.nodup_append]
      refine ⟨hnd, by simp, fun y hy z hz => ?_⟩
      simp only [List.mem_singleton] at hz; subst hz
      rintro rfl; exact this hy) hg
   have hdl : ds.length = sg.length := by
    have h1 := k1.length; have h2 := hh.length
    simp only [List.length_append] at h1; omega
   have htl : ds.length = p.cells.length := by have := congrArg List.length ht; simpa using this
   refine ⟨us1 ++ us2, b :: bs2, ds ++ ds2, g', sg :: sgs, by rw [e1, List.append_assoc], by rw [e2]; simp, by rw [e3, List.append_assoc], by rw [upds_append]; exact r2, ?_, a2.trans a1, kp1.trans kp2, fun b n e => kb2 b n (kb1 b n e), ⟨pv.mono kp2 a2 kb2, by omega, pvs⟩, ?_, hnd2, fun n hn => ?_⟩
   ·rw [List.flatten_cons, ← List.append_assoc]; exact k2
   ·rw [List.flatMap_cons]; exact ht.append ht2
   ·rw [upds_append]
    rcases List.mem_cons.1 hn with rfl | hn
    ·exact some_upds us2 _ (some_upds us1 _ (hb n rfl).2)
    ·exact hsome n hn
end
end Go.AM
end
section
set_option linter.unusedVariables false
namespace Go.AM
open Go
section
variable {P : Program} {E : Env} {C : Ctx} {s s' : St} {a a' : Act} {w w' : World} {g g' : Gh} {o : Oper} {Q : Exit → Act → World → Prop}
theorem rowParts_ok (ag : Bool) (want : List (Sh × Tg)) : ∀ (ps : List (Nat × Operand)) (k : Nat) (s : St) (g : Gh) (hs : List CV) (hv : List Value) (rows : List (List CV)) (us0 : List Upd) (rows' : List (List CV)) (us' : List Upd),
 Rel E C s a w g → CsRep w g .hand 0 hs hv → rows.reverse.flatten = hs → (rowParts E ag want ps k s rows us0).run = some (rows', us') →
 ∃ us2 g' rest, us' = us0 ++ us2 ∧ Rel E C (s.upds us2) a w g' ∧ CsRep w g' .hand 0 rows'.flatten (hv ++ ps.flatMap fun x => (a.eval x.2).cells.toList) ∧ rows' = rows.reverse ++ rest ∧
  rest.map List.length = ps.map (fun x => (a.eval x.2).cells.size) ∧ ps.map (·.1) = List.range' k ps.length ∧ ∀ r, r ∈ rest → Tagged r want
 | [], k, s, g, hs, hv, rows, us0, rows', us', h, hh, hrs, hr => by
   simp only [rowParts] at hr
   have := ret_some hr
   simp only [Prod.mk.injEq] at this
   obtain ⟨rfl, rfl⟩ := this
   exact ⟨[], g, [], by simp, h, by rw [hrs]; simpa using hh, by simp, rfl, rfl, fun r hr => by cases hr⟩
 | (i, x) :: ps, k, s, g, hs, hv, rows, us0, rows', us', h, hh, hrs, hr => by
   simp only [rowParts] at hr
   obtain ⟨hik, hr⟩ := bif_some hr
   have hik := Nat.eq_of_beq_eq_true hik
   subst hik
   obtain ⟨⟨ds, us1⟩, ht, hr⟩ := dyn_bind hr
   simp only [] at hr
   obtain ⟨g1, r1, hh1, _, _, _, _, htg⟩ := giveT_ok h hh ht
   obtain ⟨us2, g', rest, e, r2, hh2, er, hl, hi, hta⟩ := rowParts_ok ag want ps (i + 1) (s.upds us1) g1 (hs ++ ds) _ (ds :: rows) (us0 ++ us1) rows' us' r1 hh1 (by simp [hrs]) hr
   have hdl : ds.length = (a.eval x).cells.size := by
    have h1 := hh1.length
    have h2 := hh.length
    simp only [List.length_append] at h1
    have : (a.eval x).cells.toList.length = (a.eval x).cells.size := by simp
    omega
   refine ⟨us1 ++ us2, g', ds :: rest, by rw [e, List.append_assoc], by rw [upds_append]; exact r2, ?_, by rw [er]; simp, by simp [hdl, hl], ?_, fun r hr => by
    rcases List.mem_cons.1 hr with rfl | hr
    ·exact htg
    ·exact hta r hr⟩
   ·rw [List.flatMap_cons, ← List.append_assoc]; exact hh2
   ·simp only [List.map_cons, hi, List.length_cons]; rfl
theorem flatten_get {α : Type} {N : Nat} : ∀ (rows : List (List α)), (∀ r, r ∈ rows → r.length = N) → ∀ (i k : Nat), k < N → rows.flatten[i * N + k]? = rows[i]?.bind (·[k]?)
 | [], _, i, k, _ => by simp
 | r :: rs, h, 0, k, hk => by
   rw [List.flatten_cons, List.getElem?_append_left (by rw [h r (by simp)]; omega)]; simp
 | r :: rs, h, i + 1, k, hk => by
   have hr := h r (by simp)
   have e : (i + 1) * N + k = N + (i * N + k) := by rw [Nat.succ_mul]; omega
   rw [List.flatten_cons, e, List.getElem?_append_right (by omega), hr, Nat.add_sub_cancel_left, flatten_get rs (fun r hr => h r (by simp [hr])) i k hk]
   simp
theorem rowsWith_get {α : Type} {f : List CV → Option α} : ∀ {rows : List (List CV)} {l : List α}, rowsWith f rows = some l → ∀ (i : Nat) (e : α), l[i]? = some e → ∃ r, rows[i]? = some r ∧ canFz r = true ∧ f r = some e
 | [], l, h, i, e, he => by simp [rowsWith] at h; subst h; simp at he
 | r :: rs, l, h, i, e, he => by
   obtain ⟨e0, l', h1, h2, h3, rfl⟩ := rowsWith_cons h
   cases i with
   | zero => simp at he; subst he; exact ⟨r, rfl, h1, h2⟩
   | succ i => simpa using rowsWith_get h3 i e (by simpa using he)
theorem hand_newD (h : Rel E C s a w g) {d : Nat} (hd : DOk E d) {es : List Sh} {rows : List (List CV)} {l : List (ElA es)} {vs : List Value} (hh : CsRep w g .hand 0 rows.flatten vs) (htag : ∀ r, r ∈ rows → ∀ c, c ∈ r → c.tg = c.sh.top)
 (hl : rowsWith (ofCells es) rows = some l) (hlen : ∀ r, r ∈ rows → r.length = es.length) (e : TypeId) (hsm : l.length ≤ maxLen) :
 ∃ g', Rel E C (s.upds [.tm d (.val false [⟨.dl es, .own, List.map some l⟩])]) (a.put (some d) (.slice (some ⟨w.heap.size, 0, none⟩) l.length l.length)) (w.alloc (.cells vs.toArray e)) g' := by
 have hown : ∀ b ow, g.own b = some ow → b < w.heap.size := fun b ow e => (h.base.own b ow e).2
 have hF : ∀ b o, g.F b o → b < w.heap.size := fun b o e => (h.base.fz b o e).2
 let ρ : Owner → Owner := fun o => match o with | .hand _ => .hand 0 | o => o
 have f := Fr.new (K := fun o => ∀ i, o ≠ .hand i) hown hF (ρ := ρ) (fun o ho => by
  cases o with
  | hand i => exact absurd rfl (ho i)
  | _ => rfl) (.cells vs.toArray e) (.hand 0)
 have r1 := h.world f (h.base.new _ _ (fun _ _ _ e => by cases e; rfl) _) rfl
 let w1 := w.alloc (.cells vs.toArray e)
 let g1 := g.new ρ w.heap.size (.hand 0)
 have hrl : l.length = rows.length := (rowsWith_dead hl).2
 have hfl : ∀ (rows : List (List CV)), (∀ r, r ∈ rows → r.length = es.length) → rows.flatten.length = rows.length * es.length := by
  intro rows
  induction rows with
  | nil => intro _; simp
  | cons r rs ih =>
    intro h
    rw [List.flatten_cons, List.length_append, h r (by simp), ih (fun r hr => h r (by simp [hr])), List.length_cons, Nat.succ_mul, Nat.add_comm]
 have hvl : vs.length = l.length * es.length := by rw [hh.length, hfl rows hlen, hrl]
 let B : Nat → Option Nat := fun k => (vs[k]?).bind fun v => (blk v).filter fun z => decide (g.own z = some (.hand k))
 have hB : ∀ k z, B k = some z → g.own z = some (.hand k) := by
  intro k z hz
  simp only [B, Option.bind_eq_some_iff, Option.filter_eq_some_iff, decide_eq_true_eq] at hz
  obtain ⟨v, _, _, h⟩ := hz
  exact h
 have hrows : DlRows w1 g1 (.hand 0) w.heap.size es (List.map some l) vs := by
  refine ⟨by rw [List.length_map]; exact hvl, B, fun k hz => ?_, fun i j z hi hj => ?_, fun i x hx => ?_⟩
  ·have := hown _ _ (hB k _ hz); omega
  ·have a1 := hB i z hi
   rw [hB j z hj] at a1
   simpa using a1.symm
  ·rw [List.getElem?_map] at hx
   have hx : l[i]? = some x := by
    cases hli : l[i]? with
    | none => rw [hli] at hx; cases hx
    | some y => rw [hli] at hx; simpa using hx
   obtain ⟨r, hr, hfz, hof⟩ := rowsWith_get hl i x hx
   have hil : i < l.length := by
    rcases Nat.lt_or_ge i l.length with h | h
    ·exact h
    ·simp [List.getElem?_eq_none h] at hx
   have hcells := ofCells_cells es r x hof
   have hrN := hlen r (List.mem_of_getElem? hr)
   have hle : i * es.length + es.length ≤ vs.length := by rw [hvl, ← Nat.succ_mul]; exact Nat.mul_le_mul_right _ hil
   refine ⟨by rw [List.length_take, List.length_drop]; omega, fun k c0 v hc0 hv => ?_⟩
   rw [← hcells, List.getElem?_map] at hc0
   cases hck : r[k]? with
   | none => rw [hck] at hc0; cases hc0
   | some c =>
     rw [hck] at hc0
     have hc0 : c.to .pure = c0 := by simpa using hc0
     subst hc0
     have hkN : k < es.length := by
      rw [← hrN]
      rcases Nat.lt_or_ge k r.length with h | h
      ·exact h
      ·simp [List.getElem?_eq_none h] at hck
     rw [List.getElem?_take, if_pos hkN, List.getElem?_drop] at hv
     have hfg : rows.flatten[i * es.length + k]? = some c := by
      rw [flatten_get rows hlen i k hkN, hr]; exact hck
     obtain ⟨u, hu, hcr⟩ := hh.get _ 0 _ _ c hfg
     have hv' : vs[i * es.length + k]? = some v := hv
     rw [hv'] at hu; cases hu
     rw [Nat.zero_add] at hcr
     have hcm : c ∈ r := List.mem_of_getElem? hck
     have htg := htag r (List.mem_of_getElem? hr) c hcm
     have hnd : c.sh.isDl = false := by
      have := List.all_eq_true.1 hfz c hcm
      simp only [Bool.and_eq_true, Bool.not_eq_true'] at this
      exact this.2
     show CellD w1 g1 (.hand 0) (B (i * es.length + k)) c.sh c.x v
     obtain ⟨csh, ct, cx⟩ := c
     simp only at htg hnd hcr ⊢
     subst htg
     unfold CellD
     split
     ·rename_i hs
      have hpl : csh.isPl = true := by
       rcases isPl_or hs with e | ⟨es', e⟩
       ·exact e
       ·subst e; simp [Sh.isDl] at hnd
      have e : csh.top = .own := by cases csh <;> first | rfl | simp [Sh.isSl] at hs
      rw [e] at hcr
      simp only [CRep, if_pos hs] at hcr
      have hp := (ownS_pl hpl).1 hcr
      refine ⟨hpl, hp.move f.keeps fun z hz => ?_, ?_⟩
      ·have ho := hp.blk_own hz
       have hlt := hown _ _ ho
       refine ⟨?_, heap_alloc_lt hlt, fun o => Iff.rfl⟩
       simp only [g1, Gh.new]
       rw [if_neg (by omega), ho]; rfl
      ·cases hz : blk v with
       | none => simp only [B, hv', Option.bind_some, hz, Option.filter_none]
       | some z =>
         have ho := hp.blk_own hz
         symm
         simp only [B, hv', Option.bind_some, hz, Option.filter_eq_some_iff, decide_eq_true_eq, true_and]
         exact ho
     ·rename_i hs
      have e : csh.top = .pure := by cases csh <;> first | rfl | simp [Sh.isSl] at hs
      rw [e] at hcr
      exact PureC.keeps f.keeps _ _ _ hcr
 have hcr : CRep w1 g1 (.hand 0) ⟨.dl es, .own, List.map some l⟩ (.slice (some ⟨w.heap.size, 0, none⟩) l.length l.length) := by
  simp only [CRep, Sh.isSl, if_true]
  have hll : (List.map some l).length = l.length := List.length_map ..
  refine .inr ⟨w.heap.size, l.length, vs.toArray, e, by simp only [slLen]; rw [hll], by simp only [slLen]; rw [hll]; exact Nat.le_refl _, hsm, by simp [g1, Gh.new], heap_alloc_eq, by simp only [Sh.n]; simpa using hvl, ⟨rfl, ?_⟩, fun o => ⟨fun hf => ?_, fun hf => by cases hf.1⟩⟩
  ·simp only [slLen, Sh.n]; rw [hll]
   rw [List.take_of_length_le (by simpa using Nat.le_of_eq hvl)]
   exact hrows
  ·have hf : g.F w.heap.size o := hf
   have := hF _ _ hf; omega
 obtain ⟨g2, r2, _, _⟩ := r1.setHand hd (v := .slice (some ⟨w.heap.size, 0, none⟩) l.length l.length) (ag := false) (cs := [⟨.dl es, .own, List.map some l⟩]) rfl ⟨_, [], rfl, hcr, rfl⟩
 exact ⟨g2, r2⟩
theorem op_buildSlice (hT : TyOk P E.ty) {t : TypeId} {n : Nat} {ps : Array (Nat × Operand)} (ho : o.op = .buildSlice t n ps) : OpOk P E C o := by
 intro s a w g us d Q h hdst hd hp
 simp only [plan, ho, hdst] at hp
 split at hp
 ·rename_i ag sh fl ft e hi
  obtain ⟨⟨rows, us'⟩, hf, hp⟩ := dyn_bind hp
  obtain ⟨hc, hp⟩ := bif_some hp
  simp only [Bool.and_eq_true] at hc
  have hrn := Nat.eq_of_beq_eq_true hc.1.1
  have hpos := Nat.le_of_ble_eq_true hc.1.2
  have hsm := Nat.le_of_ble_eq_true hc.2
  obtain ⟨info, de, z, hat⟩ := hT.at_ hi
  obtain ⟨sh', j, rfl, _, hcs, hsl, hj, hjc⟩ := hat.elem rfl
  simp only [List.cons.injEq, and_true] at hcs; subst hcs
  obtain ⟨ie, de', z', hate⟩ := hT.at_ hj
  have hsa : shapesAt E e = slCells sh := by simp only [shapesAt, hj, hjc]
  have hlen : (shapesAt E e).length = sh.n := by rw [hsa, slCells_length]
  have hisz : ie.size = sh.n := by rw [hate.size, hjc, slCells_length]
  rw [hlen] at hpos hsm
  obtain ⟨us2, g1, rest, eu, r1, hh, er, hrl, hidx, htga⟩ := rowParts_ok (agAt E e) _ ps.toList 0 s g [] [] [] [] rows us' h rfl rfl hf
  simp only [List.nil_append, List.reverse_nil] at eu er hh
  subst eu er
  have hpl : ps.toList.length = n := by have := congrArg List.length hrl; simp only [List.length_map] at this; omega
  let vals := (ps.map fun x => (x.1, a.eval x.2)).toList
  have hvl : vals.length = n := by simp only [vals, Array.toList_map, List.length_map]; exact hpl
  have hflat : (ps.toList.flatMap fun x => (a.eval x.2).cells.toList) = vals.flatMap fun v => v.2.cells.toList := by
   simp only [vals, Array.toList_map, List.flatMap_map]
  have hrun : (∀ r, r ∈ rows → r.length = sh.n) → (Instr.buildSlice t n (ps.map fun x => (x.1, a.eval x.2))).run P w = .ok (.slice (some ⟨w.heap.size, 0, none⟩) n n) (w.alloc (.cells (vals.flatMap fun v => v.2.cells.toList).toArray e)) := by
   intro hrows
   by_cases hn0 : n = 0
   ·have e0 : (ps.map fun x => (x.1, a.eval x.2)) = #[] := by
     apply Array.toList_inj.1
     show vals = []
     exact List.eq_nil_of_length_eq_zero (by rw [hvl]; exact hn0)
    have ev : vals = [] := by simp only [vals]; rw [e0]
    rw [e0, ev, hn0]
    exact buildSlice_zero w t e ie hat.und hate.inf
   ·refine run_buildSlice w t e n _ _ ie z' hat.und hate.inf hate.zero (by rw [hisz]; omega) (by rw [hisz]; have := Nat.mul_pos (Nat.pos_of_ne_zero hn0) hpos; omega) ?_
    rw [hisz]
    refine fill_parts hpos (n := n) vals ?_ _ ?_ (by rw [hvl]; simp)
    ·have e1 : vals.map (·.1) = ps.toList.map (·.1) := by simp only [vals, Array.toList_map, List.map_map]; rfl
     rw [e1, hvl, ← hpl]; exact hidx
    ·intro v hv
     simp only [vals, Array.toList_map, List.mem_map] at hv
     obtain ⟨p, hp', rfl⟩ := hv
     have : (a.eval p.2).cells.size ∈ rows.map List.length := by rw [hrl]; exact List.mem_map.2 ⟨p, hp', rfl⟩
     obtain ⟨r, hr1, hr2⟩ := List.mem_map.1 this
     rw [← hr2]; exact hrows r hr1
  have main : ∀ (x : El sh), canFz rows.flatten = true → slLen sh x = n → (∀ (g : Gh) vs, CsRep w g .hand 0 (rows.flatten.map (·.to .pure)) vs → ElsR w g.F sh x vs) → (∀ r, r ∈ rows → r.length = sh.n) → us = us' ++ [.tm d (.val false [⟨sh, .own, x⟩])] →
   o.wp P a w (fun a' w' => ∃ g', Rel E C (s.upds us) a' w' g') Q := by
   intro x hdead hxl hels hrows hus
   obtain ⟨g2, f2, b2, o2, a2, c2⟩ := freeze_all (by intro i j e; cases e; rfl) r1.base hdead hh
   have r2 : Rel E C (s.upds us') a w g2 := r1.world (f2.mono fun o ho j _ _ => ho j) b2 a2
   have hx := hels g2 _ c2
   have hxlen := hx.length
   rw [hxl] at hxlen
   have hrun := hrun hrows
   rw [hflat] at hx hxlen
   obtain ⟨g3, r3⟩ := hand_new r2 hd hsl (x := x) (cells := (vals.flatMap fun v => v.2.cells.toList).toArray) (c := n) e (by
    rw [hxl, List.take_of_length_le (by simpa using Nat.le_of_eq hxlen)]; exact hx) (by omega) (by
    have : n ≤ n * sh.n := Nat.le_mul_of_pos_right n hpos
    have : n ≤ 16777216 := by omega
    exact Nat.le_trans this (by decide)) (by simpa using hxlen)
   have hex : (execOp a.eval o).run P w = .ok (.value (.slice (some ⟨w.heap.size, 0, none⟩) n n)) (w.alloc (.cells (vals.flatMap fun v => v.2.cells.toList).toArray e)) := by
    simp only [execOp, ho, Sem.run_bind, hrun, Result.andThen_ok, Sem.run_pure]
   unfold Oper.wp
   rw [hex, Oper.upon_value, hdst, hus, upds_append]
   rw [hxl] at r3
   exact ⟨g3, r3⟩
  cases sh with
  | sl es =>
    simp only [] at hp
    split at hp
    ·rename_i l hl
     rw [ofRows_eq] at hl
     have hlr : ∀ r, r ∈ rows → r.length = es.length := by
      have : ∀ (rows : List (List CV)) (l : List (ElA es)), rowsWith (ofCells es) rows = some l → ∀ r, r ∈ rows → r.length = es.length := by
       intro rows
       induction rows with
       | nil => intro l _ r hr; cases hr
       | cons r0 rs ih =>
         intro l hl r hr
         obtain ⟨e, l', _, h2, h3, rfl⟩ := rowsWith_cons hl
         rcases List.mem_cons.1 hr with rfl | hr
         ·have := congrArg List.length (ofCells_sh es r e h2); simpa using this
         ·exact ih l' h3 r hr
      exact this rows l hl
     cases hdp : deepAt E d with
     | true =>
       rw [hdp] at hp
       obtain rfl := ret_some hp
       have hln : l.length = n := by rw [(rowsWith_dead hl).2]; exact hrn
       rw [hflat] at hh
       obtain ⟨g3, r3⟩ := hand_newD r1 hd hh (fun r hr c hc => by
        have := htga r hr
        rw [hdp] at this
        have hm : (c.sh, c.tg) ∈ (shapesAt E e).map fun sh => (sh, bif true then sh.top else .pure) := by
         rw [← this]; exact List.mem_map.2 ⟨c, hc, rfl⟩
        obtain ⟨sh, _, e1⟩ := List.mem_map.1 hm
        simp only [cond_true, Prod.mk.injEq] at e1
        rw [← e1.1, ← e1.2]) hl hlr e (by
        have : n ≤ n * (Sh.sl es).n := Nat.le_mul_of_pos_right n hpos
        have : n ≤ 16777216 := by omega
        rw [hln]
        exact Nat.le_trans this (by decide))
       have hex : (execOp a.eval o).run P w = .ok (.value (.slice (some ⟨w.heap.size, 0, none⟩) n n)) (w.alloc (.cells (vals.flatMap fun v => v.2.cells.toList).toArray e)) := by
        simp only [execOp, ho, Sem.run_bind, hrun hlr, Result.andThen_ok, Sem.run_pure]
       unfold Oper.wp
       rw [hex, Oper.upon_value, hdst, upds_append]
       rw [hln] at r3
       exact ⟨g3, r3⟩
     | false =>
     rw [hdp] at hp
     obtain rfl := ret_some hp
     obtain ⟨k1, k2⟩ := rowsWith_dead hl
     refine main l k1 (by show List.length l = n; rw [k2]; exact hrn) (fun g vs hv => rowsWith_ok (rowy_elems es) (fun r e i vs hf hv => tuple_ok .hand es _ e i vs (by rw [ofCells_to]; exact hf) (fun c hc => by
      obtain ⟨c', _, rfl⟩ := List.mem_map.1 hc; rfl) hv) rows l 0 vs hl hv) (fun r hr => ?_) rfl
     have : ∀ (rows : List (List CV)) (l : List (ElA es)), rowsWith (ofCells es) rows = some l → ∀ r, r ∈ rows → r.length = es.length := by
      intro rows
      induction rows with
      | nil => intro l _ r hr; cases hr
      | cons r0 rs ih =>
        intro l hl r hr
        obtain ⟨e, l', _, h2, h3, rfl⟩ := rowsWith_cons hl
        rcases List.mem_cons.1 hr with rfl | hr
        ·have := congrArg List.length (ofCells_sh es r e h2); simpa using this
        ·exact ih l' h3 r hr
     exact this rows l hl r hr
    ·exact (fail_some hp).elim
  | rsl ss =>
    simp only [] at hp
    split at hp
    ·rename_i l hl
     cases hdp : deepAt E d with
     | true => rw [hdp] at hp; exact (fail_some hp).elim
     | false =>
     rw [hdp] at hp
     obtain rfl := ret_some hp
     rw [ofTrees_eq] at hl
     obtain ⟨k1, k2⟩ := rowsWith_dead hl
     refine main l k1 (by show List.length l = n; rw [k2]; exact hrn) (fun g vs hv => rowsWith_ok (rowy_trees ss) (fun r e i vs hf hv => tree_ok .hand ss _ e i vs (by rw [ofTree_to]; exact hf) (fun c hc => by
      obtain ⟨c', _, rfl⟩ := List.mem_map.1 hc; rfl) hv) rows l 0 vs hl hv) (fun r hr => ?_) rfl
     have : ∀ (rows : List (List CV)) (l : List (RT (ElA ss))), rowsWith (ofTree ss) rows = some l → ∀ r, r ∈ rows → r.length = ss.length + 1 := by
      intro rows
      induction rows with
      | nil => intro l _ r hr; cases hr
      | cons r0 rs ih =>
        intro l hl r hr
        obtain ⟨e, l', _, h2, h3, rfl⟩ := rowsWith_cons hl
        rcases List.mem_cons.1 hr with rfl | hr
        ·unfold ofTree at h2
         split at h2
         ·rename_i hk
          have := congrArg List.length hk
          simp at this; omega
         ·cases h2
        ·exact ih l' h3 r hr
     exact this rows l hl r hr
    ·exact (fail_some hp).elim
  | int k => exact (fail_some hp).elim
  | bool => exact (fail_some hp).elim
  | str => exact (fail_some hp).elim
  | dl _ => exact (fail_some hp).elim
 ·exact (fail_some hp).elim
end
end Go.AM
end
section
set_option linter.unusedVariables false
namespace Go.AM
open Go
section
variable {P : Program} {E : Env} {C : Ctx} {s s' : St} {a a' : Act} {w w' : World} {g g' : Gh} {o : Oper} {Q : Exit → Act → World → Prop}
def EntP (w : World) (g : Gh) : List PK → Nat → List CV → List Value → Prop
 | [], _, cs, vs => cs = [] ∧ vs = []
 | .val ag want :: ps, i, cs, vs => ∃ v ws, vs = v :: ws ∧ VRep w g (.tm i) 0 ag (cs.take want.length) v ∧ EntP w g ps (i + 1) (cs.drop want.length) ws
 | .ptr want :: ps, i, cs, vs => ∃ v ws, vs = v :: ws ∧ (v = .pointer (some ⟨g.at_ i, 0, none⟩) ∧ BxRep w g i ⟨0, (cs.take want.length).map fun c => (c, 0)⟩) ∧ EntP w g ps (i + 1) (cs.drop want.length) ws
 | .rptr want :: ps, i, cs, vs => ∃ v ws, vs = v :: ws ∧ (∃ b off sg, v = .pointer (some ⟨b, off, none⟩) ∧ RowF w g.F ⟨b, off, none⟩ sg ∧ allPure (cs.take want.length) = true ∧ CsRep w g (.tm i) 0 (cs.take want.length) sg) ∧ EntP w g ps (i + 1) (cs.drop want.length) ws
 | .fn f :: ps, i, cs, vs => ∃ v ws, vs = v :: ws ∧ v = .func (.func f) #[] #[] ∧ EntP w g ps (i + 1) cs ws
 | .io want :: ps, i, cs, vs => ∃ v ws, vs = v :: ws ∧ VRep w g (.tm i) 0 false (cs.take want.length) v ∧ EntP w g ps (i + 1) (cs.drop want.length) ws
def GlobOk (glob : Nat → Option (List CV)) (w : World) (g : Gh) : Prop := ∀ gl cs, glob gl = some cs → allPure cs = true ∧ ∃ vs, RowF w g.F ⟨gl, 0, none⟩ vs ∧ CsRep w g .hand 0 cs vs
def PtrV (w : World) (g g' : Gh) : List PK → Nat → List Value → List CV → Prop
 | [], _, _, _ => True
 | .ptr want :: ps, i, vs, cs => (g'.at_ i = g.at_ i ∧ BxRep w g' i ⟨0, (cs.take want.length).map fun c => (c, 0)⟩) ∧ PtrV w g g' ps (i + 1) vs.tail (cs.drop want.length)
 | .io want :: ps, i, vs, cs => (∃ v, vs.head? = some v ∧ VRep w g' (.tm i) 0 false (cs.take want.length) v) ∧ PtrV w g g' ps (i + 1) vs.tail (cs.drop want.length)
 | _ :: ps, i, vs, cs => PtrV w g g' ps (i + 1) vs.tail cs
def ResV (w : World) (g : Gh) (mk : Nat → Owner) (ts : List (Bool × List CV)) (v : Value) : Prop :=
 match ts with
 | [(ag, cs)] => VRep w g mk 0 ag cs v
 | ts => ∃ vs, v = .tuple vs.toArray ∧ TsRep w g mk 0 ts vs
def Enters (P : Program) (f : FuncId) : Prop := ∃ fn, P.funcs[f]? = some fn ∧ fn.body.isNone = false ∧ (fn.name == "runtime.NumGoroutine") = false
def Good (P : Program) (glob : Nat → Option (List CV)) (sig : Sig) (f : sig.In → Option sig.Out) : Prop :=
 ∀ x r, f x = some r → Enters P sig.fn ∧ ∀ (w : World) (g : Gh) (vals : List Value), EntP w g sig.params 0 (retag sig.ins (cellsOf _ x)) vals → GlobOk glob w g → (∀ b ow, g.own b = some ow → b < w.heap.size) → (∀ b o, g.F b o → b < w.heap.size) → (∀ b ow cs t f, g.own b = some ow → w.heap[b]? = some (.cells cs t f) → f = (0, 0)) →
  Calls P sig.fn vals.toArray w fun e w' => ∃ v g', e = .returned v ∧ Base w g.F (fun b => ∃ ow, g.own b = some ow) w' g' ∧
   ResV w' g' .hand (resT sig.res (retag sig.outs (cellsOf _ r))).1 v ∧ PtrV w' g g' sig.params 0 vals (resT sig.res (retag sig.outs (cellsOf _ r))).2
theorem EntP.length : ∀ {ps : List PK} {i : Nat} {cs : List CV} {vs : List Value}, EntP w g ps i cs vs → vs.length = ps.length
 | [], _, _, _, h => by simp [h.2]
 | .val _ _ :: ps, i, cs, _, ⟨v, ws, e, _, h⟩ => by simp [e, h.length]
 | .ptr _ :: ps, i, cs, _, ⟨v, ws, e, _, h⟩ => by simp [e, h.length]
 | .rptr _ :: ps, i, cs, _, ⟨v, ws, e, _, h⟩ => by simp [e, h.length]
 | .fn _ :: ps, i, cs, _, ⟨v, ws, e, _, h⟩ => by simp [e, h.length]
 | .io _ :: ps, i, cs, _, ⟨v, ws, e, _, h⟩ => by simp [e, h.length]
def lent (F : Fz) : Gh := ⟨fun _ => 0, fun _ => none, F⟩
theorem CsRep.lent {F : Fz} {mk mk' : Nat → Owner} {cs : List CV} {i j : Nat} {vs : List Value} (hF : ∀ b o, g.F b o → F b o) (hp : allPure cs = true) (h : CsRep w g mk i cs vs) : CsRep w (lent F) mk' j cs vs :=
 CsRep.pures (g' := AM.lent F) (show Keeps w w g.F F from Keeps.same hF) cs i j vs hp h
theorem thaw_pl {c : CV} (h : c.sh.isPl = true) {shs : List Sh} {ds : List CV} (ht : (thaw [c] shs).run = some ds) : ds = [c] := by
 cases shs with
 | nil => exact (ret_some ht).symm
 | cons sh shs =>
   have h1 : thaw1 c sh = .ret c := by
    obtain ⟨csh, ct, cx⟩ := c
    cases csh <;> first | rfl | simp [Sh.isPl] at h
   simp only [thaw, h1] at ht
   cases shs <;> exact (ret_some ht).symm
theorem pured_ok (h : Base C.w0 C.F0 C.X w g) {mk : Nat → Owner} (hinj : ∀ i j, mk i = mk j → i = j) {cs ds : List CV} {want : List (Sh × Tg)} {i : Nat} {vs : List Value} (hc : CsRep w g mk i cs vs) (hp : (pured cs want).run = some ds) :
 ∃ F' : Fz, (∀ b o, g.F b o → F' b o) ∧ (∀ b o, F' b o → b < w.heap.size) ∧ allPure ds = true ∧ Tagged ds want ∧ ∀ (mk' : Nat → Owner) j, CsRep w (lent F') mk' j ds vs := by
 unfold pured at hp
 obtain ⟨cs2, hth, hp⟩ := dyn_bind hp
 obtain ⟨g0, f0, b0, _, _, hc0, _⟩ := thaw_ok hinj cs _ cs2 i vs g h hth hc
 split at hp
 ·rename_i ds' hw
  obtain ⟨hpu, hp⟩ := bif_some hp
  obtain rfl := ret_some hp
  obtain ⟨g1, f1, b1, _, _, hd, _⟩ := weaken_ok hinj cs2 want _ i vs g0 b0 hw hc0
  exact ⟨g1.F, fun b o hf => f1.keeps.sub b o (f0.keeps.sub b o hf), fun b o hf => (b1.fz b o hf).2, hpu, weaken_tagged hw, fun mk' j => hd.lent (fun _ _ h => h) hpu⟩
 ·exact (fail_some hp).elim
theorem opMk_inj {x : Operand} : ∀ i j, opMk x i = opMk x j → i = j := by cases x <;> simp [opMk]
theorem lendT_ok (h : Rel E C s a w g) {t : T} {v : Value} {mk : Nat → Owner} (hv : TV s a w g mk t v) {want : List (Sh × Tg)} {ds : List CV} (hl : (lendT s t want).run = some ds) :
 ∃ F' : Fz, (∀ b o, g.F b o → F' b o) ∧ (∀ b o, F' b o → b < w.heap.size) ∧ Tagged ds (PK.rptr want).cells ∧ ∀ F, (∀ b o, F' b o → F b o) → ∀ i (ps : List PK) cs vs, EntP w (lent F) ps (i + 1) cs vs → EntP w (lent F) (.rptr want :: ps) i (ds ++ cs) (v :: vs) := by
 have hbF : ∀ b o, g.F b o → b < w.heap.size := fun b o e => (h.base.fz b o e).2
 have fin2 : ∀ {F' : Fz} {sg : List Value} {b off : Nat}, v = .pointer (some ⟨b, off, none⟩) → RowF w F' ⟨b, off, none⟩ sg → (∀ b o, g.F b o → F' b o) → (∀ b o, F' b o → b < w.heap.size) → allPure ds = true → Tagged ds want → (∀ (mk' : Nat → Owner) j, CsRep w (lent F') mk' j ds sg) →
  ∃ F' : Fz, (∀ b o, g.F b o → F' b o) ∧ (∀ b o, F' b o → b < w.heap.size) ∧ Tagged ds (PK.rptr want).cells ∧ ∀ F, (∀ b o, F' b o → F b o) → ∀ i (ps : List PK) cs vs, EntP w (lent F) ps (i + 1) cs vs → EntP w (lent F) (.rptr want :: ps) i (ds ++ cs) (v :: vs) := by
  intro F' sg b off hv hrow h1 h2 hpu htg hrep
  have hlen : ds.length = want.length := by have := congrArg List.length htg; simpa using this
  refine ⟨F', h1, h2, htg, fun F hF i ps cs vs he => ⟨_, vs, rfl, ⟨b, off, sg, hv, hrow.keeps (show Keeps w w F' F from Keeps.same hF), ?_, ?_⟩, ?_⟩⟩
  ·rw [← hlen, List.take_left]; exact hpu
  ·rw [← hlen, List.take_left]
   exact CsRep.lent (g := lent F') hF hpu (hrep (.tm i) 0)
  ·rw [← hlen, List.drop_left]; exact he
 unfold lendT at hl
 split at hl
 ·rename_i p
  split at hl
  ·rename_i hsub
   obtain ⟨cs, hc, hl⟩ := dyn_bind hl
   have hc := content_none hsub hc
   obtain ⟨_, hv⟩ : Old s p ∧ _ := hv
   rw [hsub] at hv
   obtain ⟨n, hn, hv⟩ := hv
   obtain ⟨hroot, hlen⟩ := h.pl hc
   have hb : ∃ b, s.bx n = some b ∧ b.inst = p.inst := by
    have := hc
    rw [plCells_iff] at this
    obtain ⟨cells, e, _⟩ := this
    rw [hn] at e; simp only [rootCells] at e
    cases hb : s.bx n with
    | none => rw [hb] at e; simp at e
    | some b => rw [hb] at e; simp only [Option.some.injEq, Prod.mk.injEq] at e; exact ⟨b, rfl, e.1⟩
   obtain ⟨b, hb, hbi⟩ := hb
   obtain ⟨cur, et, h1, h2, _, h4⟩ := h.bx n b hb
   have hrv : rootVals a w g p.root = cur.toList := by rw [hn]; exact rootVals_box h1
   obtain ⟨F', k1, k2, k3, k4, k5⟩ := pured_ok h.base (rootMk_inj _) hroot hl
   rw [hrv] at k5
   refine fin2 (F' := fun b o => F' b o ∨ b = g.at_ n) (hv b hb hbi) (fun j hj => ⟨?_, .inr rfl⟩) (fun b o hf => .inl (k1 b o hf)) (fun b o hf => ?_) k3 k4 fun mk' j => CsRep.lent (g := lent F') (fun _ _ h => .inl h) k3 (k5 .hand 0)
   ·have hj' : j < want.length := by simp at hj; omega
    simp only
    rw [cell_of_heap h1, List.getElem?_take, if_pos hj', List.getElem?_drop]; simp
   ·rcases hf with hf | rfl
    ·exact k2 b o hf
    ·exact lt_of_heap h1
  ·exact (fail_some hl).elim
 ·unfold giveR at hl
  split at hl
  ·rename_i cs0 off _
   obtain ⟨hle, hl⟩ := bif_some hl
   have hle := Nat.le_of_ble_eq_true hle
   split at hl
   ·rename_i ds' hw
    obtain ⟨hpu, hl⟩ := bif_some hl
    obtain rfl := ret_some hl
    obtain ⟨ad, vs, e1, hrow, hpure, hcs⟩ : ∃ (ad : Addr) (vs : List Value), v = .pointer (some ⟨ad.block, ad.off + off, none⟩) ∧ RowF w g.F ad vs ∧ allPure cs0 = true ∧ CsRep w g mk 0 cs0 vs := hv
    have hsub := hcs.sub off want.length
    have hlv := hcs.length
    have hp2 : allPure ((cs0.drop off).take want.length) = true := by
     unfold allPure at hpure ⊢
     rw [List.all_eq_true] at hpure ⊢
     exact fun c hc => hpure c (List.mem_of_mem_drop (List.mem_of_mem_take hc))
    refine fin2 (F' := g.F) (sg := (vs.drop off).take want.length) e1 (fun j hj => ?_) (fun _ _ h => h) hbF hpu (weaken_tagged hw) fun mk' j => CsRep.lent (fun _ _ h => h) hpu (weaken_pure (mk' := mk') (j := j) hp2 hw hsub)
    have hj' : j < want.length := by simp at hj; omega
    have := hrow (off + j) (by omega)
    simp only at this ⊢
    rw [List.getElem?_take, if_pos hj', List.getElem?_drop, Nat.add_assoc]
    exact this
   ·exact (fail_some hl).elim
  ·exact (fail_some hl).elim
theorem lendP_ok (h : Rel E C s a w g) {x : Operand} {pk : PK} {ds : List CV} (hl : (lendP E s pk x).run = some ds) :
 ∃ F' : Fz, (∀ b o, g.F b o → F' b o) ∧ (∀ b o, F' b o → b < w.heap.size) ∧ Tagged ds pk.cells ∧ ∀ F, (∀ b o, F' b o → F b o) → ∀ i (ps : List PK) cs vs, EntP w (lent F) ps (i + 1) cs vs → EntP w (lent F) (pk :: ps) i (ds ++ cs) (a.eval x :: vs) := by
 have hbF : ∀ b o, g.F b o → b < w.heap.size := fun b o e => (h.base.fz b o e).2
 unfold lendP at hl
 have fin : ∀ {ag : Bool} {want : List (Sh × Tg)} {F' : Fz}, isAgg (a.eval x) = ag → (∀ b o, g.F b o → F' b o) → (∀ b o, F' b o → b < w.heap.size) → allPure ds = true → Tagged ds want → (∀ (mk' : Nat → Owner) j, CsRep w (lent F') mk' j ds (a.eval x).cells.toList) →
  ∃ F' : Fz, (∀ b o, g.F b o → F' b o) ∧ (∀ b o, F' b o → b < w.heap.size) ∧ Tagged ds (PK.val ag want).cells ∧ ∀ F, (∀ b o, F' b o → F b o) → ∀ i (ps : List PK) cs vs, EntP w (lent F) ps (i + 1) cs vs → EntP w (lent F) (.val ag want :: ps) i (ds ++ cs) (a.eval x :: vs) := by
  intro ag want F' hag h1 h2 hpu htg hrep
  have hlen : ds.length = want.length := by have := congrArg List.length htg; simpa using this
  refine ⟨F', h1, h2, htg, fun F hF i ps cs vs he => ⟨_, vs, rfl, ⟨hag, ?_⟩, ?_⟩⟩
  ·rw [← hlen, List.take_left]
   exact CsRep.lent (g := lent F') hF hpu (hrep (.tm i) 0)
  ·rw [← hlen, List.drop_left]; exact he
 cases pk with
 | val ag0 want =>
   simp only [] at hl
   split at hl
   ·rename_i ag cs hx
    obtain ⟨hag, hl⟩ := bif_some hl
    have hag : ag = ag0 := by simpa using hag
    have hv := val_of_at h hx (by simp)
    obtain ⟨F', h1, h2, h3, h4, h5⟩ := pured_ok h.base opMk_inj hv.2 hl
    exact fin (hv.1.trans hag) h1 h2 h3 h4 h5
   ·rename_i p ag n hx
    obtain ⟨hag, hl⟩ := bif_some hl
    have hag : ag = ag0 := by simpa using hag
    obtain ⟨_, _, hsub, hv⟩ := val_of_at h hx (by simp)
    obtain ⟨cs, hc, hl⟩ := dyn_bind hl
    have hc := content_none hsub hc
    obtain ⟨k1, k2⟩ := hv _ hc
    obtain ⟨F', h1, h2, h3, h4, h5⟩ := pured_ok h.base (rootMk_inj _) (h.pl hc).1 hl
    rw [← k2] at h5
    exact fin (k1.trans hag) h1 h2 h3 h4 h5
   ·rename_i p z lo hi hx
    cases hag0 : ag0 with
    | true => rw [hag0] at hl; exact (fail_some hl).elim
    | false =>
      rw [hag0] at hl
      simp only [cond_false] at hl
      obtain ⟨_, _, hsub, _, hv⟩ := val_of_at h hx (by simp)
      obtain ⟨cs, hc, hl⟩ := dyn_bind hl
      have hc := content_none hsub hc
      obtain ⟨c, rfl⟩ := pl_one hc
      simp only [] at hl
      split at hl
      ·rename_i d hd
       obtain ⟨hsl, hnd, rfl⟩ := subRange_some hd
       have hdl : c.sh.dlOk .pure = true := by cases hs : c.sh <;> first | rfl | (rw [hs] at hsl; simp [Sh.isPl] at hsl)
       obtain ⟨A, l, k, e1, k1, k2, k3, k4⟩ := hv c hc
       obtain ⟨u, e2, hcr, _⟩ := root_one h hc
       rw [e1] at e2; cases e2
       have hle : Tg.le .pure c.tg = true := by
        cases htg : c.tg <;> first | rfl | exact absurd htg hnd
       obtain ⟨g1, f1, b1, _, _, hp1, _⟩ := hcr.weak h.base hle hdl
       have hpc : PureC w g1.F c.sh (slSub c.sh c.x lo hi) (subSl A k lo hi c.sh.n) := PureC.sub hsl hp1 k1 k2
       unfold pured at hl
       obtain ⟨cs2, hth, hl⟩ := dyn_bind hl
       obtain rfl := thaw_pl (c := ⟨c.sh, c.tg, slSub c.sh c.x lo hi⟩) hsl hth
       split at hl
       ·rename_i ds' hw
        obtain ⟨hpu, hl⟩ := bif_some hl
        obtain rfl := ret_some hl
        obtain ⟨tg, rfl, rfl, _⟩ := weaken_one hw
        have htg : tg = .pure := allPure_tg hpu _ (List.mem_singleton.2 rfl)
        subst htg
        have hagx : isAgg (a.eval x) = false := by rw [k4]; rfl
        refine fin hagx f1.keeps.sub (fun b o hf => (b1.fz b o hf).2) hpu (weaken_tagged hw) fun mk' j => ?_
        rw [cells_of_notAgg hagx, k4]
        exact ⟨_, [], rfl, hpc, rfl⟩
       ·exact (fail_some hl).elim
      ·exact (fail_some hl).elim
   ·rename_i hx
    cases hag0 : ag0 with
    | true => rw [hag0] at hl; exact (fail_some hl).elim
    | false =>
      rw [hag0] at hl
      simp only [cond_false] at hl
      obtain ⟨ds', hn, hl⟩ := dyn_bind hl
      obtain ⟨hpu, hl⟩ := bif_some hl
      obtain rfl := ret_some hl
      obtain ⟨sh, tg, rfl, hsl, rfl⟩ := nilAs_ok hn
      have hval : a.eval x = .slice none 0 0 := by
       rcases h.at_ x with ⟨_, e⟩ | e
       ·exact e
       ·rw [hx] at e; exact e.elim
      refine fin (F' := g.F) (by rw [hval]; rfl) (fun _ _ h => h) hbF hpu rfl fun mk' j => ?_
      rw [hval]
      exact ⟨_, [], rfl, zero_any hsl tg, rfl⟩
   ·exact (fail_some hl).elim
 | ptr want => exact (fail_some hl).elim
 | io want => exact (fail_some hl).elim
 | fn f =>
   simp only [] at hl
   split at hl
   ·rename_i f' hx
    have hl2 := bif_some hl
    have hf := Nat.eq_of_beq_eq_true hl2.1
    obtain rfl := ret_some hl2.2
    have hv := val_of_at h hx (by simp)
    subst hf
    exact ⟨g.F, fun _ _ h => h, hbF, rfl, fun F hF i ps cs vs he => ⟨_, vs, rfl, hv, he⟩⟩
   ·exact (fail_some hl).elim
 | rptr want =>
   rcases h.at_ x with ⟨e, _⟩ | e
   ·simp only [e] at hl
    exact (fail_some hl).elim
   ·exact lendT_ok h e hl
theorem lendAll_ok (h : Rel E C s a w g) {mk : Nat → Owner} : ∀ {ts : List T} {cvs : List Value}, CapsRep s a w g mk ts cvs → ∀ (ps : List PK) (xs : List Operand) (cs : List CV), (lendAll E s ps xs ts).run = some cs →
 ∃ F' : Fz, (∀ b o, g.F b o → F' b o) ∧ (∀ b o, F' b o → b < w.heap.size) ∧ Tagged cs (ps.flatMap PK.cells) ∧ ∀ F, (∀ b o, F' b o → F b o) → ∀ i, EntP w (lent F) ps i cs (xs.map a.eval ++ cvs)
 | [], cvs, hcap, [], [], cs, hl => by
   obtain rfl := ret_some hl
   have hcap : cvs = [] := hcap
   subst hcap
   exact ⟨g.F, fun _ _ h => h, fun b o e => (h.base.fz b o e).2, rfl, fun F hF i => ⟨rfl, rfl⟩⟩
 | _ :: _, _, _, [], [], _, hl => (fail_some hl).elim
 | _, _, _, [], _ :: _, _, hl => (fail_some hl).elim
 | [], _, _, p :: _, [], _, hl => by cases p <;> exact (fail_some hl).elim
 | ts, cvs, hcap, p :: ps, x :: xs, cs, hl => by
   simp only [lendAll] at hl
   obtain ⟨ds, h1, hl⟩ := dyn_bind hl
   obtain ⟨es, h2, hl⟩ := dyn_bind hl
   obtain rfl := ret_some hl
   obtain ⟨F1, a1, b1, c1, d1⟩ := lendP_ok h h1
   obtain ⟨F2, a2, b2, c2, d2⟩ := lendAll_ok h hcap ps xs es h2
   refine ⟨fun b o => F1 b o ∨ F2 b o, fun b o e => .inl (a1 b o e), fun b o e => e.elim (b1 b o) (b2 b o), by rw [List.flatMap_cons]; exact c1.append c2, fun F hF i => ?_⟩
   exact d1 F (fun b o e => hF b o (.inl e)) i ps es _ (d2 F (fun b o e => hF b o (.inr e)) (i + 1))
 | t :: ts, cvs, ⟨v, ws, e, hk, ht, hcap⟩, .rptr want :: ps, [], cs, hl => by
   subst e
   simp only [lendAll] at hl
   obtain ⟨ds, h1, hl⟩ := dyn_bind hl
   obtain ⟨es, h2, hl⟩ := dyn_bind hl
   obtain rfl := ret_some hl
   obtain ⟨F1, a1, b1, c1, d1⟩ := lendT_ok h (show TV s a w g mk t v from by cases t <;> first | exact ht | exact hk.elim) h1
   obtain ⟨F2, a2, b2, c2, d2⟩ := lendAll_ok h hcap ps [] es h2
   refine ⟨fun b o => F1 b o ∨ F2 b o, fun b o e => .inl (a1 b o e), fun b o e => e.elim (b1 b o) (b2 b o), by rw [List.flatMap_cons]; exact c1.append c2, fun F hF i => ?_⟩
   exact d1 F (fun b o e => hF b o (.inl e)) i ps es _ (d2 F (fun b o e => hF b o (.inr e)) (i + 1))
 | _ :: _, _, _, .val _ _ :: _, [], _, hl => (fail_some hl).elim
 | _ :: _, _, _, .ptr _ :: _, [], _, hl => (fail_some hl).elim
 | _ :: _, _, _, .fn _ :: _, [], _, hl => (fail_some hl).elim
 | _ :: _, _, _, .io _ :: _, [], _, hl => (fail_some hl).elim
end
end Go.AM
end
section
set_option linter.unusedVariables false
namespace Go.AM
open Go
section
variable {P : Program} {E : Env} {C : Ctx} {s s' : St} {a a' : Act} {w w' : World} {g g' : Gh} {o : Oper} {Q : Exit → Act → World → Prop}
theorem exec_call {cl : Call} {fo : Operand} {f : FuncId} (ho : o.op = .call cl) (hc : cl.callee = .value fo) {vs : Array Value} (hf : a.eval fo = .func (.func f) #[] vs) (he : Enters P f) :
 (execOp a.eval o).run P w = .ok (.enter f (cl.args.map a.eval ++ vs)) w := by
 obtain ⟨fn, h1, h2, h3⟩ := he
 have h4 : (invoke (.fn (.func f) vs) (cl.args.map a.eval)).run P w = .ok (.enter f (cl.args.map a.eval ++ vs)) w := by
  simp only [invoke, callFunc, Sem.run_bind, run_program, Result.andThen_ok, h1, h2, h3, Bool.false_eq_true, if_false, Sem.run_pure]
 simp only [execOp, ho, resolve, hc, hf, Deferred.ofValue]
 simpa using h4
theorem tag_eta {c : CV} {tg : Tg} (h : c.tg = tg) : c.to tg = c := by
 obtain ⟨sh, ct, x⟩ := c
 simp only at h; subst h; rfl
theorem castEl_back {c : CV} {sh : Sh} {y : El sh} (h : castEl c sh = some y) : (⟨sh, .pure, y⟩ : CV) = c.to .pure := by
 obtain ⟨e, rfl⟩ := castEl_some h
 obtain ⟨csh, ct, cx⟩ := c
 simp only at e; subst e; rfl
theorem cellsOf_ofCells : ∀ (es : List Sh) (cs : List CV) (x : ElA es), ofCells es cs = some x → cellsOf es x = cs.map (·.to .pure)
 | [], [], _, _ => rfl
 | [], _ :: _, _, ho => (none_some ho rfl).elim
 | [s], [], _, ho => (none_some ho rfl).elim
 | [s], [c], x, ho => by
   have := castEl_back (c := c) (sh := s) (y := x) ho
   show [(⟨s, .pure, x⟩ : CV)] = _
   rw [this]; rfl
 | [s], _ :: _ :: _, _, ho => (none_some ho rfl).elim
 | s :: t :: ss, [], _, ho => (none_some ho rfl).elim
 | s :: t :: ss, c :: cs, x, ho => by
   obtain ⟨y, z, hy, hz, rfl⟩ := ofCells_cons_some ho
   have h1 := castEl_back hy
   have h2 := cellsOf_ofCells (t :: ss) cs z hz
   show (⟨s, .pure, y⟩ : CV) :: cellsOf (t :: ss) z = _
   rw [h1, h2]; rfl
theorem retag_tagged : ∀ {cs : List CV} {want : List (Sh × Tg)}, Tagged cs want → retag want (cs.map (·.to .pure)) = cs
 | [], want, h => by cases want <;> simp [Tagged] at h <;> rfl
 | c :: cs, [], h => by simp [Tagged] at h
 | c :: cs, (sh, tg) :: want, h => by
   simp only [Tagged, List.map_cons, List.cons.injEq, Prod.mk.injEq] at h
   simp only [List.map_cons, retag]
   rw [retag_tagged h.2]
   congr 1
   obtain ⟨csh, ct, cx⟩ := c
   simp only at h
   obtain ⟨⟨_, rfl⟩, _⟩ := h
   rfl
theorem tagged_sig {cs : List CV} {sig : Sig} (h : Tagged cs (sig.params.flatMap PK.cells)) : Tagged cs sig.ins := h
theorem retag_of {cs : List CV} {sig : Sig} (h : Tagged cs sig.ins) {x : sig.In} (hx : ofCells (sig.ins.map (·.1)) cs = some x) : retag sig.ins (cellsOf _ x) = cs := by
 rw [cellsOf_ofCells _ _ _ hx, retag_tagged h]
theorem resTs_tv {ts : List (Bool × List CV)} {v : Value} {mk : Nat → Owner} (h : ResV w g mk ts v) : TV s a w g mk (oneT ts) v := by
 match ts, h with
 | [], h => exact h
 | [(ag, cs)], h => exact h
 | _ :: _ :: _, h => exact h
theorem scalar_free {g2 : Gh} {w2 : World} {ow ow' : Owner} {c : CV} {v : Value} (hs : c.sh.scalar = true) (h : CRep w g ow c v) : CRep w2 g2 ow' c v := by
 obtain ⟨sh, ct, x⟩ := c
 cases sh with
 | sl es => simp [Sh.scalar] at hs
 | rsl ss => simp [Sh.scalar] at hs
 | dl ss => simp [Sh.scalar] at hs
 | int k => cases ct <;> first | exact trivial | exact h
 | bool => cases ct <;> first | exact trivial | exact h
 | str => cases ct <;> first | exact trivial | exact h
theorem CsRep.free {g2 : Gh} {w2 : World} {mk mk' : Nat → Owner} : ∀ {cs : List CV} {i j : Nat} {vs : List Value}, (∀ c, c ∈ cs → c.sh.scalar = true) → CsRep w g mk i cs vs → CsRep w2 g2 mk' j cs vs
 | [], _, _, _, _, h => h
 | c :: cs, i, j, _, hs, ⟨v, ws, e, h1, h⟩ => ⟨v, ws, e, scalar_free (hs c (by simp)) h1, CsRep.free (fun c hc => hs c (by simp [hc])) h⟩
theorem TsRep.free {g2 : Gh} {w2 : World} {mk mk' : Nat → Owner} : ∀ {ts : List (Bool × List CV)} {i j : Nat} {vs : List Value}, (∀ t, t ∈ ts → ∀ c, c ∈ t.2 → c.sh.scalar = true) → TsRep w g mk i ts vs → TsRep w2 g2 mk' j ts vs
 | [], _, _, _, _, h => h
 | (ag, cs) :: ts, i, j, _, hs, ⟨v, ws, e, ⟨h0, h1⟩, h⟩ => ⟨v, ws, e, ⟨h0, CsRep.free (fun c hc => hs (ag, cs) (by simp) c hc) h1⟩, TsRep.free (fun t ht => hs t (by simp [ht])) h⟩
theorem resT_mem : ∀ {rs : List (Bool × List (Sh × Tg))} {cs : List CV} {t : Bool × List CV}, t ∈ (resT rs cs).1 → ∀ c, c ∈ t.2 → c ∈ cs
 | [], cs, t, h, _, _ => by simp [resT] at h
 | (ag, want) :: rs, cs, t, h, c, hc => by
   simp only [resT] at h
   rcases List.mem_cons.1 h with rfl | h
   ·exact List.mem_of_mem_take hc
   ·exact List.mem_of_mem_drop (resT_mem h c hc)
theorem retag_sh : ∀ {want : List (Sh × Tg)} {cs : List CV} {c : CV}, c ∈ retag want cs → ∃ c', c' ∈ cs ∧ c.sh = c'.sh
 | [], _, _, h => by simp [retag] at h
 | _ :: _, [], _, h => by simp [retag] at h
 | (sh, tg) :: want, c0 :: cs, c, h => by
   simp only [retag] at h
   rcases List.mem_cons.1 h with rfl | h
   ·exact ⟨c0, by simp, rfl⟩
   ·obtain ⟨c', h1, h2⟩ := retag_sh h
    exact ⟨c', by simp [h1], h2⟩
theorem call_lent {i : Nat} (hG : Good P E.glob (E.sig i) (E.call i)) (h : Rel E C s a w g) {cl : Call} {fo : Operand} (ho : o.op = .call cl) (hc : cl.callee = .value fo) {ts : List T} {cvs : List Value} {mk : Nat → Owner} (hcap : CapsRep s a w g mk ts cvs) (hf : a.eval fo = .func (.func (E.sig i).fn) #[] cvs.toArray)
 (hsc : (E.sig i).scalar = true) {d : Nat} (hdst : o.dst = some d) (hd : DOk E d) {us : List Upd} (hp : (callT E s d cl.args.toList ts i).run = some us) :
 o.wp P a w (fun a' w' => ∃ g', Rel E C (s.upds us) a' w' g') Q := by
 unfold callT at hp
 rw [hsc] at hp
 simp only [cond_true] at hp
 obtain ⟨cs, hl, hp⟩ := dyn_bind hp
 split at hp
 ·exact (fail_some hp).elim
 ·rename_i x hx
  obtain ⟨r, hr, hp⟩ := idx_some hp
  obtain rfl := ret_some hp
  obtain ⟨F', h1, h2, htg, hent⟩ := lendAll_ok h hcap _ _ cs hl
  obtain ⟨hen, hcall⟩ := hG x r hr
  have hret := retag_of (tagged_sig htg) hx
  have hE : EntP w (lent F') (E.sig i).params 0 (retag (E.sig i).ins (cellsOf _ x)) (cl.args.toList.map a.eval ++ cvs) := by rw [hret]; exact hent F' (fun _ _ h => h) 0
  have hglob : GlobOk E.glob w (lent F') := fun gl cs hg => by
   obtain ⟨k1, vs, k2, k3⟩ := h.glob gl cs hg
   exact ⟨k1, vs, k2.keeps (show Keeps w w g.F F' from Keeps.same h1), k3.lent h1 k1⟩
  have hC := hcall w (lent F') _ hE hglob (fun b ow e => by cases e) (fun b o e => h2 b o e) (fun b ow cs t f e => by cases e)
  have hargs : (cl.args.toList.map a.eval ++ cvs).toArray = cl.args.map a.eval ++ cvs.toArray := by apply Array.toList_inj.1; simp
  rw [hargs] at hC
  unfold Oper.wp
  rw [exec_call ho hc hf hen, Oper.upon_enter]
  refine hC.mono fun e w' hR => ?_
  obtain ⟨v, g0, rfl, hb, hres, _⟩ := hR
  have hheap : ∀ b, b < w.heap.size → w'.heap[b]? = w.heap[b]? := fun b hb' => hb.blk b hb' (fun ⟨ow, e⟩ => by cases e)
  have hkeep : Keeps w w' g.F g.F := ⟨fun _ _ h => h, fun b o hf => hb.keeps.cell b o (h1 b o hf)⟩
  have hfr : Fr (fun _ => True) w w' g g := ⟨hkeep, fun b ow _ e => ⟨e, hheap b (h.base.own b ow e).2, fun _ h => h⟩⟩
  have hbase : Base C.w0 C.F0 C.X w' g := ⟨hb.os.trans h.base.os, hb.tape.trans h.base.tape, hb.output.trans h.base.output, Nat.le_trans h.base.size hb.size, fun b hb' hx' => by
   rw [hheap b (Nat.lt_of_lt_of_le hb' h.base.size)]; exact h.base.blk b hb' hx', fun b ow e => ⟨(h.base.own b ow e).1, Nat.lt_of_lt_of_le (h.base.own b ow e).2 hb.size⟩,
   h.base.keeps.trans hkeep, fun b o hf => ⟨(h.base.fz b o hf).1, Nat.lt_of_lt_of_le (h.base.fz b o hf).2 hb.size⟩, fun b cs t f hx hc => by
    by_cases hlt : b < w.heap.size
    ·rw [hheap b hlt] at hc; exact h.base.frz b cs t f hx hc
    ·exact hb.frz b cs t f (.inr (by omega)) hc⟩
  have r1 : Rel E C s a w' g := h.world (hfr.mono fun _ _ => trivial) hbase rfl
  have hsco : ∀ t, t ∈ (resT (E.sig i).res (retag (E.sig i).outs (cellsOf ((E.sig i).outs.map (·.1)) r))).1 → ∀ c, c ∈ t.2 → c.sh.scalar = true := by
   intro t ht c hc
   have hm := resT_mem ht c hc
   obtain ⟨c', h3, h4⟩ := retag_sh hm
   rw [h4]
   have : c'.sh ∈ (cellsOf ((E.sig i).outs.map (·.1)) r).map CV.sh := List.mem_map.2 ⟨c', h3, rfl⟩
   rw [cells_sh] at this
   obtain ⟨y, hy, hy2⟩ := List.mem_map.1 this
   have hsc' := hsc
   simp only [Sig.scalar, Bool.and_eq_true] at hsc'
   have := List.all_eq_true.1 hsc'.1 y hy
   rw [← hy2]; exact this
  have hres2 : ResV w' g (.tm d) (resT (E.sig i).res (retag (E.sig i).outs (cellsOf ((E.sig i).outs.map (·.1)) r))).1 v := by
   generalize (resT (E.sig i).res (retag (E.sig i).outs (cellsOf ((E.sig i).outs.map (·.1)) r))).1 = ts at hres hsco
   unfold ResV at hres ⊢
   split at hres
   ·rename_i ag cs
    exact ⟨hres.1, CsRep.free (fun c hc => hsco (ag, cs) (by simp) c hc) hres.2⟩
   ·obtain ⟨vs, e, ht⟩ := hres
    exact ⟨vs, e, TsRep.free hsco ht⟩
  refine ⟨g, ?_⟩
  rw [hdst]
  exact r1.setTm hd (Fr.refl _ _ _) hbase rfl (resTs_tv hres2)
end
end Go.AM
end
section
set_option linter.unusedVariables false
namespace Go.AM
open Go
section
variable {P : Program} {E : Env} {C : Ctx} {s s' : St} {a a' : Act} {w w' : World} {g g' : Gh} {o : Oper} {Q : Exit → Act → World → Prop}
theorem ElsO.via {ow ow' : Owner} (ho : ∀ b, g.own b = some ow → g'.own b = some ow') (hF : g'.F = g.F) {b : Nat} {tip : Bool} {sh : Sh} {x : El sh} {cs : List Value} (h : ElsO w g ow b tip sh x cs) : ElsO w g' ow' b tip sh x cs := by
 cases sh with
 | dl es => exact ⟨h.1, DlRows.imp (g := g) (g' := g') (by rw [hF]; exact Keeps.refl _ _) (fun sh x v _ hp => OwnP.owner hF (fun z hz => ho z (hp.blk_own hz)) hp) h.2⟩
 | sl es => show ElsR w g'.F (.sl es) x cs; rw [hF]; exact h
 | rsl es => show ElsR w g'.F (.rsl es) x cs; rw [hF]; exact h
 | _ => exact h.elim
theorem CRep.via {ow ow' : Owner} (ho : ∀ b, g.own b = some ow → g'.own b = some ow') (hF : g'.F = g.F) {c : CV} {v : Value} (h : CRep w g ow c v) : CRep w g' ow' c v := by
 unfold CRep at h ⊢
 have hown : ∀ tip, OwnS w g ow tip c.sh c.x v → OwnS w g' ow' tip c.sh c.x v := by
  intro tip h
  rcases h with h | ⟨b, k, cur, et, hv, hl, hc, h1, h2, hs, he, hf⟩
  ·exact .inl h
  ·exact .inr ⟨b, k, cur, et, hv, hl, hc, ho b h1, h2, hs, he.via ho hF, fun o => by rw [hF]; exact hf o⟩
 split at h
 ·trivial
 ·rw [hF]; exact h
 ·split
  ·rename_i hs; rw [if_pos hs] at h; exact hown _ h
  ·rename_i hs; rw [if_neg hs] at h; rw [hF]; exact h
 ·split
  ·rename_i hs; rw [if_pos hs] at h; exact hown _ h
  ·rename_i hs; rw [if_neg hs] at h; rw [hF]; exact h
theorem CsRep.via (hF : g'.F = g.F) {mk mk' : Nat → Owner} : ∀ {cs : List CV} {i i' : Nat} {vs : List Value}, (∀ j b, j < cs.length → g.own b = some (mk (i + j)) → g'.own b = some (mk' (i' + j))) → CsRep w g mk i cs vs → CsRep w g' mk' i' cs vs
 | [], _, _, _, _, h => h
 | c :: cs, i, i', _, ho, ⟨v, ws, e, h1, h⟩ => ⟨v, ws, e, h1.via (fun b hb => by have := ho 0 b (by simp) (by simpa using hb); simpa using this) hF,
  CsRep.via hF (fun j b hj hb => by
   have := ho (j + 1) b (by simp; omega) (by rw [show i + (j + 1) = i + 1 + j by omega]; exact hb)
   rwa [show i' + (j + 1) = i' + 1 + j by omega] at this) h⟩
theorem TsRep.via (hF : g'.F = g.F) {mk mk' : Nat → Owner} (ho : ∀ j b, g.own b = some (mk j) → g'.own b = some (mk' j)) : ∀ {ts : List (Bool × List CV)} {i : Nat} {vs : List Value}, TsRep w g mk i ts vs → TsRep w g' mk' i ts vs
 | [], _, _, h => h
 | (ag, cs) :: ts, i, _, ⟨v, ws, e, ⟨h0, h1⟩, h⟩ => ⟨v, ws, e, ⟨h0, h1.via hF fun j b _ hb => ho _ b hb⟩, TsRep.via hF ho h⟩
theorem ResV.via (hF : g'.F = g.F) {mk mk' : Nat → Owner} (ho : ∀ j b, g.own b = some (mk j) → g'.own b = some (mk' j)) {ts : List (Bool × List CV)} {v : Value} (h : ResV w g mk ts v) : ResV w g' mk' ts v := by
 match ts, h with
 | [], ⟨vs, e, h⟩ => exact ⟨vs, e, h⟩
 | [(ag, cs)], h => exact ⟨h.1, h.2.via hF fun j b _ hb => ho _ b hb⟩
 | _ :: _ :: _, ⟨vs, e, h⟩ => exact ⟨vs, e, h.via hF ho⟩
def toOwn : List PK → Nat → Nat → Owner
 | [], _, k => .hand k
 | p :: ps, i, k => if k < p.cells.length then (match p with | .ptr _ => .cell i k | _ => .tm i k) else toOwn ps (i + 1) (k - p.cells.length)
def boxIdx : List (Option Nat) → Nat → Nat → Option Nat
 | [], _, _ => none
 | b :: bs, i, n => if b = some n then some i else boxIdx bs (i + 1) n
def boxOf (bs : List (Option Nat)) (i : Nat) : Option Nat := match bs[i]? with | some (some n) => some n | _ => none
theorem boxIdx_of : ∀ {bs : List (Option Nat)} {i j n : Nat}, (bs.filterMap id).Nodup → bs[j]? = some (some n) → boxIdx bs i n = some (i + j)
 | [], _, _, _, _, h => by simp at h
 | b :: bs, i, 0, n, hnd, h => by
   simp at h; subst h
   simp [boxIdx]
 | b :: bs, i, j + 1, n, hnd, h => by
   have hj : bs[j]? = some (some n) := by simpa using h
   have hb : b ≠ some n := by
    rintro rfl
    simp only [List.filterMap_cons, id, List.nodup_cons] at hnd
    exact hnd.1 (List.mem_filterMap.2 ⟨some n, List.mem_of_getElem? hj, rfl⟩)
   have hnd2 : (bs.filterMap id).Nodup := by
    cases b with
    | none => simpa using hnd
    | some m => simp only [List.filterMap_cons, id, List.nodup_cons] at hnd; exact hnd.2
   simp only [boxIdx, if_neg hb]
   rw [boxIdx_of hnd2 hj]; congr 1; omega
theorem boxIdx_mem : ∀ {bs : List (Option Nat)} {i n k : Nat}, boxIdx bs i n = some k → some n ∈ bs
 | [], _, _, _, h => by simp [boxIdx] at h
 | b :: bs, i, n, k, h => by
   simp only [boxIdx] at h
   split at h
   ·rename_i e; subst e; simp
   ·exact List.mem_cons_of_mem _ (boxIdx_mem h)
def callee (ps : List PK) (bs : List (Option Nat)) (g : Gh) : Gh :=
 ⟨fun i => match boxOf bs i with | some n => g.at_ n | none => 0, fun b => match g.own b with | some (.hand k) => some (toOwn ps 0 k) | some (.box n) => (boxIdx bs 0 n).map .box | _ => none, g.F⟩
theorem entP_of {g0 : Gh} (hF : g0.F = g.F) : ∀ (ps : List PK) (i k : Nat) (bs : List (Option Nat)) (cs : List CV) (vs : List Value) (sgs : List (List Value)),
 (∀ b k', g.own b = some (.hand (k + k')) → g0.own b = some (toOwn ps i k')) → (∀ j n, bs[j]? = some (some n) → g0.at_ (i + j) = g.at_ n ∧ (g.own (g.at_ n) = some (.box n) → g0.own (g.at_ n) = some (.box (i + j))) ∧ ∀ o, ¬ g.F (g.at_ n) o) →
 CsRep w g .hand k cs sgs.flatten → Tagged cs (ps.flatMap PK.cells) → ParamsV w g ps bs vs sgs → EntP w g0 ps i cs vs
 | [], i, k, [], cs, [], [], _, _, hc, ht, _ => ⟨by simpa [Tagged] using ht, rfl⟩
 | p :: ps, i, k, b :: bs, cs, v :: vs, sg :: sgs, ho, hb, hc, ht, ⟨hp, hl, hps⟩ => by
   rw [List.flatten_cons] at hc
   rw [List.flatMap_cons] at ht
   have hcl := hc.length
   have htl : cs.length = p.cells.length + (ps.flatMap PK.cells).length := by have := congrArg List.length ht; simpa using this
   have c1 : CsRep w g .hand k (cs.take p.cells.length) sg := by
    have := hc.sub 0 p.cells.length
    simp only [Nat.add_zero, List.drop_zero] at this
    rwa [← hl, List.take_left, hl] at this
   have c2 : CsRep w g .hand (k + p.cells.length) (cs.drop p.cells.length) sgs.flatten := by
    have := hc.sub p.cells.length (cs.length - p.cells.length)
    rw [List.take_of_length_le (by simp), List.take_of_length_le (by simp only [List.length_drop]; omega)] at this
    rwa [← hl, List.drop_left, hl] at this
   have t1 : Tagged (cs.take p.cells.length) p.cells := by
    simp only [Tagged, List.map_take] at ht ⊢; rw [ht, List.take_left]
   have t2 : Tagged (cs.drop p.cells.length) (ps.flatMap PK.cells) := by
    simp only [Tagged, List.map_drop] at ht ⊢; rw [ht, List.drop_left]
   have ih : EntP w g0 ps (i + 1) (cs.drop p.cells.length) vs := entP_of hF ps (i + 1) (k + p.cells.length) bs _ vs sgs (fun b' k' e => by
    have := ho b' (p.cells.length + k') (by rw [← Nat.add_assoc]; exact e)
    simp only [toOwn] at this
    rw [if_neg (by omega)] at this
    rwa [show p.cells.length + k' - p.cells.length = k' by omega] at this)
    (fun j n e => by have := hb (j + 1) n (by simpa using e); rwa [show i + (j + 1) = i + 1 + j by omega] at this) c2 t2 hps
   have hl1 : (cs.take p.cells.length).length = p.cells.length := by simp; omega
   have move : ∀ (mk : Nat → Owner), (∀ j, j < p.cells.length → toOwn (p :: ps) i j = mk j) → CsRep w g0 mk 0 (cs.take p.cells.length) sg := by
    intro mk hmk
    refine c1.via hF fun j b hj e => ?_
    rw [hl1] at hj
    have := ho b j e
    rw [hmk j hj] at this
    simpa using this
   cases p with
   | val ag want =>
     cases b with
     | some n => exact hp.elim
     | none =>
       refine ⟨v, vs, rfl, ⟨hp.1, ?_⟩, ih⟩
       rw [hp.2]
       exact move (.tm i) fun j hj => by simp only [toOwn]; rw [if_pos hj]
   | rptr want =>
     cases b with
     | some n => exact hp.elim
     | none =>
       obtain ⟨⟨b, off, e, hrow⟩, hpw⟩ := hp
       refine ⟨v, vs, rfl, ⟨b, off, sg, e, by rw [hF]; exact hrow, pure_tagged t1 hpw, ?_⟩, ih⟩
       exact move (.tm i) fun j hj => by simp only [toOwn]; rw [if_pos hj]
   | fn f =>
     cases b with
     | some n => exact hp.elim
     | none => exact ⟨v, vs, rfl, hp, ih⟩
   | io want =>
     cases b with
     | some n => exact hp.elim
     | none =>
       refine ⟨v, vs, rfl, ⟨hp.1, ?_⟩, ih⟩
       rw [hp.2]
       exact move (.tm i) fun j hj => by simp only [toOwn]; rw [if_pos hj]
   | ptr want =>
     cases b with
     | none => exact hp.elim
     | some n =>
       obtain ⟨hv, hown, cur, et, hheap, hsg⟩ := hp
       obtain ⟨e1, e2, e3⟩ := hb 0 n rfl
       simp only [Nat.add_zero] at e1 e2
       refine ⟨v, vs, rfl, ⟨by rw [e1]; exact hv, cur, et, by rw [e1]; exact hheap, by rw [e1]; exact e2 hown, fun o ho' => e3 o (by rw [e1, hF] at ho'; exact ho'), ?_⟩, ih⟩
       simp only [map_pair]
       rw [← hsg]
       exact move (.cell i) fun j hj => by simp only [toOwn]; rw [if_pos hj]
theorem boxOf_get {bs : List (Option Nat)} {i n : Nat} : boxOf bs i = some n ↔ bs[i]? = some (some n) := by
 unfold boxOf
 split
 ·rename_i m h; rw [h]; simp
 ·rename_i h
  constructor
  ·intro e; cases e
  ·intro e; exact absurd e (h n)
theorem back_ok {g2 gF : Gh} (hF : gF.F = g2.F) : ∀ (ps : List PK) (i : Nat) (bs : List (Option Nat)) (av : List Value) (cs : List CV) (us : List Upd) (s0 : St), backAll s ps bs cs = some us → PtrV w' g g2 ps i av cs →
 (∀ j n, bs[j]? = some (some n) → gF.at_ n = g.at_ (i + j) ∧ (∀ b, g2.own b = some (.box (i + j)) → gF.own b = some (.box n)) ∧ ∀ b k, g2.own b = some (.cell (i + j) k) → gF.own b = some (.cell n k)) →
 (s0.upds us).tm = s0.tm ∧ ∀ n, (some n ∉ bs → (s0.upds us).bx n = s0.bx n) ∧ (some n ∈ bs → ∃ b b', s.bx n = some b ∧ (s0.upds us).bx n = some b' ∧ b'.inst = b.inst ∧ b'.cells.length = b.cells.length ∧
  (∀ (i : Nat) (c' : CV) (v' : Nat), b'.cells[i]? = some (c', v') → ∃ (c : CV) (v : Nat), b.cells[i]? = some (c, v) ∧ v' = v + 1) ∧ BxRep w' gF n b')
 | [], i, bs, av, cs, us, s0, hb, _, _ => by
   cases bs with
   | cons b bs => cases hb
   | nil =>
     simp only [backAll, Option.some.injEq] at hb; subst hb
     exact ⟨rfl, fun n => ⟨fun _ => rfl, fun h => by cases h⟩⟩
 | .ptr want :: ps, i, [], av, cs, us, s0, hb, _, _ => by cases hb
 | .ptr want :: ps, i, none :: bs, av, cs, us, s0, hb, _, _ => by cases hb
 | .ptr want :: ps, i, some m :: bs, av, cs, us, s0, hb, ⟨⟨hat, hrep⟩, hp⟩, ho => by
   simp only [backAll] at hb
   split at hb
   ·rename_i b us' hbx hba
    simp only [cond_eq_ite] at hb
    split at hb
    ·rename_i hlen
     have hlen := Nat.eq_of_beq_eq_true hlen
     cases hb
     obtain ⟨e1, e2⟩ := back_ok hF ps (i + 1) bs av.tail _ us' (s0.upds [.bx m ⟨b.inst, ((cs.take want.length).zip b.cells).map fun x => (x.1, x.2.2 + 1)⟩]) hba hp (fun j n e => by
      have := ho (j + 1) n (by simpa using e)
      rwa [show i + (j + 1) = i + 1 + j by omega] at this)
     refine ⟨e1, fun n => ?_⟩
     obtain ⟨k1, k2⟩ := e2 n
     refine ⟨fun hn => ?_, fun hn => ?_⟩
     ·have h1 : n ≠ m := by rintro rfl; exact hn (by simp)
      rw [show s0.upds (Upd.bx m ⟨b.inst, ((cs.take want.length).zip b.cells).map fun x => (x.1, x.2.2 + 1)⟩ :: us') = (s0.upds [.bx m ⟨b.inst, ((cs.take want.length).zip b.cells).map fun x => (x.1, x.2.2 + 1)⟩]).upds us' from rfl, k1 (fun h => hn (by simp [h]))]
      show put s0.bx m _ n = _
      rw [put_other _ _ _ h1]
     ·by_cases hin : some n ∈ bs
      ·exact k2 hin
      ·have h1 : n = m := by
        rcases List.mem_cons.1 hn with e | e
        ·cases e; rfl
        ·exact absurd e hin
       subst h1
       refine ⟨b, ⟨b.inst, ((cs.take want.length).zip b.cells).map fun x => (x.1, x.2.2 + 1)⟩, hbx, ?_, rfl, ?_, fun k c' v' hk => ?_, ?_⟩
       ·rw [show s0.upds (Upd.bx n ⟨b.inst, ((cs.take want.length).zip b.cells).map fun x => (x.1, x.2.2 + 1)⟩ :: us') = (s0.upds [.bx n ⟨b.inst, ((cs.take want.length).zip b.cells).map fun x => (x.1, x.2.2 + 1)⟩]).upds us' from rfl, k1 hin]
        show put s0.bx n _ n = _
        rw [put_same]
       ·simp only [List.length_map, List.length_zip]; omega
       ·simp only [List.getElem?_map, Option.map_eq_some_iff] at hk
        obtain ⟨⟨x, c, v⟩, hk, e⟩ := hk
        simp only [Prod.mk.injEq] at e
        obtain ⟨_, h4⟩ := List.getElem?_zip_eq_some.1 hk
        exact ⟨c, v, h4, e.2.symm⟩
       ·obtain ⟨cur, et, r1, r2, r3, r4⟩ := hrep
        obtain ⟨q1, q2, q3⟩ := ho 0 n rfl
        simp only [Nat.add_zero] at q1 q2 q3
        rw [hat] at r1 r2 r3
        refine ⟨cur, et, by rw [q1]; exact r1, by rw [q1]; exact q2 _ r2, fun o ho' => r3 o (by rw [q1, hF] at ho'; exact ho'), ?_⟩
        have e3 : ((((cs.take want.length).zip b.cells).map fun x => ((x.1, x.2.2 + 1) : CV × Nat)).map (·.1)) = cs.take want.length := by
         rw [List.map_map]
         have : ((fun x => x.1) ∘ fun (x : CV × CV × Nat) => ((x.1, x.2.2 + 1) : CV × Nat)) = Prod.fst := rfl
         rw [this, List.map_fst_zip]; omega
        simp only [e3]
        simp only [map_pair] at r4
        exact r4.via hF fun j b _ e => by simpa using q3 b j (by simpa using e)
    ·cases hb
   ·cases hb
 | .val ag want :: ps, i, bs, av, cs, us, s0, hb, hp, ho => by
   cases bs with
   | nil => cases hb
   | cons b bs =>
     cases b with
     | some m => cases hb
     | none =>
       obtain ⟨e1, e2⟩ := back_ok hF ps (i + 1) bs av.tail cs us s0 hb hp (fun j n e => by
        have := ho (j + 1) n (by simpa using e)
        rwa [show i + (j + 1) = i + 1 + j by omega] at this)
       exact ⟨e1, fun n => ⟨fun hn => (e2 n).1 (fun h => hn (by simp [h])), fun hn => (e2 n).2 (by simpa using hn)⟩⟩
 | .rptr want :: ps, i, bs, av, cs, us, s0, hb, hp, ho => by
   cases bs with
   | nil => cases hb
   | cons b bs =>
     cases b with
     | some m => cases hb
     | none =>
       obtain ⟨e1, e2⟩ := back_ok hF ps (i + 1) bs av.tail cs us s0 hb hp (fun j n e => by
        have := ho (j + 1) n (by simpa using e)
        rwa [show i + (j + 1) = i + 1 + j by omega] at this)
       exact ⟨e1, fun n => ⟨fun hn => (e2 n).1 (fun h => hn (by simp [h])), fun hn => (e2 n).2 (by simpa using hn)⟩⟩
 | .fn f :: ps, i, bs, av, cs, us, s0, hb, hp, ho => by
   cases bs with
   | nil => cases hb
   | cons b bs =>
     cases b with
     | some m => cases hb
     | none =>
       obtain ⟨e1, e2⟩ := back_ok hF ps (i + 1) bs av.tail cs us s0 hb hp (fun j n e => by
        have := ho (j + 1) n (by simpa using e)
        rwa [show i + (j + 1) = i + 1 + j by omega] at this)
       exact ⟨e1, fun n => ⟨fun hn => (e2 n).1 (fun h => hn (by simp [h])), fun hn => (e2 n).2 (by simpa using hn)⟩⟩
 | .io want :: ps, i, bs, av, cs, us, s0, hb, hp, ho => by
   cases bs with
   | nil => cases hb
   | cons b bs =>
     cases b with
     | some m => cases hb
     | none =>
       obtain ⟨e1, e2⟩ := back_ok hF ps (i + 1) bs av.tail (cs.drop want.length) us s0 hb hp.2 (fun j n e => by
        have := ho (j + 1) n (by simpa using e)
        rwa [show i + (j + 1) = i + 1 + j by omega] at this)
       exact ⟨e1, fun n => ⟨fun hn => (e2 n).1 (fun h => hn (by simp [h])), fun hn => (e2 n).2 (by simpa using hn)⟩⟩
theorem Rel.setBxs (h : Rel E C s a w g) {N : Nat → Prop} (f : Fr (fun o => (∀ i, o ≠ .hand i) ∧ ∀ n, N n → o ≠ .box n ∧ ∀ i, o ≠ .cell n i) w w' g g') (hb : Base C.w0 C.F0 C.X w' g') (hat : g'.at_ = g.at_) (htm : s'.tm = s.tm)
 (hbx : ∀ n, (¬ N n → s'.bx n = s.bx n) ∧ (N n → ∃ b b', s.bx n = some b ∧ s'.bx n = some b' ∧ b'.inst = b.inst ∧ b'.cells.length = b.cells.length ∧
  (∀ (i : Nat) (c' : CV) (v' : Nat), b'.cells[i]? = some (c', v') → ∃ (c : CV) (v : Nat), b.cells[i]? = some (c, v) ∧ v' = v + 1) ∧ BxRep w' g' n b')) : Rel E C s' a w' g' := by
 refine h.gen f hb (fun r => ?_) rfl rfl (fun n => .inl ⟨fun i => ⟨fun j => by simp, fun m _ => ⟨by simp, fun j => by simp⟩⟩, by rw [htm], rfl⟩) (fun n b hn => ?_)
 ·cases r with
  | tmp n => exact RStep.same (by simp only [instOf, htm]) (by simp only [rootCells, htm]) (fun k e => by cases e) (fun _ => rfl) (fun p es l hp hc b len k hv => h.dl_same f ⟨fun i => rootMk_hand _ _ _, fun m _ => ⟨by rw [hp]; simp [rootMk], fun i => by rw [hp]; simp [rootMk]⟩⟩ hc (by rw [hp]; exact hv))
  | box n =>
    by_cases hN : N n
    ·obtain ⟨b, b', h1, h2, h3, h4, h5, h6⟩ := (hbx n).2 hN
     have gone : ∀ (p : Pl) (m : Nat) cs', p.root = .box n → Old s p → p.vers.length = m + 1 → plCells s' p (m + 1) = some cs' → False := by
      intro p m cs' hp ho hv hc
      rw [plCells_iff] at hc
      obtain ⟨cells, e, q1, q2, q3⟩ := hc
      rw [hp] at e; simp only [rootCells, h2, Option.some.injEq, Prod.mk.injEq] at e
      obtain ⟨e1, rfl⟩ := e
      have hx : p.vers[0]? = some (p.vers[0]'(by omega)) := List.getElem?_eq_getElem (by omega)
      have := q2 0 _ hx
      simp only [Nat.add_zero, Option.map_eq_some_iff] at this
      obtain ⟨⟨c', v'⟩, k1, k2⟩ := this
      obtain ⟨c0, v0, k3, k4⟩ := h5 _ _ _ k1
      have := ho.vers n b hp h1 (by rw [← e1, h3]) 0 _ c0 v0 hx (by simpa using k3)
      simp only at k2; omega
     refine ⟨fun p hp ho => ⟨?_, fun k b1 e k1 k2 i x c v hx hv => ?_⟩, fun p m cs' hp ho hv hc => ?_, fun k b1 p e k1 hp ho k2 => ?_, fun p es l hp ho hv hc => (gone p 0 _ hp ho hv hc).elim⟩
     ·have := ho.inst; rw [hp] at this ⊢; simp only [instOf, h1, h2] at this ⊢; omega
     ·rw [hp] at e; cases e
      rw [h2] at k1; cases k1
      obtain ⟨c0, v0, q1, q2⟩ := h5 _ _ _ hv
      have := ho.vers n b hp h1 (by rw [k2, h3]) i x c0 v0 hx q1
      omega
     ·cases m with
      | zero =>
        rw [plCells_iff] at hc
        obtain ⟨cells, e, q1, q2, q3⟩ := hc
        rw [hp] at e; simp only [rootCells, h2, Option.some.injEq, Prod.mk.injEq] at e
        obtain ⟨e1, rfl⟩ := e
        refine ⟨[], ?_, by rw [q3]; simp, by simp⟩
        rw [plCells_iff]
        have hv0 : p.vers = [] := List.eq_nil_of_length_eq_zero hv
        refine ⟨b.cells, by rw [hp]; simp only [rootCells, h1]; rw [← e1, h3], by omega, fun i x hx => by rw [hv0] at hx; simp at hx, by simp⟩
      | succ m => exact (gone p m cs' hp ho hv hc).elim
     ·cases e
      rw [h2] at k1; cases k1
      exact ⟨b, h1, by rw [← h3]; exact k2, by rw [hat]⟩
    ·have hs := (hbx n).1 hN
     refine RStep.same (by simp only [instOf, hs]) (by simp only [rootCells, hs]) (fun k e => by cases e; exact ⟨hs, fun _ => by rw [hat]⟩) (fun hsm => ?_) (fun p es l hp hc b len k hv => h.dl_same f ⟨fun i => rootMk_hand _ _ _, fun m hm => ⟨by rw [hp]; simp [rootMk], fun i e => (by rw [hp] at e; cases e; exact hN hm)⟩⟩ hc (by rw [hp]; exact hv))
     exact h.vals_box f ⟨fun i => by simp, fun m hm => ⟨by rintro e; cases e; exact hN hm, fun i => by simp⟩⟩ (by rw [hat]) hsm
 ·by_cases hN : N n
  ·obtain ⟨b0, b', _, h2, _, _, _, h6⟩ := (hbx n).2 hN
   rw [h2] at hn; cases hn
   exact .inr h6
  ·rw [(hbx n).1 hN] at hn
   exact .inl ⟨hn, fun i => ⟨fun j => by simp, fun m hm => ⟨by simp, fun j e => by cases e; exact hN hm⟩⟩, ⟨fun j => by simp, fun m hm => ⟨by rintro e; cases e; exact hN hm, fun j => by simp⟩⟩, by rw [hat]⟩
end
end Go.AM
end
section
set_option linter.unusedVariables false
namespace Go.AM
open Go
section
variable {P : Program} {E : Env} {C : Ctx} {s s' : St} {a a' : Act} {w w' : World} {g g' : Gh} {o : Oper} {Q : Exit → Act → World → Prop}
theorem ParamsV.boxes : ∀ {ps : List PK} {bs : List (Option Nat)} {vs : List Value} {sgs : List (List Value)}, ParamsV w g ps bs vs sgs → ∀ n, some n ∈ bs → g.own (g.at_ n) = some (.box n)
 | [], [], [], [], _, n, hn => by cases hn
 | p :: ps, b :: bs, v :: vs, sg :: sgs, ⟨h1, _, h3⟩, n, hn => by
   rcases List.mem_cons.1 hn with rfl | hn
   ·cases p with
    | ptr want => exact h1.2.1
    | _ => exact h1.elim
   ·exact ParamsV.boxes h3 n hn
theorem io_of {g2 : Gh} : ∀ (ps : List PK) (i : Nat) (xs : List Operand) (av : List Value) (cs : List CV), av = xs.map a.eval → PtrV w' g g2 ps i av cs → ∀ x cs0, (x, cs0) ∈ ioOf ps xs cs → ∃ j, VRep w' g2 (.tm j) 0 false cs0 (a.eval x)
 | [], _, xs, _, _, _, _, x, cs0, hm => by cases xs <;> simp [ioOf] at hm
 | p :: _, _, [], _, _, _, _, x, cs0, hm => by cases p <;> simp [ioOf] at hm
 | .val ag want :: ps, i, y :: xs, av, cs, e, hp, x, cs0, hm => io_of ps (i + 1) xs av.tail cs (by rw [e]; rfl) hp x cs0 hm
 | .rptr want :: ps, i, y :: xs, av, cs, e, hp, x, cs0, hm => io_of ps (i + 1) xs av.tail cs (by rw [e]; rfl) hp x cs0 hm
 | .fn f :: ps, i, y :: xs, av, cs, e, hp, x, cs0, hm => io_of ps (i + 1) xs av.tail cs (by rw [e]; rfl) hp x cs0 hm
 | .ptr want :: ps, i, y :: xs, av, cs, e, hp, x, cs0, hm => io_of ps (i + 1) xs av.tail _ (by rw [e]; rfl) hp.2 x cs0 hm
 | .io want :: ps, i, y :: xs, av, cs, e, hp, x, cs0, hm => by
   obtain ⟨⟨v, hv, hr⟩, hp⟩ := hp
   simp only [ioOf] at hm
   rcases List.mem_cons.1 hm with h1 | h1
   ·simp only [Prod.mk.injEq] at h1
    obtain ⟨rfl, rfl⟩ := h1
    rw [e] at hv
    simp only [List.map_cons, List.head?_cons, Option.some.injEq] at hv
    subst hv
    exact ⟨i, hr⟩
   ·exact io_of ps (i + 1) xs av.tail _ (by rw [e]; rfl) hp x cs0 h1
theorem putIo_ok {g2 : Gh} {l : List (Operand × List CV)} {vs : List Upd} (hput : putIo E s l = some vs) (hl : ∀ x cs0, (x, cs0) ∈ l → ∃ j, VRep w' g2 (.tm j) 0 false cs0 (a.eval x)) :
 ∃ io : Option (Nat × Owner), ∀ gF : Gh, gF.F = g2.F → Rel E C s a w' gF → (∀ j ow, io = some (j, ow) → ∀ b, g2.own b = some (.tm j 0) → gF.own b = some ow) → Rel E C (s.upds vs) a w' gF := by
 unfold putIo at hput
 split at hput
 ·cases hput
  exact ⟨none, fun gF _ h _ => h⟩
 ·rename_i x c
  obtain ⟨j, hag, hrep⟩ := hl x [c] (by simp)
  have via : ∀ {gF : Gh} {mk : Nat → Owner} {k : Nat}, gF.F = g2.F → (∀ b, g2.own b = some (.tm j 0) → gF.own b = some (mk k)) → CsRep w' gF mk k [c] (a.eval x).cells.toList := fun hF ho =>
   hrep.via hF fun i b hi e => by
    obtain rfl : i = 0 := by simpa using hi
    exact ho b (by simpa using e)
  have nodl : ∀ (i : Nat) (es : List Sh) (l' : List (Option (ElA es))), c.sh.isPl = true → [c][i]? ≠ some (⟨.dl es, .own, l'⟩ : CV) := by
   intro i es l' hpl e
   have := List.mem_of_getElem? e
   rw [← List.mem_singleton.1 this] at hpl
   simp [Sh.isPl] at hpl
  unfold putBack at hput
  split at hput
  ·rename_i q hx
   split at hput
   ·rename_i n
    simp only [cond_eq_ite, Bool.and_eq_true] at hput
    split at hput
    ·rename_i hcond
     obtain ⟨hsh, hpl⟩ := hcond
     have hsh := Sh.eq_of_beq hsh
     cases hput
     have hx' : (s.tm n).1 = .val false [q] := hx
     refine ⟨some (j, .tm n 0), fun gF hF h ho => ?_⟩
     refine h.keepTm (Fr.refl _ _ _) h.base rfl (fun ag' cs' e => ?_) ⟨hag, via hF (ho j _ rfl)⟩
     cases e
     exact ⟨false, [q], hx', by simp [hsh], fun i es l' hi => absurd hi (nodl i es l' hpl)⟩
    ·cases hput
   ·cases hput
  ·rename_i p hx
   split at hput
   ·rename_i q hsub hc
    simp only [cond_eq_ite, Bool.and_eq_true] at hput
    split at hput
    ·rename_i hcond
     obtain ⟨hsh, hpl⟩ := hcond
     have hsh := Sh.eq_of_beq hsh
     refine ⟨some (j, rootMk p.root p.cell), fun gF hF h ho => ?_⟩
     obtain ⟨_, _, _, hv⟩ := val_of_at h hx (by simp)
     obtain ⟨_, hvals⟩ := hv _ hc
     refine plPut_keep h (ds := [c]) hc hput (by simp [hsh]) (Fr.refl _ _ _) h.base rfl ?_ (DlKeep.of fun d hd _ => .inl (by rw [List.mem_singleton.1 hd]; exact hpl))
     show CsRep w' gF (rootMk p.root) p.cell [c] (((rootVals a w' gF p.root).drop p.cell).take 1)
     rw [← hvals]
     exact via hF (ho j _ rfl)
    ·cases hput
   ·cases hput
  ·cases hput
 ·cases hput
def ioTurn (io : Option (Nat × Owner)) (i k : Nat) : Option Owner := match io with | some (j, ow) => if i = j ∧ k = 0 then some ow else none | none => none
open Classical in
noncomputable def behind (w : World) (g g0 g2 : Gh) (bs : List (Option Nat)) (d : Nat) (io : Option (Nat × Owner)) : Gh :=
 ⟨g.at_, fun b => if (∃ ow, g0.own b = some ow) ∨ w.heap.size ≤ b then (match g2.own b with
  | some (.hand k) => some (.tm d k)
  | some (.cell i j) => (boxOf bs i).map fun n => .cell n j
  | some (.box i) => (boxOf bs i).map .box
  | some (.tm i k) => ioTurn io i k
  | _ => none) else g.own b, g2.F⟩
theorem call_given {i : Nat} (hG : Good P E.glob (E.sig i) (E.call i)) (h : Rel E C s a w g) {cl : Call} {fo : Operand} (ho : o.op = .call cl) (hc : cl.callee = .value fo) (hf : a.eval fo = .func (.func (E.sig i).fn) #[] #[])
 (hsc : (E.sig i).scalar = false) {d : Nat} (hdst : o.dst = some d) (hd : DOk E d) {us : List Upd} (hp : (callT E s d cl.args.toList [] i).run = some us) :
 o.wp P a w (fun a' w' => ∃ g', Rel E C (s.upds us) a' w' g') Q := by
 unfold callT at hp
 rw [hsc] at hp
 simp only [cond_false, noT, Bool.not_true] at hp
 obtain ⟨⟨cs, us2, bs⟩, hl, hp⟩ := dyn_bind hp
 simp only [] at hp
 split at hp
 ·exact (fail_some hp).elim
 ·rename_i x hx
  obtain ⟨r, hr, hp⟩ := idx_some hp
  split at hp
  ·exact (fail_some hp).elim
  ·rename_i us3 hback
   split at hp
   ·exact (fail_some hp).elim
   rename_i vs hput
   obtain rfl := ret_some hp
   obtain ⟨us2', bs2, ds, g1, sgs, e1, e2, e3, r1, hh, a1, kp1, kb1, pvs, htg, hnd, hsome⟩ := giveAll_ok _ _ [] s g [] [] [] cs us2 bs h rfl (by simp) hl
   simp only [List.nil_append] at e1 e2 e3 hh
   subst e1 e2 e3
   obtain ⟨hen, hcall⟩ := hG x r hr
   have hret := retag_of (tagged_sig htg) hx
   have hnF : ∀ n, some n ∈ bs → ∀ o, ¬ g1.F (g1.at_ n) o := fun n hn o => by
    obtain ⟨b, hb⟩ := Option.isSome_iff_exists.1 (hsome n hn)
    obtain ⟨_, _, _, _, h3, _⟩ := r1.bx n b hb
    exact h3 o
   let g0 := callee (E.sig i).params bs g1
   have hbox := pvs.boxes
   have hE : EntP w g0 (E.sig i).params 0 (retag (E.sig i).ins (cellsOf _ x)) (cl.args.toList.map a.eval) := by
    rw [hret]
    refine entP_of (g := g1) (g0 := g0) rfl _ 0 0 bs cs _ sgs (fun b k' e => ?_) (fun j n e => ?_) hh htg pvs
    ·rw [Nat.zero_add] at e
     simp only [g0, callee, e]
    ·have hm : some n ∈ bs := List.mem_of_getElem? e
     refine ⟨?_, fun e2 => ?_, hnF n hm⟩
     ·simp only [g0, callee, Nat.zero_add, boxOf_get.2 e]
     ·simp only [g0, callee, e2, boxIdx_of hnd e, Option.map_some]
   have hglob : GlobOk E.glob w g0 := fun gl cs hg => by
    obtain ⟨k1, vs, k2, k3⟩ := r1.glob gl cs hg
    exact ⟨k1, vs, k2, CsRep.pures (g' := g0) (show Keeps w w g1.F g1.F from Keeps.refl _ _) cs 0 0 vs k1 k3⟩
   have hown0 : ∀ b ow, g0.own b = some ow → ∃ ow', g1.own b = some ow' ∧ ((∃ k, ow' = .hand k) ∨ ∃ n, some n ∈ bs ∧ ow' = .box n) := by
    intro b ow e
    simp only [g0, callee] at e
    split at e
    ·rename_i k hk; exact ⟨_, hk, .inl ⟨k, rfl⟩⟩
    ·rename_i n hn
     obtain ⟨q, hq, _⟩ := Option.map_eq_some_iff.1 e
     exact ⟨_, hn, .inr ⟨n, boxIdx_mem hq, rfl⟩⟩
    ·cases e
   have hC := hcall w g0 _ hE hglob (fun b ow e => by
    obtain ⟨ow', e', _⟩ := hown0 b ow e; exact (r1.base.own b ow' e').2) (fun b o e => (r1.base.fz b o e).2) (fun b ow cs t f e hc => by
    obtain ⟨ow', e', _⟩ := hown0 b ow e; exact r1.base.frz b cs t f (r1.base.own b ow' e').1 hc)
   have hargs : (cl.args.toList.map a.eval).toArray = cl.args.map a.eval ++ #[] := by apply Array.toList_inj.1; simp
   rw [hargs] at hC
   unfold Oper.wp
   rw [exec_call ho hc hf hen, Oper.upon_enter]
   refine hC.mono fun e w' hR => ?_
   obtain ⟨v, g2, rfl, hb, hres, hptr⟩ := hR
   obtain ⟨io, hio⟩ := putIo_ok (C := C) (a := a) (w' := w') (g2 := g2) hput (io_of (g := g0) _ 0 _ _ _ rfl hptr)
   let gF := behind w g1 g0 g2 bs d io
   have hstand : ∀ b, b < w.heap.size → (¬ ∃ ow, g0.own b = some ow) → gF.own b = g1.own b ∧ w'.heap[b]? = w.heap[b]? ∧ ∀ o, gF.F b o → g1.F b o := by
    intro b hb' hx'
    refine ⟨?_, hb.blk b hb' hx', fun o hf' => ?_⟩
    ·simp only [gF, behind]
     rw [if_neg (fun hh => hh.elim (fun h => hx' h) (fun h => by omega))]
    ·rcases (hb.fz b o hf').1 with h | h | h
     ·exact h
     ·exact absurd h hx'
     ·omega
   have hturn : ∀ b ow, g2.own b = some ow → gF.own b = (match ow with
    | .hand k => some (.tm d k)
    | .cell i j => (boxOf bs i).map fun n => .cell n j
    | .box i => (boxOf bs i).map .box
    | .tm i k => ioTurn io i k) := by
    intro b ow e
    have := (hb.own b ow e).1
    simp only [gF, behind]
    rw [if_pos this, e]
    cases ow <;> rfl
   have hfr : Fr (fun o => (∀ i, o ≠ .hand i) ∧ ∀ n, some n ∈ bs → o ≠ .box n ∧ ∀ i, o ≠ .cell n i) w w' g1 gF := ⟨hb.keeps, fun b ow k e => by
    have hx' : ¬ ∃ ow, g0.own b = some ow := by
     rintro ⟨ow2, e2⟩
     obtain ⟨ow', e', hw'⟩ := hown0 b ow2 e2
     rw [e] at e'; cases e'
     rcases hw' with ⟨k', rfl⟩ | ⟨n, hn, rfl⟩
     ·exact k.1 k' rfl
     ·exact (k.2 n hn).1 rfl
    obtain ⟨q1, q2, q3⟩ := hstand b (r1.base.own b ow e).2 hx'
    exact ⟨q1.trans e, q2, q3⟩⟩
   have hX : ∀ b, (∃ ow, g0.own b = some ow) → (C.X b ∨ C.w0.heap.size ≤ b) ∧ b < w.heap.size := by
    rintro b ⟨ow, e⟩
    obtain ⟨ow', e', _⟩ := hown0 b ow e
    exact r1.base.own b ow' e'
   have hbase : Base C.w0 C.F0 C.X w' gF := ⟨hb.os.trans r1.base.os, hb.tape.trans r1.base.tape, hb.output.trans r1.base.output, Nat.le_trans r1.base.size hb.size, fun b hb' hx' => by
    have hlt := Nat.lt_of_lt_of_le hb' r1.base.size
    rw [hb.blk b hlt (fun hh' => (hX b hh').1.elim (fun h => hx' h) (fun h => by omega))]
    exact r1.base.blk b hb' hx', fun b ow e => by
    by_cases hc' : (∃ ow, g0.own b = some ow) ∨ w.heap.size ≤ b
    ·simp only [gF, behind] at e
     rw [if_pos hc'] at e
     have hlt : b < w'.heap.size := by
      cases h2 : g2.own b with
      | none => rw [h2] at e; cases e
      | some ow2 => exact (hb.own b ow2 h2).2
     refine ⟨?_, hlt⟩
     rcases hc' with hc' | hc'
     ·exact (hX b hc').1
     ·exact .inr (Nat.le_trans r1.base.size hc')
    ·simp only [gF, behind] at e
     rw [if_neg hc'] at e
     obtain ⟨q1, q2⟩ := r1.base.own b ow e
     exact ⟨q1, Nat.lt_of_lt_of_le q2 hb.size⟩,
    r1.base.keeps.trans hb.keeps, fun b o hf' => by
     obtain ⟨q1, q2⟩ := hb.fz b o hf'
     refine ⟨?_, q2⟩
     rcases q1 with q1 | q1 | q1
     ·exact (r1.base.fz b o q1).1
     ·exact .inr (hX b q1).1
     ·exact .inr (.inr (Nat.le_trans r1.base.size q1)), fun b cs t f hx hc => by
     by_cases hxx : ∃ ow, g0.own b = some ow
     ·exact hb.frz b cs t f (.inl hxx) hc
     ·by_cases hlt : b < w.heap.size
      ·rw [hb.blk b hlt hxx] at hc; exact r1.base.frz b cs t f hx hc
      ·exact hb.frz b cs t f (.inr (by omega)) hc⟩
   obtain ⟨t1, t2⟩ := back_ok (s := s.upds us2) (gF := gF) (g2 := g2) (g := g0) rfl (E.sig i).params 0 bs _ _ us3 (s.upds us2) hback hptr (fun j n e => by
    have hb' := boxOf_get.2 e
    refine ⟨?_, fun b e2 => ?_, fun b k e2 => ?_⟩
    ·simp only [gF, behind, g0, callee, Nat.zero_add, hb']
    ·rw [hturn b _ e2]; simp only [Nat.zero_add, hb', Option.map_some]
    ·rw [hturn b _ e2]; simp only [Nat.zero_add, hb', Option.map_some])
   have r2 : Rel E C ((s.upds us2).upds us3) a w' gF := r1.setBxs (N := fun n => some n ∈ bs) hfr hbase rfl t1 t2
   have hres2 : ResV w' gF (.tm d) (resT (E.sig i).res (retag (E.sig i).outs (cellsOf ((E.sig i).outs.map (·.1)) r))).1 v :=
    ResV.via (g := g2) (g' := gF) (mk := .hand) rfl (fun j b e => by rw [hturn b _ e]) hres
   have r3 : Rel E C (((s.upds us2).upds us3).upds vs) a w' gF := hio gF rfl r2 fun j ow e b e2 => by
    rw [hturn b _ e2]
    simp [ioTurn, e]
   refine ⟨gF, ?_⟩
   rw [hdst, upds_append, upds_append, upds_append]
   exact r3.setTm hd (Fr.refl _ _ _) hbase rfl (resTs_tv hres2)
def EnvOk (P : Program) (E : Env) : Prop := TyOk P E.ty ∧ ∀ i, Good P E.glob (E.sig i) (E.call i)
theorem op_call (hE : EnvOk P E) {cl : Call} {fo : Operand} (ho : o.op = .call cl) (hc : cl.callee = .value fo) : OpOk P E C o := by
 intro s a w g us d Q h hdst hd hp
 simp only [plan, ho, hdst, hc] at hp
 split at hp
 ·rename_i f hx
  obtain ⟨hf, hp⟩ := bif_some hp
  have hf := Nat.eq_of_beq_eq_true hf
  have hv : a.eval fo = .func (.func f) #[] #[] := val_of_at h hx (by simp)
  rw [← hf] at hv
  cases hsc : (E.sig (E.spec d)).scalar with
  | true => exact call_lent (hE.2 _) h ho hc (ts := []) (cvs := []) (mk := .hand) rfl hv hsc hdst hd hp
  | false => exact call_given (hE.2 _) h ho hc hv hsc hdst hd hp
 ·rename_i f ts hx
  obtain ⟨hf, hp⟩ := bif_some hp
  have hf := Nat.eq_of_beq_eq_true hf
  obtain ⟨vs, hv, hcap⟩ : ∃ vs : List Value, a.eval fo = .func (.func f) #[] vs.toArray ∧ CapsRep s a w g (opMk fo) ts vs := val_of_at h hx (by simp)
  rw [← hf] at hv
  cases hsc : (E.sig (E.spec d)).scalar with
  | true => exact call_lent (hE.2 _) h ho hc hcap hv hsc hdst hd hp
  | false =>
    match ts, hcap, hp with
    | [], hcap, hp =>
      have hvs : vs = [] := hcap
      subst hvs
      exact call_given (hE.2 _) h ho hc hv hsc hdst hd hp
    | t :: ts, _, hp =>
      exfalso
      unfold callT at hp
      rw [hsc] at hp
      exact fail_some hp
 ·exact (fail_some hp).elim
end
end Go.AM
end
section
set_option linter.unusedVariables false
namespace Go.AM
open Go
section
variable {P : Program} {E : Env} {C : Ctx} {s s' : St} {a a' : Act} {w w' : World} {g g' : Gh} {o : Oper} {Q : Exit → Act → World → Prop}
theorem OpOk.fin (h : OpOk P E C o) (hns : ∀ t x y, o.op ≠ .store t x y) (hcl : ∀ c, o.op = .call c → c.callee ≠ .builtin .clear) : OpOk' P E C o := by
 intro s a w g us Q hr hdst hp
 cases hd : o.dst with
 | none =>
   exfalso
   unfold plan at hp
   split at hp
   ·rename_i t x y ho; exact hns t x y ho
   ·rw [hd] at hp
    simp only [] at hp
    split at hp
    ·rename_i c ho
     split at hp
     ·rename_i hc _ _; exact hcl c ho hc
     ·exact fail_some hp
    ·exact fail_some hp
 | some d =>
   refine h hr hd ?_ hp
   simp only [dstOk, hd, Bool.and_eq_true, Bool.not_eq_true'] at hdst
   exact ⟨hdst.1, (Nat.blt_eq ..).mp hdst.2⟩
theorem plan_ok (hE : EnvOk P E) : OpOk' P E C o := by
 intro s a w g us Q h hdst hp
 have hp0 := hp
 cases ho : o.op with
 | store t x y => exact op_store hE.1 ho h hdst hp
 | move x => exact OpOk.fin (C := C) (op_move ho) (by simp [ho]) (by simp [ho]) h hdst hp
 | assign x => exact OpOk.fin (C := C) (op_assign ho) (by simp [ho]) (by simp [ho]) h hdst hp
 | pick c x y => exact OpOk.fin (C := C) (op_pick ho) (by simp [ho]) (by simp [ho]) h hdst hp
 | alloc t => exact OpOk.fin (C := C) (op_alloc hE.1 ho) (by simp [ho]) (by simp [ho]) h hdst hp
 | box t x => exact OpOk.fin (C := C) (op_box hE.1 ho) (by simp [ho]) (by simp [ho]) h hdst hp
 | build t ps => exact OpOk.fin (C := C) (op_build hE.1 ho) (by simp [ho]) (by simp [ho]) h hdst hp
 | buildSlice t n ps => exact OpOk.fin (C := C) (op_buildSlice hE.1 ho) (by simp [ho]) (by simp [ho]) h hdst hp
 | load t x => exact OpOk.fin (C := C) (op_load hE.1 ho) (by simp [ho]) (by simp [ho]) h hdst hp
 | nilCheck x => exact OpOk.fin (C := C) (op_nilCheck ho) (by simp [ho]) (by simp [ho]) h hdst hp
 | makeInterface t x => exact OpOk.fin (C := C) (op_makeInterface hE.1 ho) (by simp [ho]) (by simp [ho]) h hdst hp
 | makeFunc f xs ys => exact OpOk.fin (C := C) (op_makeFunc ho) (by simp [ho]) (by simp [ho]) h hdst hp
 | binOp op t x y u => exact OpOk.fin (C := C) (op_binOp hE.1 ho) (by simp [ho]) (by simp [ho]) h hdst hp
 | unOp op t x => exact OpOk.fin (C := C) (op_unOp ho) (by simp [ho]) (by simp [ho]) h hdst hp
 | convert u t x => exact OpOk.fin (C := C) (op_convert hE.1 ho) (by simp [ho]) (by simp [ho]) h hdst hp
 | makeSlice t x y => exact OpOk.fin (C := C) (op_makeSlice hE.1 ho) (by simp [ho]) (by simp [ho]) h hdst hp
 | slice t x lo hi mx => exact OpOk.fin (C := C) (op_slice hE.1 ho) (by simp [ho]) (by simp [ho]) h hdst hp
 | fieldAddr t x f => exact OpOk.fin (C := C) (op_fieldAddr hE.1 ho) (by simp [ho]) (by simp [ho]) h hdst hp
 | indexAddr t x i => exact OpOk.fin (C := C) (op_indexAddr hE.1 ho) (by simp [ho]) (by simp [ho]) h hdst hp
 | index t x i => exact OpOk.fin (C := C) (op_index hE.1 ho) (by simp [ho]) (by simp [ho]) h hdst hp
 | field t x f => exact OpOk.fin (C := C) (op_field hE.1 ho) (by simp [ho]) (by simp [ho]) h hdst hp
 | extract x i => exact OpOk.fin (C := C) (op_extract ho) (by simp [ho]) (by simp [ho]) h hdst hp
 | call cl =>
   have hns : ∀ t x y, o.op ≠ .store t x y := by simp [ho]
   cases hc : cl.callee with
   | value fo => exact OpOk.fin (C := C) (op_call hE ho hc) hns (fun c e => by rw [ho] at e; cases e; rw [hc]; simp) h hdst hp
   | invoke r m =>
     exfalso
     simp only [plan, ho, hc] at hp
     cases hd : o.dst <;> rw [hd] at hp <;> exact fail_some hp
   | builtin b =>
     have hlen : b = .len → OpOk' P E C o := by
      rintro rfl
      match hx : cl.args.toList with
      | [x] => intro s a w g us Q h hdst hp; exact OpOk.fin (C := C) (op_len hE.1 ho hc hx) hns (fun c e => by rw [ho] at e; cases e; rw [hc]; simp) h hdst hp
      | [] =>
        intro s a w g us Q h hdst hp; exfalso
        simp only [plan, ho, hc, hx] at hp
        cases hd : o.dst <;> rw [hd] at hp <;> exact fail_some hp
      | [x, y] =>
        intro s a w g us Q h hdst hp; exfalso
        simp only [plan, ho, hc, hx] at hp
        cases hd : o.dst with
        | none => rw [hd] at hp; exact fail_some hp
        | some d =>
          rw [hd] at hp
          simp only [] at hp
          split at hp
          ·simp only [minMax] at hp; exact fail_some hp
          ·exact fail_some hp
      | x :: y :: z :: r =>
        intro s a w g us Q h hdst hp; exfalso
        simp only [plan, ho, hc, hx] at hp
        cases hd : o.dst <;> rw [hd] at hp <;> exact fail_some hp
     by_cases h1 : b = .len
     ·exact hlen h1 h hdst hp
     ·match hx : cl.args.toList with
      | [x, y] =>
        by_cases h2 : b = .append
        ·subst h2; exact OpOk.fin (C := C) (op_append hE.1 ho hc hx) hns (fun c e => by rw [ho] at e; cases e; rw [hc]; simp) h hdst hp
        ·by_cases h4 : b = .copy
         ·subst h4; exact OpOk.fin (C := C) (op_copy hE.1 ho hc hx) hns (fun c e => by rw [ho] at e; cases e; rw [hc]; simp) h hdst hp
         by_cases h3 : b = .min ∨ b = .max
         ·exact OpOk.fin (C := C) (op_minmax ho hc h3 hx) hns (fun c e => by rw [ho] at e; cases e; rw [hc]; rcases h3 with rfl | rfl <;> simp) h hdst hp
         ·exfalso
          simp only [plan, ho, hc, hx] at hp
          cases hd : o.dst with
          | none => rw [hd] at hp; exact fail_some hp
          | some d =>
            rw [hd] at hp
            cases b <;> simp only [reduceCtorEq, not_true_eq_false, or_false, or_true, not_false_eq_true] at h1 h2 h3 h4 <;> simp only [] at hp <;> (split at hp) <;> first | exact fail_some hp | (simp only [minMax] at hp; exact fail_some hp)
      | [] =>
        exfalso
        simp only [plan, ho, hc, hx] at hp
        cases hd : o.dst with
        | none => rw [hd] at hp; exact fail_some hp
        | some d => rw [hd] at hp; cases b <;> exact fail_some hp
      | [x] =>
        by_cases hcc : o.dst = none ∧ b = .clear ∧ ∃ t, cl.argTypes.toList = [t]
        ·obtain ⟨hd, rfl, t, ht⟩ := hcc
         simp only [plan, ho, hc, hx, hd, ht] at hp
         exact op_clear hE.1 ho hc hx ht hd h hp
        exfalso
        simp only [plan, ho, hc, hx] at hp
        cases hd : o.dst with
        | none =>
          rw [hd] at hp
          simp only [] at hp
          split at hp
          ·rename_i x' t' e1 e2 e3
           cases e1
           exact hcc ⟨hd, rfl, t', e3⟩
          ·exact fail_some hp
        | some d => rw [hd] at hp; cases b <;> first | exact absurd rfl h1 | exact fail_some hp
      | x :: y :: z :: r =>
        exfalso
        simp only [plan, ho, hc, hx] at hp
        cases hd : o.dst with
        | none => rw [hd] at hp; exact fail_some hp
        | some d => rw [hd] at hp; cases b <;> exact fail_some hp
 | _ =>
   exfalso
   simp only [plan, ho] at hp
   cases hd : o.dst <;> rw [hd] at hp <;> exact fail_some hp
end
end Go.AM
end
section
set_option linter.unusedVariables false
namespace Go.AM
open Go
section
variable {P : Program} {E : Env} {C : Ctx} {s s' : St} {o : Oper} {W : Loc → Prop}
def IdEq (x y : T × Nat) : Prop := x = y ∨ (x.2 = y.2 ∧ idSame x.1 y.1 = true)
theorem idSame_iff {t u : T} : idSame t u = true ↔ ∃ ag cs cs', t = .val ag cs ∧ u = .val ag cs' ∧ allPure cs = false ∧ allPure cs' = false ∧ cs.length = cs'.length := by
 constructor
 ·intro h
  unfold idSame at h
  split at h
  ·rename_i ag cs ag' cs'
   simp only [Bool.and_eq_true, Bool.not_eq_true', beq_iff_eq] at h
   obtain ⟨⟨⟨rfl, h1⟩, h2⟩, h3⟩ := h
   exact ⟨ag, cs, cs', rfl, rfl, h1, h2, Nat.eq_of_beq_eq_true h3⟩
  ·cases h
 ·rintro ⟨ag, cs, cs', rfl, rfl, h1, h2, h3⟩
  simp [idSame, h1, h2, h3]
theorem IdEq.refl (x : T × Nat) : IdEq x x := .inl rfl
theorem IdEq.symm {x y : T × Nat} (h : IdEq x y) : IdEq y x := by
 rcases h with rfl | ⟨h1, h2⟩
 ·exact .inl rfl
 ·obtain ⟨ag, cs, cs', e1, e2, k1, k2, k3⟩ := idSame_iff.1 h2
  exact .inr ⟨h1.symm, idSame_iff.2 ⟨ag, cs', cs, e2, e1, k2, k1, k3.symm⟩⟩
theorem IdEq.trans {x y z : T × Nat} (h : IdEq x y) (k : IdEq y z) : IdEq x z := by
 rcases h with rfl | ⟨h1, h2⟩
 ·exact k
 rcases k with rfl | ⟨k1, k2⟩
 ·exact .inr ⟨h1, h2⟩
 obtain ⟨ag, cs, cs', e1, e2, a1, a2, a3⟩ := idSame_iff.1 h2
 obtain ⟨ag2, ds, ds', e3, e4, b1, b2, b3⟩ := idSame_iff.1 k2
 rw [e2] at e3; cases e3
 exact .inr ⟨h1.trans k1, idSame_iff.2 ⟨ag, cs, ds', e1, e4, a1, b2, a3.trans b3⟩⟩
structure Agree (W : Loc → Prop) (s s' : St) : Prop where
 tm : ∀ n, W (.tm n) → s.tm n = s'.tm n
 bx : ∀ n, W (.bx n) → s.bx n = s'.bx n
 id : ∀ n, W (.id n) → IdEq (s.tm n) (s'.tm n)
theorem IdEq.ver {x y : T × Nat} (h : IdEq x y) : x.2 = y.2 := by
 rcases h with rfl | ⟨h, _⟩
 ·rfl
 ·exact h
theorem Agree.upds (h : Agree W s s') : ∀ us : List Upd, Agree W (s.upds us) (s'.upds us) := by
 intro us
 induction us generalizing s s' with
 | nil => exact h
 | cons u us ih =>
   refine ih (s := u.on s) (s' := u.on s') ?_
   cases u with
   | tm k t =>
     refine ⟨fun n hn => ?_, h.bx, fun n hn => ?_⟩
     ·simp only [Upd.on, put]
      cases hb : Nat.beq n k with
      | false => exact h.tm n hn
      | true => have := Nat.eq_of_beq_eq_true hb; subst this; simp only [cond_true]; rw [h.tm n hn]
     ·simp only [Upd.on, put]
      cases hb : Nat.beq n k with
      | false => exact h.id n hn
      | true => have := Nat.eq_of_beq_eq_true hb; subst this; simp only [cond_true]; rw [(h.id n hn).ver]; exact .inl rfl
   | keep k t =>
     refine ⟨fun n hn => ?_, h.bx, fun n hn => ?_⟩
     ·simp only [Upd.on, put]
      cases hb : Nat.beq n k with
      | false => exact h.tm n hn
      | true => have := Nat.eq_of_beq_eq_true hb; subst this; simp only [cond_true]; rw [h.tm n hn]
     ·simp only [Upd.on, put]
      cases hb : Nat.beq n k with
      | false => exact h.id n hn
      | true => have := Nat.eq_of_beq_eq_true hb; subst this; simp only [cond_true]; rw [(h.id n hn).ver]; exact .inl rfl
   | bx k b =>
     refine ⟨h.tm, fun n hn => ?_, h.id⟩
     simp only [Upd.on, put]
     cases hb : Nat.beq n k with
     | false => exact h.bx n hn
     | true => rfl
def Sees (W : Loc → Prop) (s : St) (x : Operand) : Prop := ∀ L, L ∈ opdLocs s x → W L
def Upd.mild : Upd → Prop
 | .keep _ t => t.locs = []
 | .bx _ _ => True
 | .tm _ _ => False
theorem Sees.upds {x : Operand} : ∀ (us : List Upd) (s : St), (∀ u, u ∈ us → u.mild) → Sees W s x → Sees W (s.upds us) x
 | [], _, _, h => h
 | u :: us, s, hm, h => by
   refine Sees.upds us (u.on s) (fun v hv => hm v (by simp [hv])) ?_
   have hu := hm u (by simp)
   cases x with
   | tmp t =>
     intro L hL
     cases u with
     | tm k t' => exact hu.elim
     | bx k b => exact h L hL
     | keep k t' =>
       simp only [opdLocs, Upd.on, put] at hL
       cases hb : Nat.beq t k with
       | false => rw [hb] at hL; exact h L hL
       | true =>
         rw [hb] at hL
         have hu' : t'.locs = [] := hu
         simp only [cond_true, hu', List.mem_singleton] at hL
         rw [hL]; exact h _ (by simp [opdLocs])
   | _ => intro L hL; simp [opdLocs] at hL
theorem at_congr (h : Agree W s s') {x : Operand} (hx : Sees W s x) : at_ E s x = at_ E s' x := by
 cases x with
 | tmp n => simp only [at_]; rw [h.tm n (hx _ (by simp [opdLocs]))]
 | _ => rfl
theorem sees_root {x : Operand} {p : Pl} (hx : Sees W s x) (h : p.root.loc ∈ (at_ E s x).locs) : W p.root.loc := by
 cases x with
 | tmp n => exact hx _ (by simp only [opdLocs]; exact List.mem_cons_of_mem _ h)
 | const v =>
   exfalso
   simp only [at_] at h
   unfold constT at h
   split at h <;> simp [T.locs, T.loc] at h
 | global g =>
   exfalso
   simp only [at_] at h
   split at h <;> simp [T.locs, T.loc] at h
 | func f => simp [at_, T.locs, T.loc] at h
theorem rootCells_congr (h : Agree W s s') {r : Root} (hr : W r.loc) : rootCells s r = rootCells s' r := by
 cases r with
 | tmp n => simp only [rootCells]; rw [h.tm n hr]
 | box n => simp only [rootCells]; rw [h.bx n hr]
theorem plCells_congr (h : Agree W s s') {p : Pl} (hr : W p.root.loc) (n : Nat) : plCells s p n = plCells s' p n := by
 unfold plCells; rw [rootCells_congr h hr]
theorem plPut_congr (h : Agree W s s') {p : Pl} (hr : W p.root.loc) (ds : List CV) (f : Bool) : plPut s p ds f = plPut s' p ds f := by
 unfold plPut
 cases hp : p.root with
 | tmp n => rw [hp] at hr; simp only []; rw [h.tm n hr]
 | box n => rw [hp] at hr; simp only []; rw [h.bx n hr]
theorem plLive_congr (h : Agree W s s') {p : Pl} (hr : W p.root.loc) : plLive s p = plLive s' p := by
 unfold plLive
 rw [rootCells_congr h hr, plCells_congr h hr]
theorem plVers_congr (h : Agree W s s') {p : Pl} (hr : W p.root.loc) (n : Nat) : plVers s p n = plVers s' p n := by
 unfold plVers; rw [rootCells_congr h hr]
theorem content_congr (h : Agree W s s') {p : Pl} (hr : W p.root.loc) (n : Nat) : content s p n = content s' p n := by
 unfold content; rw [plCells_congr h hr, plCells_congr h hr]
theorem writeAt_congr (h : Agree W s s') {p : Pl} (hr : W p.root.loc) (ds : List CV) : writeAt s p ds = writeAt s' p ds := by
 have e : ∀ (ds : List CV) (f : Bool), plPut s p ds f = plPut s' p ds f := plPut_congr h hr
 unfold writeAt
 rw [plCells_congr h hr, plCells_congr h hr]
 simp only [e]
theorem dlAt_congr (h : Agree W s s') {p : Pl} (hr : W p.root.loc) : dlAt s p = dlAt s' p := by
 unfold dlAt; rw [plCells_congr h hr]
theorem write2_congr (h : Agree W s s') {p : Pl} (hr : W p.root.loc) (k q : Nat) (ds : List CV) : write2 s p k q ds = write2 s' p k q ds := by
 have e : ∀ (ds : List CV) (f : Bool), plPut s p ds f = plPut s' p ds f := plPut_congr h hr
 unfold write2
 rw [dlAt_congr h hr]
 simp only [e]
theorem shapesOf_congr (h : Agree W s s') {p : Pl} (hr : W p.root.loc) (n : Nat) (t : List Sh) : shapesOf s p n t = shapesOf s' p n t := by
 unfold shapesOf; rw [plCells_congr h hr]
theorem killAt_congr (h : Agree W s s') {p : Pl} (hr : W p.root.loc) (cs : List CV) : killAt s p cs = killAt s' p cs := by
 unfold killAt; rw [plPut_congr h hr]
theorem plPut_mild {p : Pl} {ds : List CV} {f : Bool} {us : List Upd} (h : plPut s p ds f = some us) : ∀ u, u ∈ us → u.mild := by
 unfold plPut at h
 split at h
 ·split at h
  ·cases f with
   | true => simp at h
   | false =>
     simp only [cond_eq_ite, Bool.false_eq_true, if_false] at h
     split at h
     ·cases h; intro u hu; simp only [List.mem_singleton] at hu; subst hu; rfl
     ·cases h
  ·cases h
 ·split at h
  ·simp only [cond_eq_ite] at h
   split at h
   ·cases h; intro u hu; simp only [List.mem_singleton] at hu; subst hu; exact trivial
   ·cases h
  ·cases h
theorem killAt_mild {p : Pl} {cs : List CV} {us : List Upd} (h : killAt s p cs = some us) : ∀ u, u ∈ us → u.mild := by
 unfold killAt at h
 simp only [cond_eq_ite] at h
 split at h
 ·cases h; intro u hu; cases hu
 ·split at h
  ·exact plPut_mild h
  ·cases h
theorem bind_congr {α β : Type} {d d' : Dyn α} {q q' : α → Dyn β} (h : d.run = d'.run) (hq : ∀ a, d.run = some a → (q a).run = (q' a).run) : (d.bind q).run = (d'.bind q').run := by
 rw [Dyn.run_bind, Dyn.run_bind, ← h]
 cases hd : d.run with
 | none => rfl
 | some a => exact hq a hd
theorem takeT_congr (h : Agree W s s') {x : Operand} (hx : Sees W s x) (exp : List Sh) : takeT E s x exp = takeT E s' x exp := by
 unfold takeT
 rw [← at_congr (E := E) h hx]
 cases hat : at_ E s x with
 | ref p ag n =>
   have hr : W p.root.loc := sees_root (E := E) hx (by rw [hat]; simp [T.locs, T.loc])
   simp only []
   rw [content_congr h hr]
   simp only [killAt_congr h hr]
 | rsub p z lo hi =>
   have hr : W p.root.loc := sees_root (E := E) hx (by rw [hat]; simp [T.locs, T.loc])
   simp only []
   rw [content_congr h hr]
   simp only [killAt_congr h hr]
 | rowr p ag n =>
   have hr : W p.root.loc := sees_root (E := E) hx (by rw [hat]; simp [T.locs, T.loc])
   simp only []
   rw [dlAt_congr h hr]
   simp only [plPut_congr h hr]
 | _ => rfl
theorem takeT_mild {x : Operand} {exp : List Sh} {ag : Bool} {cs : List CV} {us : List Upd} (h : (takeT E s x exp).run = some (ag, cs, us)) : ∀ u, u ∈ us → u.mild := by
 unfold takeT at h
 have none : ∀ u : Upd, u ∈ ([] : List Upd) → u.mild := fun u hu => by cases hu
 split at h
 ·simp only [cond_eq_ite] at h
  split at h
  ·have := ret_some h; simp only [Prod.mk.injEq] at this; obtain ⟨_, _, rfl⟩ := this; exact none
  ·split at h
   ·have := ret_some h; simp only [Prod.mk.injEq] at this; obtain ⟨_, _, rfl⟩ := this
    intro u hu; simp only [List.mem_singleton] at hu; subst hu; rfl
   ·exact (fail_some h).elim
 ·obtain ⟨cs', _, h⟩ := dyn_bind h
  split at h
  ·rename_i us' hk
   have := ret_some h; simp only [Prod.mk.injEq] at this; obtain ⟨_, _, rfl⟩ := this
   exact killAt_mild hk
  ·exact (fail_some h).elim
 ·obtain ⟨cs', _, h⟩ := dyn_bind h
  split at h
  ·split at h
   ·rename_i hk
    have := ret_some h; simp only [Prod.mk.injEq] at this; obtain ⟨_, _, rfl⟩ := this
    exact killAt_mild hk
   ·exact (fail_some h).elim
  ·exact (fail_some h).elim
 ·split at h
  ·obtain ⟨_, h⟩ := bif_some h
   have := ret_some h; simp only [Prod.mk.injEq] at this; obtain ⟨_, _, rfl⟩ := this; exact none
  ·exact (fail_some h).elim
 ·split at h
  ·obtain ⟨cs', _, h⟩ := dyn_bind h
   split at h
   ·split at h
    ·rename_i us' hk
     have := ret_some h; simp only [Prod.mk.injEq] at this; obtain ⟨_, _, rfl⟩ := this
     exact plPut_mild hk
    ·exact (fail_some h).elim
   ·exact (fail_some h).elim
  ·exact (fail_some h).elim
 ·exact (fail_some h).elim
theorem peekT_congr (h : Agree W s s') {x : Operand} (hx : Sees W s x) : peekT E s x = peekT E s' x := by
 unfold peekT
 rw [← at_congr (E := E) h hx]
 cases hat : at_ E s x with
 | ref p ag n =>
   have hr : W p.root.loc := sees_root (E := E) hx (by rw [hat]; simp [T.locs, T.loc])
   cases ag
   ·simp only []; rw [content_congr h hr]
   ·rfl
 | rsub p z lo hi =>
   have hr : W p.root.loc := sees_root (E := E) hx (by rw [hat]; simp [T.locs, T.loc])
   simp only []
   rw [content_congr h hr]
 | val ag cs => cases ag <;> rfl
 | _ => rfl
theorem peekInt_congr (h : Agree W s s') {x : Operand} (hx : Sees W s x) : peekInt E s x = peekInt E s' x := by
 unfold peekInt; rw [← at_congr (E := E) h hx]
theorem peekBool_congr (h : Agree W s s') {x : Operand} (hx : Sees W s x) : peekBool E s x = peekBool E s' x := by
 unfold peekBool; rw [← at_congr (E := E) h hx]
theorem fillParts_congr (fields : List (Nat × Nat)) (cells : List Sh) : ∀ (ps : List (Nat × Operand)) (s s' : St) (cs : List CV) (us : List Upd), Agree W s s' → (∀ p, p ∈ ps → Sees W s p.2) → (fillParts E fields cells ps s cs us).run = (fillParts E fields cells ps s' cs us).run
 | [], _, _, _, _, _, _ => rfl
 | (i, x) :: ps, s, s', cs, us, h, hx => by
   simp only [fillParts]
   cases fields[i]? with
   | none => rfl
   | some on =>
     obtain ⟨off, n⟩ := on
     refine bind_congr (by rw [takeT_congr h (hx (i, x) (by simp))]) fun r hr => ?_
     obtain ⟨ag, ds, vs⟩ := r
     simp only []
     cases (Nat.beq ds.length n && sameSh ds ((cs.drop off).take n)) with
     | false => rfl
     | true => exact fillParts_congr fields cells ps _ _ _ _ (h.upds vs) fun p hp => (hx p (by simp [hp])).upds vs s (takeT_mild hr)
theorem clos_congr (h : Agree W s s') : ∀ (xs : List Operand), (∀ x, x ∈ xs → Sees W s x) → clos E s xs = clos E s' xs
 | [], _ => rfl
 | x :: xs, hx => by
   simp only [clos]
   rw [← at_congr (E := E) h (hx x (by simp)), clos_congr h xs fun y hy => hx y (by simp [hy])]
end
end Go.AM
end
section
set_option linter.unusedVariables false
namespace Go.AM
open Go
section
variable {P : Program} {E : Env} {C : Ctx} {s s' : St} {o : Oper} {W : Loc → Prop}
theorem giveAt_congr (h : Agree W s s') {p : Pl} (hr : W p.root.loc) (cs : List CV) (want : List (Sh × Tg)) : giveAt s p cs want = giveAt s' p cs want := by
 unfold giveAt; simp only [plPut_congr h hr]
theorem giveT_congr (h : Agree W s s') {x : Operand} (hx : Sees W s x) (y : Operand) (ag : Bool) (want : List (Sh × Tg)) : giveT s (at_ E s x) y ag want = giveT s' (at_ E s x) y ag want := by
 unfold giveT
 cases hat : at_ E s x with
 | ref p ag n =>
   have hr : W p.root.loc := sees_root (E := E) hx (by rw [hat]; simp [T.locs, T.loc])
   simp only []
   rw [content_congr h hr]
   simp only [giveAt_congr h hr]
 | rsub p z lo hi =>
   have hr : W p.root.loc := sees_root (E := E) hx (by rw [hat]; simp [T.locs, T.loc])
   simp only []
   rw [content_congr h hr]
   simp only [plPut_congr h hr]
 | _ => rfl
theorem mild_nil : ∀ u : Upd, u ∈ ([] : List Upd) → u.mild := fun u hu => by cases hu
theorem giveAt_mild {p : Pl} {cs ds : List CV} {want : List (Sh × Tg)} {us : List Upd} (h : (giveAt s p cs want).run = some (ds, us)) : ∀ u, u ∈ us → u.mild := by
 unfold giveAt at h
 split at h
 ·exact (fail_some h).elim
 ·simp only [cond_eq_ite] at h
  split at h
  ·have := ret_some h; simp only [Prod.mk.injEq] at this; obtain ⟨_, rfl⟩ := this; exact mild_nil
  ·split at h
   ·split at h
    ·rename_i hp
     have := ret_some h; simp only [Prod.mk.injEq] at this; obtain ⟨_, rfl⟩ := this; exact plPut_mild hp
    ·exact (fail_some h).elim
   ·exact (fail_some h).elim
theorem giveT_mild {t : T} {y : Operand} {ag : Bool} {want : List (Sh × Tg)} {ds : List CV} {us : List Upd} (h : (giveT s t y ag want).run = some (ds, us)) : ∀ u, u ∈ us → u.mild := by
 unfold giveT at h
 split at h
 ·obtain ⟨_, h⟩ := bif_some h
  split at h
  ·exact (fail_some h).elim
  ·simp only [cond_eq_ite] at h
   split at h
   ·have := ret_some h; simp only [Prod.mk.injEq] at this; obtain ⟨_, rfl⟩ := this; exact mild_nil
   ·split at h
    ·have := ret_some h; simp only [Prod.mk.injEq] at this; obtain ⟨_, rfl⟩ := this
     intro u hu; simp only [List.mem_singleton] at hu; subst hu; rfl
    ·exact (fail_some h).elim
 ·obtain ⟨_, h⟩ := bif_some h
  obtain ⟨cs, _, h⟩ := dyn_bind h
  exact giveAt_mild h
 ·simp only [cond_eq_ite] at h
  split at h
  ·exact (fail_some h).elim
  ·obtain ⟨cs, _, h⟩ := dyn_bind h
   split at h
   ·split at h
    ·exact (fail_some h).elim
    ·split at h
     ·exact (fail_some h).elim
     ·split at h
      ·split at h
       ·split at h
        ·rename_i hp
         have := ret_some h; simp only [Prod.mk.injEq] at this; obtain ⟨_, rfl⟩ := this; exact plPut_mild hp
        ·exact (fail_some h).elim
       ·exact (fail_some h).elim
      ·exact (fail_some h).elim
   ·exact (fail_some h).elim
 ·simp only [cond_eq_ite] at h
  split at h
  ·exact (fail_some h).elim
  ·obtain ⟨cs, _, h⟩ := dyn_bind h
   have := ret_some h; simp only [Prod.mk.injEq] at this; obtain ⟨_, rfl⟩ := this; exact mild_nil
 ·exact (fail_some h).elim
theorem rowParts_congr (ag : Bool) (want : List (Sh × Tg)) : ∀ (ps : List (Nat × Operand)) (k : Nat) (s s' : St) (rows : List (List CV)) (us : List Upd), Agree W s s' → (∀ p, p ∈ ps → Sees W s p.2) → (rowParts E ag want ps k s rows us).run = (rowParts E ag want ps k s' rows us).run
 | [], _, _, _, _, _, _, _ => rfl
 | (i, x) :: ps, k, s, s', rows, us, h, hx => by
   simp only [rowParts]
   cases Nat.beq i k with
   | false => rfl
   | true =>
     have sx := hx (i, x) (by simp)
     refine bind_congr (by rw [← at_congr (E := E) h sx, giveT_congr h sx]) fun r hr => ?_
     exact rowParts_congr ag want ps _ _ _ _ _ (h.upds r.2) fun p hp => (hx p (by simp [hp])).upds r.2 s (giveT_mild (ds := r.1) (us := r.2) hr)
theorem giveP_congr (h : Agree W s s') {x : Operand} (hx : Sees W s x) (bs : List (Option Nat)) (pk : PK) : giveP s bs pk (at_ E s x) x = giveP s' bs pk (at_ E s' x) x := by
 rw [← at_congr (E := E) h hx]
 unfold giveP
 cases pk with
 | val ag want => simp only []; rw [giveT_congr h hx]
 | io want => simp only []; rw [giveT_congr h hx]
 | ptr want =>
   simp only []
   cases hat : at_ E s x with
   | addr p =>
     have hr : W p.root.loc := sees_root (E := E) hx (by rw [hat]; simp [T.locs, T.loc])
     simp only []
     rw [plCells_congr h hr]
     cases hp : p.root with
     | tmp n => rfl
     | box n =>
       rw [hp] at hr
       have hb : s.bx n = s'.bx n := h.bx n hr
       have hr' : W p.root.loc := by rw [hp]; exact hr
       cases p.sub with
       | some ij => rfl
       | none =>
         cases plCells s' p want.length with
         | none => rfl
         | some cs => simp only [hb, plPut_congr h hr']
   | _ => rfl
 | _ => rfl
theorem giveP_facts {x : Operand} {bs : List (Option Nat)} {pk : PK} {ds : List CV} {us : List Upd} {b : Option Nat} (hx : Sees W s x) (h : (giveP s bs pk (at_ E s x) x).run = some (ds, us, b)) : (∀ u, u ∈ us → u.mild) ∧ ∀ n, b = some n → W (.bx n) := by
 unfold giveP at h
 cases pk with
 | val ag want =>
   simp only [] at h
   obtain ⟨r, hr, h⟩ := dyn_bind h
   have := ret_some h; simp only [Prod.mk.injEq] at this; obtain ⟨_, rfl, rfl⟩ := this
   exact ⟨giveT_mild (ds := r.1) (us := r.2) hr, fun n e => by cases e⟩
 | rptr want =>
   simp only [] at h
   obtain ⟨r, hr, h⟩ := dyn_bind h
   have := ret_some h; simp only [Prod.mk.injEq] at this; obtain ⟨_, rfl, rfl⟩ := this
   exact ⟨mild_nil, fun n e => by cases e⟩
 | io want =>
   simp only [] at h
   obtain ⟨r, hr, h⟩ := dyn_bind h
   have := ret_some h; simp only [Prod.mk.injEq] at this; obtain ⟨_, rfl, rfl⟩ := this
   exact ⟨giveT_mild (ds := r.1) (us := r.2) hr, fun n e => by cases e⟩
 | fn f =>
   simp only [] at h
   split at h
   ·obtain ⟨_, h⟩ := bif_some h
    have := ret_some h; simp only [Prod.mk.injEq] at this; obtain ⟨_, rfl, rfl⟩ := this
    exact ⟨mild_nil, fun n e => by cases e⟩
   ·exact (fail_some h).elim
 | ptr want =>
   simp only [] at h
   split at h
   ·rename_i p hat
    have hr : W p.root.loc := sees_root (E := E) hx (by rw [hat]; simp [T.locs, T.loc])
    split at h
    ·rename_i n cs hp _ _
     obtain ⟨_, h⟩ := bif_some h
     split at h
     ·rename_i hu
      have := ret_some h; simp only [Prod.mk.injEq] at this; obtain ⟨_, rfl, rfl⟩ := this
      refine ⟨plPut_mild hu, fun m e => ?_⟩
      cases e
      rw [hp] at hr; exact hr
     ·exact (fail_some h).elim
    ·exact (fail_some h).elim
   ·exact (fail_some h).elim
theorem giveAll_congr : ∀ (ps : List PK) (xs : List Operand) (bs : List (Option Nat)) (s s' : St) (cs : List CV) (us : List Upd), Agree W s s' → (∀ x, x ∈ xs → Sees W s x) → (giveAll E ps xs bs s cs us).run = (giveAll E ps xs bs s' cs us).run
 | [], [], _, _, _, _, _, _, _ => rfl
 | [], _ :: _, _, _, _, _, _, _, _ => rfl
 | _ :: _, [], _, _, _, _, _, _, _ => rfl
 | p :: ps, x :: xs, bs, s, s', cs, us, h, hx => by
   simp only [giveAll]
   refine bind_congr (by rw [giveP_congr h (hx x (by simp))]) fun r hr => ?_
   exact giveAll_congr ps xs _ _ _ _ _ (h.upds r.2.1) fun y hy => (hx y (by simp [hy])).upds r.2.1 s (giveP_facts (ds := r.1) (us := r.2.1) (b := r.2.2) (hx x (by simp)) hr).1
theorem giveAll_boxes : ∀ (ps : List PK) (xs : List Operand) (bs : List (Option Nat)) (s : St) (cs : List CV) (us : List Upd) (cs' : List CV) (us' : List Upd) (bs' : List (Option Nat)), (∀ x, x ∈ xs → Sees W s x) → (∀ n, some n ∈ bs → W (.bx n)) →
 (giveAll E ps xs bs s cs us).run = some (cs', us', bs') → ∀ n, some n ∈ bs' → W (.bx n)
 | [], [], bs, s, cs, us, cs', us', bs', _, hb, h => by
   have := ret_some h; simp only [Prod.mk.injEq] at this; obtain ⟨_, _, rfl⟩ := this; exact hb
 | [], _ :: _, _, _, _, _, _, _, _, _, _, h => (fail_some h).elim
 | _ :: _, [], _, _, _, _, _, _, _, _, _, h => (fail_some h).elim
 | p :: ps, x :: xs, bs, s, cs, us, cs', us', bs', hx, hb, h => by
   simp only [giveAll] at h
   obtain ⟨r, hr, h⟩ := dyn_bind h
   obtain ⟨k1, k2⟩ := giveP_facts (ds := r.1) (us := r.2.1) (b := r.2.2) (hx x (by simp)) hr
   refine giveAll_boxes ps xs _ _ _ _ cs' us' bs' (fun y hy => (hx y (by simp [hy])).upds r.2.1 s k1) (fun n hn => ?_) h
   rcases List.mem_append.1 hn with hn | hn
   ·exact hb n hn
   ·simp only [List.mem_singleton] at hn; exact k2 n hn.symm
theorem lendT_congr (h : Agree W s s') {t : T} (ht : ∀ L, L ∈ t.loc → W L) (want : List (Sh × Tg)) : lendT s t want = lendT s' t want := by
 unfold lendT
 cases t with
 | addr p =>
   have hr : W p.root.loc := ht _ (by simp [T.loc])
   simp only []; rw [content_congr h hr]
 | _ => rfl
theorem loc_locs (t : T) {L : Loc} (h : L ∈ t.loc) : L ∈ t.locs := by
 cases t with
 | clo f ts => simp [T.loc] at h
 | _ => exact h
theorem sees_locs {x : Operand} (hx : Sees W s x) : ∀ L, L ∈ (at_ E s x).locs → W L := by
 intro L hL
 cases x with
 | tmp n => exact hx _ (by simp only [opdLocs]; exact List.mem_cons_of_mem _ hL)
 | const v =>
   exfalso
   simp only [at_] at hL
   unfold constT at hL
   split at hL <;> simp [T.locs, T.loc] at hL
 | global g =>
   exfalso
   simp only [at_] at hL
   split at hL <;> simp [T.locs, T.loc] at hL
 | func f => simp [at_, T.locs, T.loc] at hL
theorem lendP_congr (h : Agree W s s') {x : Operand} (hx : Sees W s x) (pk : PK) : lendP E s pk x = lendP E s' pk x := by
 unfold lendP
 rw [← at_congr (E := E) h hx]
 cases pk with
 | val ag0 want =>
   cases hat : at_ E s x with
   | ref p ag n =>
     have hr : W p.root.loc := sees_root (E := E) hx (by rw [hat]; simp [T.locs, T.loc])
     simp only []; rw [content_congr h hr]
   | rsub p z lo hi =>
     have hr : W p.root.loc := sees_root (E := E) hx (by rw [hat]; simp [T.locs, T.loc])
     simp only []; rw [content_congr h hr]
   | _ => rfl
 | rptr want =>
   exact lendT_congr h (fun L hL => sees_locs (E := E) hx L (loc_locs _ hL)) want
 | _ => rfl
theorem lendAll_congr (h : Agree W s s') : ∀ (ps : List PK) (xs : List Operand) (ts : List T), (∀ x, x ∈ xs → Sees W s x) → (∀ t, t ∈ ts → ∀ L, L ∈ t.loc → W L) → lendAll E s ps xs ts = lendAll E s' ps xs ts
 | [], [], [], _, _ => rfl
 | [], [], _ :: _, _, _ => rfl
 | [], _ :: _, _, _, _ => rfl
 | p :: _, [], [], _, _ => by cases p <;> rfl
 | p :: ps, x :: xs, ts, hx, ht => by
   simp only [lendAll]
   rw [lendP_congr h (hx x (by simp)), lendAll_congr h ps xs ts (fun y hy => hx y (by simp [hy])) ht]
 | .rptr want :: ps, [], t :: ts, hx, ht => by
   simp only [lendAll]
   rw [lendT_congr h (ht t (by simp)), lendAll_congr h ps [] ts hx (fun t' h' => ht t' (by simp [h']))]
 | .val _ _ :: _, [], _ :: _, _, _ => rfl
 | .ptr _ :: _, [], _ :: _, _, _ => rfl
 | .fn _ :: _, [], _ :: _, _, _ => rfl
 | .io _ :: _, [], _ :: _, _, _ => rfl
theorem backAll_congr (h : Agree W s s') : ∀ (ps : List PK) (bs : List (Option Nat)) (cs : List CV), (∀ n, some n ∈ bs → W (.bx n)) → backAll s ps bs cs = backAll s' ps bs cs
 | [], [], _, _ => rfl
 | [], _ :: _, _, _ => rfl
 | .ptr _ :: _, [], _, _ => rfl
 | .ptr _ :: _, none :: _, _, _ => rfl
 | .ptr want :: ps, some n :: bs, cs, hb => by
   simp only [backAll]
   rw [h.bx n (hb n (by simp)), backAll_congr h ps bs _ fun m hm => hb m (by simp [hm])]
 | .val _ _ :: ps, [], _, _ => rfl
 | .val _ _ :: ps, some _ :: _, _, _ => rfl
 | .val _ _ :: ps, none :: bs, cs, hb => by simp only [backAll]; exact backAll_congr h ps bs _ fun m hm => hb m (by simp [hm])
 | .rptr _ :: ps, [], _, _ => rfl
 | .rptr _ :: ps, some _ :: _, _, _ => rfl
 | .rptr _ :: ps, none :: bs, cs, hb => by simp only [backAll]; exact backAll_congr h ps bs _ fun m hm => hb m (by simp [hm])
 | .fn _ :: ps, [], _, _ => rfl
 | .fn _ :: ps, some _ :: _, _, _ => rfl
 | .fn _ :: ps, none :: bs, cs, hb => by simp only [backAll]; exact backAll_congr h ps bs _ fun m hm => hb m (by simp [hm])
 | .io _ :: ps, [], _, _ => rfl
 | .io _ :: ps, some _ :: _, _, _ => rfl
 | .io _ :: ps, none :: bs, cs, hb => by simp only [backAll]; exact backAll_congr h ps bs _ fun m hm => hb m (by simp [hm])
theorem backAll_mild : ∀ (ps : List PK) (bs : List (Option Nat)) (cs : List CV) (us : List Upd), backAll s ps bs cs = some us → ∀ u, u ∈ us → u.mild
 | [], [], _, us, h => by simp only [backAll, Option.some.injEq] at h; subst h; exact mild_nil
 | [], _ :: _, _, _, h => by cases h
 | .ptr _ :: _, [], _, _, h => by cases h
 | .ptr _ :: _, none :: _, _, _, h => by cases h
 | .ptr want :: ps, some n :: bs, cs, us, h => by
   simp only [backAll] at h
   split at h
   ·rename_i b us' hb hba
    simp only [cond_eq_ite] at h
    split at h
    ·cases h
     intro u hu
     rcases List.mem_cons.1 hu with rfl | hu
     ·trivial
     ·exact backAll_mild ps bs _ us' hba u hu
    ·cases h
   ·cases h
 | .val _ _ :: ps, [], _, _, h => by cases h
 | .val _ _ :: ps, some _ :: _, _, _, h => by cases h
 | .val _ _ :: ps, none :: bs, cs, us, h => backAll_mild ps bs cs us h
 | .rptr _ :: ps, [], _, _, h => by cases h
 | .rptr _ :: ps, some _ :: _, _, _, h => by cases h
 | .rptr _ :: ps, none :: bs, cs, us, h => backAll_mild ps bs cs us h
 | .fn _ :: ps, [], _, _, h => by cases h
 | .fn _ :: ps, some _ :: _, _, _, h => by cases h
 | .fn _ :: ps, none :: bs, cs, us, h => backAll_mild ps bs cs us h
 | .io _ :: ps, [], _, _, h => by cases h
 | .io _ :: ps, some _ :: _, _, _, h => by cases h
 | .io want :: ps, none :: bs, cs, us, h => backAll_mild ps bs _ us h
theorem giveAll_mild : ∀ (ps : List PK) (xs : List Operand) (bs : List (Option Nat)) (s : St) (cs : List CV) (us : List Upd) (cs' : List CV) (us' : List Upd) (bs' : List (Option Nat)), (∀ x, x ∈ xs → Sees W s x) → (∀ u, u ∈ us → u.mild) →
 (giveAll E ps xs bs s cs us).run = some (cs', us', bs') → ∀ u, u ∈ us' → u.mild
 | [], [], bs, s, cs, us, cs', us', bs', _, hm, h => by
   have := ret_some h; simp only [Prod.mk.injEq] at this; obtain ⟨_, rfl, _⟩ := this; exact hm
 | [], _ :: _, _, _, _, _, _, _, _, _, _, h => (fail_some h).elim
 | _ :: _, [], _, _, _, _, _, _, _, _, _, h => (fail_some h).elim
 | p :: ps, x :: xs, bs, s, cs, us, cs', us', bs', hx, hm, h => by
   simp only [giveAll] at h
   obtain ⟨r, hr, h⟩ := dyn_bind h
   obtain ⟨k1, k2⟩ := giveP_facts (ds := r.1) (us := r.2.1) (b := r.2.2) (hx x (by simp)) hr
   refine giveAll_mild ps xs _ _ _ _ cs' us' bs' (fun y hy => (hx y (by simp [hy])).upds r.2.1 s k1) (fun u hu => ?_) h
   rcases List.mem_append.1 hu with hu | hu
   ·exact hm u hu
   ·exact k1 u hu
theorem ioOf_mem : ∀ (ps : List PK) (xs : List Operand) (cs : List CV) (x : Operand) (c : List CV), (x, c) ∈ ioOf ps xs cs → x ∈ xs
 | [], xs, _, _, _, h => by cases xs <;> simp [ioOf] at h
 | p :: _, [], _, _, _, h => by cases p <;> simp [ioOf] at h
 | .val _ _ :: ps, y :: xs, cs, x, c, h => List.mem_cons_of_mem _ (ioOf_mem ps xs cs x c h)
 | .rptr _ :: ps, y :: xs, cs, x, c, h => List.mem_cons_of_mem _ (ioOf_mem ps xs cs x c h)
 | .fn _ :: ps, y :: xs, cs, x, c, h => List.mem_cons_of_mem _ (ioOf_mem ps xs cs x c h)
 | .ptr _ :: ps, y :: xs, cs, x, c, h => List.mem_cons_of_mem _ (ioOf_mem ps xs _ x c h)
 | .io _ :: ps, y :: xs, cs, x, c, h => by
   simp only [ioOf] at h
   rcases List.mem_cons.1 h with h | h
   ·simp only [Prod.mk.injEq] at h; rw [h.1]; simp
   ·exact List.mem_cons_of_mem _ (ioOf_mem ps xs _ x c h)
theorem putIo_congr (h : Agree W s s') {l : List (Operand × List CV)} (hx : ∀ x c, (x, c) ∈ l → Sees W s x) : putIo E s l = putIo E s' l := by
 unfold putIo
 split
 ·rfl
 ·rename_i x c
  have sx := hx x [c] (by simp)
  unfold putBack
  rw [← at_congr (E := E) h sx]
  cases hat : at_ E s x with
  | ref p ag n =>
    have hr : W p.root.loc := sees_root (E := E) sx (by rw [hat]; simp [T.locs, T.loc])
    match ag, n with
    | true, _ => rfl
    | false, 0 => rfl
    | false, 1 => simp only [plCells_congr h hr, plPut_congr h hr]
    | false, _ + 2 => rfl
  | val ag cs =>
    match ag, cs with
    | true, _ => rfl
    | false, [] => rfl
    | false, [_] => rfl
    | false, _ :: _ :: _ => rfl
  | _ => rfl
 ·rfl
theorem callT_congr (h : Agree W s s') (d : Nat) (xs : List Operand) (ts : List T) (i : Nat) (hx : ∀ x, x ∈ xs → Sees W s x) (ht : ∀ t, t ∈ ts → ∀ L, L ∈ t.loc → W L) : (callT E s d xs ts i).run = (callT E s' d xs ts i).run := by
 unfold callT
 cases (E.sig i).scalar with
 | true => simp only [cond_true]; rw [lendAll_congr h _ _ _ hx ht]
 | false =>
   simp only [cond_false]
   cases noT ts with
   | false => rfl
   | true =>
   simp only [Bool.not_true, cond_false]
   refine bind_congr (giveAll_congr _ _ _ _ _ _ _ h hx) fun r hr => ?_
   have hb := giveAll_boxes (W := W) (E.sig i).params xs [] s [] [] r.1 r.2.1 r.2.2 hx (fun n hn => by cases hn) hr
   cases ofCells ((E.sig i).ins.map (·.1)) r.1 with
   | none => rfl
   | some a =>
     simp only [Dyn.run]
     congr 1
     funext q
     have hm := giveAll_mild (W := W) (E.sig i).params xs [] s [] [] r.1 r.2.1 r.2.2 hx mild_nil hr
     simp only [backAll_congr (h.upds r.2.1) _ _ _ hb]
     split
     ·rfl
     ·rename_i us hus
      rw [putIo_congr ((h.upds r.2.1).upds us) fun x c hxc => ((hx x (ioOf_mem _ _ _ x c hxc)).upds r.2.1 s hm).upds us _ ?_]
      rw [← backAll_congr (h.upds r.2.1) _ _ _ hb] at hus
      exact backAll_mild _ _ _ us hus
theorem copyInto_congr (h : Agree W s s') {p : Pl} (hr : W p.root.loc) (d : Nat) (t u : TypeId) (e : CV) (lo : Nat) (hi : Option Nat) : copyInto E s d t u e p lo hi = copyInto E s' d t u e p lo hi := by
 unfold copyInto
 rw [content_congr h hr]
 simp only [plPut_congr h hr]
theorem indexT_congr (h : Agree W s s') {x : Operand} (hx : Sees W s x) (t : TypeId) (i : Int) : indexT E s t x i = indexT E s' t x i := by
 unfold indexT
 rw [← at_congr (E := E) h hx]
 cases hat : at_ E s x with
 | ref p ag n =>
   have hr : W p.root.loc := sees_root (E := E) hx (by rw [hat]; simp [T.locs, T.loc])
   cases ag
   ·simp only []; rw [content_congr h hr]
   ·rfl
 | val ag cs =>
   match ag, cs with
   | true, _ => rfl
   | false, [] => rfl
   | false, _ :: _ :: _ => rfl
   | false, [c] =>
     cases x with
     | tmp n =>
       have e := h.tm n (hx _ (by simp [opdLocs]))
       simp only [e]
     | _ => rfl
 | rowr p ag n =>
   have hr : W p.root.loc := sees_root (E := E) hx (by rw [hat]; simp [T.locs, T.loc])
   cases ag
   ·simp only []; rw [dlAt_congr h hr]
   ·rfl
 | rsub p z lo hi =>
   have hr : W p.root.loc := sees_root (E := E) hx (by rw [hat]; simp [T.locs, T.loc])
   simp only []; rw [content_congr h hr]
 | _ => rfl
theorem clearT_congr (h : Agree W s s') {x : Operand} (hx : Sees W s x) (t : TypeId) : clearT E s t x = clearT E s' t x := by
 unfold clearT
 rw [← at_congr (E := E) h hx]
 cases hat : at_ E s x with
 | rsub p z lo hi =>
   have hr : W p.root.loc := sees_root (E := E) hx (by rw [hat]; simp [T.locs, T.loc])
   simp only []
   rw [content_congr h hr]
   simp only [plPut_congr h hr]
 | _ => rfl
theorem sliceT_congr (h : Agree W s s') {x : Operand} (hx : Sees W s x) (t : TypeId) (lo hi : Option Int) : sliceT E s t x lo hi = sliceT E s' t x lo hi := by
 unfold sliceT
 rw [← at_congr (E := E) h hx]
 cases hat : at_ E s x with
 | ref p ag n =>
   have hr : W p.root.loc := sees_root (E := E) hx (by rw [hat]; simp [T.locs, T.loc])
   match ag, n with
   | true, _ => rfl
   | false, 0 => rfl
   | false, 1 => simp only [content_congr h hr]
   | false, _ + 2 => rfl
 | val ag cs =>
   match ag, cs with
   | true, _ => rfl
   | false, [] => rfl
   | false, ⟨sh, tg, y⟩ :: _ :: _ => cases sh <;> cases tg <;> rfl
   | false, [⟨sh, tg, y⟩] => cases sh <;> cases tg <;> rfl
 | _ => rfl
theorem optInt_congr (h : Agree W s s') (x : Option Operand) (hx : ∀ y, x = some y → Sees W s y) : optInt E s x = optInt E s' x := by
 cases x with
 | none => rfl
 | some y => simp only [optInt]; rw [peekInt_congr h (hx y rfl)]
theorem moveT_congr (h : Agree W s s') {x : Operand} (hx : Sees W s x) (exp : List Sh) : moveT E s x exp = moveT E s' x exp := by
 unfold moveT
 rw [← at_congr (E := E) h hx]
 cases x with
 | tmp n =>
   have e := h.tm n (hx _ (by simp [opdLocs]))
   cases at_ E s (.tmp n) with
   | val ag cs => simp only [e]
   | _ => rfl
 | _ => rfl
theorem move_id {n d : Nat} (h : IdEq (s.tm n) (s'.tm n)) (exp : List Sh) :
 (match moveT E s (.tmp n) exp with
  | some t => Dyn.ret [.tm d t]
  | none => match at_ E s (.tmp n), Operand.tmp n with
    | .tup ts, .tmp n => .ret [.keep n .dead, .tm d (.tup ts)]
    | _, _ => .fail : Dyn (List Upd)) =
 (match moveT E s' (.tmp n) exp with
  | some t => Dyn.ret [.tm d t]
  | none => match at_ E s' (.tmp n), Operand.tmp n with
    | .tup ts, .tmp n => .ret [.keep n .dead, .tm d (.tup ts)]
    | _, _ => .fail : Dyn (List Upd)) := by
 rcases h with e | ⟨h1, h2⟩
 ·have e1 : at_ E s (.tmp n) = at_ E s' (.tmp n) := congrArg Prod.fst e
  have e2 : (s.tm n).2 = (s'.tm n).2 := congrArg Prod.snd e
  unfold moveT
  rw [e1]
  cases at_ E s' (.tmp n) with
  | val ag cs => simp only [e2]
  | _ => rfl
 ·obtain ⟨ag, cs, cs', e1, e2, k1, k2, k3⟩ := idSame_iff.1 h2
  have e1' : at_ E s (.tmp n) = .val ag cs := e1
  have e2' : at_ E s' (.tmp n) = .val ag cs' := e2
  unfold moveT
  rw [e1', e2']
  simp only [k1, k2, cond_false, h1, k3]
  have : cs.map (fun _ => (s'.tm n).2) = cs'.map (fun _ => (s'.tm n).2) := by
   rw [List.map_const', List.map_const', k3]
  rw [this]
theorem newBx_congr (h : Agree W s s') {d : Nat} (hd : W (.bx d)) (cs : List CV) : newBx s d cs = newBx s' d cs := by
 unfold newBx; rw [h.bx d hd]
theorem peekOr_congr {s2 s2' : St} (h : Agree W s s') (h2 : Agree W s2 s2') {y : Operand} (hy : Sees W s y) (hy2 : Sees W s2 y) (exp : List Sh) : peekOr E s s2 y exp = peekOr E s' s2' y exp := by
 unfold peekOr
 rw [← at_congr (E := E) h hy, peekT_congr h2 hy2]
theorem plan_congr (h : Agree W s s') (hs : ∀ L, L ∈ readLocs s o → W L) : (plan E o s).run = (plan E o s').run := by
 by_cases hmv : ∃ n, o.op = .move (.tmp n)
 ·obtain ⟨n, ho⟩ := hmv
  have hid : IdEq (s.tm n) (s'.tm n) := h.id n (hs _ (by simp [readLocs, opLocs, ho]))
  unfold plan
  simp only [ho]
  cases o.dst with
  | none => rfl
  | some d => simp only []; exact congrArg Dyn.run (move_id hid _)
 have see : ∀ x, x ∈ o.op.operands → Sees W s x := fun x hx L hL => hs L (by
  unfold readLocs
  refine List.mem_append_left _ ?_
  have e : opLocs s o.op = o.op.operands.toList.flatMap (opdLocs s) := by
   unfold opLocs
   split
   ·rename_i n ho; exact absurd ⟨n, ho⟩ hmv
   ·rfl
  rw [e]
  exact List.mem_flatMap.2 ⟨x, by simpa using hx, hL⟩)
 have box : ∀ d, o.dst = some d → (∃ t, o.op = .alloc t) ∨ (∃ t x, o.op = .box t x) → W (.bx d) := fun d hd ho => hs _ (by
  unfold readLocs
  refine List.mem_append_right _ ?_
  rcases ho with ⟨t, ho⟩ | ⟨t, x, ho⟩ <;> simp [ho, hd])
 unfold plan
 cases ho : o.op with
 | store t a x =>
   rw [ho] at see
   have sa := see a (by simp [Op.operands]); have sx := see x (by simp [Op.operands])
   simp only []
   cases o.dst with
   | some d => rfl
   | none =>
     simp only []
     refine bind_congr (by rw [takeT_congr h sx]) fun r hr => ?_
     obtain ⟨ag, cs, us⟩ := r
     simp only []
     have hm := takeT_mild hr
     have sa2 := sa.upds us s hm
     have h2 := h.upds us
     rw [← at_congr (E := E) h2 sa2]
     cases hat : at_ E (s.upds us) a with
     | addr p =>
       have hr : W p.root.loc := sees_root (E := E) sa2 (by rw [hat]; simp [T.locs, T.loc])
       simp only []
       simp only [writeAt_congr h2 hr, shapesOf_congr h2 hr]
     | addr2 p k j =>
       have hr : W p.root.loc := sees_root (E := E) sa2 (by rw [hat]; simp [T.locs, T.loc])
       simp only []
       rw [write2_congr h2 hr]
     | _ => rfl
 | move x =>
   rw [ho] at see
   have sx := see x (by simp [Op.operands])
   simp only []
   cases o.dst with
   | none => rfl
   | some d =>
     simp only []
     rw [moveT_congr h sx, ← at_congr (E := E) h sx]
 | assign x =>
   rw [ho] at see
   have sx := see x (by simp [Op.operands])
   simp only []
   cases o.dst with
   | none => rfl
   | some d =>
     simp only []
     rw [takeT_congr h sx, ← at_congr (E := E) h sx]
 | pick c x y =>
   rw [ho] at see
   have sc := see c (by simp [Op.operands]); have sx := see x (by simp [Op.operands]); have sy := see y (by simp [Op.operands])
   simp only []
   cases o.dst with
   | none => rfl
   | some d =>
     simp only []
     rw [peekBool_congr h sc, ← at_congr (E := E) h sx, ← at_congr (E := E) h sy]
 | alloc t =>
   simp only []
   cases hd : o.dst with
   | none => rfl
   | some d =>
     simp only []
     cases E.ty t with
     | none => rfl
     | some i => simp only []; rw [newBx_congr h (box d hd (.inl ⟨t, ho⟩))]
 | box t x =>
   rw [ho] at see
   have sx := see x (by simp [Op.operands])
   simp only []
   cases hd : o.dst with
   | none => rfl
   | some d =>
     simp only []
     refine bind_congr (by rw [takeT_congr h sx]) fun r hr => ?_
     obtain ⟨ag, cs, us⟩ := r
     simp only []
     rw [newBx_congr (h.upds us) (box d hd (.inr ⟨t, x, ho⟩))]
 | build t ps =>
   rw [ho] at see
   simp only []
   cases o.dst with
   | none => rfl
   | some d =>
     simp only []
     cases E.ty t with
     | none => rfl
     | some i =>
       simp only []
       exact bind_congr (fillParts_congr _ _ _ _ _ _ _ h fun p hp => see p.2 (by
        simp only [Op.operands, List.mem_toArray, List.mem_map]; exact ⟨p, hp, rfl⟩)) fun r hr => rfl
 | buildSlice t n ps =>
   rw [ho] at see
   simp only []
   cases o.dst with
   | none => rfl
   | some d =>
     simp only []
     split
     ·exact bind_congr (rowParts_congr _ _ _ _ _ _ _ _ h fun p hp => see p.2 (by
       simp only [Op.operands, List.mem_toArray, List.mem_map]; exact ⟨p, hp, rfl⟩)) fun r hr => rfl
     ·rfl
 | load t x =>
   rw [ho] at see
   have sx := see x (by simp [Op.operands])
   simp only []
   cases o.dst with
   | none => rfl
   | some d =>
     simp only []
     rw [← at_congr (E := E) h sx]
     cases hat : at_ E s x with
     | addr p =>
       have hr : W p.root.loc := sees_root (E := E) sx (by rw [hat]; simp [T.locs, T.loc])
       cases E.ty t with
       | none => rfl
       | some i => simp only []; rw [dlAt_congr h hr, content_congr h hr]; simp only [plVers_congr h hr]
     | paddr cs off => cases E.ty t <;> rfl
     | _ => rfl
 | nilCheck x =>
   rw [ho] at see
   have sx := see x (by simp [Op.operands])
   simp only []
   cases o.dst with
   | none => rfl
   | some d =>
     simp only []
     rw [← at_congr (E := E) h sx]
     cases hat : at_ E s x with
     | addr p =>
       have hr : W p.root.loc := sees_root (E := E) sx (by rw [hat]; simp [T.locs, T.loc])
       simp only []; rw [plLive_congr h hr]
     | _ => rfl
 | makeFunc f xs ys =>
   rw [ho] at see
   simp only []
   cases o.dst with
   | none => rfl
   | some d =>
     have hc := clos_congr (E := E) h ys.toList fun y hy => see y (by simp only [Op.operands, Array.mem_append]; exact .inr (by simpa using hy))
     cases f with
     | func k => simp only [hc]
     | _ => rfl
 | binOp op t x y u =>
   rw [ho] at see
   have sx := see x (by simp [Op.operands]); have sy := see y (by simp [Op.operands])
   simp only []
   cases o.dst with
   | none => rfl
   | some d => simp only []; rw [← at_congr (E := E) h sx, ← at_congr (E := E) h sy]
 | unOp op t x =>
   rw [ho] at see
   have sx := see x (by simp [Op.operands])
   simp only []
   cases o.dst with
   | none => rfl
   | some d => simp only []; rw [← at_congr (E := E) h sx]
 | convert u t x =>
   rw [ho] at see
   have sx := see x (by simp [Op.operands])
   simp only []
   cases o.dst with
   | none => rfl
   | some d => simp only []; rw [← at_congr (E := E) h sx]
 | makeSlice t x y =>
   rw [ho] at see
   have sx := see x (by simp [Op.operands]); have sy := see y (by simp [Op.operands])
   simp only []
   cases o.dst with
   | none => rfl
   | some d => simp only []; rw [peekInt_congr h sx, peekInt_congr h sy]
 | slice t x lo hi mx =>
   rw [ho] at see
   have sx := see x (by simp [Op.operands])
   have slo := optInt_congr (E := E) h lo fun y hy => see y (by simp [Op.operands, hy])
   have shi := optInt_congr (E := E) h hi fun y hy => see y (by simp [Op.operands, hy])
   simp only []
   cases o.dst with
   | none => rfl
   | some d =>
     simp only []
     rw [slo, shi]
     simp only [sliceT_congr h sx]
 | fieldAddr t x f =>
   rw [ho] at see
   have sx := see x (by simp [Op.operands])
   simp only []
   cases o.dst with
   | none => rfl
   | some d =>
     simp only []
     rw [← at_congr (E := E) h sx]
     cases E.ty t with
     | none => rfl
     | some i =>
       simp only []
       cases hat : at_ E s x with
       | addr p =>
         have hr : W p.root.loc := sees_root (E := E) sx (by rw [hat]; simp [T.locs, T.loc])
         cases i.fields[f]? with
         | none => rfl
         | some on => simp only []; rw [plLive_congr h hr]
       | _ => cases i.fields[f]? <;> rfl
 | indexAddr t x i =>
   rw [ho] at see
   have sx := see x (by simp [Op.operands]); have si := see i (by simp [Op.operands])
   simp only []
   cases o.dst with
   | none => rfl
   | some d =>
     simp only []
     rw [peekInt_congr h si]
     simp only [indexT_congr h sx]
 | index t x i =>
   rw [ho] at see
   have sx := see x (by simp [Op.operands]); have si := see i (by simp [Op.operands])
   simp only []
   cases o.dst with
   | none => rfl
   | some d => simp only []; rw [← at_congr (E := E) h sx, peekInt_congr h si]
 | field t x f =>
   rw [ho] at see
   have sx := see x (by simp [Op.operands])
   simp only []
   cases o.dst with
   | none => rfl
   | some d => simp only []; rw [← at_congr (E := E) h sx]
 | extract x i =>
   rw [ho] at see
   have sx := see x (by simp [Op.operands])
   simp only []
   cases o.dst with
   | none => rfl
   | some d => simp only []; rw [← at_congr (E := E) h sx]
 | call c =>
   rw [ho] at see
   have sa : ∀ x, x ∈ c.args.toList → Sees W s x := fun x hx => see x (by
    simp only [Op.operands, Call.operands, Array.mem_append]; exact .inr (by simpa using hx))
   simp only []
   cases o.dst with
   | none =>
     simp only []
     split
     ·rename_i x t e1 e2 e3
      rw [clearT_congr h (sa x (by rw [e2]; simp))]
     ·rfl
   | some d =>
     simp only []
     cases hc : c.callee with
     | value f =>
       have sf := see f (by simp [Op.operands, Call.operands, hc])
       simp only []
       rw [← at_congr (E := E) h sf]
       cases hf : at_ E s f with
       | fn k =>
         simp only []
         cases Nat.beq (E.sig (E.spec d)).fn k with
         | false => rfl
         | true => exact callT_congr h d _ _ _ sa (fun t ht => by cases ht)
       | clo k ts =>
         simp only []
         cases Nat.beq (E.sig (E.spec d)).fn k with
         | false => rfl
         | true => exact callT_congr h d _ _ _ sa (fun t ht L hL => sees_locs (E := E) sf L (by rw [hf]; exact List.mem_flatMap.2 ⟨t, ht, hL⟩))
       | _ => rfl
     | invoke r m => rfl
     | builtin b =>
       match hx : c.args.toList with
       | [] => cases b <;> rfl
       | [x] =>
         rw [hx] at sa
         have sx := sa x (by simp)
         cases b <;> first | rfl | (simp only []; rw [peekT_congr h sx])
       | [x, y] =>
         rw [hx] at sa
         have sx := sa x (by simp); have sy := sa y (by simp)
         by_cases hb : b = .append
         ·subst hb
          simp only []
          refine bind_congr (by rw [takeT_congr h sx]) fun r hr => ?_
          obtain ⟨ag, cs, us⟩ := r
          simp only []
          rw [peekOr_congr h (h.upds us) sy (sy.upds us s (takeT_mild hr)), takeT_congr (h.upds us) (sy.upds us s (takeT_mild hr)) []]
         ·by_cases hb2 : b = .copy
          ·subst hb2
           simp only []
           refine bind_congr (by rw [peekT_congr h sy]) fun ds hds => ?_
           rw [← at_congr (E := E) h sx]
           split
           ·rename_i e t u p z lo hi hat hax
            exact congrArg Dyn.run (copyInto_congr h (sees_root (E := E) sx (by rw [hax]; simp [T.locs, T.loc])) _ _ _ _ _ _)
           ·rename_i e t u p hat hax
            exact congrArg Dyn.run (copyInto_congr h (sees_root (E := E) sx (by rw [hax]; simp [T.locs, T.loc])) _ _ _ _ _ _)
           ·rfl
          cases b <;> first | exact absurd rfl hb | exact absurd rfl hb2 | (simp only []; rw [peekInt_congr h sx, peekInt_congr h sy])
       | x :: y :: z :: r => cases b <;> rfl
 | _ => rfl
end
end Go.AM
end
section
set_option linter.unusedVariables false
namespace Go.AM
open Go
section
variable {P : Program} {E : Env} {C : Ctx} {s s' : St} {a a' : Act} {w w' : World} {g g' : Gh} {o : Oper} {Q : Exit → Act → World → Prop}
def Acts (E : Env) (all : List Oper) (o : Oper) (s : St) (us : List Upd) : Prop :=
 dstOk E o = true ∧ match o.guard with
  | none => (plan E o s).run = some us
  | some (i, want) => ∃ d x, dstOf all i = some d ∧ guardAt s (some d) = some x ∧ ((x = some want ∧ (plan E o s).run = some us) ∨ (x ≠ some want ∧ us = skipUpd o))
def Reads (all : List Oper) (o : Oper) (s : St) (us : List Upd) (r : List Loc) : Prop :=
 (∀ n t, .keep n t ∈ us → .id n ∈ r) ∧ match o.guard with
  | none => ∀ L, L ∈ readLocs s o → L ∈ r
  | some (i, want) => ∃ d, dstOf all i = some d ∧ .tm d ∈ r ∧ (guardAt s (some d) = some (some want) → ∀ L, L ∈ readLocs s o → L ∈ r)
theorem guardAt_congr {W : Loc → Prop} (h : Agree W s s') {d : Nat} (hd : W (.tm d)) : guardAt s (some d) = guardAt s' (some d) := by
 simp only [guardAt, h.tm d hd]
theorem acts_congr {all : List Oper} {us : List Upd} {r : List Loc} (h : Agree (· ∈ r) s s') (ha : Acts E all o s us) (hr : Reads all o s us r) : Acts E all o s' us := by
 obtain ⟨h1, h2⟩ := ha
 refine ⟨h1, ?_⟩
 replace hr := hr.2
 cases hg : o.guard with
 | none =>
   rw [hg] at h2 hr
   simp only at h2 hr ⊢
   rw [← plan_congr h hr]; exact h2
 | some iw =>
   obtain ⟨i, want⟩ := iw
   rw [hg] at h2 hr
   simp only at h2 hr ⊢
   obtain ⟨d, x, k1, k2, k3⟩ := h2
   obtain ⟨d', q1, q2, q3⟩ := hr
   rw [k1] at q1; cases q1
   refine ⟨d, x, k1, by rw [← guardAt_congr h q2]; exact k2, ?_⟩
   rcases k3 with ⟨rfl, k3⟩ | k3
   ·exact .inl ⟨rfl, by rw [← plan_congr h (q3 k2)]; exact k3⟩
   ·exact .inr k3
theorem skip_ok (h : Rel E C s a w g) (hd : dstOk E o = true) : ∃ g', Rel E C (s.upds (skipUpd o)) (a.put o.dst undef) w g' := by
 unfold skipUpd
 cases ho : o.dst with
 | none => exact ⟨g, h⟩
 | some d =>
   simp only [dstOk, ho] at hd
   simp only [Bool.and_eq_true, Bool.not_eq_true'] at hd
   exact ⟨g, h.setCopy (mk := .hand) ⟨hd.1, (Nat.blt_eq ..).mp hd.2⟩ rfl (show undef = undef from rfl)⟩
theorem guard_val (h : Rel E C s a w g) {ops : Array Oper} {i d : Nat} {x : Option Bool} (h1 : dstOf ops.toList i = some d) (h2 : guardAt s (some d) = some x) : yielded ops a.tmps i = x := by
 have hd : (ops[i]?).bind (·.dst) = some d := by
  unfold dstOf at h1
  simp only [Array.getElem?_toList] at h1
  cases ho : ops[i]? with
  | none => rw [ho] at h1; cases h1
  | some o => rw [ho] at h1; exact h1
 have ht := h.tm d
 unfold guardAt at h2
 simp only at h2
 unfold yielded
 rw [hd]
 simp only [Option.bind_some]
 have heval : a.eval (.tmp d) = (a.tmps[d]?).getD undef := by simp [Act.eval, Array.getD_eq_getD_getElem?]
 rw [heval] at ht
 split at h2
 ·rename_i b hb
  cases h2
  rw [hb] at ht
  obtain ⟨u, _, hr, hu⟩ := VRep.one ht
  have : (a.tmps[d]?).getD undef = .bool b := by rw [← hu rfl]; exact hr
  cases hq : a.tmps[d]? with
  | none => rw [hq] at this; cases this
  | some v => rw [hq] at this; simp only [Option.getD_some] at this; rw [this]
 ·rename_i hb
  cases h2
  rw [hb] at ht
  have : (a.tmps[d]?).getD undef = undef := ht
  cases hq : a.tmps[d]? with
  | none => rfl
  | some v =>
    rw [hq] at this; simp only [Option.getD_some] at this; subst this
    rfl
 ·cases h2
theorem acts_wp (hE : EnvOk P E) (h : Rel E C s a w g) {ops : Array Oper} {i : Nat} (hi : ops[i]? = some o) {us : List Upd} (ha : Acts E ops.toList o s us) {K : Act → World → Prop} (hK : ∀ a' w' g', Rel E C (s.upds us) a' w' g' → K a' w') : wpOp P ops Q i K a w := by
 obtain ⟨h1, h2⟩ := ha
 unfold wpOp
 rw [hi]
 simp only []
 have run : (plan E o s).run = some us → o.wp P a w K Q := fun hp => Oper.wp_mono (fun a' w' ⟨g', hr⟩ => hK a' w' g' hr) (plan_ok hE h h1 hp)
 have skip : us = skipUpd o → K (a.put o.dst undef) w := fun hu => by
  obtain ⟨g', hr⟩ := skip_ok h h1
  subst hu
  exact hK _ _ g' hr
 cases hg : o.guard with
 | none =>
   rw [hg] at h2
   have : Region.wanted o (yielded ops a.tmps) = true := by simp [Region.wanted, hg]
   rw [if_pos this]
   exact .inl (run h2)
 | some iw =>
   obtain ⟨j, want⟩ := iw
   rw [hg] at h2
   obtain ⟨d, x, k1, k2, k3⟩ := h2
   have hy := guard_val h k1 k2
   have hw : Region.wanted o (yielded ops a.tmps) = (x == some want) := by simp only [Region.wanted, hg, hy]
   rcases k3 with ⟨rfl, k3⟩ | ⟨hne, k3⟩
   ·rw [if_pos (by rw [hw]; simp)]
    exact .inl (run k3)
   ·rw [if_neg (by rw [hw]; simpa using hne)]
    exact skip k3
theorem splitAt_some {ρ : Type} {d : Option Tmp} {k : St → Option ρ} {r : ρ} (h : splitAt s d k = some r) : k s = some r := by
 unfold splitAt at h
 have same : ∀ (n : Nat) (t : T) (v : Nat), s.tm n = (t, v) → ({ s with tm := put s.tm n (t, v) } : St) = s := by
  intro n t v e
  have : put s.tm n (t, v) = s.tm := by
   funext m
   by_cases hm : m = n
   ·subst hm; rw [put_same, e]
   ·rw [put_other _ _ _ hm]
  rw [this]
 cases d with
 | none => exact h
 | some d =>
   simp only at h
   split at h
   ·rename_i b v hb
    cases b with
    | true => simp only [cond_true] at h; rw [same d _ v hb] at h; exact h
    | false => simp only [cond_false] at h; rw [same d _ v hb] at h; exact h
   ·exact h
def Steps' (E : Env) (draw : Bool) (all : List Oper) (ah : List (List Nat)) : List Oper → Nat → List Foot → St → List Foot → (Nat → St) → (Nat → List Upd) → Prop
 | [], j, fs, s, fs', S, U => fs' = fs ∧ S j = s
 | o :: os, j, fs, s, fs', S, U => S j = s ∧ Acts E all o s (U j) ∧ ∃ f, Reads all o s (U j) f.r ∧ f.w = wLocs s (U j) ∧ (draw = true → ordered (ah.getD j []) f fs 0 = true) ∧ Steps' E draw all ah os (j + 1) (fs ++ [f]) (s.upds (U j)) fs' S U
theorem Steps'.congr {E : Env} {draw : Bool} {all : List Oper} {ah : List (List Nat)} : ∀ {os : List Oper} {j : Nat} {fs : List Foot} {s : St} {fs' : List Foot} {S S' : Nat → St} {U U' : Nat → List Upd}, (∀ i, j ≤ i → S' i = S i) → (∀ i, j ≤ i → U' i = U i) →
 Steps' E draw all ah os j fs s fs' S U → Steps' E draw all ah os j fs s fs' S' U'
 | [], j, fs, s, fs', S, S', U, U', hS, hU, ⟨h1, h2⟩ => ⟨h1, by rw [hS j (Nat.le_refl _)]; exact h2⟩
 | o :: os, j, fs, s, fs', S, S', U, U', hS, hU, ⟨h1, h2, f, h3, h4, h5, h6⟩ => by
   refine ⟨by rw [hS j (Nat.le_refl _)]; exact h1, by rw [hU j (Nat.le_refl _)]; exact h2, f, by rw [hU j (Nat.le_refl _)]; exact h3, by rw [hU j (Nat.le_refl _)]; exact h4, h5, ?_⟩
   rw [hU j (Nat.le_refl _)]
   exact h6.congr (fun i hi => hS i (by omega)) (fun i hi => hU i (by omega))
theorem keep_ids {L : List Loc} {us : List Upd} (n : Nat) (t : T) (h : .keep n t ∈ us) : .id n ∈ L ++ keepIds us :=
 List.mem_append_right _ (List.mem_flatMap.2 ⟨_, h, by simp⟩)
theorem skip_keep {r : List Loc} (n : Nat) (t : T) (h : .keep n t ∈ skipUpd o) : .id n ∈ r := by
 unfold skipUpd at h
 split at h <;> simp at h
theorem runOps_steps {draw : Bool} {all : List Oper} {ah : List (List Nat)} {ρ : Type} {k : St → Option ρ} {r : ρ} : ∀ (os : List Oper) (j : Nat) (fs : List Foot) (s : St), runOps E draw all ah os j fs s k = some r →
 ∃ fs' S U, Steps' E draw all ah os j fs s fs' S U ∧ k (S (j + os.length)) = some r
 | [], j, fs, s, h => ⟨fs, fun _ => s, fun _ => [], ⟨rfl, rfl⟩, h⟩
 | o :: os, j, fs, s, h => by
   simp only [runOps] at h
   have step : ∀ (us : List Upd) (f : Foot), Acts E all o s us → Reads all o s us f.r → f.w = wLocs s us →
    (bif dstOk E o && (!draw || ordered (ah.getD j []) f fs 0) then
     bif guards all j then splitAt (s.upds us) o.dst (fun s' => runOps E draw all ah os (j + 1) (fs ++ [f]) s' k)
     else runOps E draw all ah os (j + 1) (fs ++ [f]) (s.upds us) k else none) = some r →
    ∃ fs' S U, Steps' E draw all ah (o :: os) j fs s fs' S U ∧ k (S (j + (o :: os).length)) = some r := by
    intro us f hA hR hW hh
    simp only [cond_eq_ite] at hh
    split at hh
    ·rename_i hc
     simp only [Bool.and_eq_true] at hc
     have hrun : runOps E draw all ah os (j + 1) (fs ++ [f]) (s.upds us) k = some r := by
      split at hh
      ·exact splitAt_some hh
      ·exact hh
     obtain ⟨fs', S, U, hs, hk⟩ := runOps_steps os (j + 1) (fs ++ [f]) (s.upds us) hrun
     refine ⟨fs', fun i => if i = j then s else S i, fun i => if i = j then us else U i, ⟨by simp, by simp only [if_true]; exact hA, f, by simp only [if_true]; exact hR, by simp only [if_true]; exact hW, fun hdr => ?_, ?_⟩, ?_⟩
     ·have := hc.2; rw [hdr] at this; simpa using this
     ·simp only [if_true]
      exact hs.congr (fun i hi => by rw [if_neg (by omega)]) (fun i hi => by rw [if_neg (by omega)])
     ·simp only [List.length_cons]
      rw [if_neg (by omega), show j + (os.length + 1) = j + 1 + os.length by omega]; exact hk
    ·cases hh
   have hdst : ∀ {X : Option ρ}, (bif dstOk E o && X.isSome then X else none) = some r → dstOk E o = true := by
    intro X hX
    simp only [cond_eq_ite, Bool.and_eq_true] at hX
    split at hX
    ·rename_i hc; exact hc.1
    ·cases hX
   have hdst2 : ∀ {b : Bool} {X : Option ρ}, (bif dstOk E o && b then X else none) = some r → dstOk E o = true := by
    intro b X hX
    simp only [cond_eq_ite, Bool.and_eq_true] at hX
    split at hX
    ·rename_i hc; exact hc.1
    ·cases hX
   split at h
   ·rename_i hg
    rw [Dyn.runK_eq] at h
    obtain ⟨us, hp, hh⟩ := Option.bind_eq_some_iff.1 h
    exact step us _ ⟨hdst2 hh, by rw [hg]; exact hp⟩ ⟨keep_ids, by rw [hg]; exact fun L hL => List.mem_append_left _ hL⟩ rfl hh
   ·rename_i i want hg
    split at h
    ·rename_i b d hga hd
     rw [hd] at hga
     simp only [cond_eq_ite] at h
     split at h
     ·rename_i hb
      have hb : b = want := by simpa using hb
      subst hb
      rw [Dyn.runK_eq] at h
      obtain ⟨us, hp, hh⟩ := Option.bind_eq_some_iff.1 h
      simp only [← cond_eq_ite] at hh
      exact step us _ ⟨hdst2 hh, by rw [hg]; exact ⟨d, _, hd, hga, .inl ⟨rfl, hp⟩⟩⟩ ⟨fun n t hm => List.mem_cons_of_mem _ (keep_ids n t hm), by rw [hg]; exact ⟨d, hd, by simp, fun _ L hL => List.mem_cons_of_mem _ (List.mem_append_left _ hL)⟩⟩ rfl hh
     ·rename_i hb
      have hb : b ≠ want := by simpa using hb
      simp only [← cond_eq_ite] at h
      exact step (skipUpd o) _ ⟨hdst2 h, by rw [hg]; exact ⟨d, _, hd, hga, .inr ⟨by simpa using hb, rfl⟩⟩⟩ ⟨skip_keep, by rw [hg]; exact ⟨d, hd, by simp, fun e => by rw [hga] at e; simp only [Option.some.injEq] at e; exact absurd e hb⟩⟩ rfl h
    ·rename_i d hga hd
     rw [hd] at hga
     exact step (skipUpd o) _ ⟨hdst2 h, by rw [hg]; exact ⟨d, _, hd, hga, .inr ⟨by simp, rfl⟩⟩⟩ ⟨skip_keep, by rw [hg]; exact ⟨d, hd, by simp, fun e => by rw [hga] at e; simp at e⟩⟩ rfl h
    ·cases h
end
end Go.AM
end
section
set_option linter.unusedVariables false
namespace Go.AM
open Go
section
variable {P : Program} {E : Env} {C : Ctx} {s s' : St} {a a' : Act} {w w' : World} {g g' : Gh} {o : Oper} {Q : Exit → Act → World → Prop}
theorem Loc.same_refl (L : Loc) : L.same L = true := by cases L <;> simp [Loc.same]
theorem meets_of {L : Loc} {as bs : List Loc} (ha : L ∈ as) (hb : L ∈ bs) : meets as bs = true := by
 unfold meets
 rw [List.any_eq_true]
 exact ⟨L, ha, List.any_eq_true.2 ⟨L, hb, L.same_refl⟩⟩
def SameAt (L : Loc) (s s' : St) : Prop := Agree (· = L) s s'
theorem SameAt.refl (L : Loc) (s : St) : SameAt L s s := ⟨fun _ _ => rfl, fun _ _ => rfl, fun _ _ => .inl rfl⟩
theorem SameAt.symm {L : Loc} (h : SameAt L s s') : SameAt L s' s := ⟨fun n e => (h.tm n e).symm, fun n e => (h.bx n e).symm, fun n e => (h.id n e).symm⟩
theorem SameAt.trans {L : Loc} {s1 s2 s3 : St} (h : SameAt L s1 s2) (k : SameAt L s2 s3) : SameAt L s1 s3 := ⟨fun n e => (h.tm n e).trans (k.tm n e), fun n e => (h.bx n e).trans (k.bx n e), fun n e => (h.id n e).trans (k.id n e)⟩
def KeepOk (s s' : St) (us : List Upd) : Prop := ∀ n t, .keep n t ∈ us → IdEq (s.tm n) (s'.tm n)
theorem KeepOk.refl (s : St) (us : List Upd) : KeepOk s s us := fun _ _ _ => .inl rfl
theorem upds_same {L : Loc} : ∀ {us : List Upd} {s s' : St}, KeepOk s s' us → ¬ L ∈ wLocs s us → SameAt L (s'.upds us) s'
 | [], s, s', _, _ => SameAt.refl L s'
 | u :: us, s, s', hk, h => by
   simp only [wLocs, List.mem_append, not_or] at h
   have hk2 : KeepOk (u.on s) (u.on s') us := by
    intro n t hm
    have h0 := hk n t (by simp [hm])
    cases u with
    | bx k b => exact h0
    | tm k t' =>
      simp only [Upd.on]
      by_cases hn : n = k
      ·subst hn; rw [put_same, put_same, h0.ver]; exact .inl rfl
      ·rw [put_other _ _ _ hn, put_other _ _ _ hn]; exact h0
    | keep k t' =>
      simp only [Upd.on]
      by_cases hn : n = k
      ·subst hn; rw [put_same, put_same, h0.ver]; exact .inl rfl
      ·rw [put_other _ _ _ hn, put_other _ _ _ hn]; exact h0
   refine (upds_same (us := us) (s := u.on s) (s' := u.on s') hk2 h.2).trans ?_
   have h1 := h.1
   cases u with
   | tm k t =>
     simp only [Upd.locs, List.mem_cons, List.not_mem_nil, or_false, not_or] at h1
     refine ⟨fun n e => ?_, fun n _ => rfl, fun n e => ?_⟩
     ·have : n ≠ k := by intro e2; subst e2; exact h1.1 e.symm
      simp only [Upd.on]; rw [put_other _ _ _ this]
     ·have : n ≠ k := by intro e2; subst e2; exact h1.2 e.symm
      simp only [Upd.on]; rw [put_other _ _ _ this]; exact .inl rfl
   | keep k t =>
     refine ⟨fun n e => ?_, fun n _ => rfl, fun n e => ?_⟩
     ·have : n ≠ k := by
       intro e2; subst e2; refine h1 ?_
       unfold Upd.locs
       simp only [cond_eq_ite]
       split <;> simp [e]
      simp only [Upd.on]; rw [put_other _ _ _ this]
     ·by_cases hn : n = k
      ·subst hn
       have hs : idSame (s.tm n).1 t = true := by
        cases hb : idSame (s.tm n).1 t with
        | true => rfl
        | false => exact absurd (by simp only [Upd.locs]; rw [hb]; simp [e]) h1
       have h0 := hk n t (by simp)
       simp only [Upd.on]; rw [put_same]
       have e1 : IdEq (t, (s'.tm n).2) (s.tm n) := .inr ⟨h0.ver.symm, by
        obtain ⟨ag, cs, cs', k1, k2, k3, k4, k5⟩ := idSame_iff.1 hs
        exact idSame_iff.2 ⟨ag, cs', cs, k2, k1, k4, k3, k5.symm⟩⟩
       exact e1.trans h0
      ·simp only [Upd.on]; rw [put_other _ _ _ hn]; exact .inl rfl
   | bx k b =>
     simp only [Upd.locs, List.mem_singleton] at h1
     refine ⟨fun n _ => rfl, fun n e => ?_, fun n _ => .inl rfl⟩
     have : n ≠ k := by intro e2; subst e2; exact h1 e.symm
     simp only [Upd.on]; rw [put_other _ _ _ this]
theorem St.ext_at {s s' : St} (h : ∀ L, SameAt L s s') : s = s' := by
 have h1 : s.tm = s'.tm := funext fun n => (h (.tm n)).tm n rfl
 have h2 : s.bx = s'.bx := funext fun n => (h (.bx n)).bx n rfl
 cases s; cases s'; simp only at h1 h2; subst h1 h2; rfl
def foldL (U : Nat → List Upd) (s : St) (L : Nat → Bool) : Nat → St
 | 0 => s
 | n + 1 => bif L n then (foldL U s L n).upds (U n) else foldL U s L n
def FoldOk (S : Nat → St) (U : Nat → List Upd) (s : St) (L : Nat → Bool) (n : Nat) : Prop := ∀ j, j < n → L j = true → KeepOk (S j) (foldL U s L j) (U j)
theorem FoldOk.one {S : Nat → St} {U : Nat → List Upd} {L : Nat → Bool} {l : Loc} {n m : Nat} (h : FoldOk S U s L n) (hm : m < n) (hl : ¬ l ∈ wLocs (S m) (U m)) : SameAt l (foldL U s L (m + 1)) (foldL U s L m) := by
 simp only [foldL]
 cases hb : L m with
 | true => exact upds_same (h m hm hb) hl
 | false => exact SameAt.refl _ _
theorem foldL_same {s : St} {S : Nat → St} {U : Nat → List Upd} {L L' : Nat → Bool} {l : Loc} : ∀ {n : Nat}, FoldOk S U s L n → FoldOk S U s L' n → (∀ j, j < n → l ∈ wLocs (S j) (U j) → L j = L' j) → SameAt l (foldL U s L n) (foldL U s L' n)
 | 0, _, _, _ => SameAt.refl _ _
 | n + 1, h1, h2, h => by
   have ih := foldL_same (s := s) (S := S) (U := U) (L := L) (L' := L') (l := l) (n := n) (fun j hj => h1 j (by omega)) (fun j hj => h2 j (by omega)) fun j hj => h j (by omega)
   by_cases hm : l ∈ wLocs (S n) (U n)
   ·have e := h n (by omega) hm
    simp only [foldL, e]
    cases L' n with
    | true => exact Agree.upds ih _
    | false => exact ih
   ·exact ((h1.one (by omega) hm).trans ih).trans (h2.one (by omega) hm).symm
theorem foldL_insert {S : Nat → St} {U : Nat → List Upd} {L L' : Nat → Bool} {i : Nat} : ∀ {n : Nat}, i < n → L i = false → (∀ j, L' j = (L j || Nat.beq j i)) → FoldOk S U s L n → FoldOk S U s L' n → KeepOk (S i) (foldL U s L n) (U i) →
 (∀ j, i < j → L j = true → ∀ l, l ∈ wLocs (S j) (U j) → ¬ l ∈ wLocs (S i) (U i)) → foldL U s L' n = (foldL U s L n).upds (U i) := by
 intro n hi hL hL' hk hk' hki hc
 refine St.ext_at fun l => ?_
 by_cases hm : l ∈ wLocs (S i) (U i)
 ·
  have key : ∀ m, m ≤ n → i < m → SameAt l (foldL U s L' m) ((foldL U s L i).upds (U i)) ∧ SameAt l (foldL U s L m) (foldL U s L i) := by
   intro m
   induction m with
   | zero => intro _ h; omega
   | succ m ih =>
     intro hmn h
     by_cases hmi : m = i
     ·subst hmi
      have e1 : L' m = true := by rw [hL' m]; simp
      have e2 : foldL U s L' (m + 1) = (foldL U s L' m).upds (U m) := by simp only [foldL, e1, cond_true]
      have e3 : foldL U s L (m + 1) = foldL U s L m := by simp only [foldL, hL, cond_false]
      rw [e2, e3]
      refine ⟨Agree.upds (foldL_same (S := S) (fun j hj => hk' j (by omega)) (fun j hj => hk j (by omega)) fun j hj _ => ?_) _, SameAt.refl _ _⟩
      rw [hL' j]
      have : Nat.beq j m = false := by rw [← Bool.not_eq_true]; intro hb; have := Nat.eq_of_beq_eq_true hb; omega
      simp [this]
     ·have him : i < m := by omega
      obtain ⟨k1, k2⟩ := ih (by omega) him
      have e1 : L' m = L m := by
       rw [hL' m]
       have : Nat.beq m i = false := by rw [← Bool.not_eq_true]; intro hb; exact hmi (Nat.eq_of_beq_eq_true hb)
       simp [this]
      cases hlm : L m with
      | false =>
        have e2 : foldL U s L' (m + 1) = foldL U s L' m := by simp only [foldL, e1, hlm, cond_false]
        have e3 : foldL U s L (m + 1) = foldL U s L m := by simp only [foldL, hlm, cond_false]
        rw [e2, e3]; exact ⟨k1, k2⟩
      | true =>
        have hn : ¬ l ∈ wLocs (S m) (U m) := fun hq => hc m him hlm l hq hm
        exact ⟨(hk'.one (by omega) hn).trans k1, (hk.one (by omega) hn).trans k2⟩
  obtain ⟨k1, k2⟩ := key n (Nat.le_refl _) hi
  exact k1.trans (Agree.upds k2.symm _)
 ·refine (foldL_same (S := S) (L' := L) hk' hk fun j hj hq => ?_).trans (upds_same hki hm).symm
  rw [hL' j]
  have : Nat.beq j i = false := by rw [← Bool.not_eq_true]; intro hb; have := Nat.eq_of_beq_eq_true hb; subst this; exact hm hq
  simp [this]
structure StepsAt (E : Env) (all : List Oper) (ah : List (List Nat)) (N : Nat) (S : Nat → St) (U : Nat → List Upd) (F : Nat → Foot) : Prop where
 next : ∀ i, i < N → S (i + 1) = (S i).upds (U i)
 acts : ∀ i o, i < N → all[i]? = some o → Acts E all o (S i) (U i)
 reads : ∀ i o, i < N → all[i]? = some o → Reads all o (S i) (U i) (F i).r
 writes : ∀ i, i < N → (F i).w = wLocs (S i) (U i)
 ahead : ∀ i k, i < N → k < i → Foot.clash (F k) (F i) = true → k ∈ ah.getD i []
theorem ordered_get {ahead : List Nat} {f : Foot} : ∀ {fs : List Foot} {i : Nat}, ordered ahead f fs i = true → ∀ k g, fs[k]? = some g → Foot.clash g f = true → i + k ∈ ahead
 | [], _, _, k, g, hk, _ => by simp at hk
 | x :: xs, i, h, k, g, hk, hc => by
   simp only [ordered, Bool.and_eq_true] at h
   cases k with
   | zero =>
     simp only [List.getElem?_cons_zero, Option.some.injEq] at hk
     subst hk
     have h1 := h.1
     rw [hc] at h1
     simp only [Bool.not_true, Bool.false_or, List.any_eq_true] at h1
     obtain ⟨y, hy, he⟩ := h1
     have := Nat.eq_of_beq_eq_true he
     subst this
     exact hy
   | succ k =>
     have := ordered_get h.2 k g (by simpa using hk) hc
     rw [show i + (k + 1) = i + 1 + k by omega]; exact this
theorem steps_at {draw : Bool} {all : List Oper} {ah : List (List Nat)} : ∀ (os : List Oper) (j : Nat) (fs : List Foot) (s : St) (fs' : List Foot) (S : Nat → St) (U : Nat → List Upd) (F0 : Nat → Foot), Steps' E draw all ah os j fs s fs' S U →
 (∀ i, os[i]? = all[j + i]?) → fs.length = j → (∀ k, k < j → fs[k]? = some (F0 k)) →
 ∃ F : Nat → Foot, (∀ k, k < j → F k = F0 k) ∧ S j = s ∧ (∀ i, j ≤ i → i < j + os.length → S (i + 1) = (S i).upds (U i) ∧ (∀ o, all[i]? = some o → Acts E all o (S i) (U i) ∧ Reads all o (S i) (U i) (F i).r) ∧ (F i).w = wLocs (S i) (U i) ∧ (draw = true → ∀ k, k < i → Foot.clash (F k) (F i) = true → k ∈ ah.getD i []))
 | [], j, fs, s, fs', S, U, F0, h, _, _, _ => ⟨F0, fun _ _ => rfl, h.2, fun i h1 h2 => by simp at h2; omega⟩
 | o :: os, j, fs, s, fs', S, U, F0, ⟨h1, h2, f, h3, h4, h5, h6⟩, hall, hlen, hfs => by
   obtain ⟨F, q1, q2, q3⟩ := steps_at os (j + 1) (fs ++ [f]) (s.upds (U j)) fs' S U (fun k => if k = j then f else F0 k) h6
    (fun i => by have := hall (i + 1); rw [show j + 1 + i = j + (i + 1) by omega, ← this]; simp) (by simp [hlen]) (fun k hk => by
     by_cases hkj : k = j
     ·subst hkj; simp [hlen]
     ·rw [if_neg hkj, List.getElem?_append_left (by omega)]; exact hfs k (by omega))
   have hFj : F j = f := by rw [q1 j (by omega)]; simp
   have hFk : ∀ k, k < j → F k = F0 k := fun k hk => by rw [q1 k (by omega)]; simp [show k ≠ j by omega]
   refine ⟨F, hFk, h1, fun i hi1 hi2 => ?_⟩
   by_cases hij : i = j
   ·subst hij
    have ho : all[i]? = some o := by have := hall 0; simpa using this.symm
    refine ⟨by rw [q2, h1], fun o' ho' => ?_, by rw [hFj, h1]; exact h4, fun hd k hk hc => ?_⟩
    ·rw [ho] at ho'; cases ho'
     rw [h1, hFj]; exact ⟨h2, h3⟩
    ·rw [hFj, hFk k hk] at hc
     have := ordered_get (h5 hd) k _ (hfs k hk) hc
     simpa using this
   ·exact q3 i (by omega) (by simp at hi2 ⊢; omega)
def Closed (ops : List Oper) (L : Nat → Bool) : Prop := ∀ i o, ops[i]? = some o → L i = true → ∀ e, e ∈ o.after.toList → Region.binds .any e = true → L e.on = true
theorem ahead_of {ops : List Oper} {L : Nat → Bool} (hc : Closed ops L) {acc : List (List Nat)} (hacc : ∀ i k, k ∈ acc.getD i [] → L i = true → L k = true) : ∀ {es : List Edge} {k : Nat}, k ∈ aheadOf acc es → (∀ e, e ∈ es → Region.binds .any e = true → L e.on = true) → L k = true
 | [], _, h, _ => by simp [aheadOf] at h
 | e :: es, k, h, he => by
   simp only [aheadOf, cond_eq_ite] at h
   split at h
   ·rename_i hb
    have hon := he e (by simp) hb
    simp only [List.mem_cons, List.mem_append] at h
    rcases h with rfl | h | h
    ·exact hon
    ·exact hacc _ _ h hon
    ·exact ahead_of hc hacc h fun e' h' => he e' (by simp [h'])
   ·exact ahead_of hc hacc h fun e' h' => he e' (by simp [h'])
theorem aheads_ok {ops : List Oper} {L : Nat → Bool} (hc : Closed ops L) : ∀ (os : List Oper) (acc : List (List Nat)), (∀ i, os[i]? = ops[acc.length + i]?) → (∀ i k, k ∈ acc.getD i [] → L i = true → L k = true) →
 ∀ i k, k ∈ (aheads os acc).getD i [] → L i = true → L k = true
 | [], acc, _, h => h
 | o :: os, acc, hall, h => by
   refine aheads_ok hc os _ (fun i => ?_) fun i k hk hi => ?_
   ·have := hall (i + 1)
    simp only [List.length_append, List.length_cons, List.length_nil]
    rw [show acc.length + (0 + 1) + i = acc.length + (i + 1) by omega, ← this]; simp
   ·have ho : ops[acc.length]? = some o := by have := hall 0; simpa using this.symm
    rcases Nat.lt_trichotomy i acc.length with hlt | heq | hgt
    ·have : (acc ++ [aheadOf acc o.after.toList]).getD i [] = acc.getD i [] := by
      simp [List.getD_eq_getElem?_getD, List.getElem?_append_left hlt]
     rw [this] at hk
     exact h i k hk hi
    ·subst heq
     have : (acc ++ [aheadOf acc o.after.toList]).getD acc.length [] = aheadOf acc o.after.toList := by
      simp [List.getD_eq_getElem?_getD]
     rw [this] at hk
     exact ahead_of hc h hk fun e he hb => hc _ o ho hi e he hb
    ·have : (acc ++ [aheadOf acc o.after.toList]).getD i [] = [] := by
      rw [List.getD_eq_getElem?_getD, List.getElem?_eq_none (by simp; omega)]; rfl
     rw [this] at hk; cases hk
theorem edgesOk_get : ∀ {os : List Oper} {j : Nat}, edgesOk os j = true → ∀ i o, os[i]? = some o → ∀ e, e ∈ o.after.toList → Region.binds .any e = true → e.on < j + i
 | [], _, _, i, o, h, _, _, _ => by simp at h
 | x :: xs, j, h, i, o, hi, e, he, hb => by
   simp only [edgesOk, Bool.and_eq_true, List.all_eq_true] at h
   cases i with
   | zero =>
     simp only [List.getElem?_cons_zero, Option.some.injEq] at hi
     subst hi
     have := h.1 e he
     rw [hb] at this
     have := (Nat.blt_eq ..).mp (by simpa using this)
     omega
   | succ i =>
     have := edgesOk_get h.2 i o (by simpa using hi) e he hb
     omega
def listedL (listed : Array Bool) : Nat → Bool := fun i => listed.getD i false
theorem ready_mem {ops : Array Oper} {listed : Array Bool} (hsz : listed.size = ops.size) {i : Nat} : i ∈ Region.ready .any ops listed ↔ ∃ o, ops[i]? = some o ∧ listedL listed i = false ∧ ∀ e, e ∈ o.after.toList → Region.binds .any e = true → listedL listed e.on = true := by
 unfold Region.ready listedL
 simp only [List.mem_filter, List.mem_range, Bool.and_eq_true, Bool.not_eq_true']
 constructor
 ·rintro ⟨h1, h2, h3⟩
  have hi : ops[i]? = some ops[i] := Array.getElem?_eq_getElem h1
  rw [hi] at h3
  simp only [Option.map_some, Option.getD_some, Array.all_eq_true_iff_forall_mem, Bool.or_eq_true, Bool.not_eq_true'] at h3
  refine ⟨_, hi, ?_, fun e he hb => ?_⟩
  ·have hl : i < listed.size := by omega
   simp only [Array.getD_eq_getD_getElem?, Array.getElem?_eq_getElem hl, Option.getD_some] at h2 ⊢
   exact h2
  ·rcases h3 e (by simpa using he) with h | h
   ·rw [hb] at h; cases h
   ·exact h
 ·rintro ⟨o, ho, h2, h3⟩
  have hlt : i < ops.size := by
   rw [Array.getElem?_eq_some_iff] at ho; exact ho.1
  refine ⟨hlt, ?_, ?_⟩
  ·have hl : i < listed.size := by omega
   simp only [Array.getD_eq_getD_getElem?, Array.getElem?_eq_getElem hl, Option.getD_some] at h2 ⊢
   exact h2
  ·rw [ho]
   simp only [Option.map_some, Option.getD_some, Array.all_eq_true_iff_forall_mem, Bool.or_eq_true, Bool.not_eq_true']
   intro e he
   cases hb : Region.binds .any e with
   | false => exact .inl rfl
   | true => exact .inr (h3 e (by simpa using he) hb)
theorem all_listed {ops : Array Oper} {listed : Array Bool} (hsz : listed.size = ops.size) (he : edgesOk ops.toList 0 = true) (hr : Region.ready .any ops listed = []) : ∀ i, i < ops.size → listedL listed i = true := by
 intro i
 induction i using Nat.strongRecOn with
 | _ i ih =>
   intro hi
   rw [← Bool.not_eq_false]
   intro hf
   have ho : ops[i]? = some ops[i] := Array.getElem?_eq_getElem hi
   have : i ∈ Region.ready .any ops listed := (ready_mem hsz).2 ⟨_, ho, hf, fun e hee hb => by
    have := edgesOk_get he i ops[i] (by simp) e hee hb
    exact ih e.on (by omega) (by omega)⟩
   rw [hr] at this; cases this
theorem foldL_all {E : Env} {all : List Oper} {ah : List (List Nat)} {N : Nat} {S : Nat → St} {U : Nat → List Upd} {F : Nat → Foot} (h : StepsAt E all ah N S U F) {L : Nat → Bool} : ∀ n, n ≤ N → (∀ j, j < n → L j = true) → foldL U (S 0) L n = S n
 | 0, _, _ => rfl
 | n + 1, hn, hl => by
   simp only [foldL, hl n (by omega), cond_true]
   rw [foldL_all h n (by omega) fun j hj => hl j (by omega), h.next n (by omega)]
theorem fold_ok {E : Env} {all : List Oper} {ah : List (List Nat)} {N : Nat} {S : Nat → St} {U : Nat → List Upd} {F : Nat → Foot} (h : StepsAt E all ah N S U F) (hall : ∀ i, i < N → ∃ o, all[i]? = some o) {L : Nat → Bool} (hL : ∀ i k, k ∈ ah.getD i [] → L i = true → L k = true) :
 ∀ n, n ≤ N → FoldOk S U (S 0) L n
 | 0, _ => fun j hj => absurd hj (by omega)
 | n + 1, hn => by
   have ih := fold_ok h hall hL n (by omega)
   intro j hj hlj
   by_cases hjn : j < n
   ·exact ih j hjn hlj
   obtain rfl : j = n := by omega
   intro m t hm
   obtain ⟨o, ho⟩ := hall j (by omega)
   have hr := (h.reads j o (by omega) ho).1 m t hm
   have hall2 : FoldOk S U (S 0) (fun _ => true) j := fun k hk _ => by
    rw [foldL_all h k (by omega) fun _ _ => rfl]; exact KeepOk.refl _ _
   have hsame := foldL_same (l := .id m) (S := S) hall2 ih fun k hk hw => by
    rw [← h.writes k (by omega)] at hw
    have hc : Foot.clash (F k) (F j) = true := by
     unfold Foot.clash
     rw [meets_of hw (List.mem_append_left _ hr)]; rfl
    exact (hL j k (h.ahead j k (by omega) hk hc) hlj).symm
   rw [foldL_all h j (by omega) fun _ _ => rfl] at hsame
   exact hsame.id m rfl
theorem any_ok (hE : EnvOk P E) {ops : Array Oper} {S : Nat → St} {U : Nat → List Upd} {F : Nat → Foot} (hs : StepsAt E ops.toList (aheads ops.toList []) ops.size S U F) (he : edgesOk ops.toList 0 = true)
 (hQ : ∀ a w g, Rel E C (S ops.size) a w g → Q .normal a w) : ∀ (fuel : Nat) (listed : Array Bool) (a : Act) (w : World) (g : Gh), listed.size = ops.size → listed.toList.countP (! ·) ≤ fuel → Closed ops.toList (listedL listed) →
  Rel E C (foldL U (S 0) (listedL listed) ops.size) a w g → wpAny P .any ops Q fuel listed a w := by
 have fin : ∀ (listed : Array Bool) (a : Act) (w : World) (g : Gh), listed.size = ops.size → Rel E C (foldL U (S 0) (listedL listed) ops.size) a w g → Region.ready .any ops listed = [] → Q .normal a w := by
  intro listed a w g hsz hr hn
  have := all_listed hsz he hn
  rw [foldL_all hs _ (Nat.le_refl _) this] at hr
  exact hQ a w g hr
 intro fuel
 induction fuel with
 | zero =>
   intro listed a w g hsz hc hcl hr
   have hn : Region.ready .any ops listed = [] := by
    rw [List.eq_nil_iff_forall_not_mem]
    intro i hi
    obtain ⟨o, ho, hf, _⟩ := (ready_mem hsz).1 hi
    have hlt : i < listed.size := by rw [hsz]; rw [Array.getElem?_eq_some_iff] at ho; exact ho.1
    have h0 : listed.toList.countP (! ·) = 0 := by omega
    rw [List.countP_eq_zero] at h0
    have := h0 listed[i] (by simp)
    simp only [listedL, Array.getD_eq_getD_getElem?, Array.getElem?_eq_getElem hlt, Option.getD_some] at hf
    rw [hf] at this; simp at this
   exact ⟨hn, fin listed a w g hsz hr hn⟩
 | succ fuel ih =>
   intro listed a w g hsz hc hcl hr
   refine ⟨fin listed a w g hsz hr, fun i hi => ?_⟩
   obtain ⟨o, ho, hf, hpre⟩ := (ready_mem hsz).1 hi
   have hlt : i < ops.size := by rw [Array.getElem?_eq_some_iff] at ho; exact ho.1
   have hll : i < listed.size := by omega
   have hol : ops.toList[i]? = some o := by simpa using ho
   have hah : ∀ (L : Nat → Bool), Closed ops.toList L → ∀ i k, k ∈ (aheads ops.toList []).getD i [] → L i = true → L k = true := fun L hL => aheads_ok hL ops.toList [] (fun i => by simp) (fun i k hk => by simp at hk)
   let listed' := listed.setIfInBounds i true
   have hL' : ∀ j, listedL listed' j = (listedL listed j || Nat.beq j i) := by
    intro j
    simp only [listedL, listed', Array.getD_eq_getD_getElem?, Array.getElem?_setIfInBounds]
    by_cases hj : i = j
    ·subst hj; simp [hll]
    ·have : Nat.beq j i = false := by rw [← Bool.not_eq_true]; intro hb; exact hj (Nat.eq_of_beq_eq_true hb).symm
     simp [hj, this]
   have hcl' : Closed ops.toList (listedL listed') := by
    intro k o' hk hl e hee hb
    rw [hL' k] at hl
    rw [hL' e.on]
    simp only [Bool.or_eq_true] at hl ⊢
    rcases hl with hl | hl
    ·exact .inl (hcl k o' hk hl e hee hb)
    ·have := Nat.eq_of_beq_eq_true hl
     subst this
     rw [hol] at hk; cases hk
     exact .inl (hpre e hee hb)
   have hi' : listedL listed' i = true := by rw [hL' i]; simp
   have hbef : ∀ k, k < i → Foot.clash (F k) (F i) = true → listedL listed k = true := by
    intro k hk hcl2
    have h1 := hs.ahead i k hlt hk hcl2
    have h2 := hah _ hcl' i k h1 hi'
    rw [hL' k] at h2
    have : Nat.beq k i = false := by rw [← Bool.not_eq_true]; intro hb; have := Nat.eq_of_beq_eq_true hb; omega
    simpa [this] using h2
   have haft : ∀ j, i < j → j < ops.size → listedL listed j = true → Foot.clash (F i) (F j) = false := by
    intro j hj hjs hl
    rw [← Bool.not_eq_true]
    intro hcl2
    have h1 := hs.ahead j i hjs hj hcl2
    have h2 := hah _ hcl j i h1 hl
    rw [hf] at h2; cases h2
   have out : ∀ j, ops.size ≤ j → listedL listed j = false := by
    intro j hj
    simp only [listedL, Array.getD_eq_getD_getElem?]
    rw [Array.getElem?_eq_none (by omega)]; rfl
   have hall : ∀ i, i < ops.size → ∃ o, ops.toList[i]? = some o := fun i hi => ⟨ops[i], by simp [hi]⟩
   have hfo := fold_ok hs hall (hah _ hcl) ops.size (Nat.le_refl _)
   have hfo' := fold_ok hs hall (hah _ hcl') ops.size (Nat.le_refl _)
   have hacts := hs.acts i o hlt hol
   have hreads := hs.reads i o hlt hol
   have hagree : Agree (· ∈ (F i).r) (S i) (foldL U (S 0) (listedL listed) ops.size) := by
    have hSi : S i = foldL U (S 0) (fun j => decide (j < i)) ops.size := by
     have h1 := foldL_all hs (L := fun j => decide (j < i)) i (by omega) (by simp)
     rw [← h1]
     have h2 : ∀ m, foldL U (S 0) (fun j => decide (j < i)) (i + m) = foldL U (S 0) (fun j => decide (j < i)) i := by
      intro m
      induction m with
      | zero => rfl
      | succ m ih => rw [show i + (m + 1) = (i + m) + 1 by omega]; simp only [foldL]; rw [show decide (i + m < i) = false by simp, cond_false, ih]
     have := h2 (ops.size - i)
     rw [show i + (ops.size - i) = ops.size by omega] at this
     exact this.symm
    have one : ∀ l, l ∈ (F i).r → SameAt l (S i) (foldL U (S 0) (listedL listed) ops.size) := by
     intro l hl
     rw [hSi]
     refine foldL_same (S := S) (fun j hj hji => ?_) hfo fun j hj hw => ?_
     ·have hji : j < i := by simpa using hji
      have e1 : foldL U (S 0) (fun j => decide (j < i)) j = S j := foldL_all hs j (by omega) fun k hk => by simp; omega
      rw [e1]; exact KeepOk.refl _ _
     rw [← hs.writes j hj] at hw
     rcases Nat.lt_trichotomy j i with h | h | h
     ·have : Foot.clash (F j) (F i) = true := by
       unfold Foot.clash
       rw [meets_of hw (List.mem_append_left _ hl)]; rfl
      rw [hbef j h this]; simp [h]
     ·subst h; rw [hf]; simp
     ·have e1 : decide (j < i) = false := by simp; omega
      rw [e1]
      cases hlj : listedL listed j with
      | false => rfl
      | true =>
        have h1 := haft j h hj hlj
        unfold Foot.clash at h1
        rw [meets_of hw hl] at h1
        simp at h1
    exact ⟨fun n hn => (one _ hn).tm n rfl, fun n hn => (one _ hn).bx n rfl, fun n hn => (one _ hn).id n rfl⟩
   have hacts' := acts_congr hagree hacts hreads
   refine acts_wp hE hr ho hacts' fun a' w' g' hr' => ?_
   refine ih listed' a' w' g' (by simp [listed', hsz]) ?_ hcl' ?_
   ·have hlt2 : i < listed.toList.length := by simpa using hll
    have hfi : listed.toList[i] = false := by
     simp only [listedL, Array.getD_eq_getD_getElem?, Array.getElem?_eq_getElem hll, Option.getD_some] at hf
     simpa using hf
    have hpos : 0 < listed.toList.countP (! ·) := List.countP_pos_iff.2 ⟨false, by rw [← hfi]; exact List.getElem_mem hlt2, rfl⟩
    have : listed'.toList = listed.toList.set i true := by simp [listed']
    rw [this, List.countP_set hlt2, hfi]
    simp
    simp at hc hpos
    omega
   ·rw [foldL_insert (S := S) hlt hf hL' hfo hfo' (fun m t hm => hagree.id m (hreads.1 m t hm)) fun j hj hlj l hl hli => ?_]
    ·exact hr'
    ·have hjs : j < ops.size := by
      rcases Nat.lt_or_ge j ops.size with h | h
      ·exact h
      ·rw [out j h] at hlj; cases hlj
     have := haft j hj hjs hlj
     rw [← hs.writes j hjs] at hl
     rw [← hs.writes i hlt] at hli
     unfold Foot.clash at this
     rw [meets_of hli (List.mem_append_right _ hl)] at this
     simp at this
end
end Go.AM
end
