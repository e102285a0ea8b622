/-
  A library for proofs about Go functions by symbolic evaluation, and plain Lean functions that the walked Go functions compute (written by a program of this claim).
-/
import Derived.Test.YtikifojhjbcfhaaTablesF1
import Derived.Test.YtikifojhjbcfhaaW4
import Derived.Test.YtikifojhjbcfhaaVc3
import Derived.Test.YtikifojhjbcfhaaW1
namespace Go.Vc
set_option linter.unusedVariables false
set_option linter.unnecessarySimpa false
set_option linter.unusedSimpArgs false
set_option linter.unusedSimpArgs false
theorem Out.mid {a b : Nat} {l l' : List Spot} (h : Out a b l l') (hab : a ≤ b) (hb : b ≤ l.length) : ((l'.take b).drop a).Perm ((l.take b).drop a) := by
  have hl := h.len
  have e1 : l'.take a = l.take a := by
    refine list_ext (by simp; omega) fun i hi => ?_
    have hi : i < a := by simp at hi; omega
    have := h.2 i (.inl hi)
    simpa [at', List.getD_eq_getElem?_getD, List.getElem?_take, hi] using this
  have e2 : l'.drop b = l.drop b := by
    refine list_ext (by simp; omega) fun i hi => ?_
    have := h.2 (b + i) (.inr (by omega))
    simpa [at', List.getD_eq_getElem?_getD, List.getElem?_drop] using this
  have split : ∀ m : List Spot, m = m.take a ++ ((m.take b).drop a ++ m.drop b) := fun m => by
    have h1 : m.take b = m.take a ++ (m.take b).drop a := by
      have := (List.take_append_drop a (m.take b)).symm
      rw [List.take_take, Nat.min_eq_left hab] at this
      exact this
    rw [← List.append_assoc, ← h1, List.take_append_drop]
  have hp := h.1
  rw [split l', split l, e1, e2] at hp
  exact (List.perm_append_right_iff _).1 ((List.perm_append_left_iff _).1 hp)
theorem Out.from {a b : Nat} {l l' : List Spot} (h : Out a b l l') (hb : b ≤ l.length) {k : Nat} (hk : a ≤ k ∧ k < b) : ∃ k', (a ≤ k' ∧ k' < b) ∧ at' l' k = at' l k' := by
  have hp := h.mid (by omega) hb
  have hl := h.len
  have hm : at' l' k ∈ (l'.take b).drop a := by
    refine List.mem_of_getElem? (i := k - a) ?_
    rw [List.getElem?_drop, show a + (k - a) = k by omega, List.getElem?_take, if_pos hk.2, at_get (by omega)]
  have hm := hp.mem_iff.1 hm
  obtain ⟨i, hi⟩ := List.mem_iff_getElem?.1 hm
  have hi2 := (List.getElem?_eq_some_iff.1 hi).1
  rw [List.length_drop, List.length_take] at hi2
  rw [List.getElem?_drop, List.getElem?_take, if_pos (by omega), at_get (by omega)] at hi
  exact ⟨a + i, ⟨by omega, by omega⟩, (Option.some.inj hi).symm⟩
end Go.Vc
namespace Go.Vc
set_option linter.unusedVariables false
set_option linter.unnecessarySimpa false
set_option linter.unusedSimpArgs false
set_option linter.unusedSimpArgs false
theorem f104_up {N a i j : Nat} {l : List Spot} {k2 : Int → Option (Int × List Spot)} (hN : 10 ≤ N) (hij : i ≤ j + 1) (hjl : j < l.length) (hal : a < l.length) (hl : l.length ≤ 1000000) {fu : Nat} (hf : j + 1 < fu) :
    ∃ i', i ≤ i' ∧ i' ≤ j + 1 ∧ (∀ k, i ≤ k → k < i' → ¬ ltS (at' l a) (at' l k)) ∧ (i' ≤ j → ltS (at' l a) (at' l i')) ∧ f104_3_1 (a : Int) N (j : Int) l k2 fu (i : Int) = k2 (i' : Int) := by
  obtain ⟨i', h1, h2, h3, h4, h5⟩ := loop_find (F := f104_3_1 (a : Int) N (j : Int) l k2) (k := fun i => k2 ((i : Nat) : Int)) (p := fun i => ¬ (i ≤ j ∧ ¬ ltS (at' l a) (at' l i))) (j + 1) (by omega) (by
    intro n i hi hp
    have hp := Classical.not_not.1 hp
    conv => lhs; unfold f104_3_1 f104_3_1b
    obtain ⟨c, hc, hc2⟩ := f91_eq (x := at' l a) (y := at' l i) hN
    simp only [show (i : Int) ≤ (j : Int) by omega, decide_true, cond_true, ix_at (show i < l.length by omega), ix_at hal, Option.bind_some, hc, show ¬ c < 0 from fun h => hp.2 (hc2.1 h), decide_false, Bool.not_false]
    rw [W_nat (by omega)]) (by
    intro n i hi hp
    conv => lhs; unfold f104_3_1 f104_3_1b
    by_cases e : i ≤ j
    · obtain ⟨c, hc, hc2⟩ := f91_eq (x := at' l a) (y := at' l i) hN
      have hlt : ltS (at' l a) (at' l i) := Classical.byContradiction fun h => hp ⟨e, h⟩
      simp only [show (i : Int) ≤ (j : Int) by omega, decide_true, cond_true, ix_at (show i < l.length by omega), ix_at hal, Option.bind_some, hc, hc2.2 hlt, Bool.not_true, cond_false]
    · simp only [show ¬ (i : Int) ≤ (j : Int) by omega, decide_false, cond_false]) fu i hij (by omega)
  exact ⟨i', h1, h2, fun k hk1 hk2 => (Classical.not_not.1 (h4 k hk1 hk2)).2, fun hle => Classical.byContradiction fun h => h3 ⟨hle, h⟩, h5⟩
theorem f104_dn {N a i j : Nat} {l : List Spot} {k1 : Int → Option (Int × List Spot)} (hN : 10 ≤ N) (hi : 1 ≤ i) (hij : i ≤ j + 1) (hjl : j < l.length) (hal : a < l.length) (hl : l.length ≤ 1000000) {fu : Nat} (hf : j + 1 < fu) :
    ∃ j', j' ≤ j ∧ i ≤ j' + 1 ∧ (∀ k, j' < k → k ≤ j → ltS (at' l a) (at' l k)) ∧ (i ≤ j' → ¬ ltS (at' l a) (at' l j')) ∧ f104_5 (a : Int) N l (i : Int) k1 fu (j : Int) = k1 (j' : Int) := by
  obtain ⟨j', h1, h2, h3, h4, h5⟩ := loop_down (F := f104_5 (a : Int) N l (i : Int) k1) (k := fun i => k1 ((i : Nat) : Int)) (p := fun j => ¬ (i ≤ j ∧ ltS (at' l a) (at' l j))) (i - 1) j (by omega) (by
    intro n q hq hqj hp
    have hp := Classical.not_not.1 hp
    conv => lhs; unfold f104_5 f104_5b
    obtain ⟨c, hc, hc2⟩ := f91_eq (x := at' l a) (y := at' l q) hN
    simp only [show (i : Int) ≤ (q : Int) by omega, decide_true, cond_true, ix_at (show q < l.length by omega), ix_at hal, Option.bind_some, hc, hc2.2 hp.2]
    rw [W_dec (by omega) (by omega)]) (by
    intro n q hq hqj hp
    conv => lhs; unfold f104_5 f104_5b
    by_cases e : i ≤ q
    · obtain ⟨c, hc, hc2⟩ := f91_eq (x := at' l a) (y := at' l q) hN
      simp only [show (i : Int) ≤ (q : Int) by omega, decide_true, cond_true, ix_at (show q < l.length by omega), ix_at hal, Option.bind_some, hc, show ¬ c < 0 from fun h => hp ⟨e, hc2.1 h⟩, decide_false, cond_false]
    · simp only [show ¬ (i : Int) ≤ (q : Int) by omega, decide_false, cond_false]) fu j (by omega) (Nat.le_refl _) (by omega)
  exact ⟨j', h2, by omega, fun k hk1 hk2 => (Classical.not_not.1 (h4 k hk1 hk2)).2, fun hle hlt => h3 ⟨hle, hlt⟩, h5⟩
theorem f104_main {N a b : Nat} (hN : 10 ≤ N) (hbN : b + 10 < N) : ∀ (fu i j : Nat) (l : List Spot), j + 1 - i < fu → a + 1 ≤ i → i ≤ j + 1 → j < b → b ≤ l.length → l.length ≤ 1000000 →
    (∀ k, a < k → k < i → ¬ ltS (at' l a) (at' l k)) → (∀ k, j < k → k < b → ltS (at' l a) (at' l k)) → ∃ (m : Nat) (l' : List Spot), Out a b l l' ∧ at' l' a = at' l a ∧ (a < m ∧ m ≤ b) ∧ (∀ k, a < k → k < m → ¬ ltS (at' l' a) (at' l' k)) ∧ (∀ k, m ≤ k → k < b → ltS (at' l' a) (at' l' k)) ∧
      f104_3 (a : Int) N f104_c11 fu (i : Int) (j : Int) l = some ((m : Int), l') := by
  intro fu
  induction fu with
  | zero => intro i j l h; omega
  | succ fu ih =>
    intro i j l hf hai hij hjb hbl hl hlo hhi
    obtain ⟨i', u1, u2, u3, u4, u5⟩ := f104_up (N := N) (a := a) (i := i) (j := j) (l := l) (k2 := f104_c5 (a : Int) N f104_c11 (j : Int) l (f104_3 (a : Int) N f104_c11 fu)) hN hij (by omega) (by omega) hl (fu := N) (by omega)
    obtain ⟨j', d1, d2, d3, d4, d5⟩ := f104_dn (N := N) (a := a) (i := i') (j := j) (l := l) (k1 := f104_c7 (a : Int) f104_c11 l (f104_3 (a : Int) N f104_c11 fu) (i' : Int)) hN (by omega) (by omega) (by omega) (by omega) hl (fu := N) (by omega)
    have hlo' : ∀ k, a < k → k < i' → ¬ ltS (at' l a) (at' l k) := fun k h1 h2 => by
      by_cases e : k < i
      · exact hlo k h1 e
      · exact u3 k (by omega) h2
    have hhi' : ∀ k, j' < k → k < b → ltS (at' l a) (at' l k) := fun k h1 h2 => by
      by_cases e : j < k
      · exact hhi k e h2
      · exact d3 k h1 (by omega)
    unfold f104_3 f104_3b
    simp only [joinK]
    rw [u5]
    unfold f104_c5
    simp only [joinK]
    rw [d5]
    unfold f104_c7
    by_cases e : j' < i'
    · refine ⟨i', l, Out.refl, rfl, by omega, hlo', fun k h1 h2 => hhi' k (by omega) h2, ?_⟩
      simp only [show (j' : Int) < (i' : Int) by omega, decide_true, cond_true]
      rfl
    · have hne : i' ≠ j' := fun hh => by
        have h1 := d4 (by omega)
        have h2 := u4 (by omega)
        rw [hh] at h2; exact h1 h2
      simp only [show ¬ (j' : Int) < (i' : Int) by omega, decide_false, cond_false]
      rw [sw_run (by omega) (by omega), W_nat (by omega), W_dec (by omega) (by omega)]
      have ha0 : at' (sw l i' j') a = at' l a := by rw [at_sw (by omega) (by omega), if_neg (by omega), if_neg (by omega)]
      obtain ⟨m, l', h1, h2, h3, h4, h5, h6⟩ := ih (i' + 1) (j' - 1) (sw l i' j') (by omega) (by omega) (by omega) (by omega) (by rw [sw_len]; omega) (by rw [sw_len]; omega) (by
        intro k h1 h2
        rw [ha0, at_sw (by omega) (by omega), if_neg (by omega)]
        by_cases e : i' = k
        · rw [if_pos e]; exact d4 (by omega)
        · rw [if_neg e]; exact hlo' k h1 (by omega)) (by
        intro k h1 h2
        rw [ha0, at_sw (by omega) (by omega)]
        by_cases e : j' = k
        · rw [if_pos e]; exact u4 (by omega)
        · rw [if_neg e, if_neg (by omega)]; exact hhi' k (by omega) h2)
      exact ⟨m, l', (Out.sw (by omega) (by omega) hbl).trans h1, h2.trans ha0, h3, h4, h5, h6⟩
theorem f104_eq {N a b x : Nat} {l : List Spot} (hN : 30 ≤ N) (hab : a + 2 ≤ b) (hbN : b + 20 < N) (hx : a ≤ x ∧ x < b) (hbl : b ≤ l.length) (hl : l.length ≤ 1000000) (hmin : ∀ k, a ≤ k → k < b → ¬ ltS (at' l k) (at' l x)) :
    ∃ (m : Nat) (l' : List Spot), Out a b l l' ∧ (a < m ∧ m ≤ b) ∧ (∀ k, a ≤ k → k < m → at' l' k = at' l x) ∧ (∀ k, m ≤ k → k < b → ltS (at' l x) (at' l' k)) ∧ f104 N (a : Int) (b : Int) (x : Int) l = some ((m : Int), l') := by
  obtain ⟨n, rfl⟩ : ∃ n, N = n + 1 := ⟨N - 1, by omega⟩
  show ∃ (m : Nat) (l' : List Spot), Out a b l l' ∧ (a < m ∧ m ≤ b) ∧ (∀ k, a ≤ k → k < m → at' l' k = at' l x) ∧ (∀ k, m ≤ k → k < b → ltS (at' l x) (at' l' k)) ∧ f104b (f104 n) n (a : Int) (b : Int) (x : Int) l = some ((m : Int), l')
  unfold f104b
  simp only [joinK]
  rw [sw_run (r := fun x6 => f104_3 (a : Int) n f104_c11 n (W ((a : Int) + 1)) (W ((b : Int) - 1)) x6) (by omega) (by omega), W_nat (by omega), W_dec (by omega) (by omega)]
  have hO : Out a b l (sw l a x) := Out.sw (by omega) (by omega) hbl
  have ha : at' (sw l a x) a = at' l x := by
    rw [at_sw (by omega) (by omega)]
    by_cases e : x = a
    · rw [if_pos e, e]
    · rw [if_neg e, if_pos rfl]
  obtain ⟨m, l', h1, h2, h3, h4, h5, h6⟩ := f104_main (N := n) (a := a) (b := b) (by omega) (by omega) n (a + 1) (b - 1) (sw l a x) (by omega) (by omega) (by omega) (by omega) (by rw [sw_len]; omega) (by rw [sw_len]; omega) (fun k h1 h2 => by omega) (fun k h1 h2 => by omega)
  have hO' := hO.trans h1
  rw [ha] at h2
  refine ⟨m, l', hO', h3, fun k hk1 hk2 => ?_, fun k hk1 hk2 => by rw [← h2]; exact h5 k hk1 hk2, h6⟩
  by_cases e : k = a
  · rw [e, h2]
  · obtain ⟨k', hk', ek⟩ := hO'.from hbl (k := k) (by omega)
    have := h4 k (by omega) hk2
    rw [h2] at this
    exact leS_antisymm this (by rw [ek]; exact hmin k' hk'.1 hk'.2)
end Go.Vc
namespace Go.Vc
set_option linter.unusedVariables false
set_option linter.unnecessarySimpa false
set_option linter.unusedSimpArgs false
set_option linter.unusedSimpArgs false
def Abv (a b : Nat) (l : List Spot) : Prop := 0 < a → ∀ k, a ≤ k → k < b → ¬ ltS (at' l k) (at' l (a - 1))
theorem Abv.out {a b : Nat} {l l' : List Spot} (h : Abv a b l) (ho : Out a b l l') (hb : b ≤ l.length) : Abv a b l' := fun h0 k h1 h2 => by
  obtain ⟨k', hk', e⟩ := ho.from hb (k := k) ⟨h1, h2⟩
  rw [e, ho.2 (a - 1) (.inl (by omega))]
  exact h h0 k' hk'.1 hk'.2
theorem f103_lt {N a i : Nat} {s1 v10 v9 : Int} {k2 : List Spot → Option (Bool × List Spot)} (hN : 10 ≤ N) : ∀ (fu j : Nat) (l : List Spot), j < fu → a ≤ j → j + 1 ≤ i → i ≤ l.length → l.length ≤ 1000000 → Abv a i l →
    (∀ p q, a ≤ p → p < q → q < i → q ≠ j → ¬ ltS (at' l q) (at' l p)) → ∃ l', Out a i l l' ∧ Srt a i l' ∧ f103_14 (a : Int) s1 N v10 v9 k2 fu (j : Int) l = k2 l' := by
  intro fu
  induction fu with
  | zero => intro j l h; omega
  | succ fu ih =>
    intro j l hf haj hji hil hl hA hI
    by_cases e : 1 ≤ j
    · obtain ⟨c, hc, hc2⟩ := f91_eq (x := at' l j) (y := at' l (j - 1)) hN
      have hd := W_dec (j := j) (by omega) (by omega)
      by_cases hlt : ltS (at' l j) (at' l (j - 1))
      · have hja : j ≠ a := fun hh => by
          subst hh
          exact hA (by omega) j (Nat.le_refl _) (by omega) hlt
        have hO : Out a i l (sw l j (j - 1)) := Out.sw (by omega) (by omega) (by omega)
        obtain ⟨l', h1, h2, h3⟩ := ih (j - 1) (sw l j (j - 1)) (by omega) (by omega) (by omega) (by rw [sw_len]; omega) (by rw [sw_len]; omega) (hA.out hO (by omega)) (by
          intro p q h1 h2 h3 h4
          rw [at_sw (by omega) (by omega), at_sw (by omega) (by omega)]
          by_cases q1 : j = q
          · subst q1
            rw [if_neg (by omega), if_pos rfl]
            by_cases p1 : j - 1 = p
            · rw [if_pos p1]; exact ltS_asymm hlt
            · rw [if_neg p1, if_neg (by omega)]
              exact hI p (j - 1) h1 (by omega) (by omega) (by omega)
          · rw [if_neg (by omega), if_neg q1]
            by_cases p1 : j - 1 = p
            · rw [if_pos p1]
              exact hI j q (by omega) (by omega) h3 (by omega)
            · rw [if_neg p1]
              by_cases p2 : j = p
              · rw [if_pos p2]
                exact hI (j - 1) q (by omega) (by omega) h3 (by omega)
              · rw [if_neg p2]
                exact hI p q h1 h2 h3 (by omega))
        refine ⟨l', hO.trans h1, h2, ?_⟩
        conv => lhs; unfold f103_14 f103_14b
        rw [show decide ((1 : Int) ≤ (j : Int)) = true by simp; omega, hd]
        simp only [cond_true, ix_at (show j < l.length by omega), ix_at (show j - 1 < l.length by omega), Option.bind_some, hc, hc2.2 hlt, decide_true, Bool.not_true, cond_false]
        have := sw_run (l := l) (i := j) (j := j - 1) (r := fun x => f103_14 (a : Int) s1 N v10 v9 k2 fu ((j - 1 : Nat) : Int) x) (by omega) (by omega)
        simp only [ix_at (show j < l.length by omega), ix_at (show j - 1 < l.length by omega), Option.bind_some] at this
        rw [this]
        exact h3
      · refine ⟨l, Out.refl, fun p q h1 h2 h3 => ?_, ?_⟩
        · by_cases q1 : q = j
          · subst q1
            by_cases p1 : p = q - 1
            · subst p1; exact hlt
            · exact leS_trans (hI p (q - 1) h1 (by omega) (by omega) (by omega)) hlt
          · exact hI p q h1 h2 (by omega) q1
        · conv => lhs; unfold f103_14 f103_14b
          rw [show decide ((1 : Int) ≤ (j : Int)) = true by simp; omega, hd]
          simp only [cond_true, ix_at (show j < l.length by omega), ix_at (show j - 1 < l.length by omega), Option.bind_some, hc, show ¬ c < 0 from fun h => hlt (hc2.1 h), decide_false, Bool.not_false]
    · have hj0 : j = 0 := by omega
      subst hj0
      refine ⟨l, Out.refl, fun p q h1 h2 h3 => hI p q h1 h2 h3 (by omega), ?_⟩
      conv => lhs; unfold f103_14 f103_14b
      simp
theorem f103_rt {N a b i : Nat} {v10 v9 : Int} {k1 : Int → List Spot → Option (Bool × List Spot)} (hN : 10 ≤ N) : ∀ (fu j : Nat) (l : List Spot), b - j < fu → i + 1 ≤ j → j ≤ b → b ≤ l.length → l.length ≤ 1000000 →
    ∃ l', Out i b l l' ∧ f103_20 (a : Int) (b : Int) N v10 k1 v9 fu (j : Int) l = k1 v9 l' := by
  intro fu
  induction fu with
  | zero => intro j l h; omega
  | succ fu ih =>
    intro j l hf hij hjb hbl hl
    by_cases e : j < b
    · obtain ⟨c, hc, hc2⟩ := f91_eq (x := at' l j) (y := at' l (j - 1)) hN
      have hd := W_dec (j := j) (by omega) (by omega)
      by_cases hlt : ltS (at' l j) (at' l (j - 1))
      · obtain ⟨l', h1, h2⟩ := ih (j + 1) (sw l j (j - 1)) (by omega) (by omega) (by omega) (by rw [sw_len]; omega) (by rw [sw_len]; omega)
        refine ⟨l', (Out.sw (by omega) (by omega) (by omega)).trans h1, ?_⟩
        conv => lhs; unfold f103_20 f103_20b
        rw [show decide ((j : Int) < (b : Int)) = true by simp; omega, hd]
        simp only [cond_true, ix_at (show j < l.length by omega), ix_at (show j - 1 < l.length by omega), Option.bind_some, hc, hc2.2 hlt, decide_true, Bool.not_true, cond_false]
        have := sw_run (l := l) (i := j) (j := j - 1) (r := fun x => f103_20 (a : Int) (b : Int) N v10 k1 v9 fu (W ((j : Int) + 1)) x) (by omega) (by omega)
        simp only [ix_at (show j < l.length by omega), ix_at (show j - 1 < l.length by omega), Option.bind_some] at this
        rw [this, W_nat (by omega)]
        exact h2
      · refine ⟨l, Out.refl, ?_⟩
        conv => lhs; unfold f103_20 f103_20b
        rw [show decide ((j : Int) < (b : Int)) = true by simp; omega, hd]
        simp only [cond_true, ix_at (show j < l.length by omega), ix_at (show j - 1 < l.length by omega), Option.bind_some, hc, show ¬ c < 0 from fun h => hlt (hc2.1 h), decide_false, Bool.not_false]
    · refine ⟨l, Out.refl, ?_⟩
      conv => lhs; unfold f103_20 f103_20b
      rw [show decide ((j : Int) < (b : Int)) = false by simp; omega]; rfl
theorem srt_chain {a i : Nat} {l : List Spot} (hai : a < i) (hS : Srt a i l) : ∀ n, (∀ q, i ≤ q → q < i + n → ¬ ltS (at' l q) (at' l (q - 1))) → Srt a (i + n) l := by
  intro n
  induction n with
  | zero => intro _; exact hS
  | succ n ih =>
    intro h
    have hS' := ih fun q h1 h2 => h q h1 (by omega)
    intro p q h1 h2 h3
    by_cases e : q = i + n
    · subst e
      have hq := h (i + n) (by omega) (by omega)
      by_cases e2 : p = i + n - 1
      · rw [e2]; exact hq
      · exact leS_trans (hS' p (i + n - 1) h1 (by omega) (by omega)) hq
    · exact hS' p q h1 h2 (by omega)
theorem srt_one {a : Nat} {l : List Spot} : Srt a (a + 1) l := fun p q h1 h2 h3 => by omega
theorem srt_step {a i : Nat} {l : List Spot} (hai : a < i) (hS : Srt a i l) (h : ¬ ltS (at' l i) (at' l (i - 1))) : Srt a (i + 1) l :=
  srt_chain hai hS 1 fun q h1 h2 => by rw [show q = i by omega]; exact h
theorem f103_up {N a b : Nat} {v10 : Int} {l : List Spot} {k3 : Int → Option (Bool × List Spot)} (hN : 10 ≤ N) (hbl : b ≤ l.length) (hl : l.length ≤ 1000000) : ∀ (fu i : Nat), b - i < fu → a < i → i ≤ b → Srt a i l →
    ∃ i', a < i' ∧ i' ≤ b ∧ Srt a i' l ∧ f103_5 (a : Int) (b : Int) N v10 l k3 fu (i : Int) = k3 (i' : Int) := by
  intro fu
  induction fu with
  | zero => intro i h; omega
  | succ fu ih =>
    intro i hf hai hib hS
    by_cases e : i < b
    · obtain ⟨c, hc, hc2⟩ := f91_eq (x := at' l i) (y := at' l (i - 1)) hN
      have hd := W_dec (j := i) (by omega) (by omega)
      by_cases hlt : ltS (at' l i) (at' l (i - 1))
      · refine ⟨i, hai, hib, hS, ?_⟩
        conv => lhs; unfold f103_5 f103_5b
        rw [show decide ((i : Int) < (b : Int)) = true by simp; omega, hd]
        simp only [cond_true, ix_at (show i < l.length by omega), ix_at (show i - 1 < l.length by omega), Option.bind_some, hc, hc2.2 hlt, decide_true, Bool.not_true, cond_false]
      · obtain ⟨i', h1, h2, h3, h4⟩ := ih (i + 1) (by omega) (by omega) (by omega) (srt_step hai hS hlt)
        refine ⟨i', h1, h2, h3, ?_⟩
        conv => lhs; unfold f103_5 f103_5b
        rw [show decide ((i : Int) < (b : Int)) = true by simp; omega, hd]
        simp only [cond_true, ix_at (show i < l.length by omega), ix_at (show i - 1 < l.length by omega), Option.bind_some, hc, show ¬ c < 0 from fun h => hlt (hc2.1 h), decide_false, Bool.not_false]
        rw [W_nat (by omega)]
        exact h4
    · refine ⟨i, hai, hib, hS, ?_⟩
      conv => lhs; unfold f103_5 f103_5b
      rw [show decide ((i : Int) < (b : Int)) = false by simp; omega]; rfl
theorem f103_main {N a b : Nat} (hN : 10 ≤ N) (hbN : b + 10 < N) : ∀ (fu c i : Nat) (l : List Spot), 5 - c < fu → c ≤ 5 → a < i → i ≤ b → b ≤ l.length → l.length ≤ 1000000 → Abv a b l → Srt a i l →
    ∃ r l', Out a b l l' ∧ (r = true → Srt a b l') ∧ f103_3 (a : Int) (b : Int) N f103_c24 fu (i : Int) (c : Int) l = some (r, l') := by
  intro fu
  induction fu with
  | zero => intro c i l h; omega
  | succ fu ih =>
    intro c i l hf hc hai hib hbl hl hA hS
    by_cases e : c < 5
    · obtain ⟨i', h1, h2, h3, h4⟩ := f103_up (N := N) (v10 := (c : Int)) (k3 := f103_c7 (a : Int) (b : Int) N (c : Int) l (f103_c4 (a : Int) (b : Int) (c : Int) (f103_3 (a : Int) (b : Int) N f103_c24 fu))) hN hbl hl N i (by omega) hai hib hS
      unfold f103_3 f103_3b
      simp only [joinK]
      rw [show decide ((c : Int) < (5 : Int)) = true by simp; omega]
      simp only [cond_true]
      rw [h4]
      unfold f103_c7
      by_cases e2 : i' = b
      · subst e2
        refine ⟨true, l, Out.refl, fun _ => h3, ?_⟩
        simp
      · have e2' : ¬ ((i' : Nat) : Int) = (b : Int) := by omega
        simp only [e2', decide_false, cond_false]
        by_cases e3 : W ((b : Int) - (a : Int)) < 50
        · refine ⟨false, l, Out.refl, fun h => by simp at h, ?_⟩
          simp [e3]
        · simp only [e3, decide_false, cond_false, joinK]
          have hd := W_dec (j := i') (by omega) (by omega)
          rw [hd]
          have hO : Out a b l (sw l i' (i' - 1)) := Out.sw (by omega) (by omega) hbl
          have hA1 := hA.out hO hbl
          have fin : ∀ lx, Out a b (sw l i' (i' - 1)) lx → Srt a i' lx → ∃ r l', Out a b l l' ∧ (r = true → Srt a b l') ∧ f103_c18 (a : Int) (b : Int) N (c : Int) (f103_c4 (a : Int) (b : Int) (c : Int) (f103_3 (a : Int) (b : Int) N f103_c24 fu)) (i' : Int) lx = some (r, l') := by
            intro lx hx hSx
            have hlx := hx.len
            rw [sw_len] at hlx
            have nxt : ∀ ly, Out i' b lx ly → ∃ r l', Out a b l l' ∧ (r = true → Srt a b l') ∧ f103_c4 (a : Int) (b : Int) (c : Int) (f103_3 (a : Int) (b : Int) N f103_c24 fu) (i' : Int) ly = some (r, l') := by
              intro ly hy
              have hy' : Out a b (sw l i' (i' - 1)) ly := hx.trans (hy.wide (by omega) (Nat.le_refl _))
              have hly := hy.len
              obtain ⟨r, l', g1, g2, g3⟩ := ih (c + 1) i' ly (by omega) (by omega) h1 h2 (by omega) (by omega) (hA1.out hy' (by rw [sw_len]; exact hbl)) (fun p q h5 h6 h7 => by
                rw [hy.2 p (.inl (by omega)), hy.2 q (.inl (by omega))]; exact hSx p q h5 h6 h7)
              refine ⟨r, l', (hO.trans hy').trans g1, g2, ?_⟩
              unfold f103_c4
              rw [W_nat (by omega)]
              exact g3
            unfold f103_c18
            by_cases e4 : (2 : Int) ≤ W ((b : Int) - (i' : Int))
            · obtain ⟨ly, r1, r2⟩ := f103_rt (N := N) (a := a) (b := b) (i := i') (v10 := (c : Int)) (v9 := (i' : Int)) (k1 := f103_c4 (a : Int) (b : Int) (c : Int) (f103_3 (a : Int) (b : Int) N f103_c24 fu)) hN N (i' + 1) lx (by omega) (by omega) (by omega) (by omega) (by omega)
              simp only [e4, decide_true, cond_true]
              rw [W_nat (by omega), r2]
              exact nxt ly r1
            · simp only [e4, decide_false, cond_false]
              exact nxt lx Out.refl
          rw [sw_run (r := fun x6 => bif decide (2 ≤ W ((i' : Int) - (a : Int))) then f103_14 (a : Int) (b : Int) N (c : Int) (i' : Int) (f103_c18 (a : Int) (b : Int) N (c : Int) (f103_c4 (a : Int) (b : Int) (c : Int) (f103_3 (a : Int) (b : Int) N f103_c24 fu)) (i' : Int)) N ((i' - 1 : Nat) : Int) x6 else f103_c18 (a : Int) (b : Int) N (c : Int) (f103_c4 (a : Int) (b : Int) (c : Int) (f103_3 (a : Int) (b : Int) N f103_c24 fu)) (i' : Int) x6) (by omega) (by omega)]
          by_cases e5 : (2 : Int) ≤ W ((i' : Int) - (a : Int))
          · simp only [e5, decide_true, cond_true]
            obtain ⟨lx, r1, r2, r3⟩ := f103_lt (N := N) (a := a) (i := i') (s1 := (b : Int)) (v10 := (c : Int)) (v9 := (i' : Int)) (k2 := f103_c18 (a : Int) (b : Int) N (c : Int) (f103_c4 (a : Int) (b : Int) (c : Int) (f103_3 (a : Int) (b : Int) N f103_c24 fu)) (i' : Int)) hN N (i' - 1) (sw l i' (i' - 1)) (by omega) (by omega) (by omega) (by rw [sw_len]; omega) (by rw [sw_len]; omega) (fun h0 k q1 q2 => hA1 h0 k q1 (by omega)) (fun p q q1 q2 q3 q4 => by
              rw [at_sw (by omega) (by omega), at_sw (by omega) (by omega), if_neg (by omega), if_neg (by omega), if_neg (by omega), if_neg (by omega)]
              exact h3 p q q1 q2 q3)
            rw [r3]
            exact fin lx (r1.wide (Nat.le_refl _) h2) r2
          · simp only [e5, decide_false, cond_false]
            refine fin _ Out.refl ?_
            have hw : W ((i' : Int) - (a : Int)) = (i' : Int) - (a : Int) := Wi (by omega) (by omega)
            rw [hw] at e5
            intro p q q1 q2 q3
            omega
    · refine ⟨false, l, Out.refl, fun h => by simp at h, ?_⟩
      unfold f103_3 f103_3b
      rw [show decide ((c : Int) < (5 : Int)) = false by simp; omega]
      rfl
theorem f103_eq {N a b : Nat} {l : List Spot} (hN : 30 ≤ N) (hab : a < b) (hbN : b + 20 < N) (hbl : b ≤ l.length) (hl : l.length ≤ 1000000) (hA : Abv a b l) :
    ∃ r l', Out a b l l' ∧ (r = true → Srt a b l') ∧ f103 N (a : Int) (b : Int) l = some (r, l') := by
  obtain ⟨n, rfl⟩ : ∃ n, N = n + 1 := ⟨N - 1, by omega⟩
  show ∃ r l', Out a b l l' ∧ (r = true → Srt a b l') ∧ f103_3 (a : Int) (b : Int) n f103_c24 n (W ((a : Int) + 1)) ((0 : Nat) : Int) l = some (r, l')
  rw [W_nat (by omega)]
  exact f103_main (by omega) (by omega) n 0 (a + 1) l (by omega) (by omega) (by omega) (by omega) hbl hl hA srt_one
end Go.Vc
namespace Go.Vc
set_option linter.unusedVariables false
set_option linter.unnecessarySimpa false
set_option linter.unusedSimpArgs false
set_option linter.unusedSimpArgs false
def Hp (f lo hi r : Nat) (l : List Spot) : Prop := ∀ p c, lo ≤ p → p ≠ r → c < hi → (c = 2 * p + 1 ∨ c = 2 * p + 2) → ¬ ltS (at' l (f + p)) (at' l (f + c))
def Heap (f lo hi : Nat) (l : List Spot) : Prop := ∀ p c, lo ≤ p → c < hi → (c = 2 * p + 1 ∨ c = 2 * p + 2) → ¬ ltS (at' l (f + p)) (at' l (f + c))
def Gr (f lo hi r : Nat) (l : List Spot) : Prop := ∀ p c, lo ≤ p → (r = 2 * p + 1 ∨ r = 2 * p + 2) → c < hi → (c = 2 * r + 1 ∨ c = 2 * r + 2) → ¬ ltS (at' l (f + p)) (at' l (f + c))
theorem f109_in {N f lo hi : Nat} (hN : 10 ≤ N) : ∀ (fu r : Nat) (l : List Spot), hi - r < fu → lo ≤ r → r ≤ hi → f + hi ≤ l.length → l.length ≤ 100000 → Hp f lo hi r l → Gr f lo hi r l →
    ∃ l', Out (f + lo) (f + hi) l l' ∧ Heap f lo hi l' ∧ f109_1 (hi : Int) (f : Int) N fu (r : Int) l = some l' := by
  intro fu
  induction fu with
  | zero => intro r l h; omega
  | succ fu ih =>
    intro r l hf hlr hrh hhl hl hH hG
    have hw1 : W ((W ((2 : Int) * (r : Int))) + (1 : Int)) = ((2 * r + 1 : Nat) : Int) := by
      rw [show (2 : Int) * (r : Int) = ((2 * r : Nat) : Int) by omega, W_of (n := ((2 * r : Nat) : Int)) (by omega) (by omega)]
      exact W_nat (by omega)
    have hw2 : W (((2 * r + 1 : Nat) : Int) + (1 : Int)) = ((2 * r + 2 : Nat) : Int) := W_nat (by omega)
    have hw3 : W ((f : Int) + (r : Int)) = ((f + r : Nat) : Int) := by rw [show (f : Int) + (r : Int) = ((f + r : Nat) : Int) by omega]; exact W_of (by omega) (by omega)
    unfold f109_1 f109_1b
    rw [hw1, hw2]
    simp only [joinK]
    by_cases e1 : hi ≤ 2 * r + 1
    · refine ⟨l, Out.refl, fun p c h1 h3 h4 => hH p c h1 (by omega) h3 h4, ?_⟩
      rw [show decide ((hi : Int) ≤ ((2 * r + 1 : Nat) : Int)) = true by simp; omega]
      rfl
    · rw [show decide ((hi : Int) ≤ ((2 * r + 1 : Nat) : Int)) = false by simp; omega]
      simp only [cond_false]
      have step : ∀ c : Nat, c < hi → (c = 2 * r + 1 ∨ c = 2 * r + 2) → (∀ d, d < hi → (d = 2 * r + 1 ∨ d = 2 * r + 2) → ¬ ltS (at' l (f + c)) (at' l (f + d))) →
          ∃ l', Out (f + lo) (f + hi) l l' ∧ Heap f lo hi l' ∧ f109_c5 (hi : Int) (f : Int) N (r : Int) l (f109_1 (hi : Int) (f : Int) N fu) (c : Int) = some l' := by
        intro c hc hcr hbig
        have hw4 : W ((f : Int) + (c : Int)) = ((f + c : Nat) : Int) := by rw [show (f : Int) + (c : Int) = ((f + c : Nat) : Int) by omega]; exact W_of (by omega) (by omega)
        unfold f109_c5
        rw [hw3, hw4]
        obtain ⟨d, hd, hd2⟩ := f91_eq (x := at' l (f + r)) (y := at' l (f + c)) hN
        by_cases hlt : ltS (at' l (f + r)) (at' l (f + c))
        · have hS : ∀ k, at' (sw l (f + r) (f + c)) (f + k) = if c = k then at' l (f + r) else if r = k then at' l (f + c) else at' l (f + k) := by
            intro k
            rw [at_sw (by omega) (by omega)]
            by_cases k1 : c = k
            · rw [if_pos k1, if_pos (by omega)]
            · rw [if_neg k1, if_neg (by omega)]
              by_cases k2 : r = k
              · rw [if_pos k2, if_pos (by omega)]
              · rw [if_neg k2, if_neg (by omega)]
          obtain ⟨l', h1, h2, h3⟩ := ih c (sw l (f + r) (f + c)) (by omega) (by omega) (by omega) (by rw [sw_len]; exact hhl) (by rw [sw_len]; exact hl) (by
            intro p q h1 h2 h3 h4
            rw [hS, hS, if_neg (show ¬ c = p by omega)]
            by_cases p1 : r = p
            · subst p1
              rw [if_pos rfl]
              by_cases q1 : c = q
              · rw [if_pos q1]; exact ltS_asymm hlt
              · rw [if_neg q1, if_neg (by omega)]
                exact hbig q h3 h4
            · rw [if_neg p1]
              by_cases q1 : c = q
              · omega
              · rw [if_neg q1]
                by_cases q2 : r = q
                · rw [if_pos q2]
                  exact hG p c h1 (by omega) hc hcr
                · rw [if_neg q2]
                  exact hH p q h1 (by omega) h3 h4) (by
            intro p q h1 h2 h3 h4
            have hp : p = r := by omega
            subst hp
            rw [hS, hS, if_neg (by omega), if_pos rfl, if_neg (by omega), if_neg (by omega)]
            exact hH c q (by omega) (by omega) h3 h4)
          refine ⟨l', (Out.sw (by omega) (by omega) (by omega)).trans h1, h2, ?_⟩
          have := sw_run (l := l) (i := f + r) (j := f + c) (r := fun x => f109_1 (hi : Int) (f : Int) N fu (c : Int) x) (by omega) (by omega)
          simp only [ix_at (show f + r < l.length by omega), ix_at (show f + c < l.length by omega), Option.bind_some, hd, hd2.2 hlt, decide_true, Bool.not_true, cond_false] at this ⊢
          rw [this]
          exact h3
        · refine ⟨l, Out.refl, ?_, ?_⟩
          · intro p q h1 h3 h4
            by_cases p1 : p = r
            · subst p1
              exact leS_trans (hbig q h3 h4) hlt
            · exact hH p q h1 p1 h3 h4
          · simp only [ix_at (show f + r < l.length by omega), ix_at (show f + c < l.length by omega), Option.bind_some, hd, show ¬ d < 0 from fun h => hlt (hd2.1 h), decide_false, Bool.not_false, cond_true]
      have hw5 : W ((f : Int) + ((2 * r + 1 : Nat) : Int)) = ((f + (2 * r + 1) : Nat) : Int) := by rw [show (f : Int) + ((2 * r + 1 : Nat) : Int) = ((f + (2 * r + 1) : Nat) : Int) by omega]; exact W_of (by omega) (by omega)
      have hw6 : W (((f + (2 * r + 1) : Nat) : Int) + (1 : Int)) = ((f + (2 * r + 2) : Nat) : Int) := W_nat (by omega)
      by_cases e2 : 2 * r + 2 < hi
      · rw [show decide (((2 * r + 2 : Nat) : Int) < (hi : Int)) = true by simp; omega, hw5, hw6]
        obtain ⟨d, hd, hd2⟩ := f91_eq (x := at' l (f + (2 * r + 1))) (y := at' l (f + (2 * r + 2))) hN
        simp only [cond_true, ix_at (show f + (2 * r + 1) < l.length by omega), ix_at (show f + (2 * r + 2) < l.length by omega), Option.bind_some, hd]
        by_cases hlt : ltS (at' l (f + (2 * r + 1))) (at' l (f + (2 * r + 2)))
        · simp only [hd2.2 hlt, decide_true, cond_true]
          refine step (2 * r + 2) e2 (.inr rfl) fun d h1 h2 => ?_
          rcases h2 with h2 | h2
          · rw [h2]; exact ltS_asymm hlt
          · rw [h2]; exact ltS_irrefl
        · simp only [show ¬ d < 0 from fun h => hlt (hd2.1 h), decide_false, cond_false]
          refine step (2 * r + 1) (by omega) (.inl rfl) fun d h1 h2 => ?_
          rcases h2 with h2 | h2
          · rw [h2]; exact ltS_irrefl
          · rw [h2]; exact hlt
      · rw [show decide (((2 * r + 2 : Nat) : Int) < (hi : Int)) = false by simp; omega]
        simp only [cond_false]
        refine step (2 * r + 1) (by omega) (.inl rfl) fun d h1 h2 => ?_
        rw [show d = 2 * r + 1 by omega]; exact ltS_irrefl
theorem f109_eq {N f lo hi : Nat} {l : List Spot} (hN : 30 ≤ N) (hlh : lo ≤ hi) (hN2 : hi + 10 < N) (hhl : f + hi ≤ l.length) (hl : l.length ≤ 100000) (hH : Hp f lo hi lo l) :
    ∃ l', Out (f + lo) (f + hi) l l' ∧ Heap f lo hi l' ∧ f109 N (lo : Int) (hi : Int) (f : Int) l = some l' := by
  obtain ⟨n, rfl⟩ : ∃ n, N = n + 1 := ⟨N - 1, by omega⟩
  exact f109_in (N := n) (by omega) n lo l (by omega) (Nat.le_refl _) hlh hhl hl hH (fun p c h1 h2 h3 h4 => by omega)
theorem keep_ok {l l' : List Spot} (h : l'.length = l.length) : keepL l l' = some l' := by unfold keepL; rw [if_pos h.symm]
theorem f99_build {N a b : Nat} {k0 : List Spot → Option (List Spot)} (hN : 40 ≤ N) (hab : a < b) (hbN : b + 20 < N) : ∀ (i fu : Nat) (l : List Spot), i ≤ fu → i ≤ b - a → b ≤ l.length → l.length ≤ 100000 → Heap a i (b - a) l →
    ∃ l', Out a b l l' ∧ Heap a 0 (b - a) l' ∧ f99_4 (a : Int) (b : Int) N k0 (fu + 1) ((i : Int) - 1) l = k0 l' := by
  intro i
  induction i with
  | zero =>
    intro fu l hf hi hbl hl hH
    refine ⟨l, Out.refl, hH, ?_⟩
    unfold f99_4 f99_4b
    rw [show decide ((0 : Int) ≤ ((0 : Nat) : Int) - 1) = false by simp]
    rfl
  | succ i ih =>
    intro fu l hf hi hbl hl hH
    obtain ⟨fu, rfl⟩ : ∃ n, fu = n + 1 := ⟨fu - 1, by omega⟩
    obtain ⟨l1, h1, h2, h3⟩ := f109_eq (N := N) (f := a) (lo := i) (hi := b - a) (l := l) (by omega) (by omega) (by omega) (by omega) hl (fun p c q1 q2 q3 q4 => hH p c (by omega) q3 q4)
    have h1' : Out a b l l1 := h1.wide (by omega) (by omega)
    obtain ⟨l2, h4, h5, h6⟩ := ih fu l1 (by omega) (by omega) (by rw [h1.len]; exact hbl) (by rw [h1.len]; exact hl) h2
    refine ⟨l2, h1'.trans h4, h5, ?_⟩
    unfold f99_4 f99_4b
    have hw0 : W ((b : Int) - (a : Int)) = ((b - a : Nat) : Int) := by rw [Wi (by omega) (by omega)]; omega
    have hw1 : ((i + 1 : Nat) : Int) - 1 = (i : Int) := by omega
    rw [hw1, hw0, show decide ((0 : Int) ≤ (i : Int)) = true by simp, h3]
    simp only [cond_true, Option.bind_some, keep_ok h1.len]
    rw [Wi (by omega) (by omega)]
    exact h6
theorem heap_top {f hi : Nat} {l : List Spot} (hH : Heap f 0 hi l) : ∀ c, c < hi → ¬ ltS (at' l f) (at' l (f + c)) := by
  intro c
  induction c using Nat.strongRecOn with
  | ind c ih =>
    intro hc
    by_cases e : c = 0
    · subst e; exact ltS_irrefl
    · exact leS_trans (hH ((c - 1) / 2) c (by omega) hc (by omega)) (ih ((c - 1) / 2) (by omega) (by omega))
theorem f99_pop {N a b : Nat} (hN : 40 ≤ N) (hab : a < b) (hbN : b + 20 < N) : ∀ (i fu : Nat) (l : List Spot), i ≤ fu → i ≤ b - a → b ≤ l.length → l.length ≤ 100000 → Heap a 0 i l → (∀ p q, a ≤ p → p < q → a + i ≤ q → q < b → ¬ ltS (at' l q) (at' l p)) →
    ∃ l', Out a b l l' ∧ Srt a b l' ∧ f99_8 (a : Int) N (fu + 1) ((i : Int) - 1) l = some l' := by
  intro i
  induction i with
  | zero =>
    intro fu l hf hi hbl hl hH hT
    refine ⟨l, Out.refl, fun p q h1 h2 h3 => hT p q h1 h2 (by omega) h3, ?_⟩
    unfold f99_8 f99_8b
    rw [show decide ((0 : Int) ≤ ((0 : Nat) : Int) - 1) = false by simp]
    rfl
  | succ i ih =>
    intro fu l hf hi hbl hl hH hT
    obtain ⟨fu, rfl⟩ : ∃ n, fu = n + 1 := ⟨fu - 1, by omega⟩
    have hw1 : ((i + 1 : Nat) : Int) - 1 = (i : Int) := by omega
    have hw2 : W ((a : Int) + (i : Int)) = ((a + i : Nat) : Int) := by rw [show (a : Int) + (i : Int) = ((a + i : Nat) : Int) by omega]; exact W_of (by omega) (by omega)
    have hO : Out a b l (sw l a (a + i)) := Out.sw (by omega) (by omega) hbl
    obtain ⟨l1, h1, h2, h3⟩ := f109_eq (N := N) (f := a) (lo := 0) (hi := i) (l := sw l a (a + i)) (by omega) (by omega) (by omega) (by rw [sw_len]; omega) (by rw [sw_len]; exact hl) (by
      intro p c q1 q2 q3 q4
      rw [at_sw (by omega) (by omega), at_sw (by omega) (by omega), if_neg (by omega), if_neg (by omega), if_neg (by omega), if_neg (by omega)]
      exact hH p c (by omega) (by omega) q4)
    have h1' : Out a (a + i) (sw l a (a + i)) l1 := h1.wide (by omega) (by omega)
    have hO2 : Out a b l l1 := hO.trans (h1'.wide (Nat.le_refl _) (by omega))
    have top : at' l1 (a + i) = at' l a := by
      rw [h1'.2 (a + i) (.inr (Nat.le_refl _)), at_sw (by omega) (by omega), if_pos rfl]
    obtain ⟨l2, h4, h5, h6⟩ := ih fu l1 (by omega) (by omega) (by rw [hO2.len]; exact hbl) (by rw [hO2.len]; exact hl) h2 (by
      intro p q q1 q2 q3 q4
      have src : ∀ k, a ≤ k → k < a + (i + 1) → ∃ k', (a ≤ k' ∧ k' < a + (i + 1)) ∧ at' l1 k = at' l k' := fun k g1 g2 => by
        have hOi : Out a (a + (i + 1)) l l1 := (Out.sw (by omega) (by omega) (by omega)).trans (h1'.wide (Nat.le_refl _) (by omega))
        exact hOi.from (by omega) ⟨g1, g2⟩
      by_cases e : q = a + i
      · subst e
        rw [top]
        obtain ⟨k', g1, g2⟩ := src p q1 (by omega)
        rw [g2]
        have := heap_top hH (k' - a) (by omega)
        rwa [show a + (k' - a) = k' by omega] at this
      · have eq : at' l1 q = at' l q := by
          rw [h1'.2 q (.inr (by omega)), at_sw (by omega) (by omega), if_neg (by omega), if_neg (by omega)]
        rw [eq]
        by_cases e2 : p < a + (i + 1)
        · obtain ⟨k', g1, g2⟩ := src p q1 e2
          rw [g2]
          exact hT k' q g1.1 (by omega) (by omega) q4
        · rw [h1'.2 p (.inr (by omega)), at_sw (by omega) (by omega), if_neg (by omega), if_neg (by omega)]
          exact hT p q q1 q2 (by omega) q4)
    refine ⟨l2, hO2.trans h4, h5, ?_⟩
    unfold f99_8 f99_8b
    rw [hw1, hw2, show decide ((0 : Int) ≤ (i : Int)) = true by simp]
    simp only [cond_true]
    have := sw_run (l := l) (i := a) (j := a + i) (r := fun x6 => (f109 N (0 : Int) (i : Int) (a : Int) x6).bind fun x7 => (keepL x6 x7).bind fun x8 => f99_8 (a : Int) N (fu + 1) (W ((i : Int) - 1)) x8) (by omega) (by omega)
    rw [this, show (0 : Int) = ((0 : Nat) : Int) from rfl, h3]
    simp only [Option.bind_some, keep_ok h1.len]
    rw [Wi (by omega) (by omega)]
    exact h6
theorem f99_eq {N a b : Nat} {l : List Spot} (hN : 50 ≤ N) (hab : a < b) (hbN : b + 30 < N) (hbl : b ≤ l.length) (hl : l.length ≤ 100000) : ∃ l', Out a b l l' ∧ Srt a b l' ∧ f99 N (a : Int) (b : Int) l = some l' := by
  obtain ⟨n, rfl⟩ : ∃ n, N = n + 1 := ⟨N - 1, by omega⟩
  have hw0 : W ((b : Int) - (a : Int)) = ((b - a : Nat) : Int) := by rw [Wi (by omega) (by omega)]; omega
  have hw1 : W (((b - a : Nat) : Int) - (1 : Int)) = ((b - a : Nat) : Int) - 1 := Wi (by omega) (by omega)
  have hw2 : W (Int.tdiv (((b - a : Nat) : Int) - 1) 2) = (((b - a + 1) / 2 : Nat) : Int) - 1 := by
    have h1 : Int.tdiv (((b - a : Nat) : Int) - 1) 2 = (((b - a + 1) / 2 : Nat) : Int) - 1 := by
      have := tdiv_nat (b - a - 1) 2
      rw [show (((b - a : Nat) : Int) - 1) = ((b - a - 1 : Nat) : Int) by omega]
      rw [show ((2 : Nat) : Int) = 2 from rfl] at this
      rw [this]; omega
    rw [h1]; exact Wi (by omega) (by omega)
  obtain ⟨m, hm⟩ : ∃ m, n = m + 1 := ⟨n - 1, by omega⟩
  obtain ⟨l1, h1, h2, h3⟩ := f99_build (N := n) (a := a) (b := b) (k0 := f99_c7 (a : Int) (b : Int) n) (by omega) hab (by omega) ((b - a + 1) / 2) m l (by omega) (by omega) hbl hl (fun p c q1 q2 q3 => by omega)
  obtain ⟨l2, h4, h5, h6⟩ := f99_pop (N := n) (a := a) (b := b) (by omega) hab (by omega) (b - a) m l1 (by omega) (by omega) (by rw [h1.len]; exact hbl) (by rw [h1.len]; exact hl) h2 (fun p q q1 q2 q3 q4 => by omega)
  refine ⟨l2, h1.trans h4, h5, ?_⟩
  show f99_4 (a : Int) (b : Int) n (f99_c7 (a : Int) (b : Int) n) n (W (Int.tdiv (W ((W ((b : Int) - (a : Int))) - (1 : Int))) (2 : Int))) l = some l2
  rw [hw0, hw1, hw2]
  rw [← hm] at h3 h6
  rw [h3]
  unfold f99_c7
  rw [hw0, hw1]
  exact h6
end Go.Vc
namespace Go.Vc
set_option linter.unusedVariables false
set_option linter.unnecessarySimpa false
set_option linter.unusedSimpArgs false
set_option linter.unusedSimpArgs false
theorem Abv.sub {a b b' : Nat} {l : List Spot} (h : Abv a b l) (hb : b' ≤ b) : Abv a b' l := fun h0 k h1 h2 => h h0 k h1 (by omega)
theorem join_srt {a b m : Nat} {l l' : List Spot} (hm : a ≤ m ∧ m < b) (hlo : ∀ k, a ≤ k → k < m → ltS (at' l k) (at' l m)) (hhi : ∀ k, m < k → k < b → ¬ ltS (at' l k) (at' l m))
    (f1 : ∀ k, a ≤ k → k < m → ∃ k', (a ≤ k' ∧ k' < m) ∧ at' l' k = at' l k') (f2 : at' l' m = at' l m) (f3 : ∀ k, m + 1 ≤ k → k < b → ∃ k', (m + 1 ≤ k' ∧ k' < b) ∧ at' l' k = at' l k')
    (s1 : Srt a m l') (s2 : Srt (m + 1) b l') : Srt a b l' := by
  intro p q h1 h2 h3
  have low : ∀ k, a ≤ k → k < m → ltS (at' l' k) (at' l' m) := fun k g1 g2 => by
    obtain ⟨k', g3, g4⟩ := f1 k g1 g2
    rw [g4, f2]; exact hlo k' g3.1 g3.2
  have high : ∀ k, m < k → k < b → ¬ ltS (at' l' k) (at' l' m) := fun k g1 g2 => by
    obtain ⟨k', g3, g4⟩ := f3 k g1 g2
    rw [g4, f2]; exact hhi k' (by omega) g3.2
  by_cases e1 : q < m
  · exact s1 p q h1 h2 e1
  · by_cases e2 : q = m
    · subst e2; exact ltS_asymm (low p h1 h2)
    · by_cases e3 : p < m
      · exact leS_trans (ltS_asymm (low p h1 e3)) (high q (by omega) h3)
      · by_cases e4 : p = m
        · subst e4; exact high q h2 h3
        · exact s2 p q (by omega) h2 h3
def Sorts (n : Nat) : Prop := ∀ (a b : Nat) (lim : Int) (l : List Spot), a ≤ b → b ≤ l.length → l.length ≤ 100000 → b - a ≤ 500 → b + (b - a) + 70 < n → Abv a b l → ∃ l', Out a b l l' ∧ Srt a b l' ∧ f95 n (a : Int) (b : Int) lim l = some l'
def Goes (n fu a b : Nat) : Prop := ∀ (a' b' : Nat) (lim : Int) (bal par : Bool) (l : List Spot), a ≤ a' → b' ≤ b → a' ≤ b' → b' - a' < b - a → b' ≤ l.length → l.length ≤ 100000 → Abv a' b' l → ∃ l', Out a' b' l l' ∧ Srt a' b' l' ∧ f95_2 n (f95 n) fu (a' : Int) (b' : Int) lim bal par l = some l'
theorem f95_part {n fu a b : Nat} (ih : Sorts n) (hn : b + (b - a) + 69 < n) (hba : b - a ≤ 500) (hG : Goes n fu a b) (hab : a + 2 ≤ b) {lim x : Int} {l : List Spot} (hx : Bt a b x) (hbl : b ≤ l.length) (hl : l.length ≤ 100000) (hA : Abv a b l) :
    ∃ l', Out a b l l' ∧ Srt a b l' ∧ f95_c20 n (f95 n) (a : Int) (b : Int) (f95_2 n (f95 n) fu) lim x l = some l' := by
  obtain ⟨xn, rfl⟩ : ∃ m : Nat, x = (m : Int) := ⟨x.toNat, by have := hx.1; omega⟩
  obtain ⟨m, fl, l2, ⟨h1, h2, h3, h4⟩, h5⟩ := f105_eq (N := n) (a := a) (b := b) (x := xn) (l := l) (by omega) hab (by omega) ⟨by have := hx.1; omega, by have := hx.2; omega⟩ hbl (by omega)
  have hA2 := hA.out h1 hbl
  have hl2 := h1.len
  unfold f95_c20
  rw [h5]
  simp only [Option.bind_some, keep_ok hl2]
  rw [W_nat (by omega)]
  by_cases e : W ((m : Int) - (a : Int)) < W ((b : Int) - (m : Int))
  · simp only [e, decide_true, cond_true]
    obtain ⟨l3, g1, g2, g3⟩ := ih a m lim l2 h2.1 (by omega) (by omega) (by omega) (by omega) (hA2.sub (by omega))
    have hl3 := g1.len
    rw [g3]
    simp only [Option.bind_some, keep_ok hl3]
    obtain ⟨l4, k1, k2, k3⟩ := hG (m + 1) b lim (decide ((W (Int.tdiv (W ((b : Int) - (a : Int))) (8 : Int))) ≤ (W ((m : Int) - (a : Int))))) fl l3 (by omega) (Nat.le_refl _) (by omega) (by omega) (by omega) (by omega) (by
      intro _ k q1 q2
      rw [show m + 1 - 1 = m from rfl, g1.2 k (.inr (by omega)), g1.2 m (.inr (by omega))]
      exact h4 k (by omega) q2)
    refine ⟨l4, h1.trans ((g1.wide (Nat.le_refl _) (by omega)).trans (k1.wide (by omega) (Nat.le_refl _))), ?_, k3⟩
    refine join_srt h2 h3 h4 ?_ ?_ ?_ ?_ k2
    · intro k q1 q2
      rw [k1.2 k (.inl (by omega))]
      exact g1.from (by omega) ⟨q1, q2⟩
    · rw [k1.2 m (.inl (by omega)), g1.2 m (.inr (by omega))]
    · intro k q1 q2
      obtain ⟨k', w1, w2⟩ := k1.from (by omega) ⟨q1, q2⟩
      exact ⟨k', w1, by rw [w2, g1.2 k' (.inr (by omega))]⟩
    · intro p q q1 q2 q3
      rw [k1.2 p (.inl (by omega)), k1.2 q (.inl (by omega))]
      exact g2 p q q1 q2 q3
  · simp only [e, decide_false, cond_false]
    obtain ⟨l3, g1, g2, g3⟩ := ih (m + 1) b lim l2 (by omega) (by omega) (by omega) (by omega) (by omega) (by
      intro _ k q1 q2
      rw [show m + 1 - 1 = m from rfl]
      exact h4 k (by omega) q2)
    have hl3 := g1.len
    rw [g3]
    simp only [Option.bind_some, keep_ok hl3]
    obtain ⟨l4, k1, k2, k3⟩ := hG a m lim (decide ((W (Int.tdiv (W ((b : Int) - (a : Int))) (8 : Int))) ≤ (W ((b : Int) - (m : Int))))) fl l3 (Nat.le_refl _) (by omega) h2.1 (by omega) (by omega) (by omega) (by
      intro h0 k q1 q2
      rw [g1.2 k (.inl (by omega)), g1.2 (a - 1) (.inl (by omega))]
      exact hA2 h0 k q1 (by omega))
    refine ⟨l4, h1.trans ((g1.wide (by omega) (Nat.le_refl _)).trans (k1.wide (Nat.le_refl _) (by omega))), ?_, k3⟩
    refine join_srt h2 h3 h4 ?_ ?_ ?_ k2 ?_
    · intro k q1 q2
      obtain ⟨k', w1, w2⟩ := k1.from (by omega) ⟨q1, q2⟩
      exact ⟨k', w1, by rw [w2, g1.2 k' (.inl (by omega))]⟩
    · rw [k1.2 m (.inr (by omega)), g1.2 m (.inl (by omega))]
    · intro k q1 q2
      rw [k1.2 k (.inr (by omega))]
      exact g1.from (by omega) ⟨q1, q2⟩
    · intro p q q1 q2 q3
      rw [k1.2 p (.inr (by omega)), k1.2 q (.inr (by omega))]
      exact g2 p q q1 q2 q3
theorem f95_equal {n fu a b : Nat} (ih : Sorts n) (hn : b + (b - a) + 69 < n) (hba : b - a ≤ 500) (hG : Goes n fu a b) (hab : a + 2 ≤ b) {lim x : Int} {bal par : Bool} {l : List Spot} (hx : Bt a b x) (hbl : b ≤ l.length) (hl : l.length ≤ 100000) (hA : Abv a b l) :
    ∃ l', Out a b l l' ∧ Srt a b l' ∧ f95_c17 n (f95 n) (a : Int) (b : Int) bal par (f95_2 n (f95 n) fu) lim x l = some l' := by
  have hP := f95_part ih hn hba hG hab (lim := lim) hx hbl hl hA
  unfold f95_c17
  simp only [joinK]
  by_cases e : 0 < a
  · rw [show decide ((0 : Int) < (a : Int)) = true by simp; omega, W_dec e (by omega)]
    obtain ⟨xn, rfl⟩ : ∃ m : Nat, x = (m : Int) := ⟨x.toNat, by have := hx.1; omega⟩
    have hx1 : a ≤ xn := by have := hx.1; omega
    have hx2 : xn < b := by have := hx.2; omega
    obtain ⟨d, hd, hd2⟩ := f91_eq (N := n) (x := at' l (a - 1)) (y := at' l xn) (by omega)
    simp only [cond_true, ix_at (show a - 1 < l.length by omega), ix_at (show xn < l.length by omega), Option.bind_some, hd]
    by_cases hlt : ltS (at' l (a - 1)) (at' l xn)
    · simp only [hd2.2 hlt, decide_true, Bool.not_true, cond_false]
      exact hP
    · simp only [show ¬ d < 0 from fun h => hlt (hd2.1 h), decide_false, Bool.not_false, cond_true]
      obtain ⟨m, l2, h1, h2, h3, h4, h5⟩ := f104_eq (N := n) (a := a) (b := b) (x := xn) (l := l) (by omega) hab (by omega) ⟨hx1, hx2⟩ hbl (by omega) (fun k q1 q2 => leS_trans hlt (hA e k q1 q2))
      have hl2 := h1.len
      rw [h5]
      simp only [Option.bind_some, keep_ok hl2]
      obtain ⟨l3, k1, k2, k3⟩ := hG m b lim bal par l2 (by omega) (Nat.le_refl _) h2.2 (by omega) (by omega) (by omega) (by
        intro _ k q1 q2
        rw [h3 (m - 1) (by omega) (by omega)]
        exact ltS_asymm (h4 k q1 q2))
      refine ⟨l3, h1.trans (k1.wide (by omega) (Nat.le_refl _)), ?_, k3⟩
      intro p q q1 q2 q3
      have low : ∀ k, a ≤ k → k < m → at' l3 k = at' l xn := fun k g1 g2 => by rw [k1.2 k (.inl g2)]; exact h3 k g1 g2
      by_cases e1 : q < m
      · rw [low p q1 (by omega), low q (by omega) e1]; exact ltS_irrefl
      · by_cases e2 : p < m
        · rw [low p q1 e2]
          obtain ⟨k', w1, w2⟩ := k1.from (by omega) (k := q) ⟨by omega, q3⟩
          rw [w2]; exact ltS_asymm (h4 k' w1.1 w1.2)
        · exact k2 p q (by omega) q2 q3
  · rw [show decide ((0 : Int) < (a : Int)) = false by simp; omega]
    exact hP
theorem f95_few {n fu a b : Nat} (ih : Sorts n) (hn : b + (b - a) + 69 < n) (hba : b - a ≤ 500) (hG : Goes n fu a b) (hab : a + 2 ≤ b) {lim x hint : Int} {bal par : Bool} {l : List Spot} (hx : Bt a b x) (hbl : b ≤ l.length) (hl : l.length ≤ 100000) (hA : Abv a b l) :
    ∃ l', Out a b l l' ∧ Srt a b l' ∧ f95_c15 n (f95 n) (a : Int) (b : Int) bal par (f95_2 n (f95 n) fu) lim x hint l = some l' := by
  have hP := f95_equal ih hn hba hG hab (lim := lim) (bal := bal) (par := par) hx hbl hl hA
  unfold f95_c15
  simp only [joinK]
  cases bal with
  | false => exact hP
  | true => cases par with
    | false => exact hP
    | true =>
      simp only [cond_true]
      by_cases e : hint = 1
      · simp only [e, decide_true, cond_true]
        obtain ⟨r, l2, h1, h2, h3⟩ := f103_eq (N := n) (a := a) (b := b) (l := l) (by omega) (by omega) (by omega) hbl (by omega) hA
        have hl2 := h1.len
        rw [h3]
        simp only [Option.bind_some, keep_ok hl2]
        cases r with
        | true => exact ⟨l2, h1, h2 rfl, rfl⟩
        | false =>
          obtain ⟨l3, k1, k2, k3⟩ := f95_equal ih hn hba hG hab (lim := lim) (bal := true) (par := true) (l := l2) hx (by omega) (by omega) (hA.out h1 hbl)
          exact ⟨l3, h1.trans k1, k2, k3⟩
      · simp only [e, decide_false, cond_false]
        exact hP
theorem f95_turn {n fu a b : Nat} (ih : Sorts n) (hn : b + (b - a) + 69 < n) (hba : b - a ≤ 500) (hG : Goes n fu a b) (hab : a + 8 ≤ b) {lim : Int} {bal par : Bool} {l : List Spot} (hbl : b ≤ l.length) (hl : l.length ≤ 100000) (hA : Abv a b l) :
    ∃ l', Out a b l l' ∧ Srt a b l' ∧ f95_c10 n (f95 n) (a : Int) (b : Int) bal par (f95_2 n (f95 n) fu) lim l = some l' := by
  obtain ⟨y, h, h1, h2⟩ := f101_eq (N := n) (a := a) (b := b) (l := l) (by omega) hab hbl (by omega)
  unfold f95_c10
  rw [h1]
  simp only [joinK, Option.bind_some]
  by_cases e : h = 2
  · simp only [e, decide_true, cond_true]
    obtain ⟨l2, g1, g2⟩ := f102_eq (N := n) (a := a) (b := b) (l := l) (by omega) (by omega) (by omega) hbl (by omega)
    have hl2 := g1.len
    rw [g2]
    simp only [Option.bind_some, keep_ok hl2]
    have hy : Bt a b (W (W ((b : Int) - 1) - W (y - (a : Int)))) := by
      have := h2.1; have := h2.2
      rw [Wi (n := (b : Int) - 1) (by omega) (by omega), Wi (n := y - (a : Int)) (by omega) (by omega), Wi (by omega) (by omega)]
      exact ⟨by omega, by omega⟩
    obtain ⟨l3, k1, k2, k3⟩ := f95_few ih hn hba hG (by omega) (lim := lim) (bal := bal) (par := par) (hint := 1) (l := l2) hy (by omega) (by omega) (hA.out g1 hbl)
    exact ⟨l3, g1.trans k1, k2, k3⟩
  · simp only [e, decide_false, cond_false]
    exact f95_few ih hn hba hG (by omega) h2 hbl hl hA
theorem f95_loop {n : Nat} (ih : Sorts n) : ∀ (fu a b : Nat) (lim : Int) (bal par : Bool) (l : List Spot), b - a < fu → a ≤ b → b ≤ l.length → l.length ≤ 100000 → b - a ≤ 500 → b + (b - a) + 69 < n → Abv a b l →
    ∃ l', Out a b l l' ∧ Srt a b l' ∧ f95_2 n (f95 n) fu (a : Int) (b : Int) lim bal par l = some l' := by
  intro fu
  induction fu with
  | zero => intro a b lim bal par l h; omega
  | succ fu ihf =>
    intro a b lim bal par l hf hab hbl hl hba hn hA
    have hG : Goes n fu a b := fun a' b' lim bal par l h1 h2 h3 h4 h5 h6 h7 => ihf a' b' lim bal par l (by omega) h3 h5 h6 (by omega) (by omega) h7
    have hw0 : W ((b : Int) - (a : Int)) = ((b - a : Nat) : Int) := by rw [Wi (by omega) (by omega)]; omega
    unfold f95_2 f95_2b
    rw [hw0]
    by_cases e : b - a ≤ 12
    · obtain ⟨l2, h1, h2, h3⟩ := f98_eq (N := n) (a := a) (b := b) (l := l) (by omega) hab (by omega) hbl (by omega)
      rw [show decide (((b - a : Nat) : Int) ≤ (12 : Int)) = true by simp; omega, h3]
      simp only [cond_true, Option.bind_some, keep_ok h1.len]
      exact ⟨l2, h1, h2, rfl⟩
    · rw [show decide (((b - a : Nat) : Int) ≤ (12 : Int)) = false by simp; omega]
      simp only [cond_false, joinK]
      by_cases e2 : lim = 0
      · obtain ⟨l2, h1, h2, h3⟩ := f99_eq (N := n) (a := a) (b := b) (l := l) (by omega) (by omega) (by omega) hbl hl
        simp only [e2, decide_true, cond_true, h3, Option.bind_some, keep_ok h1.len]
        exact ⟨l2, h1, h2, rfl⟩
      · simp only [e2, decide_false, cond_false]
        cases bal with
        | true =>
          simp only [Bool.not_true, cond_false]
          exact f95_turn ih hn hba hG (by omega) hbl hl hA
        | false =>
          simp only [Bool.not_false, cond_true]
          obtain ⟨l2, h1, h2⟩ := f100_eq (N := n) (a := a) (b := b) (l := l) (by omega) (by omega) hba (by omega) hbl (by omega)
          have hl2 := h1.len
          rw [h2]
          simp only [Option.bind_some, keep_ok hl2]
          obtain ⟨l3, k1, k2, k3⟩ := f95_turn ih hn hba hG (by omega) (lim := W (lim - 1)) (bal := false) (par := par) (l := l2) (by omega) (by omega) (hA.out h1 hbl)
          exact ⟨l3, h1.trans k1, k2, k3⟩
theorem f95_all : ∀ n, Sorts n := by
  intro n
  induction n with
  | zero => intro a b lim l h1 h2 h3 h4 h5; omega
  | succ n ih =>
    intro a b lim l h1 h2 h3 h4 h5 h6
    exact f95_loop ih n a b lim true true l (by omega) h1 h2 h3 h4 (by omega) h6
theorem f95_eq {N : Nat} {lim : Int} {l : List Spot} (hl : l.length ≤ 500) (hN : 1100 ≤ N) : ∃ l', l'.Perm l ∧ Srt 0 l.length l' ∧ f95 N 0 (l.length : Int) lim l = some l' := by
  obtain ⟨l', h1, h2, h3⟩ := f95_all N 0 l.length lim l (by omega) (Nat.le_refl _) (by omega) (by omega) (by omega) (fun h => by omega)
  exact ⟨l', h1.1, h2, h3⟩
end Go.Vc
namespace Go.Vc
set_option linter.unusedVariables false
set_option linter.unnecessarySimpa false
set_option linter.unusedSimpArgs false
set_option linter.unusedSimpArgs false
def Cnd (q : Bool) (t : List (List Int)) (s a b : Nat) : Prop :=
  dl t s (bif q then [(a : Int), (a : Int)] else [(a : Int), (b : Int)]) = dl t s (bif q then [(b : Int), (b : Int)] else [(b : Int), (a : Int)])
instance (q : Bool) (t : List (List Int)) (s a b : Nat) : Decidable (Cnd q t s a b) := by unfold Cnd; infer_instance
def V (q : Bool) (t : List (List Int)) (x : Spot) : Prop := (0 ≤ x.State ∧ x.State < t.length) ∧ (0 ≤ x.A ∧ x.A < x.B ∧ x.B < t.length) ∧ Cnd q t x.State.toNat x.A.toNat x.B.toNat
def SpotsOf (q : Bool) (t : List (List Int)) (l : List Spot) : Prop := l.Pairwise ltS ∧ ∀ x, x ∈ l ↔ V q t x
theorem ltS_nodup {l : List Spot} (h : l.Pairwise ltS) : l.Nodup := h.imp fun h e => by subst e; exact ltS_irrefl h
theorem SpotsOf.uniq {q : Bool} {t : List (List Int)} {l l' : List Spot} (h : SpotsOf q t l) (h' : SpotsOf q t l') : l = l' :=
  List.Perm.eq_of_pairwise (le := ltS) (fun a b _ _ h1 h2 => absurd h2 (ltS_asymm h1)) h.1 h'.1 ((List.perm_ext_iff_of_nodup (ltS_nodup h.1) (ltS_nodup h'.1)).2 fun x => (h.2 x).trans (h'.2 x).symm)
def ltO (x y : Spot) : Prop := x.State < y.State ∨ (x.State = y.State ∧ (x.B < y.B ∨ (x.B = y.B ∧ x.A < y.A)))
def Bld (R : Spot → Spot → Prop) (q : Bool) (t : List (List Int)) (s a b : Nat) (l : List Spot) : Prop := l.Pairwise R ∧ ∀ x, x ∈ l ↔ V q t x ∧ R x ⟨s, a, b⟩
theorem spot_eq {x : Spot} {s a b : Int} (h1 : x.State = s) (h2 : x.A = a) (h3 : x.B = b) : x = ⟨s, a, b⟩ := by cases x; simp_all
theorem bld_add {q : Bool} {t : List (List Int)} {s a b : Nat} {l : List Spot} (h : Bld ltO q t s a b l) (hv : V q t ⟨s, a, b⟩) : Bld ltO q t s (a + 1) b (l ++ [⟨s, a, b⟩]) := by
  refine ⟨List.pairwise_append.2 ⟨h.1, by simp, fun x hx y hy => ?_⟩, fun x => ?_⟩
  · rw [List.mem_singleton.1 hy]; exact ((h.2 x).1 hx).2
  · rw [List.mem_append, h.2 x, List.mem_singleton]
    constructor
    · rintro (⟨h1, h2⟩ | rfl)
      · exact ⟨h1, by unfold ltO at *; simp only at *; omega⟩
      · exact ⟨hv, .inr ⟨rfl, .inr ⟨rfl, by show (a : Int) < ((a + 1 : Nat) : Int); omega⟩⟩⟩
    · rintro ⟨h1, h2⟩
      by_cases e : ltO x ⟨s, a, b⟩
      · exact .inl ⟨h1, e⟩
      · refine .inr (spot_eq ?_ ?_ ?_) <;> (unfold ltO at *; simp only at *; omega)
theorem bld_skip {q : Bool} {t : List (List Int)} {s a b : Nat} {l : List Spot} (h : Bld ltO q t s a b l) (hv : ¬ V q t ⟨s, a, b⟩) : Bld ltO q t s (a + 1) b l := by
  refine ⟨h.1, fun x => ?_⟩
  rw [h.2 x]
  constructor
  · rintro ⟨h1, h2⟩
    exact ⟨h1, by unfold ltO at *; simp only at *; omega⟩
  · rintro ⟨h1, h2⟩
    by_cases e : ltO x ⟨s, a, b⟩
    · exact ⟨h1, e⟩
    · have : x = ⟨s, a, b⟩ := by refine spot_eq ?_ ?_ ?_ <;> (unfold ltO at *; simp only at *; omega)
      rw [this] at h1; exact absurd h1 hv
theorem bld_row {q : Bool} {t : List (List Int)} {s b : Nat} {l : List Spot} (h : Bld ltO q t s b b l) : Bld ltO q t s 0 (b + 1) l := by
  refine ⟨h.1, fun x => ?_⟩
  rw [h.2 x]
  refine and_congr_right fun hv => ?_
  obtain ⟨⟨h1, h2⟩, ⟨h3, h4, h5⟩, _⟩ := hv
  unfold ltO; simp only; omega
theorem bld_state {q : Bool} {t : List (List Int)} {s : Nat} {l : List Spot} (h : Bld ltO q t s 0 t.length l) : Bld ltO q t (s + 1) 0 0 l := by
  refine ⟨h.1, fun x => ?_⟩
  rw [h.2 x]
  refine and_congr_right fun hv => ?_
  obtain ⟨⟨h1, h2⟩, ⟨h3, h4, h5⟩, _⟩ := hv
  unfold ltO; simp only; omega
theorem bld_nil {q : Bool} {t : List (List Int)} : Bld ltO q t 0 0 0 [] := by
  refine ⟨by simp, fun x => ?_⟩
  simp only [List.not_mem_nil, false_iff]
  rintro ⟨⟨⟨h1, h2⟩, ⟨h3, h4, h5⟩, _⟩, h6⟩
  unfold ltO at h6; simp only at h6; omega
theorem bld_all {q : Bool} {t : List (List Int)} {l : List Spot} (h : Bld ltO q t t.length 0 0 l) : l.Nodup ∧ ∀ x, x ∈ l ↔ V q t x := by
  refine ⟨h.1.imp fun h e => by subst e; unfold ltO at h; omega, fun x => ?_⟩
  rw [h.2 x]
  refine ⟨fun hx => hx.1, fun hv => ⟨hv, ?_⟩⟩
  obtain ⟨⟨h1, h2⟩, ⟨h3, h4, h5⟩, _⟩ := hv
  unfold ltO; simp only; omega
theorem v_mk {q : Bool} {t : List (List Int)} {s a b : Nat} (hs : s < t.length) (hb : b < t.length) (hab : a < b) : V q t ⟨s, a, b⟩ ↔ Cnd q t s a b := by
  unfold V
  constructor
  · intro h; exact h.2.2
  · intro h; exact ⟨by simp only; omega, by simp only; omega, h⟩
def tri : Nat → Nat
  | 0 => 0
  | b + 1 => tri b + b
theorem tri_le {n : Nat} (h : n ≤ 10) : tri n ≤ 45 := by
  have : ∀ n : Fin 11, tri n.val ≤ 45 := by decide
  exact this ⟨n, by omega⟩
theorem dig2 {t : List (List Int)} {a b : Nat} (ha : a < t.length) (hb : b < t.length) : Dig t [(a : Int), (b : Int)] := by
  intro x hx
  simp at hx
  rcases hx with rfl | rfl <;> omega
theorem sort_of {q : Bool} {t : List (List Int)} {l l' : List Spot} (h : Bld ltO q t t.length 0 0 l) (hp : l'.Perm l) (hs : Srt 0 l.length l') : SpotsOf q t l' := by
  obtain ⟨h1, h2⟩ := bld_all h
  refine ⟨List.pairwise_iff_getElem.2 fun i j hi hj hij => ?_, fun x => by rw [hp.mem_iff]; exact h2 x⟩
  have hl := hp.length_eq
  have hn : l'.Nodup := hp.nodup_iff.2 h1
  have h3 := hs i j (by omega) hij (by omega)
  have e1 : at' l' i = l'[i] := by simp [at', hi]
  have e2 : at' l' j = l'[j] := by simp [at', hj]
  rw [e1, e2] at h3
  by_cases e : ltS l'[i] l'[j]
  · exact e
  · have := leS_antisymm h3 e
    exact absurd this (List.pairwise_iff_getElem.1 hn i j hi hj hij)
theorem f43_in {N : Nat} {t : List (List Int)} (h : Lat t) (hN : 100 ≤ N) {s b : Nat} (hs : s < t.length) (hb : b < t.length) {k2 : List Spot → Option (List Spot × Int)} {L : Nat} (hL : L ≤ 2000) : ∀ (fu a : Nat) (l : List Spot), b - a < fu → a ≤ b → Bld ltO false t s a b l → l.length ≤ L + a →
    ∃ l', Bld ltO false t s b b l' ∧ l'.length ≤ L + b ∧ f43_i101_12 t N (s : Int) (b : Int) k2 fu l (a : Int) = k2 l' := by
  have h10 := h.hi
  intro fu
  induction fu with
  | zero => intro a l hf; omega
  | succ fu ih =>
    intro a l hf hab hB hl
    unfold f43_i101_12 f43_i101_12b
    by_cases e : a = b
    · subst e
      refine ⟨l, hB, hl, ?_⟩
      rw [show decide ((a : Int) < (a : Int)) = false by simp]
      rfl
    · rw [show decide ((a : Int) < (b : Int)) = true by simp; omega]
      have hp : f77 N (a : Int) (b : Int) = some ([(a : Int), (b : Int)], [(b : Int), (a : Int)]) := rfl
      rw [hp]
      simp only [cond_true, Option.bind_some]
      rw [f59_eq h.toSq (dig2 (by omega) (by omega)) hs (by simp) hN, f59_eq h.toSq (dig2 (by omega) (by omega)) hs (by simp) hN]
      simp only [Option.bind_some]
      rw [W_nat (by omega)]
      by_cases c : Cnd false t s a b
      · have c' : ((dl t s [(a : Int), (b : Int)] : Nat) : Int) = ((dl t s [(b : Int), (a : Int)] : Nat) : Int) := congrArg _ c
        rw [c']
        simp only [decide_true, cond_true]
        rw [app_ok (by simp; omega) (by simp; omega)]
        simp only [Option.bind_some]
        obtain ⟨l', h1, h2, h3⟩ := ih (a + 1) (l ++ [⟨s, a, b⟩]) (by omega) (by omega) (bld_add hB ((v_mk hs hb (by omega)).2 c)) (by simp; omega)
        exact ⟨l', h1, h2, h3⟩
      · have c' : ¬ ((dl t s [(a : Int), (b : Int)] : Nat) : Int) = ((dl t s [(b : Int), (a : Int)] : Nat) : Int) := fun e => c (Int.ofNat.inj e)
        simp only [c', decide_false, cond_false]
        obtain ⟨l', h1, h2, h3⟩ := ih (a + 1) l (by omega) (by omega) (bld_skip hB fun hv => c ((v_mk hs hb (by omega)).1 hv)) (by omega)
        exact ⟨l', h1, h2, h3⟩
theorem f43_mid {N : Nat} {t : List (List Int)} (h : Lat t) (hN : 100 ≤ N) {s : Nat} (hs : s < t.length) {k1 : List Spot → Option (List Spot × Int)} : ∀ (fu b : Nat) (l : List Spot), t.length - b < fu → b ≤ t.length → Bld ltO false t s 0 b l → l.length ≤ 45 * s + tri b →
    ∃ l', Bld ltO false t (s + 1) 0 0 l' ∧ l'.length ≤ 45 * (s + 1) ∧ f43_i101_9 t N (s : Int) k1 fu l (b : Int) = k1 l' := by
  have h10 := h.hi
  intro fu
  induction fu with
  | zero => intro b l hf; omega
  | succ fu ih =>
    intro b l hf hb hB hl
    unfold f43_i101_9 f43_i101_9b
    by_cases e : b = t.length
    · subst e
      have := tri_le h10
      refine ⟨l, bld_state hB, by omega, ?_⟩
      rw [show decide ((t.length : Int) < (t.length : Int)) = false by simp]
      rfl
    · rw [show decide ((b : Int) < (t.length : Int)) = true by simp; omega]
      simp only [cond_true, joinK]
      have := tri_le (n := b) (by omega)
      obtain ⟨l1, h1, h2, h3⟩ := f43_in h hN hs (b := b) (by omega) (k2 := f43_i101_c18 t (s : Int) (b : Int) (f43_i101_9 t N (s : Int) k1 fu)) (L := 45 * s + tri b) (by omega) N 0 l (by omega) (by omega) hB (by omega)
      rw [show (0 : Int) = ((0 : Nat) : Int) from rfl, h3]
      unfold f43_i101_c18
      rw [W_nat (by omega)]
      exact ih (b + 1) l1 (by omega) (by omega) (bld_row h1) (by simp only [tri]; omega)
theorem f43_out {N : Nat} {t : List (List Int)} (h : Lat t) (hN : 100 ≤ N) {k0 : List Spot → Option (List Spot × Int)} : ∀ (fu s : Nat) (l : List Spot), t.length - s < fu → s ≤ t.length → Bld ltO false t s 0 0 l → l.length ≤ 45 * s →
    ∃ l', Bld ltO false t t.length 0 0 l' ∧ l'.length ≤ 450 ∧ f43_i101_6 t N k0 fu l (s : Int) = k0 l' := by
  have h10 := h.hi
  intro fu
  induction fu with
  | zero => intro b l hf; omega
  | succ fu ih =>
    intro s l hf hs hB hl
    unfold f43_i101_6 f43_i101_6b
    by_cases e : s = t.length
    · subst e
      refine ⟨l, hB, by omega, ?_⟩
      rw [show decide ((t.length : Int) < (t.length : Int)) = false by simp]
      rfl
    · rw [show decide ((s : Int) < (t.length : Int)) = true by simp; omega]
      simp only [cond_true, joinK]
      obtain ⟨l1, h1, h2, h3⟩ := f43_mid h hN (s := s) (by omega) (k1 := f43_i101_c19 t (s : Int) (f43_i101_6 t N k0 fu)) N 0 l (by omega) (by omega) hB (by simp only [tri]; omega)
      rw [show (0 : Int) = ((0 : Nat) : Int) from rfl, h3]
      unfold f43_i101_c19
      rw [W_nat (by omega)]
      exact ih (s + 1) l1 (by omega) (by omega) h1 (by omega)
theorem f43_eq {N : Nat} {t : List (List Int)} (hs : Small t) (hN : 1200 ≤ N) : (Lat t ∧ ∃ l, SpotsOf false t l ∧ f43 N t = some (l, 0)) ∨ (chkT t ≠ 0 ∧ f43 N t = some ([], chkT t)) := by
  unfold f43
  rw [f49_eq hs (by omega)]
  simp only [Option.bind_some]
  by_cases e : chkT t = 0
  · left
    have h := chkT_good.1 e
    refine ⟨h, ?_⟩
    simp only [e, not_true, decide_false, cond_false, joinK]
    have h10 := h.hi
    obtain ⟨l, h1, h2, h3⟩ := f43_out h (N := N) (by omega) (k0 := f43_i101_c20 N) N 0 [] (by omega) (by omega) bld_nil (by simp)
    rw [show (0 : Int) = ((0 : Nat) : Int) from rfl, h3]
    unfold f43_i101_c20
    have hw : Wk .u64 ((l.length : Nat) : Int) = (l.length : Int) := by
      have := wrap_u64 (q := l.length) (by omega)
      unfold Wk
      cases inB .u64 ((l.length : Nat) : Int) with
      | true => rfl
      | false => exact this
    rw [hw]
    obtain ⟨p, hp, _⟩ := f96_eq (N := N) (m := l.length) (by omega)
    rw [hp]
    simp only [Option.bind_some]
    obtain ⟨l', g1, g2, g3⟩ := f95_eq (N := N) (lim := p) (l := l) (by omega) (by omega)
    rw [g3]
    simp only [Option.bind_some, keep_ok g1.length_eq]
    exact ⟨l', sort_of h1 g1 g2, rfl⟩
  · right
    refine ⟨e, ?_⟩
    simp only [e, not_false_eq_true, decide_true, cond_true]
theorem f45_in {N : Nat} {t : List (List Int)} (h : Lat t) (hN : 100 ≤ N) {s b : Nat} (hs : s < t.length) (hb : b < t.length) {k2 : List Spot → Option (List Spot × Int)} {L : Nat} (hL : L ≤ 2000) : ∀ (fu a : Nat) (l : List Spot), b - a < fu → a ≤ b → Bld ltO true t s a b l → l.length ≤ L + a →
    ∃ l', Bld ltO true t s b b l' ∧ l'.length ≤ L + b ∧ f45_i101_12 t N (s : Int) (b : Int) k2 fu l (a : Int) = k2 l' := by
  have h10 := h.hi
  intro fu
  induction fu with
  | zero => intro a l hf; omega
  | succ fu ih =>
    intro a l hf hab hB hl
    unfold f45_i101_12 f45_i101_12b
    by_cases e : a = b
    · subst e
      refine ⟨l, hB, hl, ?_⟩
      rw [show decide ((a : Int) < (a : Int)) = false by simp]
      rfl
    · rw [show decide ((a : Int) < (b : Int)) = true by simp; omega]
      have hp : f79 N (a : Int) (b : Int) = some ([(a : Int), (a : Int)], [(b : Int), (b : Int)]) := rfl
      rw [hp]
      simp only [cond_true, Option.bind_some]
      rw [f59_eq h.toSq (dig2 (by omega) (by omega)) hs (by simp) hN, f59_eq h.toSq (dig2 (by omega) (by omega)) hs (by simp) hN]
      simp only [Option.bind_some]
      rw [W_nat (by omega)]
      by_cases c : Cnd true t s a b
      · have c' : ((dl t s [(a : Int), (a : Int)] : Nat) : Int) = ((dl t s [(b : Int), (b : Int)] : Nat) : Int) := congrArg _ c
        rw [c']
        simp only [decide_true, cond_true]
        rw [app_ok (by simp; omega) (by simp; omega)]
        simp only [Option.bind_some]
        obtain ⟨l', h1, h2, h3⟩ := ih (a + 1) (l ++ [⟨s, a, b⟩]) (by omega) (by omega) (bld_add hB ((v_mk hs hb (by omega)).2 c)) (by simp; omega)
        exact ⟨l', h1, h2, h3⟩
      · have c' : ¬ ((dl t s [(a : Int), (a : Int)] : Nat) : Int) = ((dl t s [(b : Int), (b : Int)] : Nat) : Int) := fun e => c (Int.ofNat.inj e)
        simp only [c', decide_false, cond_false]
        obtain ⟨l', h1, h2, h3⟩ := ih (a + 1) l (by omega) (by omega) (bld_skip hB fun hv => c ((v_mk hs hb (by omega)).1 hv)) (by omega)
        exact ⟨l', h1, h2, h3⟩
theorem f45_mid {N : Nat} {t : List (List Int)} (h : Lat t) (hN : 100 ≤ N) {s : Nat} (hs : s < t.length) {k1 : List Spot → Option (List Spot × Int)} : ∀ (fu b : Nat) (l : List Spot), t.length - b < fu → b ≤ t.length → Bld ltO true t s 0 b l → l.length ≤ 45 * s + tri b →
    ∃ l', Bld ltO true t (s + 1) 0 0 l' ∧ l'.length ≤ 45 * (s + 1) ∧ f45_i101_9 t N (s : Int) k1 fu l (b : Int) = k1 l' := by
  have h10 := h.hi
  intro fu
  induction fu with
  | zero => intro b l hf; omega
  | succ fu ih =>
    intro b l hf hb hB hl
    unfold f45_i101_9 f45_i101_9b
    by_cases e : b = t.length
    · subst e
      have := tri_le h10
      refine ⟨l, bld_state hB, by omega, ?_⟩
      rw [show decide ((t.length : Int) < (t.length : Int)) = false by simp]
      rfl
    · rw [show decide ((b : Int) < (t.length : Int)) = true by simp; omega]
      simp only [cond_true, joinK]
      have := tri_le (n := b) (by omega)
      obtain ⟨l1, h1, h2, h3⟩ := f45_in h hN hs (b := b) (by omega) (k2 := f45_i101_c18 t (s : Int) (b : Int) (f45_i101_9 t N (s : Int) k1 fu)) (L := 45 * s + tri b) (by omega) N 0 l (by omega) (by omega) hB (by omega)
      rw [show (0 : Int) = ((0 : Nat) : Int) from rfl, h3]
      unfold f45_i101_c18
      rw [W_nat (by omega)]
      exact ih (b + 1) l1 (by omega) (by omega) (bld_row h1) (by simp only [tri]; omega)
theorem f45_out {N : Nat} {t : List (List Int)} (h : Lat t) (hN : 100 ≤ N) {k0 : List Spot → Option (List Spot × Int)} : ∀ (fu s : Nat) (l : List Spot), t.length - s < fu → s ≤ t.length → Bld ltO true t s 0 0 l → l.length ≤ 45 * s →
    ∃ l', Bld ltO true t t.length 0 0 l' ∧ l'.length ≤ 450 ∧ f45_i101_6 t N k0 fu l (s : Int) = k0 l' := by
  have h10 := h.hi
  intro fu
  induction fu with
  | zero => intro b l hf; omega
  | succ fu ih =>
    intro s l hf hs hB hl
    unfold f45_i101_6 f45_i101_6b
    by_cases e : s = t.length
    · subst e
      refine ⟨l, hB, by omega, ?_⟩
      rw [show decide ((t.length : Int) < (t.length : Int)) = false by simp]
      rfl
    · rw [show decide ((s : Int) < (t.length : Int)) = true by simp; omega]
      simp only [cond_true, joinK]
      obtain ⟨l1, h1, h2, h3⟩ := f45_mid h hN (s := s) (by omega) (k1 := f45_i101_c19 t (s : Int) (f45_i101_6 t N k0 fu)) N 0 l (by omega) (by omega) hB (by simp only [tri]; omega)
      rw [show (0 : Int) = ((0 : Nat) : Int) from rfl, h3]
      unfold f45_i101_c19
      rw [W_nat (by omega)]
      exact ih (s + 1) l1 (by omega) (by omega) h1 (by omega)
theorem f45_eq {N : Nat} {t : List (List Int)} (hs : Small t) (hN : 1200 ≤ N) : (Lat t ∧ ∃ l, SpotsOf true t l ∧ f45 N t = some (l, 0)) ∨ (chkT t ≠ 0 ∧ f45 N t = some ([], chkT t)) := by
  unfold f45
  rw [f49_eq hs (by omega)]
  simp only [Option.bind_some]
  by_cases e : chkT t = 0
  · left
    have h := chkT_good.1 e
    refine ⟨h, ?_⟩
    simp only [e, not_true, decide_false, cond_false, joinK]
    have h10 := h.hi
    obtain ⟨l, h1, h2, h3⟩ := f45_out h (N := N) (by omega) (k0 := f45_i101_c20 N) N 0 [] (by omega) (by omega) bld_nil (by simp)
    rw [show (0 : Int) = ((0 : Nat) : Int) from rfl, h3]
    unfold f45_i101_c20
    have hw : Wk .u64 ((l.length : Nat) : Int) = (l.length : Int) := by
      have := wrap_u64 (q := l.length) (by omega)
      unfold Wk
      cases inB .u64 ((l.length : Nat) : Int) with
      | true => rfl
      | false => exact this
    rw [hw]
    obtain ⟨p, hp, _⟩ := f96_eq (N := N) (m := l.length) (by omega)
    rw [hp]
    simp only [Option.bind_some]
    obtain ⟨l', g1, g2, g3⟩ := f95_eq (N := N) (lim := p) (l := l) (by omega) (by omega)
    rw [g3]
    simp only [Option.bind_some, keep_ok g1.length_eq]
    exact ⟨l', sort_of h1 g1 g2, rfl⟩
  · right
    refine ⟨e, ?_⟩
    simp only [e, not_false_eq_true, decide_true, cond_true]
theorem ref_add {q : Bool} {t : List (List Int)} {s a b : Nat} {l : List Spot} (h : Bld ltS q t s a b l) (hv : V q t ⟨s, a, b⟩) : Bld ltS q t s a (b + 1) (l ++ [⟨s, a, b⟩]) := by
  refine ⟨List.pairwise_append.2 ⟨h.1, by simp, fun x hx y hy => ?_⟩, fun x => ?_⟩
  · rw [List.mem_singleton.1 hy]; exact ((h.2 x).1 hx).2
  · rw [List.mem_append, h.2 x, List.mem_singleton]
    constructor
    · rintro (⟨h1, h2⟩ | rfl)
      · exact ⟨h1, by unfold ltS at *; simp only at *; omega⟩
      · exact ⟨hv, .inr ⟨rfl, .inr ⟨rfl, by show (b : Int) < ((b + 1 : Nat) : Int); omega⟩⟩⟩
    · rintro ⟨h1, h2⟩
      by_cases e : ltS x ⟨s, a, b⟩
      · exact .inl ⟨h1, e⟩
      · refine .inr (spot_eq ?_ ?_ ?_) <;> (unfold ltS at *; simp only at *; omega)
theorem ref_skip {q : Bool} {t : List (List Int)} {s a b : Nat} {l : List Spot} (h : Bld ltS q t s a b l) (hv : ¬ V q t ⟨s, a, b⟩) : Bld ltS q t s a (b + 1) l := by
  refine ⟨h.1, fun x => ?_⟩
  rw [h.2 x]
  constructor
  · rintro ⟨h1, h2⟩
    exact ⟨h1, by unfold ltS at *; simp only at *; omega⟩
  · rintro ⟨h1, h2⟩
    by_cases e : ltS x ⟨s, a, b⟩
    · exact ⟨h1, e⟩
    · have : x = ⟨s, a, b⟩ := by refine spot_eq ?_ ?_ ?_ <;> (unfold ltS at *; simp only at *; omega)
      rw [this] at h1; exact absurd h1 hv
theorem ref_row {q : Bool} {t : List (List Int)} {s a c : Nat} {l : List Spot} (hc : t.length ≤ c) (h : Bld ltS q t s a c l) : Bld ltS q t s (a + 1) (a + 2) l := by
  refine ⟨h.1, fun x => ?_⟩
  rw [h.2 x]
  refine and_congr_right fun hv => ?_
  obtain ⟨⟨h1, h2⟩, ⟨h3, h4, h5⟩, _⟩ := hv
  unfold ltS; simp only; omega
theorem ref_state {q : Bool} {t : List (List Int)} {s c : Nat} {l : List Spot} (h : Bld ltS q t s t.length c l) : Bld ltS q t (s + 1) 0 1 l := by
  refine ⟨h.1, fun x => ?_⟩
  rw [h.2 x]
  refine and_congr_right fun hv => ?_
  obtain ⟨⟨h1, h2⟩, ⟨h3, h4, h5⟩, _⟩ := hv
  unfold ltS; simp only; omega
theorem ref_nil {q : Bool} {t : List (List Int)} : Bld ltS q t 0 0 1 [] := by
  refine ⟨by simp, fun x => ?_⟩
  simp only [List.not_mem_nil, false_iff]
  rintro ⟨⟨⟨h1, h2⟩, ⟨h3, h4, h5⟩, _⟩, h6⟩
  unfold ltS at h6; simp only at h6; omega
theorem ref_all {q : Bool} {t : List (List Int)} {l : List Spot} (h : Bld ltS q t t.length 0 1 l) : SpotsOf q t l := by
  refine ⟨h.1, fun x => ?_⟩
  rw [h.2 x]
  refine ⟨fun hx => hx.1, fun hv => ⟨hv, ?_⟩⟩
  obtain ⟨⟨h1, h2⟩, ⟨h3, h4, h5⟩, _⟩ := hv
  unfold ltS; simp only; omega
def eN (t : List (List Int)) (i j : Nat) : Nat := (en t i j).toNat
theorem eN_lt {t : List (List Int)} (h : Lat t) {i j : Nat} (hi : i < t.length) (hj : j < t.length) : eN t i j < t.length := by have := h.lo i j hi hj; unfold eN; omega
theorem ix_eN {t : List (List Int)} (h : Lat t) {i j : Nat} (hi : i < t.length) (hj : j < t.length) : ix (row t i) (j : Int) = some ((eN t i j : Nat) : Int) := by
  rw [h.toSq.ix hi hj]; have := h.lo i j hi hj; unfold eN; congr 1; omega
theorem dl_two {t : List (List Int)} {s a b : Nat} : dl t s [(a : Int), (b : Int)] = eN t (eN t s a) b := by simp [dl, eN]
theorem f78_in {N : Nat} {t : List (List Int)} (h : Lat t) {q : Bool} {s a : Nat} (hs : s < t.length) (ha : a < t.length) {k2 : List Spot → Option (List Spot)} : ∀ (fu b : Nat) (l : List Spot), t.length - b < fu → a < b → b ≤ t.length → Bld ltS q t s a b l → l.length ≤ 100 * s + 10 * a + b →
    ∃ l' c, t.length ≤ c ∧ Bld ltS q t s a c l' ∧ l'.length ≤ 100 * s + 10 * (a + 1) ∧ f78_9 t q (s : Int) (a : Int) k2 fu l (b : Int) = k2 l' := by
  have h10 := h.hi
  intro fu
  induction fu with
  | zero => intro b l hf; omega
  | succ fu ih =>
    intro b l hf hab hbt hB hl
    unfold f78_9 f78_9b
    by_cases e : t.length ≤ b
    · refine ⟨l, b, e, hB, ?_, ?_⟩
      · omega
      · rw [show decide ((b : Int) < (t.length : Int)) = false by simp; omega]
        rfl
    · rw [show decide ((b : Int) < (t.length : Int)) = true by simp; omega]
      have hb : b < t.length := by omega
      simp only [cond_true, ix_row hs, Option.bind_some, ix_eN h hs ha, ix_eN h hs hb, ix_row (eN_lt h hs ha), ix_row (eN_lt h hs hb), ix_eN h (eN_lt h hs ha) hb, ix_eN h (eN_lt h hs hb) ha, ix_eN h (eN_lt h hs ha) ha, ix_eN h (eN_lt h hs hb) hb]
      rw [W_nat (by omega)]
      have step : ∀ (x y : Nat), (x = y ↔ Cnd q t s a b) → ∃ l' c, t.length ≤ c ∧ Bld ltS q t s a c l' ∧ l'.length ≤ 100 * s + 10 * (a + 1) ∧
          (bif decide ((x : Int) = (y : Int)) then ((app 24 l [Spot.mk (s : Int) (a : Int) (b : Int)]).bind fun x18 => f78_9 t q (s : Int) (a : Int) k2 fu x18 ((b + 1 : Nat) : Int)) else f78_9 t q (s : Int) (a : Int) k2 fu l ((b + 1 : Nat) : Int)) = k2 l' := by
        intro x y hxy
        by_cases c : Cnd q t s a b
        · have c' : (x : Int) = (y : Int) := congrArg _ (hxy.2 c)
          simp only [c', decide_true, cond_true]
          rw [app_ok (by simp; omega) (by simp; omega)]
          exact ih (b + 1) _ (by omega) (by omega) (by omega) (ref_add hB ((v_mk hs hb hab).2 c)) (by simp; omega)
        · have c' : ¬ (x : Int) = (y : Int) := fun e => c (hxy.1 (Int.ofNat.inj e))
          simp only [c', decide_false, cond_false]
          exact ih (b + 1) _ (by omega) (by omega) (by omega) (ref_skip hB fun hv => c ((v_mk hs hb hab).1 hv)) (by omega)
      cases q with
      | true =>
        simp only [cond_true]
        exact step _ _ (by simp only [Cnd, cond_true, dl_two])
      | false =>
        simp only [cond_false]
        exact step _ _ (by simp only [Cnd, cond_false, dl_two])
theorem f78_mid {N : Nat} {t : List (List Int)} (h : Lat t) (hN : 100 ≤ N) {q : Bool} {s : Nat} (hs : s < t.length) {k1 : List Spot → Option (List Spot)} : ∀ (fu a : Nat) (l : List Spot), t.length - a < fu → a ≤ t.length → Bld ltS q t s a (a + 1) l → l.length ≤ 100 * s + 10 * a →
    ∃ l', Bld ltS q t (s + 1) 0 1 l' ∧ l'.length ≤ 100 * (s + 1) ∧ f78_6 t q N (s : Int) k1 fu l (a : Int) = k1 l' := by
  have h10 := h.hi
  intro fu
  induction fu with
  | zero => intro b l hf; omega
  | succ fu ih =>
    intro a l hf ha hB hl
    unfold f78_6 f78_6b
    by_cases e : a = t.length
    · subst e
      refine ⟨l, ref_state hB, by omega, ?_⟩
      rw [show decide ((t.length : Int) < (t.length : Int)) = false by simp]
      rfl
    · rw [show decide ((a : Int) < (t.length : Int)) = true by simp; omega]
      simp only [cond_true, joinK]
      rw [W_nat (by omega)]
      obtain ⟨l1, c, h0, h1, h2, h3⟩ := f78_in (N := N) h (q := q) hs (a := a) (by omega) (k2 := f78_c7 t q (s : Int) (a : Int) (f78_6 t q N (s : Int) k1 fu)) N (a + 1) l (by omega) (by omega) (by omega) hB (by omega)
      rw [h3]
      unfold f78_c7
      rw [W_nat (by omega)]
      exact ih (a + 1) l1 (by omega) (by omega) (ref_row h0 h1) (by omega)
theorem f78_out {N : Nat} {t : List (List Int)} (h : Lat t) (hN : 100 ≤ N) {q : Bool} {k0 : List Spot → Option (List Spot)} : ∀ (fu s : Nat) (l : List Spot), t.length - s < fu → s ≤ t.length → Bld ltS q t s 0 1 l → l.length ≤ 100 * s →
    ∃ l', SpotsOf q t l' ∧ f78_3 t q N k0 fu l (s : Int) = k0 l' := by
  have h10 := h.hi
  intro fu
  induction fu with
  | zero => intro b l hf; omega
  | succ fu ih =>
    intro s l hf hs hB hl
    unfold f78_3 f78_3b
    by_cases e : s = t.length
    · subst e
      refine ⟨l, ref_all hB, ?_⟩
      rw [show decide ((t.length : Int) < (t.length : Int)) = false by simp]
      rfl
    · rw [show decide ((s : Int) < (t.length : Int)) = true by simp; omega]
      simp only [cond_true, joinK]
      obtain ⟨l1, h1, h2, h3⟩ := f78_mid h hN (q := q) (s := s) (by omega) (k1 := f78_c4 t q (s : Int) (f78_3 t q N k0 fu)) N 0 l (by omega) (by omega) hB (by omega)
      rw [show (0 : Int) = ((0 : Nat) : Int) from rfl, h3]
      unfold f78_c4
      rw [W_nat (by omega)]
      exact ih (s + 1) l1 (by omega) (by omega) h1 (by omega)
theorem f78_eq {N : Nat} {t : List (List Int)} (h : Lat t) (hN : 100 ≤ N) {q : Bool} : ∃ l, SpotsOf q t l ∧ f78 N t q = some l := by
  have h10 := h.hi
  obtain ⟨l, h1, h2⟩ := f78_out h hN (q := q) (k0 := f78_c16) N 0 [] (by omega) (by omega) ref_nil (by simp)
  exact ⟨l, h1, h2⟩
theorem f44_eq {N : Nat} {t : List (List Int)} (hs : Small t) (hN : 1200 ≤ N) : (Lat t ∧ ∃ l, SpotsOf false t l ∧ f44 N t = some (l, 0)) ∨ (chkT t ≠ 0 ∧ f44 N t = some ([], chkT t)) := by
  unfold f44
  rw [f50_eq hs.1 (by omega)]
  simp only [Option.bind_some]
  by_cases e : chkT t = 0
  · left
    have h := chkT_good.1 e
    obtain ⟨l, h1, h2⟩ := f78_eq h (N := N) (by omega) (q := false)
    refine ⟨h, l, h1, ?_⟩
    simp only [e, not_true, decide_false, cond_false, h2, Option.bind_some]
  · right
    refine ⟨e, ?_⟩
    simp only [e, not_false_eq_true, decide_true, cond_true]
theorem f46_eq {N : Nat} {t : List (List Int)} (hs : Small t) (hN : 1200 ≤ N) : (Lat t ∧ ∃ l, SpotsOf true t l ∧ f46 N t = some (l, 0)) ∨ (chkT t ≠ 0 ∧ f46 N t = some ([], chkT t)) := by
  unfold f46
  rw [f50_eq hs.1 (by omega)]
  simp only [Option.bind_some]
  by_cases e : chkT t = 0
  · left
    have h := chkT_good.1 e
    obtain ⟨l, h1, h2⟩ := f78_eq h (N := N) (by omega) (q := true)
    refine ⟨h, l, h1, ?_⟩
    simp only [e, not_true, decide_false, cond_false, h2, Option.bind_some]
  · right
    refine ⟨e, ?_⟩
    simp only [e, not_false_eq_true, decide_true, cond_true]
end Go.Vc
namespace Go.Vc
set_option linter.unusedVariables false
set_option linter.unnecessarySimpa false
set_option linter.unusedSimpArgs false
set_option linter.unusedSimpArgs false
set_option maxRecDepth 100000
def lineT (n k : Nat) : List (List Int) := (List.range n).map fun s => (List.range n).map fun d => (((k * s + d) % n : Nat) : Int)
def okLine (N n k : Nat) : Bool := match f41 (N + 60) (n : Int) (k : Int), f42 (N + 60) (n : Int) (k : Int) with
  | some (t, e), some (u, f) => (bif Nat.blt 1 (Nat.gcd n k) then decide (t = []) && decide (e = 12) else decide (t = lineT n k) && decide (e = 0)) && (decide (u = t) && decide (f = e))
  | _, _ => false
theorem okLine_all (N : Nat) : ((List.range 11).all fun n => (List.range 10).all fun k => (Nat.blt n 2 || (Nat.blt k 1 || Nat.ble n k)) || okLine N n k) = true := by kernel_rfl
theorem all_at {n : Nat} {p : Nat → Bool} (h : (List.range n).all p = true) {i : Nat} (hi : i < n) : p i = true := by
  rw [List.all_eq_true] at h; exact h i (List.mem_range.2 hi)
theorem line_eq {N n k : Nat} (hn : 2 ≤ n ∧ n ≤ 10) (hk : 1 ≤ k ∧ k < n) : (1 < Nat.gcd n k ∧ f41 (N + 60) (n : Int) (k : Int) = some ([], 12) ∧ f42 (N + 60) (n : Int) (k : Int) = some ([], 12)) ∨
    (¬ 1 < Nat.gcd n k ∧ f41 (N + 60) (n : Int) (k : Int) = some (lineT n k, 0) ∧ f42 (N + 60) (n : Int) (k : Int) = some (lineT n k, 0)) := by
  have h := all_at (all_at (okLine_all N) (show n < 11 by omega)) (show k < 10 by omega)
  have e1 : Nat.blt n 2 = false := by rw [← Bool.not_eq_true, Nat.blt_eq]; omega
  have e2 : Nat.blt k 1 = false := by rw [← Bool.not_eq_true, Nat.blt_eq]; omega
  have e3 : Nat.ble n k = false := by rw [← Bool.not_eq_true, Nat.ble_eq]; omega
  simp only [e1, e2, e3, Bool.false_or] at h
  unfold okLine at h
  split at h
  · rename_i t e u f h1 h2
    rw [h1, h2]
    simp only [Bool.and_eq_true, decide_eq_true_eq] at h
    obtain ⟨h3, rfl, rfl⟩ := h
    by_cases hg : 1 < Nat.gcd n k
    · have : Nat.blt 1 (Nat.gcd n k) = true := by rw [Nat.blt_eq]; exact hg
      simp only [this, cond_true, Bool.and_eq_true, decide_eq_true_eq] at h3
      obtain ⟨rfl, rfl⟩ := h3
      exact .inl ⟨hg, rfl, rfl⟩
    · have : Nat.blt 1 (Nat.gcd n k) = false := by rw [← Bool.not_eq_true, Nat.blt_eq]; exact hg
      simp only [this, cond_false, Bool.and_eq_true, decide_eq_true_eq] at h3
      obtain ⟨rfl, rfl⟩ := h3
      exact .inr ⟨hg, rfl, rfl⟩
  · cases h
theorem lines_eq {N : Nat} {a b : Int} : ∃ r, f41 (N + 60) a b = some r ∧ f42 (N + 60) a b = some r ∧ r.1.length ≤ 10 ∧ ∀ x, x ∈ r.1 → x.length ≤ 10 := by
  by_cases h1 : 2 ≤ a ∧ a ≤ 10
  · have hw : W (a - 1) = a - 1 := Wi (by omega) (by omega)
    by_cases h2 : 1 ≤ b ∧ b ≤ a - 1
    · obtain ⟨n, rfl⟩ : ∃ n : Nat, a = (n : Int) := ⟨a.toNat, by omega⟩
      obtain ⟨k, rfl⟩ : ∃ n : Nat, b = (n : Int) := ⟨b.toNat, by omega⟩
      rcases line_eq (N := N) (n := n) (k := k) (by omega) (by omega) with ⟨h3, h4, h5⟩ | ⟨h3, h4, h5⟩
      · exact ⟨_, h4, h5, by simp, by simp⟩
      · refine ⟨_, h4, h5, by simp [lineT]; omega, ?_⟩
        intro x hx
        simp only [lineT, List.mem_map] at hx
        obtain ⟨s, _, rfl⟩ := hx
        simp; omega
    · refine ⟨([], 4), ?_, ?_, by simp, by simp⟩
      · unfold f41
        rw [f64_eq, f64_eq]
        simp [h1, h2, hw]
      · unfold f42
        rw [f57_eq, f57_eq]
        simp [h1, h2, hw]
  · refine ⟨([], 4), ?_, ?_, by simp, by simp⟩
    · unfold f41
      rw [f64_eq]
      simp [h1]
    · unfold f42
      rw [f57_eq]
      simp [h1]
theorem f47_same {N : Nat} {t : List (List Int)} (ht : t.length ≤ 10) (hr : ∀ x, x ∈ t → x.length ≤ 10) (hN : 2000 ≤ N) : f47 N t t = some true := by
  unfold f47
  simp only [not_true, decide_false, cond_false, joinK]
  rw [loop_ex0 (F := f47_4 t t N f47_c8) (p := fun _ => False) (e := some false) (k0 := some true) t.length (by
    intro n i hi
    conv => lhs; unfold f47_4 f47_4b
    rw [show decide ((i : Int) < (t.length : Int)) = true by simp; omega, ix_row hi]
    simp only [cond_true, Option.bind_some]
    rw [f34_same (by have := hr _ (row_mem hi); omega) hN]
    simp only [Option.bind_some, Bool.not_true, cond_false, if_false]
    rw [W_nat (by omega)]) (by
    intro n
    conv => lhs; unfold f47_4 f47_4b
    rw [show decide ((t.length : Int) < (t.length : Int)) = false by simp]
    rfl) (by omega)]
  simp
theorem f48_same {N : Nat} {l : List Spot} (hl : l.length ≤ 1000) (hN : 1200 ≤ N) : f48 N l l = some true := by
  unfold f48
  simp only [not_true, decide_false, cond_false, joinK]
  rw [loop_ex0 (F := f48_4 l l f48_c8) (p := fun _ => False) (e := some false) (k0 := some true) l.length (by
    intro n i hi
    conv => lhs; unfold f48_4 f48_4b
    rw [show decide ((i : Int) < (l.length : Int)) = true by simp; omega, ix_at hi]
    simp only [cond_true, Option.bind_some, decide_true, Bool.and_true, Bool.not_true, cond_false, if_false]
    rw [W_nat (by omega)]) (by
    intro n
    conv => lhs; unfold f48_4 f48_4b
    rw [show decide ((l.length : Int) < (l.length : Int)) = false by simp]
    rfl) (by omega)]
  simp
theorem SpotsOf.few {q : Bool} {t : List (List Int)} (ht : t.length ≤ 10) {l : List Spot} (h : SpotsOf q t l) : l.length ≤ 1000 := by
  have hsub : l ⊆ (List.range 10).flatMap fun (s : Nat) => (List.range 10).flatMap fun (a : Nat) => (List.range 10).map fun (b : Nat) => (⟨(s : Int), (a : Int), (b : Int)⟩ : Spot) := by
    intro x hx
    obtain ⟨⟨h1, h2⟩, ⟨h3, h4, h5⟩, _⟩ := (h.2 x).1 hx
    simp only [List.mem_flatMap, List.mem_map, List.mem_range]
    exact ⟨x.State.toNat, by omega, x.A.toNat, by omega, x.B.toNat, by omega, (spot_eq (by omega) (by omega) (by omega)).symm⟩
  have := (ltS_nodup h.1).length_le_of_subset hsub
  have e : ((List.range 10).flatMap fun (s : Nat) => (List.range 10).flatMap fun (a : Nat) => (List.range 10).map fun (b : Nat) => (⟨(s : Int), (a : Int), (b : Int)⟩ : Spot)).length = 1000 := by kernel_rfl
  omega
theorem blind_eq {N : Nat} {t : List (List Int)} (hs : Small t) (hN : 1200 ≤ N) : ∃ r, f43 N t = some r ∧ f44 N t = some r ∧ r.1.length ≤ 1000 := by
  rcases f43_eq hs hN with ⟨h, l, h1, h2⟩ | ⟨h, h2⟩
  · rcases f44_eq hs hN with ⟨_, l', h3, h4⟩ | ⟨h3, h4⟩
    · rw [h1.uniq h3] at h2; exact ⟨_, h2, h4, h3.few h.hi⟩
    · exact absurd (chkT_good.2 h) h3
  · rcases f44_eq hs hN with ⟨h3, l', _, h4⟩ | ⟨h3, h4⟩
    · exact absurd (chkT_good.2 h3) h
    · exact ⟨_, h2, h4, by simp⟩
theorem twins_eq {N : Nat} {t : List (List Int)} (hs : Small t) (hN : 1200 ≤ N) : ∃ r, f45 N t = some r ∧ f46 N t = some r ∧ r.1.length ≤ 1000 := by
  rcases f45_eq hs hN with ⟨h, l, h1, h2⟩ | ⟨h, h2⟩
  · rcases f46_eq hs hN with ⟨_, l', h3, h4⟩ | ⟨h3, h4⟩
    · rw [h1.uniq h3] at h2; exact ⟨_, h2, h4, h3.few h.hi⟩
    · exact absurd (chkT_good.2 h) h3
  · rcases f46_eq hs hN with ⟨h3, l', _, h4⟩ | ⟨h3, h4⟩
    · exact absurd (chkT_good.2 h3) h
    · exact ⟨_, h2, h4, by simp⟩
theorem f9_true {N : Nat} {t : List (List Int)} {a b : Int} : f9 (N + 2000) t a b = some true := by
  unfold f9
  obtain ⟨g, hg, hs⟩ := f20_eq (N := N + 2000) (t := t) (by omega)
  rw [hg]
  simp only [Option.bind_some]
  have h15 : f15 (N + 2000) = some true := f15_any (N + 1940)
  cases g with
  | true => simp [h15]
  | false =>
    have hs := hs rfl
    obtain ⟨r, h1, h2, h3, h4⟩ := lines_eq (N := N + 1940) (a := a) (b := b)
    obtain ⟨u, h5, h6, h7⟩ := blind_eq (N := N + 2000) hs (by omega)
    obtain ⟨v, h8, h9, h10⟩ := twins_eq (N := N + 2000) hs (by omega)
    rw [show N + 1940 + 60 = N + 2000 from rfl] at h1 h2
    simp only [cond_false, h1, h2, h5, h6, h8, h9, Option.bind_some, f47_same h3 h4 (show 2000 ≤ N + 2000 by omega), f48_same h7 (show 1200 ≤ N + 2000 by omega), f48_same h10 (show 1200 ≤ N + 2000 by omega), cond_true, decide_true, f49_eq hs (show 500 ≤ N + 2000 by omega), f50_eq hs.1 (show 30 ≤ N + 2000 by omega), h15]
end Go.Vc
namespace Go.Vc
set_option linter.unusedVariables false
set_option linter.unnecessarySimpa false
set_option linter.unusedSimpArgs false
abbrev tI : Ty := .int .i64
abbrev tInts : Ty := .slice tI false 1
abbrev tTable : Ty := .slice tInts false 1
def i64In (n : Int) : Prop := -9223372036854775808 ≤ n ∧ n ≤ 9223372036854775807
theorem tI_of {ds : List D} (h : tI.has ds) : ∃ n, ds = [iN n] ∧ i64In n := by
  simp only [tI, Ty.has] at h
  obtain ⟨n, rfl, h⟩ := h
  exact ⟨n, rfl, by simpa [IntKind.min, IntKind.max, IntKind.signed, IntKind.bits, i64In] using h⟩
theorem ints_of {ds : List D} (h : tInts.has ds) : ∃ l : List Int, ds = [sl_iN l] ∧ ∀ x, x ∈ l → i64In x := by
  obtain ⟨l, h1, _, h3⟩ := slice_of (d := iN) (p := i64In) (fun cs hc => by
    obtain ⟨n, rfl, h⟩ := tI_of hc
    exact ⟨n, rfl, h⟩) h
  exact ⟨l, h1, h3⟩
theorem table_of {ds : List D} (h : tTable.has ds) : ∃ l : List (List Int), ds = [sl_sl_iN l] := by
  obtain ⟨l, h1, _, _⟩ := slice_of (d := sl_iN) (p := fun _ => True) (fun cs hc => by
    obtain ⟨n, rfl, h⟩ := ints_of hc
    exact ⟨n, rfl, trivial⟩) h
  exact ⟨l, h1⟩
theorem tI_ofD {x : D} (h : tI.hasD x) : ∃ n, x = iN n ∧ i64In n := by
  obtain ⟨n, h1, h2⟩ := tI_of (ds := [x]) h
  exact ⟨n, List.singleton_inj.1 h1, h2⟩
theorem table_ofD {x : D} (h : tTable.hasD x) : ∃ l : List (List Int), x = sl_sl_iN l := by
  obtain ⟨n, h1⟩ := table_of (ds := [x]) h
  exact ⟨n, List.singleton_inj.1 h1⟩
end Go.Vc
