/-
  A library for proofs about Go functions by symbolic evaluation, and plain Lean functions that the walked Go functions compute (written by a program of this claim).
-/
import Derived.Test.YtikifojhjbcfhaaNoticedF1
import Derived.Test.YtikifojhjbcfhaaW1
import Derived.Test.YtikifojhjbcfhaaW4
import Derived.Test.YtikifojhjbcfhaaVc3
namespace Go.Vc
set_option linter.unusedVariables false
set_option linter.unnecessarySimpa false
set_option linter.unusedSimpArgs false
set_option linter.unusedSimpArgs false
theorem f104_up {N a i j : Nat} {l : List Spot} {k2 : Int → Option (Int × List Spot)} (hN : 10 ≤ N) (hij : i ≤ j + 1) (hjl : j < l.length) (hal : a < l.length) (hl : l.length ≤ 1000000) {fu : Nat} (hf : j + 1 < fu) :
    ∃ i', i ≤ i' ∧ i' ≤ j + 1 ∧ (∀ k, i ≤ k → k < i' → ¬ ltS (at' l a) (at' l k)) ∧ (i' ≤ j → ltS (at' l a) (at' l i')) ∧ f104_3_1 (a : Int) N (j : Int) l k2 fu (i : Int) = k2 (i' : Int) := by
  obtain ⟨i', h1, h2, h3, h4, h5⟩ := loop_find (F := f104_3_1 (a : Int) N (j : Int) l k2) (k := fun i => k2 ((i : Nat) : Int)) (p := fun i => ¬ (i ≤ j ∧ ¬ ltS (at' l a) (at' l i))) (j + 1) (by omega) (by
    intro n i hi hp
    have hp := Classical.not_not.1 hp
    conv => lhs; unfold f104_3_1 f104_3_1b
    obtain ⟨c, hc, hc2⟩ := f91_eq (x := at' l a) (y := at' l i) hN
    simp only [show (i : Int) ≤ (j : Int) by omega, decide_true, cond_true, ix_at (show i < l.length by omega), ix_at hal, Option.bind_some, hc, show ¬ c < 0 from fun h => hp.2 (hc2.1 h), decide_false, Bool.not_false]
    rw [W_nat (by omega)]) (by
    intro n i hi hp
    conv => lhs; unfold f104_3_1 f104_3_1b
    by_cases e : i ≤ j
    · obtain ⟨c, hc, hc2⟩ := f91_eq (x := at' l a) (y := at' l i) hN
      have hlt : ltS (at' l a) (at' l i) := Classical.byContradiction fun h => hp ⟨e, h⟩
      simp only [show (i : Int) ≤ (j : Int) by omega, decide_true, cond_true, ix_at (show i < l.length by omega), ix_at hal, Option.bind_some, hc, hc2.2 hlt, Bool.not_true, cond_false]
    · simp only [show ¬ (i : Int) ≤ (j : Int) by omega, decide_false, cond_false]) fu i hij (by omega)
  exact ⟨i', h1, h2, fun k hk1 hk2 => (Classical.not_not.1 (h4 k hk1 hk2)).2, fun hle => Classical.byContradiction fun h => h3 ⟨hle, h⟩, h5⟩
theorem f104_dn {N a i j : Nat} {l : List Spot} {k1 : Int → Option (Int × List Spot)} (hN : 10 ≤ N) (hi : 1 ≤ i) (hij : i ≤ j + 1) (hjl : j < l.length) (hal : a < l.length) (hl : l.length ≤ 1000000) {fu : Nat} (hf : j + 1 < fu) :
    ∃ j', j' ≤ j ∧ i ≤ j' + 1 ∧ (∀ k, j' < k → k ≤ j → ltS (at' l a) (at' l k)) ∧ (i ≤ j' → ¬ ltS (at' l a) (at' l j')) ∧ f104_5 (a : Int) N l (i : Int) k1 fu (j : Int) = k1 (j' : Int) := by
  obtain ⟨j', h1, h2, h3, h4, h5⟩ := loop_down (F := f104_5 (a : Int) N l (i : Int) k1) (k := fun i => k1 ((i : Nat) : Int)) (p := fun j => ¬ (i ≤ j ∧ ltS (at' l a) (at' l j))) (i - 1) j (by omega) (by
    intro n q hq hqj hp
    have hp := Classical.not_not.1 hp
    conv => lhs; unfold f104_5 f104_5b
    obtain ⟨c, hc, hc2⟩ := f91_eq (x := at' l a) (y := at' l q) hN
    simp only [show (i : Int) ≤ (q : Int) by omega, decide_true, cond_true, ix_at (show q < l.length by omega), ix_at hal, Option.bind_some, hc, hc2.2 hp.2]
    rw [W_dec (by omega) (by omega)]) (by
    intro n q hq hqj hp
    conv => lhs; unfold f104_5 f104_5b
    by_cases e : i ≤ q
    · obtain ⟨c, hc, hc2⟩ := f91_eq (x := at' l a) (y := at' l q) hN
      simp only [show (i : Int) ≤ (q : Int) by omega, decide_true, cond_true, ix_at (show q < l.length by omega), ix_at hal, Option.bind_some, hc, show ¬ c < 0 from fun h => hp ⟨e, hc2.1 h⟩, decide_false, cond_false]
    · simp only [show ¬ (i : Int) ≤ (q : Int) by omega, decide_false, cond_false]) fu j (by omega) (Nat.le_refl _) (by omega)
  exact ⟨j', h2, by omega, fun k hk1 hk2 => (Classical.not_not.1 (h4 k hk1 hk2)).2, fun hle hlt => h3 ⟨hle, hlt⟩, h5⟩
theorem f104_main {N a b : Nat} (hN : 10 ≤ N) (hbN : b + 10 < N) : ∀ (fu i j : Nat) (l : List Spot), j + 1 - i < fu → a + 1 ≤ i → i ≤ j + 1 → j < b → b ≤ l.length → l.length ≤ 1000000 →
    (∀ k, a < k → k < i → ¬ ltS (at' l a) (at' l k)) → (∀ k, j < k → k < b → ltS (at' l a) (at' l k)) → ∃ (m : Nat) (l' : List Spot), Out a b l l' ∧ at' l' a = at' l a ∧ (a < m ∧ m ≤ b) ∧ (∀ k, a < k → k < m → ¬ ltS (at' l' a) (at' l' k)) ∧ (∀ k, m ≤ k → k < b → ltS (at' l' a) (at' l' k)) ∧
      f104_3 (a : Int) N f104_c11 fu (i : Int) (j : Int) l = some ((m : Int), l') := by
  intro fu
  induction fu with
  | zero => intro i j l h; omega
  | succ fu ih =>
    intro i j l hf hai hij hjb hbl hl hlo hhi
    obtain ⟨i', u1, u2, u3, u4, u5⟩ := f104_up (N := N) (a := a) (i := i) (j := j) (l := l) (k2 := f104_c5 (a : Int) N f104_c11 (j : Int) l (f104_3 (a : Int) N f104_c11 fu)) hN hij (by omega) (by omega) hl (fu := N) (by omega)
    obtain ⟨j', d1, d2, d3, d4, d5⟩ := f104_dn (N := N) (a := a) (i := i') (j := j) (l := l) (k1 := f104_c7 (a : Int) f104_c11 l (f104_3 (a : Int) N f104_c11 fu) (i' : Int)) hN (by omega) (by omega) (by omega) (by omega) hl (fu := N) (by omega)
    have hlo' : ∀ k, a < k → k < i' → ¬ ltS (at' l a) (at' l k) := fun k h1 h2 => by
      by_cases e : k < i
      · exact hlo k h1 e
      · exact u3 k (by omega) h2
    have hhi' : ∀ k, j' < k → k < b → ltS (at' l a) (at' l k) := fun k h1 h2 => by
      by_cases e : j < k
      · exact hhi k e h2
      · exact d3 k h1 (by omega)
    unfold f104_3 f104_3b
    simp only [joinK]
    rw [u5]
    unfold f104_c5
    simp only [joinK]
    rw [d5]
    unfold f104_c7
    by_cases e : j' < i'
    · refine ⟨i', l, Out.refl, rfl, by omega, hlo', fun k h1 h2 => hhi' k (by omega) h2, ?_⟩
      simp only [show (j' : Int) < (i' : Int) by omega, decide_true, cond_true]
      rfl
    · have hne : i' ≠ j' := fun hh => by
        have h1 := d4 (by omega)
        have h2 := u4 (by omega)
        rw [hh] at h2; exact h1 h2
      simp only [show ¬ (j' : Int) < (i' : Int) by omega, decide_false, cond_false]
      rw [sw_run (by omega) (by omega), W_nat (by omega), W_dec (by omega) (by omega)]
      have ha0 : at' (sw l i' j') a = at' l a := by rw [at_sw (by omega) (by omega), if_neg (by omega), if_neg (by omega)]
      obtain ⟨m, l', h1, h2, h3, h4, h5, h6⟩ := ih (i' + 1) (j' - 1) (sw l i' j') (by omega) (by omega) (by omega) (by omega) (by rw [sw_len]; omega) (by rw [sw_len]; omega) (by
        intro k h1 h2
        rw [ha0, at_sw (by omega) (by omega), if_neg (by omega)]
        by_cases e : i' = k
        · rw [if_pos e]; exact d4 (by omega)
        · rw [if_neg e]; exact hlo' k h1 (by omega)) (by
        intro k h1 h2
        rw [ha0, at_sw (by omega) (by omega)]
        by_cases e : j' = k
        · rw [if_pos e]; exact u4 (by omega)
        · rw [if_neg e, if_neg (by omega)]; exact hhi' k (by omega) h2)
      exact ⟨m, l', (Out.sw (by omega) (by omega) hbl).trans h1, h2.trans ha0, h3, h4, h5, h6⟩
theorem f104_eq {N a b x : Nat} {l : List Spot} (hN : 30 ≤ N) (hab : a + 2 ≤ b) (hbN : b + 20 < N) (hx : a ≤ x ∧ x < b) (hbl : b ≤ l.length) (hl : l.length ≤ 1000000) (hmin : ∀ k, a ≤ k → k < b → ¬ ltS (at' l k) (at' l x)) :
    ∃ (m : Nat) (l' : List Spot), Out a b l l' ∧ (a < m ∧ m ≤ b) ∧ (∀ k, a ≤ k → k < m → at' l' k = at' l x) ∧ (∀ k, m ≤ k → k < b → ltS (at' l x) (at' l' k)) ∧ f104 N (a : Int) (b : Int) (x : Int) l = some ((m : Int), l') := by
  obtain ⟨n, rfl⟩ : ∃ n, N = n + 1 := ⟨N - 1, by omega⟩
  show ∃ (m : Nat) (l' : List Spot), Out a b l l' ∧ (a < m ∧ m ≤ b) ∧ (∀ k, a ≤ k → k < m → at' l' k = at' l x) ∧ (∀ k, m ≤ k → k < b → ltS (at' l x) (at' l' k)) ∧ f104b (f104 n) n (a : Int) (b : Int) (x : Int) l = some ((m : Int), l')
  unfold f104b
  simp only [joinK]
  rw [sw_run (r := fun x6 => f104_3 (a : Int) n f104_c11 n (W ((a : Int) + 1)) (W ((b : Int) - 1)) x6) (by omega) (by omega), W_nat (by omega), W_dec (by omega) (by omega)]
  have hO : Out a b l (sw l a x) := Out.sw (by omega) (by omega) hbl
  have ha : at' (sw l a x) a = at' l x := by
    rw [at_sw (by omega) (by omega)]
    by_cases e : x = a
    · rw [if_pos e, e]
    · rw [if_neg e, if_pos rfl]
  obtain ⟨m, l', h1, h2, h3, h4, h5, h6⟩ := f104_main (N := n) (a := a) (b := b) (by omega) (by omega) n (a + 1) (b - 1) (sw l a x) (by omega) (by omega) (by omega) (by omega) (by rw [sw_len]; omega) (by rw [sw_len]; omega) (fun k h1 h2 => by omega) (fun k h1 h2 => by omega)
  have hO' := hO.trans h1
  rw [ha] at h2
  refine ⟨m, l', hO', h3, fun k hk1 hk2 => ?_, fun k hk1 hk2 => by rw [← h2]; exact h5 k hk1 hk2, h6⟩
  by_cases e : k = a
  · rw [e, h2]
  · obtain ⟨k', hk', ek⟩ := hO'.from hbl (k := k) (by omega)
    have := h4 k (by omega) hk2
    rw [h2] at this
    exact leS_antisymm this (by rw [ek]; exact hmin k' hk'.1 hk'.2)
end Go.Vc
namespace Go.Vc
set_option linter.unusedVariables false
set_option linter.unnecessarySimpa false
set_option linter.unusedSimpArgs false
set_option linter.unusedSimpArgs false
def Abv (a b : Nat) (l : List Spot) : Prop := 0 < a → ∀ k, a ≤ k → k < b → ¬ ltS (at' l k) (at' l (a - 1))
theorem Abv.out {a b : Nat} {l l' : List Spot} (h : Abv a b l) (ho : Out a b l l') (hb : b ≤ l.length) : Abv a b l' := fun h0 k h1 h2 => by
  obtain ⟨k', hk', e⟩ := ho.from hb (k := k) ⟨h1, h2⟩
  rw [e, ho.2 (a - 1) (.inl (by omega))]
  exact h h0 k' hk'.1 hk'.2
theorem f103_lt {N a i : Nat} {s1 v10 v9 : Int} {k2 : List Spot → Option (Bool × List Spot)} (hN : 10 ≤ N) : ∀ (fu j : Nat) (l : List Spot), j < fu → a ≤ j → j + 1 ≤ i → i ≤ l.length → l.length ≤ 1000000 → Abv a i l →
    (∀ p q, a ≤ p → p < q → q < i → q ≠ j → ¬ ltS (at' l q) (at' l p)) → ∃ l', Out a i l l' ∧ Srt a i l' ∧ f103_14 (a : Int) s1 N v10 v9 k2 fu (j : Int) l = k2 l' := by
  intro fu
  induction fu with
  | zero => intro j l h; omega
  | succ fu ih =>
    intro j l hf haj hji hil hl hA hI
    by_cases e : 1 ≤ j
    · obtain ⟨c, hc, hc2⟩ := f91_eq (x := at' l j) (y := at' l (j - 1)) hN
      have hd := W_dec (j := j) (by omega) (by omega)
      by_cases hlt : ltS (at' l j) (at' l (j - 1))
      · have hja : j ≠ a := fun hh => by
          subst hh
          exact hA (by omega) j (Nat.le_refl _) (by omega) hlt
        have hO : Out a i l (sw l j (j - 1)) := Out.sw (by omega) (by omega) (by omega)
        obtain ⟨l', h1, h2, h3⟩ := ih (j - 1) (sw l j (j - 1)) (by omega) (by omega) (by omega) (by rw [sw_len]; omega) (by rw [sw_len]; omega) (hA.out hO (by omega)) (by
          intro p q h1 h2 h3 h4
          rw [at_sw (by omega) (by omega), at_sw (by omega) (by omega)]
          by_cases q1 : j = q
          · subst q1
            rw [if_neg (by omega), if_pos rfl]
            by_cases p1 : j - 1 = p
            · rw [if_pos p1]; exact ltS_asymm hlt
            · rw [if_neg p1, if_neg (by omega)]
              exact hI p (j - 1) h1 (by omega) (by omega) (by omega)
          · rw [if_neg (by omega), if_neg q1]
            by_cases p1 : j - 1 = p
            · rw [if_pos p1]
              exact hI j q (by omega) (by omega) h3 (by omega)
            · rw [if_neg p1]
              by_cases p2 : j = p
              · rw [if_pos p2]
                exact hI (j - 1) q (by omega) (by omega) h3 (by omega)
              · rw [if_neg p2]
                exact hI p q h1 h2 h3 (by omega))
        refine ⟨l', hO.trans h1, h2, ?_⟩
        conv => lhs; unfold f103_14 f103_14b
        rw [show decide ((1 : Int) ≤ (j : Int)) = true by simp; omega, hd]
        simp only [cond_true, ix_at (show j < l.length by omega), ix_at (show j - 1 < l.length by omega), Option.bind_some, hc, hc2.2 hlt, decide_true, Bool.not_true, cond_false]
        have := sw_run (l := l) (i := j) (j := j - 1) (r := fun x => f103_14 (a : Int) s1 N v10 v9 k2 fu ((j - 1 : Nat) : Int) x) (by omega) (by omega)
        simp only [ix_at (show j < l.length by omega), ix_at (show j - 1 < l.length by omega), Option.bind_some] at this
        rw [this]
        exact h3
      · refine ⟨l, Out.refl, fun p q h1 h2 h3 => ?_, ?_⟩
        · by_cases q1 : q = j
          · subst q1
            by_cases p1 : p = q - 1
            · subst p1; exact hlt
            · exact leS_trans (hI p (q - 1) h1 (by omega) (by omega) (by omega)) hlt
          · exact hI p q h1 h2 (by omega) q1
        · conv => lhs; unfold f103_14 f103_14b
          rw [show decide ((1 : Int) ≤ (j : Int)) = true by simp; omega, hd]
          simp only [cond_true, ix_at (show j < l.length by omega), ix_at (show j - 1 < l.length by omega), Option.bind_some, hc, show ¬ c < 0 from fun h => hlt (hc2.1 h), decide_false, Bool.not_false]
    · have hj0 : j = 0 := by omega
      subst hj0
      refine ⟨l, Out.refl, fun p q h1 h2 h3 => hI p q h1 h2 h3 (by omega), ?_⟩
      conv => lhs; unfold f103_14 f103_14b
      simp
theorem f103_rt {N a b i : Nat} {v10 v9 : Int} {k1 : Int → List Spot → Option (Bool × List Spot)} (hN : 10 ≤ N) : ∀ (fu j : Nat) (l : List Spot), b - j < fu → i + 1 ≤ j → j ≤ b → b ≤ l.length → l.length ≤ 1000000 →
    ∃ l', Out i b l l' ∧ f103_20 (a : Int) (b : Int) N v10 k1 v9 fu (j : Int) l = k1 v9 l' := by
  intro fu
  induction fu with
  | zero => intro j l h; omega
  | succ fu ih =>
    intro j l hf hij hjb hbl hl
    by_cases e : j < b
    · obtain ⟨c, hc, hc2⟩ := f91_eq (x := at' l j) (y := at' l (j - 1)) hN
      have hd := W_dec (j := j) (by omega) (by omega)
      by_cases hlt : ltS (at' l j) (at' l (j - 1))
      · obtain ⟨l', h1, h2⟩ := ih (j + 1) (sw l j (j - 1)) (by omega) (by omega) (by omega) (by rw [sw_len]; omega) (by rw [sw_len]; omega)
        refine ⟨l', (Out.sw (by omega) (by omega) (by omega)).trans h1, ?_⟩
        conv => lhs; unfold f103_20 f103_20b
        rw [show decide ((j : Int) < (b : Int)) = true by simp; omega, hd]
        simp only [cond_true, ix_at (show j < l.length by omega), ix_at (show j - 1 < l.length by omega), Option.bind_some, hc, hc2.2 hlt, decide_true, Bool.not_true, cond_false]
        have := sw_run (l := l) (i := j) (j := j - 1) (r := fun x => f103_20 (a : Int) (b : Int) N v10 k1 v9 fu (W ((j : Int) + 1)) x) (by omega) (by omega)
        simp only [ix_at (show j < l.length by omega), ix_at (show j - 1 < l.length by omega), Option.bind_some] at this
        rw [this, W_nat (by omega)]
        exact h2
      · refine ⟨l, Out.refl, ?_⟩
        conv => lhs; unfold f103_20 f103_20b
        rw [show decide ((j : Int) < (b : Int)) = true by simp; omega, hd]
        simp only [cond_true, ix_at (show j < l.length by omega), ix_at (show j - 1 < l.length by omega), Option.bind_some, hc, show ¬ c < 0 from fun h => hlt (hc2.1 h), decide_false, Bool.not_false]
    · refine ⟨l, Out.refl, ?_⟩
      conv => lhs; unfold f103_20 f103_20b
      rw [show decide ((j : Int) < (b : Int)) = false by simp; omega]; rfl
theorem srt_chain {a i : Nat} {l : List Spot} (hai : a < i) (hS : Srt a i l) : ∀ n, (∀ q, i ≤ q → q < i + n → ¬ ltS (at' l q) (at' l (q - 1))) → Srt a (i + n) l := by
  intro n
  induction n with
  | zero => intro _; exact hS
  | succ n ih =>
    intro h
    have hS' := ih fun q h1 h2 => h q h1 (by omega)
    intro p q h1 h2 h3
    by_cases e : q = i + n
    · subst e
      have hq := h (i + n) (by omega) (by omega)
      by_cases e2 : p = i + n - 1
      · rw [e2]; exact hq
      · exact leS_trans (hS' p (i + n - 1) h1 (by omega) (by omega)) hq
    · exact hS' p q h1 h2 (by omega)
theorem srt_one {a : Nat} {l : List Spot} : Srt a (a + 1) l := fun p q h1 h2 h3 => by omega
theorem srt_step {a i : Nat} {l : List Spot} (hai : a < i) (hS : Srt a i l) (h : ¬ ltS (at' l i) (at' l (i - 1))) : Srt a (i + 1) l :=
  srt_chain hai hS 1 fun q h1 h2 => by rw [show q = i by omega]; exact h
theorem f103_up {N a b : Nat} {v10 : Int} {l : List Spot} {k3 : Int → Option (Bool × List Spot)} (hN : 10 ≤ N) (hbl : b ≤ l.length) (hl : l.length ≤ 1000000) : ∀ (fu i : Nat), b - i < fu → a < i → i ≤ b → Srt a i l →
    ∃ i', a < i' ∧ i' ≤ b ∧ Srt a i' l ∧ f103_5 (a : Int) (b : Int) N v10 l k3 fu (i : Int) = k3 (i' : Int) := by
  intro fu
  induction fu with
  | zero => intro i h; omega
  | succ fu ih =>
    intro i hf hai hib hS
    by_cases e : i < b
    · obtain ⟨c, hc, hc2⟩ := f91_eq (x := at' l i) (y := at' l (i - 1)) hN
      have hd := W_dec (j := i) (by omega) (by omega)
      by_cases hlt : ltS (at' l i) (at' l (i - 1))
      · refine ⟨i, hai, hib, hS, ?_⟩
        conv => lhs; unfold f103_5 f103_5b
        rw [show decide ((i : Int) < (b : Int)) = true by simp; omega, hd]
        simp only [cond_true, ix_at (show i < l.length by omega), ix_at (show i - 1 < l.length by omega), Option.bind_some, hc, hc2.2 hlt, decide_true, Bool.not_true, cond_false]
      · obtain ⟨i', h1, h2, h3, h4⟩ := ih (i + 1) (by omega) (by omega) (by omega) (srt_step hai hS hlt)
        refine ⟨i', h1, h2, h3, ?_⟩
        conv => lhs; unfold f103_5 f103_5b
        rw [show decide ((i : Int) < (b : Int)) = true by simp; omega, hd]
        simp only [cond_true, ix_at (show i < l.length by omega), ix_at (show i - 1 < l.length by omega), Option.bind_some, hc, show ¬ c < 0 from fun h => hlt (hc2.1 h), decide_false, Bool.not_false]
        rw [W_nat (by omega)]
        exact h4
    · refine ⟨i, hai, hib, hS, ?_⟩
      conv => lhs; unfold f103_5 f103_5b
      rw [show decide ((i : Int) < (b : Int)) = false by simp; omega]; rfl
theorem f103_main {N a b : Nat} (hN : 10 ≤ N) (hbN : b + 10 < N) : ∀ (fu c i : Nat) (l : List Spot), 5 - c < fu → c ≤ 5 → a < i → i ≤ b → b ≤ l.length → l.length ≤ 1000000 → Abv a b l → Srt a i l →
    ∃ r l', Out a b l l' ∧ (r = true → Srt a b l') ∧ f103_3 (a : Int) (b : Int) N f103_c24 fu (i : Int) (c : Int) l = some (r, l') := by
  intro fu
  induction fu with
  | zero => intro c i l h; omega
  | succ fu ih =>
    intro c i l hf hc hai hib hbl hl hA hS
    by_cases e : c < 5
    · obtain ⟨i', h1, h2, h3, h4⟩ := f103_up (N := N) (v10 := (c : Int)) (k3 := f103_c7 (a : Int) (b : Int) N (c : Int) l (f103_c4 (a : Int) (b : Int) (c : Int) (f103_3 (a : Int) (b : Int) N f103_c24 fu))) hN hbl hl N i (by omega) hai hib hS
      unfold f103_3 f103_3b
      simp only [joinK]
      rw [show decide ((c : Int) < (5 : Int)) = true by simp; omega]
      simp only [cond_true]
      rw [h4]
      unfold f103_c7
      by_cases e2 : i' = b
      · subst e2
        refine ⟨true, l, Out.refl, fun _ => h3, ?_⟩
        simp
      · have e2' : ¬ ((i' : Nat) : Int) = (b : Int) := by omega
        simp only [e2', decide_false, cond_false]
        by_cases e3 : W ((b : Int) - (a : Int)) < 50
        · refine ⟨false, l, Out.refl, fun h => by simp at h, ?_⟩
          simp [e3]
        · simp only [e3, decide_false, cond_false, joinK]
          have hd := W_dec (j := i') (by omega) (by omega)
          rw [hd]
          have hO : Out a b l (sw l i' (i' - 1)) := Out.sw (by omega) (by omega) hbl
          have hA1 := hA.out hO hbl
          have fin : ∀ lx, Out a b (sw l i' (i' - 1)) lx → Srt a i' lx → ∃ r l', Out a b l l' ∧ (r = true → Srt a b l') ∧ f103_c18 (a : Int) (b : Int) N (c : Int) (f103_c4 (a : Int) (b : Int) (c : Int) (f103_3 (a : Int) (b : Int) N f103_c24 fu)) (i' : Int) lx = some (r, l') := by
            intro lx hx hSx
            have hlx := hx.len
            rw [sw_len] at hlx
            have nxt : ∀ ly, Out i' b lx ly → ∃ r l', Out a b l l' ∧ (r = true → Srt a b l') ∧ f103_c4 (a : Int) (b : Int) (c : Int) (f103_3 (a : Int) (b : Int) N f103_c24 fu) (i' : Int) ly = some (r, l') := by
              intro ly hy
              have hy' : Out a b (sw l i' (i' - 1)) ly := hx.trans (hy.wide (by omega) (Nat.le_refl _))
              have hly := hy.len
              obtain ⟨r, l', g1, g2, g3⟩ := ih (c + 1) i' ly (by omega) (by omega) h1 h2 (by omega) (by omega) (hA1.out hy' (by rw [sw_len]; exact hbl)) (fun p q h5 h6 h7 => by
                rw [hy.2 p (.inl (by omega)), hy.2 q (.inl (by omega))]; exact hSx p q h5 h6 h7)
              refine ⟨r, l', (hO.trans hy').trans g1, g2, ?_⟩
              unfold f103_c4
              rw [W_nat (by omega)]
              exact g3
            unfold f103_c18
            by_cases e4 : (2 : Int) ≤ W ((b : Int) - (i' : Int))
            · obtain ⟨ly, r1, r2⟩ := f103_rt (N := N) (a := a) (b := b) (i := i') (v10 := (c : Int)) (v9 := (i' : Int)) (k1 := f103_c4 (a : Int) (b : Int) (c : Int) (f103_3 (a : Int) (b : Int) N f103_c24 fu)) hN N (i' + 1) lx (by omega) (by omega) (by omega) (by omega) (by omega)
              simp only [e4, decide_true, cond_true]
              rw [W_nat (by omega), r2]
              exact nxt ly r1
            · simp only [e4, decide_false, cond_false]
              exact nxt lx Out.refl
          rw [sw_run (r := fun x6 => bif decide (2 ≤ W ((i' : Int) - (a : Int))) then f103_14 (a : Int) (b : Int) N (c : Int) (i' : Int) (f103_c18 (a : Int) (b : Int) N (c : Int) (f103_c4 (a : Int) (b : Int) (c : Int) (f103_3 (a : Int) (b : Int) N f103_c24 fu)) (i' : Int)) N ((i' - 1 : Nat) : Int) x6 else f103_c18 (a : Int) (b : Int) N (c : Int) (f103_c4 (a : Int) (b : Int) (c : Int) (f103_3 (a : Int) (b : Int) N f103_c24 fu)) (i' : Int) x6) (by omega) (by omega)]
          by_cases e5 : (2 : Int) ≤ W ((i' : Int) - (a : Int))
          · simp only [e5, decide_true, cond_true]
            obtain ⟨lx, r1, r2, r3⟩ := f103_lt (N := N) (a := a) (i := i') (s1 := (b : Int)) (v10 := (c : Int)) (v9 := (i' : Int)) (k2 := f103_c18 (a : Int) (b : Int) N (c : Int) (f103_c4 (a : Int) (b : Int) (c : Int) (f103_3 (a : Int) (b : Int) N f103_c24 fu)) (i' : Int)) hN N (i' - 1) (sw l i' (i' - 1)) (by omega) (by omega) (by omega) (by rw [sw_len]; omega) (by rw [sw_len]; omega) (fun h0 k q1 q2 => hA1 h0 k q1 (by omega)) (fun p q q1 q2 q3 q4 => by
              rw [at_sw (by omega) (by omega), at_sw (by omega) (by omega), if_neg (by omega), if_neg (by omega), if_neg (by omega), if_neg (by omega)]
              exact h3 p q q1 q2 q3)
            rw [r3]
            exact fin lx (r1.wide (Nat.le_refl _) h2) r2
          · simp only [e5, decide_false, cond_false]
            refine fin _ Out.refl ?_
            have hw : W ((i' : Int) - (a : Int)) = (i' : Int) - (a : Int) := Wi (by omega) (by omega)
            rw [hw] at e5
            intro p q q1 q2 q3
            omega
    · refine ⟨false, l, Out.refl, fun h => by simp at h, ?_⟩
      unfold f103_3 f103_3b
      rw [show decide ((c : Int) < (5 : Int)) = false by simp; omega]
      rfl
theorem f103_eq {N a b : Nat} {l : List Spot} (hN : 30 ≤ N) (hab : a < b) (hbN : b + 20 < N) (hbl : b ≤ l.length) (hl : l.length ≤ 1000000) (hA : Abv a b l) :
    ∃ r l', Out a b l l' ∧ (r = true → Srt a b l') ∧ f103 N (a : Int) (b : Int) l = some (r, l') := by
  obtain ⟨n, rfl⟩ : ∃ n, N = n + 1 := ⟨N - 1, by omega⟩
  show ∃ r l', Out a b l l' ∧ (r = true → Srt a b l') ∧ f103_3 (a : Int) (b : Int) n f103_c24 n (W ((a : Int) + 1)) ((0 : Nat) : Int) l = some (r, l')
  rw [W_nat (by omega)]
  exact f103_main (by omega) (by omega) n 0 (a + 1) l (by omega) (by omega) (by omega) (by omega) hbl hl hA srt_one
end Go.Vc
namespace Go.Vc
set_option linter.unusedVariables false
set_option linter.unnecessarySimpa false
set_option linter.unusedSimpArgs false
set_option linter.unusedSimpArgs false
def Hp (f lo hi r : Nat) (l : List Spot) : Prop := ∀ p c, lo ≤ p → p ≠ r → c < hi → (c = 2 * p + 1 ∨ c = 2 * p + 2) → ¬ ltS (at' l (f + p)) (at' l (f + c))
def Heap (f lo hi : Nat) (l : List Spot) : Prop := ∀ p c, lo ≤ p → c < hi → (c = 2 * p + 1 ∨ c = 2 * p + 2) → ¬ ltS (at' l (f + p)) (at' l (f + c))
def Gr (f lo hi r : Nat) (l : List Spot) : Prop := ∀ p c, lo ≤ p → (r = 2 * p + 1 ∨ r = 2 * p + 2) → c < hi → (c = 2 * r + 1 ∨ c = 2 * r + 2) → ¬ ltS (at' l (f + p)) (at' l (f + c))
theorem f109_in {N f lo hi : Nat} (hN : 10 ≤ N) : ∀ (fu r : Nat) (l : List Spot), hi - r < fu → lo ≤ r → r ≤ hi → f + hi ≤ l.length → l.length ≤ 100000 → Hp f lo hi r l → Gr f lo hi r l →
    ∃ l', Out (f + lo) (f + hi) l l' ∧ Heap f lo hi l' ∧ f109_1 (hi : Int) (f : Int) N fu (r : Int) l = some l' := by
  intro fu
  induction fu with
  | zero => intro r l h; omega
  | succ fu ih =>
    intro r l hf hlr hrh hhl hl hH hG
    have hw1 : W ((W ((2 : Int) * (r : Int))) + (1 : Int)) = ((2 * r + 1 : Nat) : Int) := by
      rw [show (2 : Int) * (r : Int) = ((2 * r : Nat) : Int) by omega, W_of (n := ((2 * r : Nat) : Int)) (by omega) (by omega)]
      exact W_nat (by omega)
    have hw2 : W (((2 * r + 1 : Nat) : Int) + (1 : Int)) = ((2 * r + 2 : Nat) : Int) := W_nat (by omega)
    have hw3 : W ((f : Int) + (r : Int)) = ((f + r : Nat) : Int) := by rw [show (f : Int) + (r : Int) = ((f + r : Nat) : Int) by omega]; exact W_of (by omega) (by omega)
    unfold f109_1 f109_1b
    rw [hw1, hw2]
    simp only [joinK]
    by_cases e1 : hi ≤ 2 * r + 1
    · refine ⟨l, Out.refl, fun p c h1 h3 h4 => hH p c h1 (by omega) h3 h4, ?_⟩
      rw [show decide ((hi : Int) ≤ ((2 * r + 1 : Nat) : Int)) = true by simp; omega]
      rfl
    · rw [show decide ((hi : Int) ≤ ((2 * r + 1 : Nat) : Int)) = false by simp; omega]
      simp only [cond_false]
      have step : ∀ c : Nat, c < hi → (c = 2 * r + 1 ∨ c = 2 * r + 2) → (∀ d, d < hi → (d = 2 * r + 1 ∨ d = 2 * r + 2) → ¬ ltS (at' l (f + c)) (at' l (f + d))) →
          ∃ l', Out (f + lo) (f + hi) l l' ∧ Heap f lo hi l' ∧ f109_c5 (hi : Int) (f : Int) N (r : Int) l (f109_1 (hi : Int) (f : Int) N fu) (c : Int) = some l' := by
        intro c hc hcr hbig
        have hw4 : W ((f : Int) + (c : Int)) = ((f + c : Nat) : Int) := by rw [show (f : Int) + (c : Int) = ((f + c : Nat) : Int) by omega]; exact W_of (by omega) (by omega)
        unfold f109_c5
        rw [hw3, hw4]
        obtain ⟨d, hd, hd2⟩ := f91_eq (x := at' l (f + r)) (y := at' l (f + c)) hN
        by_cases hlt : ltS (at' l (f + r)) (at' l (f + c))
        · have hS : ∀ k, at' (sw l (f + r) (f + c)) (f + k) = if c = k then at' l (f + r) else if r = k then at' l (f + c) else at' l (f + k) := by
            intro k
            rw [at_sw (by omega) (by omega)]
            by_cases k1 : c = k
            · rw [if_pos k1, if_pos (by omega)]
            · rw [if_neg k1, if_neg (by omega)]
              by_cases k2 : r = k
              · rw [if_pos k2, if_pos (by omega)]
              · rw [if_neg k2, if_neg (by omega)]
          obtain ⟨l', h1, h2, h3⟩ := ih c (sw l (f + r) (f + c)) (by omega) (by omega) (by omega) (by rw [sw_len]; exact hhl) (by rw [sw_len]; exact hl) (by
            intro p q h1 h2 h3 h4
            rw [hS, hS, if_neg (show ¬ c = p by omega)]
            by_cases p1 : r = p
            · subst p1
              rw [if_pos rfl]
              by_cases q1 : c = q
              · rw [if_pos q1]; exact ltS_asymm hlt
              · rw [if_neg q1, if_neg (by omega)]
                exact hbig q h3 h4
            · rw [if_neg p1]
              by_cases q1 : c = q
              · omega
              · rw [if_neg q1]
                by_cases q2 : r = q
                · rw [if_pos q2]
                  exact hG p c h1 (by omega) hc hcr
                · rw [if_neg q2]
                  exact hH p q h1 (by omega) h3 h4) (by
            intro p q h1 h2 h3 h4
            have hp : p = r := by omega
            subst hp
            rw [hS, hS, if_neg (by omega), if_pos rfl, if_neg (by omega), if_neg (by omega)]
            exact hH c q (by omega) (by omega) h3 h4)
          refine ⟨l', (Out.sw (by omega) (by omega) (by omega)).trans h1, h2, ?_⟩
          have := sw_run (l := l) (i := f + r) (j := f + c) (r := fun x => f109_1 (hi : Int) (f : Int) N fu (c : Int) x) (by omega) (by omega)
          simp only [ix_at (show f + r < l.length by omega), ix_at (show f + c < l.length by omega), Option.bind_some, hd, hd2.2 hlt, decide_true, Bool.not_true, cond_false] at this ⊢
          rw [this]
          exact h3
        · refine ⟨l, Out.refl, ?_, ?_⟩
          · intro p q h1 h3 h4
            by_cases p1 : p = r
            · subst p1
              exact leS_trans (hbig q h3 h4) hlt
            · exact hH p q h1 p1 h3 h4
          · simp only [ix_at (show f + r < l.length by omega), ix_at (show f + c < l.length by omega), Option.bind_some, hd, show ¬ d < 0 from fun h => hlt (hd2.1 h), decide_false, Bool.not_false, cond_true]
      have hw5 : W ((f : Int) + ((2 * r + 1 : Nat) : Int)) = ((f + (2 * r + 1) : Nat) : Int) := by rw [show (f : Int) + ((2 * r + 1 : Nat) : Int) = ((f + (2 * r + 1) : Nat) : Int) by omega]; exact W_of (by omega) (by omega)
      have hw6 : W (((f + (2 * r + 1) : Nat) : Int) + (1 : Int)) = ((f + (2 * r + 2) : Nat) : Int) := W_nat (by omega)
      by_cases e2 : 2 * r + 2 < hi
      · rw [show decide (((2 * r + 2 : Nat) : Int) < (hi : Int)) = true by simp; omega, hw5, hw6]
        obtain ⟨d, hd, hd2⟩ := f91_eq (x := at' l (f + (2 * r + 1))) (y := at' l (f + (2 * r + 2))) hN
        simp only [cond_true, ix_at (show f + (2 * r + 1) < l.length by omega), ix_at (show f + (2 * r + 2) < l.length by omega), Option.bind_some, hd]
        by_cases hlt : ltS (at' l (f + (2 * r + 1))) (at' l (f + (2 * r + 2)))
        · simp only [hd2.2 hlt, decide_true, cond_true]
          refine step (2 * r + 2) e2 (.inr rfl) fun d h1 h2 => ?_
          rcases h2 with h2 | h2
          · rw [h2]; exact ltS_asymm hlt
          · rw [h2]; exact ltS_irrefl
        · simp only [show ¬ d < 0 from fun h => hlt (hd2.1 h), decide_false, cond_false]
          refine step (2 * r + 1) (by omega) (.inl rfl) fun d h1 h2 => ?_
          rcases h2 with h2 | h2
          · rw [h2]; exact ltS_irrefl
          · rw [h2]; exact hlt
      · rw [show decide (((2 * r + 2 : Nat) : Int) < (hi : Int)) = false by simp; omega]
        simp only [cond_false]
        refine step (2 * r + 1) (by omega) (.inl rfl) fun d h1 h2 => ?_
        rw [show d = 2 * r + 1 by omega]; exact ltS_irrefl
theorem f109_eq {N f lo hi : Nat} {l : List Spot} (hN : 30 ≤ N) (hlh : lo ≤ hi) (hN2 : hi + 10 < N) (hhl : f + hi ≤ l.length) (hl : l.length ≤ 100000) (hH : Hp f lo hi lo l) :
    ∃ l', Out (f + lo) (f + hi) l l' ∧ Heap f lo hi l' ∧ f109 N (lo : Int) (hi : Int) (f : Int) l = some l' := by
  obtain ⟨n, rfl⟩ : ∃ n, N = n + 1 := ⟨N - 1, by omega⟩
  exact f109_in (N := n) (by omega) n lo l (by omega) (Nat.le_refl _) hlh hhl hl hH (fun p c h1 h2 h3 h4 => by omega)
theorem keep_ok {l l' : List Spot} (h : l'.length = l.length) : keepL l l' = some l' := by unfold keepL; rw [if_pos h.symm]
theorem f99_build {N a b : Nat} {k0 : List Spot → Option (List Spot)} (hN : 40 ≤ N) (hab : a < b) (hbN : b + 20 < N) : ∀ (i fu : Nat) (l : List Spot), i ≤ fu → i ≤ b - a → b ≤ l.length → l.length ≤ 100000 → Heap a i (b - a) l →
    ∃ l', Out a b l l' ∧ Heap a 0 (b - a) l' ∧ f99_4 (a : Int) (b : Int) N k0 (fu + 1) ((i : Int) - 1) l = k0 l' := by
  intro i
  induction i with
  | zero =>
    intro fu l hf hi hbl hl hH
    refine ⟨l, Out.refl, hH, ?_⟩
    unfold f99_4 f99_4b
    rw [show decide ((0 : Int) ≤ ((0 : Nat) : Int) - 1) = false by simp]
    rfl
  | succ i ih =>
    intro fu l hf hi hbl hl hH
    obtain ⟨fu, rfl⟩ : ∃ n, fu = n + 1 := ⟨fu - 1, by omega⟩
    obtain ⟨l1, h1, h2, h3⟩ := f109_eq (N := N) (f := a) (lo := i) (hi := b - a) (l := l) (by omega) (by omega) (by omega) (by omega) hl (fun p c q1 q2 q3 q4 => hH p c (by omega) q3 q4)
    have h1' : Out a b l l1 := h1.wide (by omega) (by omega)
    obtain ⟨l2, h4, h5, h6⟩ := ih fu l1 (by omega) (by omega) (by rw [h1.len]; exact hbl) (by rw [h1.len]; exact hl) h2
    refine ⟨l2, h1'.trans h4, h5, ?_⟩
    unfold f99_4 f99_4b
    have hw0 : W ((b : Int) - (a : Int)) = ((b - a : Nat) : Int) := by rw [Wi (by omega) (by omega)]; omega
    have hw1 : ((i + 1 : Nat) : Int) - 1 = (i : Int) := by omega
    rw [hw1, hw0, show decide ((0 : Int) ≤ (i : Int)) = true by simp, h3]
    simp only [cond_true, Option.bind_some, keep_ok h1.len]
    rw [Wi (by omega) (by omega)]
    exact h6
theorem heap_top {f hi : Nat} {l : List Spot} (hH : Heap f 0 hi l) : ∀ c, c < hi → ¬ ltS (at' l f) (at' l (f + c)) := by
  intro c
  induction c using Nat.strongRecOn with
  | ind c ih =>
    intro hc
    by_cases e : c = 0
    · subst e; exact ltS_irrefl
    · exact leS_trans (hH ((c - 1) / 2) c (by omega) hc (by omega)) (ih ((c - 1) / 2) (by omega) (by omega))
theorem f99_pop {N a b : Nat} (hN : 40 ≤ N) (hab : a < b) (hbN : b + 20 < N) : ∀ (i fu : Nat) (l : List Spot), i ≤ fu → i ≤ b - a → b ≤ l.length → l.length ≤ 100000 → Heap a 0 i l → (∀ p q, a ≤ p → p < q → a + i ≤ q → q < b → ¬ ltS (at' l q) (at' l p)) →
    ∃ l', Out a b l l' ∧ Srt a b l' ∧ f99_8 (a : Int) N (fu + 1) ((i : Int) - 1) l = some l' := by
  intro i
  induction i with
  | zero =>
    intro fu l hf hi hbl hl hH hT
    refine ⟨l, Out.refl, fun p q h1 h2 h3 => hT p q h1 h2 (by omega) h3, ?_⟩
    unfold f99_8 f99_8b
    rw [show decide ((0 : Int) ≤ ((0 : Nat) : Int) - 1) = false by simp]
    rfl
  | succ i ih =>
    intro fu l hf hi hbl hl hH hT
    obtain ⟨fu, rfl⟩ : ∃ n, fu = n + 1 := ⟨fu - 1, by omega⟩
    have hw1 : ((i + 1 : Nat) : Int) - 1 = (i : Int) := by omega
    have hw2 : W ((a : Int) + (i : Int)) = ((a + i : Nat) : Int) := by rw [show (a : Int) + (i : Int) = ((a + i : Nat) : Int) by omega]; exact W_of (by omega) (by omega)
    have hO : Out a b l (sw l a (a + i)) := Out.sw (by omega) (by omega) hbl
    obtain ⟨l1, h1, h2, h3⟩ := f109_eq (N := N) (f := a) (lo := 0) (hi := i) (l := sw l a (a + i)) (by omega) (by omega) (by omega) (by rw [sw_len]; omega) (by rw [sw_len]; exact hl) (by
      intro p c q1 q2 q3 q4
      rw [at_sw (by omega) (by omega), at_sw (by omega) (by omega), if_neg (by omega), if_neg (by omega), if_neg (by omega), if_neg (by omega)]
      exact hH p c (by omega) (by omega) q4)
    have h1' : Out a (a + i) (sw l a (a + i)) l1 := h1.wide (by omega) (by omega)
    have hO2 : Out a b l l1 := hO.trans (h1'.wide (Nat.le_refl _) (by omega))
    have top : at' l1 (a + i) = at' l a := by
      rw [h1'.2 (a + i) (.inr (Nat.le_refl _)), at_sw (by omega) (by omega), if_pos rfl]
    obtain ⟨l2, h4, h5, h6⟩ := ih fu l1 (by omega) (by omega) (by rw [hO2.len]; exact hbl) (by rw [hO2.len]; exact hl) h2 (by
      intro p q q1 q2 q3 q4
      have src : ∀ k, a ≤ k → k < a + (i + 1) → ∃ k', (a ≤ k' ∧ k' < a + (i + 1)) ∧ at' l1 k = at' l k' := fun k g1 g2 => by
        have hOi : Out a (a + (i + 1)) l l1 := (Out.sw (by omega) (by omega) (by omega)).trans (h1'.wide (Nat.le_refl _) (by omega))
        exact hOi.from (by omega) ⟨g1, g2⟩
      by_cases e : q = a + i
      · subst e
        rw [top]
        obtain ⟨k', g1, g2⟩ := src p q1 (by omega)
        rw [g2]
        have := heap_top hH (k' - a) (by omega)
        rwa [show a + (k' - a) = k' by omega] at this
      · have eq : at' l1 q = at' l q := by
          rw [h1'.2 q (.inr (by omega)), at_sw (by omega) (by omega), if_neg (by omega), if_neg (by omega)]
        rw [eq]
        by_cases e2 : p < a + (i + 1)
        · obtain ⟨k', g1, g2⟩ := src p q1 e2
          rw [g2]
          exact hT k' q g1.1 (by omega) (by omega) q4
        · rw [h1'.2 p (.inr (by omega)), at_sw (by omega) (by omega), if_neg (by omega), if_neg (by omega)]
          exact hT p q q1 q2 (by omega) q4)
    refine ⟨l2, hO2.trans h4, h5, ?_⟩
    unfold f99_8 f99_8b
    rw [hw1, hw2, show decide ((0 : Int) ≤ (i : Int)) = true by simp]
    simp only [cond_true]
    have := sw_run (l := l) (i := a) (j := a + i) (r := fun x6 => (f109 N (0 : Int) (i : Int) (a : Int) x6).bind fun x7 => (keepL x6 x7).bind fun x8 => f99_8 (a : Int) N (fu + 1) (W ((i : Int) - 1)) x8) (by omega) (by omega)
    rw [this, show (0 : Int) = ((0 : Nat) : Int) from rfl, h3]
    simp only [Option.bind_some, keep_ok h1.len]
    rw [Wi (by omega) (by omega)]
    exact h6
theorem f99_eq {N a b : Nat} {l : List Spot} (hN : 50 ≤ N) (hab : a < b) (hbN : b + 30 < N) (hbl : b ≤ l.length) (hl : l.length ≤ 100000) : ∃ l', Out a b l l' ∧ Srt a b l' ∧ f99 N (a : Int) (b : Int) l = some l' := by
  obtain ⟨n, rfl⟩ : ∃ n, N = n + 1 := ⟨N - 1, by omega⟩
  have hw0 : W ((b : Int) - (a : Int)) = ((b - a : Nat) : Int) := by rw [Wi (by omega) (by omega)]; omega
  have hw1 : W (((b - a : Nat) : Int) - (1 : Int)) = ((b - a : Nat) : Int) - 1 := Wi (by omega) (by omega)
  have hw2 : W (Int.tdiv (((b - a : Nat) : Int) - 1) 2) = (((b - a + 1) / 2 : Nat) : Int) - 1 := by
    have h1 : Int.tdiv (((b - a : Nat) : Int) - 1) 2 = (((b - a + 1) / 2 : Nat) : Int) - 1 := by
      have := tdiv_nat (b - a - 1) 2
      rw [show (((b - a : Nat) : Int) - 1) = ((b - a - 1 : Nat) : Int) by omega]
      rw [show ((2 : Nat) : Int) = 2 from rfl] at this
      rw [this]; omega
    rw [h1]; exact Wi (by omega) (by omega)
  obtain ⟨m, hm⟩ : ∃ m, n = m + 1 := ⟨n - 1, by omega⟩
  obtain ⟨l1, h1, h2, h3⟩ := f99_build (N := n) (a := a) (b := b) (k0 := f99_c7 (a : Int) (b : Int) n) (by omega) hab (by omega) ((b - a + 1) / 2) m l (by omega) (by omega) hbl hl (fun p c q1 q2 q3 => by omega)
  obtain ⟨l2, h4, h5, h6⟩ := f99_pop (N := n) (a := a) (b := b) (by omega) hab (by omega) (b - a) m l1 (by omega) (by omega) (by rw [h1.len]; exact hbl) (by rw [h1.len]; exact hl) h2 (fun p q q1 q2 q3 q4 => by omega)
  refine ⟨l2, h1.trans h4, h5, ?_⟩
  show f99_4 (a : Int) (b : Int) n (f99_c7 (a : Int) (b : Int) n) n (W (Int.tdiv (W ((W ((b : Int) - (a : Int))) - (1 : Int))) (2 : Int))) l = some l2
  rw [hw0, hw1, hw2]
  rw [← hm] at h3 h6
  rw [h3]
  unfold f99_c7
  rw [hw0, hw1]
  exact h6
end Go.Vc
namespace Go.Vc
set_option linter.unusedVariables false
set_option linter.unnecessarySimpa false
set_option linter.unusedSimpArgs false
set_option linter.unusedSimpArgs false
theorem Abv.sub {a b b' : Nat} {l : List Spot} (h : Abv a b l) (hb : b' ≤ b) : Abv a b' l := fun h0 k h1 h2 => h h0 k h1 (by omega)
theorem join_srt {a b m : Nat} {l l' : List Spot} (hm : a ≤ m ∧ m < b) (hlo : ∀ k, a ≤ k → k < m → ltS (at' l k) (at' l m)) (hhi : ∀ k, m < k → k < b → ¬ ltS (at' l k) (at' l m))
    (f1 : ∀ k, a ≤ k → k < m → ∃ k', (a ≤ k' ∧ k' < m) ∧ at' l' k = at' l k') (f2 : at' l' m = at' l m) (f3 : ∀ k, m + 1 ≤ k → k < b → ∃ k', (m + 1 ≤ k' ∧ k' < b) ∧ at' l' k = at' l k')
    (s1 : Srt a m l') (s2 : Srt (m + 1) b l') : Srt a b l' := by
  intro p q h1 h2 h3
  have low : ∀ k, a ≤ k → k < m → ltS (at' l' k) (at' l' m) := fun k g1 g2 => by
    obtain ⟨k', g3, g4⟩ := f1 k g1 g2
    rw [g4, f2]; exact hlo k' g3.1 g3.2
  have high : ∀ k, m < k → k < b → ¬ ltS (at' l' k) (at' l' m) := fun k g1 g2 => by
    obtain ⟨k', g3, g4⟩ := f3 k g1 g2
    rw [g4, f2]; exact hhi k' (by omega) g3.2
  by_cases e1 : q < m
  · exact s1 p q h1 h2 e1
  · by_cases e2 : q = m
    · subst e2; exact ltS_asymm (low p h1 h2)
    · by_cases e3 : p < m
      · exact leS_trans (ltS_asymm (low p h1 e3)) (high q (by omega) h3)
      · by_cases e4 : p = m
        · subst e4; exact high q h2 h3
        · exact s2 p q (by omega) h2 h3
def Sorts (n : Nat) : Prop := ∀ (a b : Nat) (lim : Int) (l : List Spot), a ≤ b → b ≤ l.length → l.length ≤ 100000 → b - a ≤ 500 → b + (b - a) + 70 < n → Abv a b l → ∃ l', Out a b l l' ∧ Srt a b l' ∧ f95 n (a : Int) (b : Int) lim l = some l'
def Goes (n fu a b : Nat) : Prop := ∀ (a' b' : Nat) (lim : Int) (bal par : Bool) (l : List Spot), a ≤ a' → b' ≤ b → a' ≤ b' → b' - a' < b - a → b' ≤ l.length → l.length ≤ 100000 → Abv a' b' l → ∃ l', Out a' b' l l' ∧ Srt a' b' l' ∧ f95_2 n (f95 n) fu (a' : Int) (b' : Int) lim bal par l = some l'
theorem f95_part {n fu a b : Nat} (ih : Sorts n) (hn : b + (b - a) + 69 < n) (hba : b - a ≤ 500) (hG : Goes n fu a b) (hab : a + 2 ≤ b) {lim x : Int} {l : List Spot} (hx : Bt a b x) (hbl : b ≤ l.length) (hl : l.length ≤ 100000) (hA : Abv a b l) :
    ∃ l', Out a b l l' ∧ Srt a b l' ∧ f95_c20 n (f95 n) (a : Int) (b : Int) (f95_2 n (f95 n) fu) lim x l = some l' := by
  obtain ⟨xn, rfl⟩ : ∃ m : Nat, x = (m : Int) := ⟨x.toNat, by have := hx.1; omega⟩
  obtain ⟨m, fl, l2, ⟨h1, h2, h3, h4⟩, h5⟩ := f105_eq (N := n) (a := a) (b := b) (x := xn) (l := l) (by omega) hab (by omega) ⟨by have := hx.1; omega, by have := hx.2; omega⟩ hbl (by omega)
  have hA2 := hA.out h1 hbl
  have hl2 := h1.len
  unfold f95_c20
  rw [h5]
  simp only [Option.bind_some, keep_ok hl2]
  rw [W_nat (by omega)]
  by_cases e : W ((m : Int) - (a : Int)) < W ((b : Int) - (m : Int))
  · simp only [e, decide_true, cond_true]
    obtain ⟨l3, g1, g2, g3⟩ := ih a m lim l2 h2.1 (by omega) (by omega) (by omega) (by omega) (hA2.sub (by omega))
    have hl3 := g1.len
    rw [g3]
    simp only [Option.bind_some, keep_ok hl3]
    obtain ⟨l4, k1, k2, k3⟩ := hG (m + 1) b lim (decide ((W (Int.tdiv (W ((b : Int) - (a : Int))) (8 : Int))) ≤ (W ((m : Int) - (a : Int))))) fl l3 (by omega) (Nat.le_refl _) (by omega) (by omega) (by omega) (by omega) (by
      intro _ k q1 q2
      rw [show m + 1 - 1 = m from rfl, g1.2 k (.inr (by omega)), g1.2 m (.inr (by omega))]
      exact h4 k (by omega) q2)
    refine ⟨l4, h1.trans ((g1.wide (Nat.le_refl _) (by omega)).trans (k1.wide (by omega) (Nat.le_refl _))), ?_, k3⟩
    refine join_srt h2 h3 h4 ?_ ?_ ?_ ?_ k2
    · intro k q1 q2
      rw [k1.2 k (.inl (by omega))]
      exact g1.from (by omega) ⟨q1, q2⟩
    · rw [k1.2 m (.inl (by omega)), g1.2 m (.inr (by omega))]
    · intro k q1 q2
      obtain ⟨k', w1, w2⟩ := k1.from (by omega) ⟨q1, q2⟩
      exact ⟨k', w1, by rw [w2, g1.2 k' (.inr (by omega))]⟩
    · intro p q q1 q2 q3
      rw [k1.2 p (.inl (by omega)), k1.2 q (.inl (by omega))]
      exact g2 p q q1 q2 q3
  · simp only [e, decide_false, cond_false]
    obtain ⟨l3, g1, g2, g3⟩ := ih (m + 1) b lim l2 (by omega) (by omega) (by omega) (by omega) (by omega) (by
      intro _ k q1 q2
      rw [show m + 1 - 1 = m from rfl]
      exact h4 k (by omega) q2)
    have hl3 := g1.len
    rw [g3]
    simp only [Option.bind_some, keep_ok hl3]
    obtain ⟨l4, k1, k2, k3⟩ := hG a m lim (decide ((W (Int.tdiv (W ((b : Int) - (a : Int))) (8 : Int))) ≤ (W ((b : Int) - (m : Int))))) fl l3 (Nat.le_refl _) (by omega) h2.1 (by omega) (by omega) (by omega) (by
      intro h0 k q1 q2
      rw [g1.2 k (.inl (by omega)), g1.2 (a - 1) (.inl (by omega))]
      exact hA2 h0 k q1 (by omega))
    refine ⟨l4, h1.trans ((g1.wide (by omega) (Nat.le_refl _)).trans (k1.wide (Nat.le_refl _) (by omega))), ?_, k3⟩
    refine join_srt h2 h3 h4 ?_ ?_ ?_ k2 ?_
    · intro k q1 q2
      obtain ⟨k', w1, w2⟩ := k1.from (by omega) ⟨q1, q2⟩
      exact ⟨k', w1, by rw [w2, g1.2 k' (.inl (by omega))]⟩
    · rw [k1.2 m (.inr (by omega)), g1.2 m (.inl (by omega))]
    · intro k q1 q2
      rw [k1.2 k (.inr (by omega))]
      exact g1.from (by omega) ⟨q1, q2⟩
    · intro p q q1 q2 q3
      rw [k1.2 p (.inr (by omega)), k1.2 q (.inr (by omega))]
      exact g2 p q q1 q2 q3
theorem f95_equal {n fu a b : Nat} (ih : Sorts n) (hn : b + (b - a) + 69 < n) (hba : b - a ≤ 500) (hG : Goes n fu a b) (hab : a + 2 ≤ b) {lim x : Int} {bal par : Bool} {l : List Spot} (hx : Bt a b x) (hbl : b ≤ l.length) (hl : l.length ≤ 100000) (hA : Abv a b l) :
    ∃ l', Out a b l l' ∧ Srt a b l' ∧ f95_c17 n (f95 n) (a : Int) (b : Int) bal par (f95_2 n (f95 n) fu) lim x l = some l' := by
  have hP := f95_part ih hn hba hG hab (lim := lim) hx hbl hl hA
  unfold f95_c17
  simp only [joinK]
  by_cases e : 0 < a
  · rw [show decide ((0 : Int) < (a : Int)) = true by simp; omega, W_dec e (by omega)]
    obtain ⟨xn, rfl⟩ : ∃ m : Nat, x = (m : Int) := ⟨x.toNat, by have := hx.1; omega⟩
    have hx1 : a ≤ xn := by have := hx.1; omega
    have hx2 : xn < b := by have := hx.2; omega
    obtain ⟨d, hd, hd2⟩ := f91_eq (N := n) (x := at' l (a - 1)) (y := at' l xn) (by omega)
    simp only [cond_true, ix_at (show a - 1 < l.length by omega), ix_at (show xn < l.length by omega), Option.bind_some, hd]
    by_cases hlt : ltS (at' l (a - 1)) (at' l xn)
    · simp only [hd2.2 hlt, decide_true, Bool.not_true, cond_false]
      exact hP
    · simp only [show ¬ d < 0 from fun h => hlt (hd2.1 h), decide_false, Bool.not_false, cond_true]
      obtain ⟨m, l2, h1, h2, h3, h4, h5⟩ := f104_eq (N := n) (a := a) (b := b) (x := xn) (l := l) (by omega) hab (by omega) ⟨hx1, hx2⟩ hbl (by omega) (fun k q1 q2 => leS_trans hlt (hA e k q1 q2))
      have hl2 := h1.len
      rw [h5]
      simp only [Option.bind_some, keep_ok hl2]
      obtain ⟨l3, k1, k2, k3⟩ := hG m b lim bal par l2 (by omega) (Nat.le_refl _) h2.2 (by omega) (by omega) (by omega) (by
        intro _ k q1 q2
        rw [h3 (m - 1) (by omega) (by omega)]
        exact ltS_asymm (h4 k q1 q2))
      refine ⟨l3, h1.trans (k1.wide (by omega) (Nat.le_refl _)), ?_, k3⟩
      intro p q q1 q2 q3
      have low : ∀ k, a ≤ k → k < m → at' l3 k = at' l xn := fun k g1 g2 => by rw [k1.2 k (.inl g2)]; exact h3 k g1 g2
      by_cases e1 : q < m
      · rw [low p q1 (by omega), low q (by omega) e1]; exact ltS_irrefl
      · by_cases e2 : p < m
        · rw [low p q1 e2]
          obtain ⟨k', w1, w2⟩ := k1.from (by omega) (k := q) ⟨by omega, q3⟩
          rw [w2]; exact ltS_asymm (h4 k' w1.1 w1.2)
        · exact k2 p q (by omega) q2 q3
  · rw [show decide ((0 : Int) < (a : Int)) = false by simp; omega]
    exact hP
theorem f95_few {n fu a b : Nat} (ih : Sorts n) (hn : b + (b - a) + 69 < n) (hba : b - a ≤ 500) (hG : Goes n fu a b) (hab : a + 2 ≤ b) {lim x hint : Int} {bal par : Bool} {l : List Spot} (hx : Bt a b x) (hbl : b ≤ l.length) (hl : l.length ≤ 100000) (hA : Abv a b l) :
    ∃ l', Out a b l l' ∧ Srt a b l' ∧ f95_c15 n (f95 n) (a : Int) (b : Int) bal par (f95_2 n (f95 n) fu) lim x hint l = some l' := by
  have hP := f95_equal ih hn hba hG hab (lim := lim) (bal := bal) (par := par) hx hbl hl hA
  unfold f95_c15
  simp only [joinK]
  cases bal with
  | false => exact hP
  | true => cases par with
    | false => exact hP
    | true =>
      simp only [cond_true]
      by_cases e : hint = 1
      · simp only [e, decide_true, cond_true]
        obtain ⟨r, l2, h1, h2, h3⟩ := f103_eq (N := n) (a := a) (b := b) (l := l) (by omega) (by omega) (by omega) hbl (by omega) hA
        have hl2 := h1.len
        rw [h3]
        simp only [Option.bind_some, keep_ok hl2]
        cases r with
        | true => exact ⟨l2, h1, h2 rfl, rfl⟩
        | false =>
          obtain ⟨l3, k1, k2, k3⟩ := f95_equal ih hn hba hG hab (lim := lim) (bal := true) (par := true) (l := l2) hx (by omega) (by omega) (hA.out h1 hbl)
          exact ⟨l3, h1.trans k1, k2, k3⟩
      · simp only [e, decide_false, cond_false]
        exact hP
theorem f95_turn {n fu a b : Nat} (ih : Sorts n) (hn : b + (b - a) + 69 < n) (hba : b - a ≤ 500) (hG : Goes n fu a b) (hab : a + 8 ≤ b) {lim : Int} {bal par : Bool} {l : List Spot} (hbl : b ≤ l.length) (hl : l.length ≤ 100000) (hA : Abv a b l) :
    ∃ l', Out a b l l' ∧ Srt a b l' ∧ f95_c10 n (f95 n) (a : Int) (b : Int) bal par (f95_2 n (f95 n) fu) lim l = some l' := by
  obtain ⟨y, h, h1, h2⟩ := f101_eq (N := n) (a := a) (b := b) (l := l) (by omega) hab hbl (by omega)
  unfold f95_c10
  rw [h1]
  simp only [joinK, Option.bind_some]
  by_cases e : h = 2
  · simp only [e, decide_true, cond_true]
    obtain ⟨l2, g1, g2⟩ := f102_eq (N := n) (a := a) (b := b) (l := l) (by omega) (by omega) (by omega) hbl (by omega)
    have hl2 := g1.len
    rw [g2]
    simp only [Option.bind_some, keep_ok hl2]
    have hy : Bt a b (W (W ((b : Int) - 1) - W (y - (a : Int)))) := by
      have := h2.1; have := h2.2
      rw [Wi (n := (b : Int) - 1) (by omega) (by omega), Wi (n := y - (a : Int)) (by omega) (by omega), Wi (by omega) (by omega)]
      exact ⟨by omega, by omega⟩
    obtain ⟨l3, k1, k2, k3⟩ := f95_few ih hn hba hG (by omega) (lim := lim) (bal := bal) (par := par) (hint := 1) (l := l2) hy (by omega) (by omega) (hA.out g1 hbl)
    exact ⟨l3, g1.trans k1, k2, k3⟩
  · simp only [e, decide_false, cond_false]
    exact f95_few ih hn hba hG (by omega) h2 hbl hl hA
theorem f95_loop {n : Nat} (ih : Sorts n) : ∀ (fu a b : Nat) (lim : Int) (bal par : Bool) (l : List Spot), b - a < fu → a ≤ b → b ≤ l.length → l.length ≤ 100000 → b - a ≤ 500 → b + (b - a) + 69 < n → Abv a b l →
    ∃ l', Out a b l l' ∧ Srt a b l' ∧ f95_2 n (f95 n) fu (a : Int) (b : Int) lim bal par l = some l' := by
  intro fu
  induction fu with
  | zero => intro a b lim bal par l h; omega
  | succ fu ihf =>
    intro a b lim bal par l hf hab hbl hl hba hn hA
    have hG : Goes n fu a b := fun a' b' lim bal par l h1 h2 h3 h4 h5 h6 h7 => ihf a' b' lim bal par l (by omega) h3 h5 h6 (by omega) (by omega) h7
    have hw0 : W ((b : Int) - (a : Int)) = ((b - a : Nat) : Int) := by rw [Wi (by omega) (by omega)]; omega
    unfold f95_2 f95_2b
    rw [hw0]
    by_cases e : b - a ≤ 12
    · obtain ⟨l2, h1, h2, h3⟩ := f98_eq (N := n) (a := a) (b := b) (l := l) (by omega) hab (by omega) hbl (by omega)
      rw [show decide (((b - a : Nat) : Int) ≤ (12 : Int)) = true by simp; omega, h3]
      simp only [cond_true, Option.bind_some, keep_ok h1.len]
      exact ⟨l2, h1, h2, rfl⟩
    · rw [show decide (((b - a : Nat) : Int) ≤ (12 : Int)) = false by simp; omega]
      simp only [cond_false, joinK]
      by_cases e2 : lim = 0
      · obtain ⟨l2, h1, h2, h3⟩ := f99_eq (N := n) (a := a) (b := b) (l := l) (by omega) (by omega) (by omega) hbl hl
        simp only [e2, decide_true, cond_true, h3, Option.bind_some, keep_ok h1.len]
        exact ⟨l2, h1, h2, rfl⟩
      · simp only [e2, decide_false, cond_false]
        cases bal with
        | true =>
          simp only [Bool.not_true, cond_false]
          exact f95_turn ih hn hba hG (by omega) hbl hl hA
        | false =>
          simp only [Bool.not_false, cond_true]
          obtain ⟨l2, h1, h2⟩ := f100_eq (N := n) (a := a) (b := b) (l := l) (by omega) (by omega) hba (by omega) hbl (by omega)
          have hl2 := h1.len
          rw [h2]
          simp only [Option.bind_some, keep_ok hl2]
          obtain ⟨l3, k1, k2, k3⟩ := f95_turn ih hn hba hG (by omega) (lim := W (lim - 1)) (bal := false) (par := par) (l := l2) (by omega) (by omega) (hA.out h1 hbl)
          exact ⟨l3, h1.trans k1, k2, k3⟩
theorem f95_all : ∀ n, Sorts n := by
  intro n
  induction n with
  | zero => intro a b lim l h1 h2 h3 h4 h5; omega
  | succ n ih =>
    intro a b lim l h1 h2 h3 h4 h5 h6
    exact f95_loop ih n a b lim true true l (by omega) h1 h2 h3 h4 (by omega) h6
theorem f95_eq {N : Nat} {lim : Int} {l : List Spot} (hl : l.length ≤ 500) (hN : 1100 ≤ N) : ∃ l', l'.Perm l ∧ Srt 0 l.length l' ∧ f95 N 0 (l.length : Int) lim l = some l' := by
  obtain ⟨l', h1, h2, h3⟩ := f95_all N 0 l.length lim l (by omega) (Nat.le_refl _) (by omega) (by omega) (by omega) (fun h => by omega)
  exact ⟨l', h1.1, h2, h3⟩
end Go.Vc
namespace Go.Vc
open Go.Proofs
set_option linter.unusedVariables false
set_option linter.unnecessarySimpa false
set_option linter.unusedSimpArgs false
end Go.Vc
namespace Go.Vc
open Go.Proofs
set_option linter.unusedVariables false
set_option linter.unnecessarySimpa false
set_option linter.unusedSimpArgs false
end Go.Vc
namespace Go.Vc
open Go.Proofs
set_option linter.unusedVariables false
set_option linter.unnecessarySimpa false
set_option linter.unusedSimpArgs false
end Go.Vc
namespace Go.Vc
set_option linter.unusedVariables false
set_option linter.unnecessarySimpa false
set_option linter.unusedSimpArgs false
set_option linter.unusedSimpArgs false
def Cnd (q : Bool) (t : List (List Int)) (s a b : Nat) : Prop :=
  dl t s (bif q then [(a : Int), (a : Int)] else [(a : Int), (b : Int)]) = dl t s (bif q then [(b : Int), (b : Int)] else [(b : Int), (a : Int)])
instance (q : Bool) (t : List (List Int)) (s a b : Nat) : Decidable (Cnd q t s a b) := by unfold Cnd; infer_instance
def V (q : Bool) (t : List (List Int)) (x : Spot) : Prop := (0 ≤ x.State ∧ x.State < t.length) ∧ (0 ≤ x.A ∧ x.A < x.B ∧ x.B < t.length) ∧ Cnd q t x.State.toNat x.A.toNat x.B.toNat
def SpotsOf (q : Bool) (t : List (List Int)) (l : List Spot) : Prop := l.Pairwise ltS ∧ ∀ x, x ∈ l ↔ V q t x
theorem ltS_nodup {l : List Spot} (h : l.Pairwise ltS) : l.Nodup := h.imp fun h e => by subst e; exact ltS_irrefl h
def ltO (x y : Spot) : Prop := x.State < y.State ∨ (x.State = y.State ∧ (x.B < y.B ∨ (x.B = y.B ∧ x.A < y.A)))
def Bld (R : Spot → Spot → Prop) (q : Bool) (t : List (List Int)) (s a b : Nat) (l : List Spot) : Prop := l.Pairwise R ∧ ∀ x, x ∈ l ↔ V q t x ∧ R x ⟨s, a, b⟩
theorem spot_eq {x : Spot} {s a b : Int} (h1 : x.State = s) (h2 : x.A = a) (h3 : x.B = b) : x = ⟨s, a, b⟩ := by cases x; simp_all
theorem bld_add {q : Bool} {t : List (List Int)} {s a b : Nat} {l : List Spot} (h : Bld ltO q t s a b l) (hv : V q t ⟨s, a, b⟩) : Bld ltO q t s (a + 1) b (l ++ [⟨s, a, b⟩]) := by
  refine ⟨List.pairwise_append.2 ⟨h.1, by simp, fun x hx y hy => ?_⟩, fun x => ?_⟩
  · rw [List.mem_singleton.1 hy]; exact ((h.2 x).1 hx).2
  · rw [List.mem_append, h.2 x, List.mem_singleton]
    constructor
    · rintro (⟨h1, h2⟩ | rfl)
      · exact ⟨h1, by unfold ltO at *; simp only at *; omega⟩
      · exact ⟨hv, .inr ⟨rfl, .inr ⟨rfl, by show (a : Int) < ((a + 1 : Nat) : Int); omega⟩⟩⟩
    · rintro ⟨h1, h2⟩
      by_cases e : ltO x ⟨s, a, b⟩
      · exact .inl ⟨h1, e⟩
      · refine .inr (spot_eq ?_ ?_ ?_) <;> (unfold ltO at *; simp only at *; omega)
theorem bld_skip {q : Bool} {t : List (List Int)} {s a b : Nat} {l : List Spot} (h : Bld ltO q t s a b l) (hv : ¬ V q t ⟨s, a, b⟩) : Bld ltO q t s (a + 1) b l := by
  refine ⟨h.1, fun x => ?_⟩
  rw [h.2 x]
  constructor
  · rintro ⟨h1, h2⟩
    exact ⟨h1, by unfold ltO at *; simp only at *; omega⟩
  · rintro ⟨h1, h2⟩
    by_cases e : ltO x ⟨s, a, b⟩
    · exact ⟨h1, e⟩
    · have : x = ⟨s, a, b⟩ := by refine spot_eq ?_ ?_ ?_ <;> (unfold ltO at *; simp only at *; omega)
      rw [this] at h1; exact absurd h1 hv
theorem bld_row {q : Bool} {t : List (List Int)} {s b : Nat} {l : List Spot} (h : Bld ltO q t s b b l) : Bld ltO q t s 0 (b + 1) l := by
  refine ⟨h.1, fun x => ?_⟩
  rw [h.2 x]
  refine and_congr_right fun hv => ?_
  obtain ⟨⟨h1, h2⟩, ⟨h3, h4, h5⟩, _⟩ := hv
  unfold ltO; simp only; omega
theorem bld_state {q : Bool} {t : List (List Int)} {s : Nat} {l : List Spot} (h : Bld ltO q t s 0 t.length l) : Bld ltO q t (s + 1) 0 0 l := by
  refine ⟨h.1, fun x => ?_⟩
  rw [h.2 x]
  refine and_congr_right fun hv => ?_
  obtain ⟨⟨h1, h2⟩, ⟨h3, h4, h5⟩, _⟩ := hv
  unfold ltO; simp only; omega
theorem bld_nil {q : Bool} {t : List (List Int)} : Bld ltO q t 0 0 0 [] := by
  refine ⟨by simp, fun x => ?_⟩
  simp only [List.not_mem_nil, false_iff]
  rintro ⟨⟨⟨h1, h2⟩, ⟨h3, h4, h5⟩, _⟩, h6⟩
  unfold ltO at h6; simp only at h6; omega
theorem bld_all {q : Bool} {t : List (List Int)} {l : List Spot} (h : Bld ltO q t t.length 0 0 l) : l.Nodup ∧ ∀ x, x ∈ l ↔ V q t x := by
  refine ⟨h.1.imp fun h e => by subst e; unfold ltO at h; omega, fun x => ?_⟩
  rw [h.2 x]
  refine ⟨fun hx => hx.1, fun hv => ⟨hv, ?_⟩⟩
  obtain ⟨⟨h1, h2⟩, ⟨h3, h4, h5⟩, _⟩ := hv
  unfold ltO; simp only; omega
theorem v_mk {q : Bool} {t : List (List Int)} {s a b : Nat} (hs : s < t.length) (hb : b < t.length) (hab : a < b) : V q t ⟨s, a, b⟩ ↔ Cnd q t s a b := by
  unfold V
  constructor
  · intro h; exact h.2.2
  · intro h; exact ⟨by simp only; omega, by simp only; omega, h⟩
def tri : Nat → Nat
  | 0 => 0
  | b + 1 => tri b + b
theorem tri_le {n : Nat} (h : n ≤ 10) : tri n ≤ 45 := by
  have : ∀ n : Fin 11, tri n.val ≤ 45 := by decide
  exact this ⟨n, by omega⟩
theorem dig2 {t : List (List Int)} {a b : Nat} (ha : a < t.length) (hb : b < t.length) : Dig t [(a : Int), (b : Int)] := by
  intro x hx
  simp at hx
  rcases hx with rfl | rfl <;> omega
theorem sort_of {q : Bool} {t : List (List Int)} {l l' : List Spot} (h : Bld ltO q t t.length 0 0 l) (hp : l'.Perm l) (hs : Srt 0 l.length l') : SpotsOf q t l' := by
  obtain ⟨h1, h2⟩ := bld_all h
  refine ⟨List.pairwise_iff_getElem.2 fun i j hi hj hij => ?_, fun x => by rw [hp.mem_iff]; exact h2 x⟩
  have hl := hp.length_eq
  have hn : l'.Nodup := hp.nodup_iff.2 h1
  have h3 := hs i j (by omega) hij (by omega)
  have e1 : at' l' i = l'[i] := by simp [at', hi]
  have e2 : at' l' j = l'[j] := by simp [at', hj]
  rw [e1, e2] at h3
  by_cases e : ltS l'[i] l'[j]
  · exact e
  · have := leS_antisymm h3 e
    exact absurd this (List.pairwise_iff_getElem.1 hn i j hi hj hij)
theorem f43_in {N : Nat} {t : List (List Int)} (h : Lat t) (hN : 100 ≤ N) {s b : Nat} (hs : s < t.length) (hb : b < t.length) {k2 : List Spot → Option (List Spot × Int)} {L : Nat} (hL : L ≤ 2000) : ∀ (fu a : Nat) (l : List Spot), b - a < fu → a ≤ b → Bld ltO false t s a b l → l.length ≤ L + a →
    ∃ l', Bld ltO false t s b b l' ∧ l'.length ≤ L + b ∧ f43_i101_12 t N (s : Int) (b : Int) k2 fu l (a : Int) = k2 l' := by
  have h10 := h.hi
  intro fu
  induction fu with
  | zero => intro a l hf; omega
  | succ fu ih =>
    intro a l hf hab hB hl
    unfold f43_i101_12 f43_i101_12b
    by_cases e : a = b
    · subst e
      refine ⟨l, hB, hl, ?_⟩
      rw [show decide ((a : Int) < (a : Int)) = false by simp]
      rfl
    · rw [show decide ((a : Int) < (b : Int)) = true by simp; omega]
      have hp : f77 N (a : Int) (b : Int) = some ([(a : Int), (b : Int)], [(b : Int), (a : Int)]) := rfl
      rw [hp]
      simp only [cond_true, Option.bind_some]
      rw [f59_eq h.toSq (dig2 (by omega) (by omega)) hs (by simp) hN, f59_eq h.toSq (dig2 (by omega) (by omega)) hs (by simp) hN]
      simp only [Option.bind_some]
      rw [W_nat (by omega)]
      by_cases c : Cnd false t s a b
      · have c' : ((dl t s [(a : Int), (b : Int)] : Nat) : Int) = ((dl t s [(b : Int), (a : Int)] : Nat) : Int) := congrArg _ c
        rw [c']
        simp only [decide_true, cond_true]
        rw [app_ok (by simp; omega) (by simp; omega)]
        simp only [Option.bind_some]
        obtain ⟨l', h1, h2, h3⟩ := ih (a + 1) (l ++ [⟨s, a, b⟩]) (by omega) (by omega) (bld_add hB ((v_mk hs hb (by omega)).2 c)) (by simp; omega)
        exact ⟨l', h1, h2, h3⟩
      · have c' : ¬ ((dl t s [(a : Int), (b : Int)] : Nat) : Int) = ((dl t s [(b : Int), (a : Int)] : Nat) : Int) := fun e => c (Int.ofNat.inj e)
        simp only [c', decide_false, cond_false]
        obtain ⟨l', h1, h2, h3⟩ := ih (a + 1) l (by omega) (by omega) (bld_skip hB fun hv => c ((v_mk hs hb (by omega)).1 hv)) (by omega)
        exact ⟨l', h1, h2, h3⟩
theorem f43_mid {N : Nat} {t : List (List Int)} (h : Lat t) (hN : 100 ≤ N) {s : Nat} (hs : s < t.length) {k1 : List Spot → Option (List Spot × Int)} : ∀ (fu b : Nat) (l : List Spot), t.length - b < fu → b ≤ t.length → Bld ltO false t s 0 b l → l.length ≤ 45 * s + tri b →
    ∃ l', Bld ltO false t (s + 1) 0 0 l' ∧ l'.length ≤ 45 * (s + 1) ∧ f43_i101_9 t N (s : Int) k1 fu l (b : Int) = k1 l' := by
  have h10 := h.hi
  intro fu
  induction fu with
  | zero => intro b l hf; omega
  | succ fu ih =>
    intro b l hf hb hB hl
    unfold f43_i101_9 f43_i101_9b
    by_cases e : b = t.length
    · subst e
      have := tri_le h10
      refine ⟨l, bld_state hB, by omega, ?_⟩
      rw [show decide ((t.length : Int) < (t.length : Int)) = false by simp]
      rfl
    · rw [show decide ((b : Int) < (t.length : Int)) = true by simp; omega]
      simp only [cond_true, joinK]
      have := tri_le (n := b) (by omega)
      obtain ⟨l1, h1, h2, h3⟩ := f43_in h hN hs (b := b) (by omega) (k2 := f43_i101_c18 t (s : Int) (b : Int) (f43_i101_9 t N (s : Int) k1 fu)) (L := 45 * s + tri b) (by omega) N 0 l (by omega) (by omega) hB (by omega)
      rw [show (0 : Int) = ((0 : Nat) : Int) from rfl, h3]
      unfold f43_i101_c18
      rw [W_nat (by omega)]
      exact ih (b + 1) l1 (by omega) (by omega) (bld_row h1) (by simp only [tri]; omega)
theorem f43_out {N : Nat} {t : List (List Int)} (h : Lat t) (hN : 100 ≤ N) {k0 : List Spot → Option (List Spot × Int)} : ∀ (fu s : Nat) (l : List Spot), t.length - s < fu → s ≤ t.length → Bld ltO false t s 0 0 l → l.length ≤ 45 * s →
    ∃ l', Bld ltO false t t.length 0 0 l' ∧ l'.length ≤ 450 ∧ f43_i101_6 t N k0 fu l (s : Int) = k0 l' := by
  have h10 := h.hi
  intro fu
  induction fu with
  | zero => intro b l hf; omega
  | succ fu ih =>
    intro s l hf hs hB hl
    unfold f43_i101_6 f43_i101_6b
    by_cases e : s = t.length
    · subst e
      refine ⟨l, hB, by omega, ?_⟩
      rw [show decide ((t.length : Int) < (t.length : Int)) = false by simp]
      rfl
    · rw [show decide ((s : Int) < (t.length : Int)) = true by simp; omega]
      simp only [cond_true, joinK]
      obtain ⟨l1, h1, h2, h3⟩ := f43_mid h hN (s := s) (by omega) (k1 := f43_i101_c19 t (s : Int) (f43_i101_6 t N k0 fu)) N 0 l (by omega) (by omega) hB (by simp only [tri]; omega)
      rw [show (0 : Int) = ((0 : Nat) : Int) from rfl, h3]
      unfold f43_i101_c19
      rw [W_nat (by omega)]
      exact ih (s + 1) l1 (by omega) (by omega) h1 (by omega)
theorem f43_eq {N : Nat} {t : List (List Int)} (hs : Small t) (hN : 1200 ≤ N) : (Lat t ∧ ∃ l, SpotsOf false t l ∧ f43 N t = some (l, 0)) ∨ (chkT t ≠ 0 ∧ f43 N t = some ([], chkT t)) := by
  unfold f43
  rw [f49_eq hs (by omega)]
  simp only [Option.bind_some]
  by_cases e : chkT t = 0
  · left
    have h := chkT_good.1 e
    refine ⟨h, ?_⟩
    simp only [e, not_true, decide_false, cond_false, joinK]
    have h10 := h.hi
    obtain ⟨l, h1, h2, h3⟩ := f43_out h (N := N) (by omega) (k0 := f43_i101_c20 N) N 0 [] (by omega) (by omega) bld_nil (by simp)
    rw [show (0 : Int) = ((0 : Nat) : Int) from rfl, h3]
    unfold f43_i101_c20
    have hw : Wk .u64 ((l.length : Nat) : Int) = (l.length : Int) := by
      have := wrap_u64 (q := l.length) (by omega)
      unfold Wk
      cases inB .u64 ((l.length : Nat) : Int) with
      | true => rfl
      | false => exact this
    rw [hw]
    obtain ⟨p, hp, _⟩ := f96_eq (N := N) (m := l.length) (by omega)
    rw [hp]
    simp only [Option.bind_some]
    obtain ⟨l', g1, g2, g3⟩ := f95_eq (N := N) (lim := p) (l := l) (by omega) (by omega)
    rw [g3]
    simp only [Option.bind_some, keep_ok g1.length_eq]
    exact ⟨l', sort_of h1 g1 g2, rfl⟩
  · right
    refine ⟨e, ?_⟩
    simp only [e, not_false_eq_true, decide_true, cond_true]
theorem f45_in {N : Nat} {t : List (List Int)} (h : Lat t) (hN : 100 ≤ N) {s b : Nat} (hs : s < t.length) (hb : b < t.length) {k2 : List Spot → Option (List Spot × Int)} {L : Nat} (hL : L ≤ 2000) : ∀ (fu a : Nat) (l : List Spot), b - a < fu → a ≤ b → Bld ltO true t s a b l → l.length ≤ L + a →
    ∃ l', Bld ltO true t s b b l' ∧ l'.length ≤ L + b ∧ f45_i101_12 t N (s : Int) (b : Int) k2 fu l (a : Int) = k2 l' := by
  have h10 := h.hi
  intro fu
  induction fu with
  | zero => intro a l hf; omega
  | succ fu ih =>
    intro a l hf hab hB hl
    unfold f45_i101_12 f45_i101_12b
    by_cases e : a = b
    · subst e
      refine ⟨l, hB, hl, ?_⟩
      rw [show decide ((a : Int) < (a : Int)) = false by simp]
      rfl
    · rw [show decide ((a : Int) < (b : Int)) = true by simp; omega]
      have hp : f79 N (a : Int) (b : Int) = some ([(a : Int), (a : Int)], [(b : Int), (b : Int)]) := rfl
      rw [hp]
      simp only [cond_true, Option.bind_some]
      rw [f59_eq h.toSq (dig2 (by omega) (by omega)) hs (by simp) hN, f59_eq h.toSq (dig2 (by omega) (by omega)) hs (by simp) hN]
      simp only [Option.bind_some]
      rw [W_nat (by omega)]
      by_cases c : Cnd true t s a b
      · have c' : ((dl t s [(a : Int), (a : Int)] : Nat) : Int) = ((dl t s [(b : Int), (b : Int)] : Nat) : Int) := congrArg _ c
        rw [c']
        simp only [decide_true, cond_true]
        rw [app_ok (by simp; omega) (by simp; omega)]
        simp only [Option.bind_some]
        obtain ⟨l', h1, h2, h3⟩ := ih (a + 1) (l ++ [⟨s, a, b⟩]) (by omega) (by omega) (bld_add hB ((v_mk hs hb (by omega)).2 c)) (by simp; omega)
        exact ⟨l', h1, h2, h3⟩
      · have c' : ¬ ((dl t s [(a : Int), (a : Int)] : Nat) : Int) = ((dl t s [(b : Int), (b : Int)] : Nat) : Int) := fun e => c (Int.ofNat.inj e)
        simp only [c', decide_false, cond_false]
        obtain ⟨l', h1, h2, h3⟩ := ih (a + 1) l (by omega) (by omega) (bld_skip hB fun hv => c ((v_mk hs hb (by omega)).1 hv)) (by omega)
        exact ⟨l', h1, h2, h3⟩
theorem f45_mid {N : Nat} {t : List (List Int)} (h : Lat t) (hN : 100 ≤ N) {s : Nat} (hs : s < t.length) {k1 : List Spot → Option (List Spot × Int)} : ∀ (fu b : Nat) (l : List Spot), t.length - b < fu → b ≤ t.length → Bld ltO true t s 0 b l → l.length ≤ 45 * s + tri b →
    ∃ l', Bld ltO true t (s + 1) 0 0 l' ∧ l'.length ≤ 45 * (s + 1) ∧ f45_i101_9 t N (s : Int) k1 fu l (b : Int) = k1 l' := by
  have h10 := h.hi
  intro fu
  induction fu with
  | zero => intro b l hf; omega
  | succ fu ih =>
    intro b l hf hb hB hl
    unfold f45_i101_9 f45_i101_9b
    by_cases e : b = t.length
    · subst e
      have := tri_le h10
      refine ⟨l, bld_state hB, by omega, ?_⟩
      rw [show decide ((t.length : Int) < (t.length : Int)) = false by simp]
      rfl
    · rw [show decide ((b : Int) < (t.length : Int)) = true by simp; omega]
      simp only [cond_true, joinK]
      have := tri_le (n := b) (by omega)
      obtain ⟨l1, h1, h2, h3⟩ := f45_in h hN hs (b := b) (by omega) (k2 := f45_i101_c18 t (s : Int) (b : Int) (f45_i101_9 t N (s : Int) k1 fu)) (L := 45 * s + tri b) (by omega) N 0 l (by omega) (by omega) hB (by omega)
      rw [show (0 : Int) = ((0 : Nat) : Int) from rfl, h3]
      unfold f45_i101_c18
      rw [W_nat (by omega)]
      exact ih (b + 1) l1 (by omega) (by omega) (bld_row h1) (by simp only [tri]; omega)
theorem f45_out {N : Nat} {t : List (List Int)} (h : Lat t) (hN : 100 ≤ N) {k0 : List Spot → Option (List Spot × Int)} : ∀ (fu s : Nat) (l : List Spot), t.length - s < fu → s ≤ t.length → Bld ltO true t s 0 0 l → l.length ≤ 45 * s →
    ∃ l', Bld ltO true t t.length 0 0 l' ∧ l'.length ≤ 450 ∧ f45_i101_6 t N k0 fu l (s : Int) = k0 l' := by
  have h10 := h.hi
  intro fu
  induction fu with
  | zero => intro b l hf; omega
  | succ fu ih =>
    intro s l hf hs hB hl
    unfold f45_i101_6 f45_i101_6b
    by_cases e : s = t.length
    · subst e
      refine ⟨l, hB, by omega, ?_⟩
      rw [show decide ((t.length : Int) < (t.length : Int)) = false by simp]
      rfl
    · rw [show decide ((s : Int) < (t.length : Int)) = true by simp; omega]
      simp only [cond_true, joinK]
      obtain ⟨l1, h1, h2, h3⟩ := f45_mid h hN (s := s) (by omega) (k1 := f45_i101_c19 t (s : Int) (f45_i101_6 t N k0 fu)) N 0 l (by omega) (by omega) hB (by simp only [tri]; omega)
      rw [show (0 : Int) = ((0 : Nat) : Int) from rfl, h3]
      unfold f45_i101_c19
      rw [W_nat (by omega)]
      exact ih (s + 1) l1 (by omega) (by omega) h1 (by omega)
theorem f45_eq {N : Nat} {t : List (List Int)} (hs : Small t) (hN : 1200 ≤ N) : (Lat t ∧ ∃ l, SpotsOf true t l ∧ f45 N t = some (l, 0)) ∨ (chkT t ≠ 0 ∧ f45 N t = some ([], chkT t)) := by
  unfold f45
  rw [f49_eq hs (by omega)]
  simp only [Option.bind_some]
  by_cases e : chkT t = 0
  · left
    have h := chkT_good.1 e
    refine ⟨h, ?_⟩
    simp only [e, not_true, decide_false, cond_false, joinK]
    have h10 := h.hi
    obtain ⟨l, h1, h2, h3⟩ := f45_out h (N := N) (by omega) (k0 := f45_i101_c20 N) N 0 [] (by omega) (by omega) bld_nil (by simp)
    rw [show (0 : Int) = ((0 : Nat) : Int) from rfl, h3]
    unfold f45_i101_c20
    have hw : Wk .u64 ((l.length : Nat) : Int) = (l.length : Int) := by
      have := wrap_u64 (q := l.length) (by omega)
      unfold Wk
      cases inB .u64 ((l.length : Nat) : Int) with
      | true => rfl
      | false => exact this
    rw [hw]
    obtain ⟨p, hp, _⟩ := f96_eq (N := N) (m := l.length) (by omega)
    rw [hp]
    simp only [Option.bind_some]
    obtain ⟨l', g1, g2, g3⟩ := f95_eq (N := N) (lim := p) (l := l) (by omega) (by omega)
    rw [g3]
    simp only [Option.bind_some, keep_ok g1.length_eq]
    exact ⟨l', sort_of h1 g1 g2, rfl⟩
  · right
    refine ⟨e, ?_⟩
    simp only [e, not_false_eq_true, decide_true, cond_true]
theorem SpotsOf.few {q : Bool} {t : List (List Int)} (ht : t.length ≤ 10) {l : List Spot} (h : SpotsOf q t l) : l.length ≤ 1000 := by
  have hsub : l ⊆ (List.range 10).flatMap fun (s : Nat) => (List.range 10).flatMap fun (a : Nat) => (List.range 10).map fun (b : Nat) => (⟨(s : Int), (a : Int), (b : Int)⟩ : Spot) := by
    intro x hx
    obtain ⟨⟨h1, h2⟩, ⟨h3, h4, h5⟩, _⟩ := (h.2 x).1 hx
    simp only [List.mem_flatMap, List.mem_map, List.mem_range]
    exact ⟨x.State.toNat, by omega, x.A.toNat, by omega, x.B.toNat, by omega, (spot_eq (by omega) (by omega) (by omega)).symm⟩
  have := (ltS_nodup h.1).length_le_of_subset hsub
  have e : ((List.range 10).flatMap fun (s : Nat) => (List.range 10).flatMap fun (a : Nat) => (List.range 10).map fun (b : Nat) => (⟨(s : Int), (a : Int), (b : Int)⟩ : Spot)).length = 1000 := by kernel_rfl
  omega
end Go.Vc
namespace Go.Vc
set_option linter.unusedVariables false
set_option linter.unnecessarySimpa false
set_option linter.unusedSimpArgs false
set_option linter.unusedSimpArgs false
def rng (n : Nat) : List Int := (List.range n).map fun (i : Nat) => (i : Int)
theorem rng_succ {n : Nat} : rng (n + 1) = rng n ++ [(n : Int)] := by simp [rng, List.range_succ]
theorem rng_len {n : Nat} : (rng n).length = n := by simp [rng]
theorem rng_mem {n : Nat} {x : Int} (h : x ∈ rng n) : 0 ≤ x ∧ x < n := by
  simp only [rng, List.mem_map, List.mem_range] at h
  obtain ⟨a, h1, rfl⟩ := h; omega
theorem rng_nodup {n : Nat} : (rng n).Nodup := by
  unfold rng List.Nodup
  rw [List.pairwise_map]
  exact List.Pairwise.imp (fun h => by omega) List.nodup_range
def B5 (a : A5u8N) : Prop := (0 ≤ a.e0 ∧ a.e0 ≤ 255) ∧ (0 ≤ a.e1 ∧ a.e1 ≤ 255) ∧ (0 ≤ a.e2 ∧ a.e2 ≤ 255) ∧ (0 ≤ a.e3 ∧ a.e3 ≤ 255) ∧ (0 ≤ a.e4 ∧ a.e4 ≤ 255)
theorem B5.get {a : A5u8N} (h : B5 a) {k : Nat} (hk : k < 5) : ∃ x : Nat, ixN [a.e0, a.e1, a.e2, a.e3, a.e4] k = some (x : Int) := by
  obtain ⟨h0, h1, h2, h3, h4⟩ := h
  match k, hk with
  | 0, _ => exact ⟨a.e0.toNat, by simp [ixN]; omega⟩
  | 1, _ => exact ⟨a.e1.toNat, by simp [ixN]; omega⟩
  | 2, _ => exact ⟨a.e2.toNat, by simp [ixN]; omega⟩
  | 3, _ => exact ⟨a.e3.toNat, by simp [ixN]; omega⟩
  | 4, _ => exact ⟨a.e4.toNat, by simp [ixN]; omega⟩
theorem perm_step {l o : List Int} {i : Nat} (hi : i < l.length) : ((l.take i ++ l.drop (i + 1)) ++ (o ++ [l[i]])).Perm (l ++ o) := by
  rw [List.perm_iff_count]
  intro a
  have h : List.count a l = List.count a (l.take i) + List.count a (l[i] :: l.drop (i + 1)) := by
    rw [← List.count_append, ← List.drop_eq_getElem_cons hi, List.take_append_drop]
  rw [List.count_cons] at h
  simp only [List.count_append, List.count_cons, List.count_nil] at h ⊢
  omega
theorem f54_loop {a : A5u8N} (ha : B5 a) {n : Nat} (hn : n ≤ 5) : ∀ (fu : Nat) (left out : List Int), left.length < fu → left.length + out.length = n → (left ++ out).Perm (rng n) →
    ∃ l : List Int, l.Perm (rng n) ∧ f54_7 a f54_c12 fu left out (out.length : Int) = some l := by
  intro fu
  induction fu with
  | zero => intro left out h; omega
  | succ fu ih =>
    intro left out hf hl hp
    by_cases e : left.length = 0
    · have : left = [] := List.eq_nil_of_length_eq_zero e
      subst this
      refine ⟨out, by simpa using hp, ?_⟩
      conv => lhs; unfold f54_7 f54_7b
      simp [f54_c12]
    · obtain ⟨x, hx⟩ := ha.get (k := out.length) (by omega)
      have hi : x % left.length < left.length := Nat.mod_lt _ (by omega)
      generalize hq : x % left.length = i at hi
      obtain ⟨l, hl1, hl2⟩ := ih (left.take i ++ left.drop (i + 1)) (out ++ [left[i]]) (by simp; omega) (by simp; omega) ((perm_step hi).trans hp)
      refine ⟨l, hl1, ?_⟩
      conv => lhs; unfold f54_7 f54_7b
      rw [show decide ((0 : Int) < (left.length : Int)) = true by simp; omega]
      simp only [cond_true, chkI_ok (n := 5) (show 0 ≤ (out.length : Int) by omega) (by omega), Option.bind_some, Int.toNat_natCast, hx, chk_pos (show 0 < left.length by omega), tmod_nat, hq, joinK, ix_get hi]
      rw [app_ok (by simp; omega) (by simp; omega)]
      simp only [Option.bind_some]
      unfold f54_c11
      simp only [tmod_nat, hq]
      rw [sub_pre (by omega)]
      simp only [Option.bind_some]
      rw [app_ok (by simp; omega) (by simp; omega)]
      simp only [Option.bind_some, List.nil_append]
      rw [W_nat (by omega), sub_post (by omega)]
      simp only [Option.bind_some]
      rw [app_ok (by simp; omega) (by simp; omega)]
      simp only [Option.bind_some]
      rw [W_nat (by omega)]
      simpa using hl2
theorem f54_eq {N : Nat} {a : A5u8N} (ha : B5 a) {n : Nat} (hn : n ≤ 5) (hN : 30 ≤ N) : ∃ l : List Int, l.Perm (rng n) ∧ f54 N (n : Int) a = some l := by
  obtain ⟨l, h1, h2⟩ := f54_loop ha hn N (rng n) [] (by rw [rng_len]; omega) (by simp [rng_len]) (by simp)
  refine ⟨l, h1, ?_⟩
  unfold f54
  simp only [joinK]
  obtain ⟨e1, e2⟩ := loop_inv0 (F := f54_3 (n : Int) a (f54_c6 a N)) (k := f54_c6 a N) (fun s i => s ++ [(i : Int)]) (fun i s => s = rng i) n (by
    intro m s i hi h
    subst h
    conv => lhs; unfold f54_3 f54_3b
    rw [show decide ((i : Int) < (n : Int)) = true by simp; omega]
    simp only [cond_true]
    rw [app_ok (by simp [rng_len]; omega) (by simp [rng_len]; omega)]
    simp only [Option.bind_some]
    rw [W_nat (by omega)]) (by intro s i hi h; rw [h, rng_succ]) (by intro m s; (conv => lhs; unfold f54_3 f54_3b); simp) (n := N) (s := []) (by omega) rfl
  rw [e1, e2]
  unfold f54_c6
  simp only [joinK]
  exact h2
def gR (n : Nat) (r c m : List Int) (s d : Nat) : Int := m.getD ((r.getD s 0 + c.getD d 0).toNat % n) 0
def rowR (n : Nat) (r c m : List Int) (s k : Nat) : List Int := (List.range k).map fun d => gR n r c m s d
def tabR (n : Nat) (r c m : List Int) (k : Nat) : List (List Int) := (List.range k).map fun s => rowR n r c m s n
theorem rowR_succ {n : Nat} {r c m : List Int} {s k : Nat} : rowR n r c m s (k + 1) = rowR n r c m s k ++ [gR n r c m s k] := by simp [rowR, List.range_succ]
theorem tabR_succ {n : Nat} {r c m : List Int} {k : Nat} : tabR n r c m (k + 1) = tabR n r c m k ++ [rowR n r c m k n] := by simp [tabR, List.range_succ]
theorem rowR_len {n : Nat} {r c m : List Int} {s k : Nat} : (rowR n r c m s k).length = k := by simp [rowR]
theorem tabR_len {n : Nat} {r c m : List Int} {k : Nat} : (tabR n r c m k).length = k := by simp [tabR]
theorem mid_get {A B : List (List Int)} {x : List Int} : ix (A ++ x :: B) (A.length : Int) = some x := by simp [ix_nat]
theorem mid_set {A B : List (List Int)} {x y : List Int} : setx (A ++ x :: B) (A.length : Int) y = some (A ++ y :: B) := by
  unfold setx
  rw [if_pos ⟨by omega, by simp; omega⟩]
  simp
structure Perms (n : Nat) (r c m : List Int) : Prop where
  hn : 2 ≤ n ∧ n ≤ 5
  r : r.Perm (rng n)
  c : c.Perm (rng n)
  m : m.Perm (rng n)
theorem perm_len {l : List Int} {n : Nat} (h : l.Perm (rng n)) : l.length = n := by rw [h.length_eq, rng_len]
theorem perm_at {l : List Int} {n i : Nat} (h : l.Perm (rng n)) (hi : i < n) : 0 ≤ l.getD i 0 ∧ l.getD i 0 < n := by
  have := perm_len h
  exact rng_mem (h.mem_iff.1 (mem_getD (by omega)))
theorem perm_inj {l : List Int} {n i j : Nat} (h : l.Perm (rng n)) (hi : i < n) (hj : j < n) (e : l.getD i 0 = l.getD j 0) : i = j := by
  have hl := perm_len h
  have hd : l.Nodup := h.nodup_iff.2 rng_nodup
  have hd := List.pairwise_iff_getElem.1 hd
  have e : l[i] = l[j] := by simpa [show i < l.length by omega, show j < l.length by omega] using e
  rcases Nat.lt_trichotomy i j with h1 | h1 | h1
  · exact absurd e (hd i j (by omega) (by omega) h1)
  · exact h1
  · exact absurd e.symm (hd j i (by omega) (by omega) h1)
theorem tab_row {n : Nat} {r c m : List Int} {i : Nat} (hi : i < n) : row (tabR n r c m n) i = rowR n r c m i n := by
  simp [row, tabR, hi]
theorem tab_en {n : Nat} {r c m : List Int} {i j : Nat} (hi : i < n) (hj : j < n) : en (tabR n r c m n) i j = gR n r c m i j := by
  unfold en; rw [tab_row hi]
  simp [rowR, hj]
theorem mod_inj {n a x y : Nat} (hn : 2 ≤ n ∧ n ≤ 5) (ha : a < n) (hx : x < n) (hy : y < n) (e : (a + x) % n = (a + y) % n) : x = y := by
  obtain ⟨h1, h2⟩ := hn
  rcases (show n = 2 ∨ n = 3 ∨ n = 4 ∨ n = 5 by omega) with rfl | rfl | rfl | rfl <;> omega
theorem gR_in {n : Nat} {r c m : List Int} (h : Perms n r c m) {i j : Nat} : 0 ≤ gR n r c m i j ∧ gR n r c m i j < n :=
  perm_at h.m (Nat.mod_lt _ (by have := h.hn; omega))
theorem gR_row {n : Nat} {r c m : List Int} (h : Perms n r c m) {i j k : Nat} (hi : i < n) (hj : j < n) (hk : k < n) (e : gR n r c m i j = gR n r c m i k) : j = k := by
  have h0 := h.hn
  have e1 := perm_inj h.m (Nat.mod_lt _ (by omega)) (Nat.mod_lt _ (by omega)) e
  have a1 := perm_at h.r hi
  have a2 := perm_at h.c hj
  have a3 := perm_at h.c hk
  obtain ⟨x, hx⟩ : ∃ x : Nat, r.getD i 0 = (x : Int) := ⟨(r.getD i 0).toNat, by omega⟩
  obtain ⟨y, hy⟩ : ∃ x : Nat, c.getD j 0 = (x : Int) := ⟨(c.getD j 0).toNat, by omega⟩
  obtain ⟨z, hz⟩ : ∃ x : Nat, c.getD k 0 = (x : Int) := ⟨(c.getD k 0).toNat, by omega⟩
  rw [hx, hy, hz, show ((x : Int) + (y : Int)).toNat = x + y by omega, show ((x : Int) + (z : Int)).toNat = x + z by omega] at e1
  have := mod_inj h0 (show x < n by omega) (show y < n by omega) (show z < n by omega) e1
  subst this
  exact perm_inj h.c hj hk (hy.trans hz.symm)
theorem gR_col {n : Nat} {r c m : List Int} (h : Perms n r c m) {i j k : Nat} (hi : i < n) (hj : j < n) (hk : k < n) (e : gR n r c m j i = gR n r c m k i) : j = k := by
  have h0 := h.hn
  have e1 := perm_inj h.m (Nat.mod_lt _ (by omega)) (Nat.mod_lt _ (by omega)) e
  have a1 := perm_at h.c hi
  have a2 := perm_at h.r hj
  have a3 := perm_at h.r hk
  obtain ⟨x, hx⟩ : ∃ x : Nat, c.getD i 0 = (x : Int) := ⟨(c.getD i 0).toNat, by omega⟩
  obtain ⟨y, hy⟩ : ∃ x : Nat, r.getD j 0 = (x : Int) := ⟨(r.getD j 0).toNat, by omega⟩
  obtain ⟨z, hz⟩ : ∃ x : Nat, r.getD k 0 = (x : Int) := ⟨(r.getD k 0).toNat, by omega⟩
  rw [hx, hy, hz, show ((y : Int) + (x : Int)).toNat = x + y by omega, show ((z : Int) + (x : Int)).toNat = x + z by omega] at e1
  have := mod_inj h0 (show x < n by omega) (show y < n by omega) (show z < n by omega) e1
  subst this
  exact perm_inj h.r hj hk (hy.trans hz.symm)
theorem tab_lat {n : Nat} {r c m : List Int} (h : Perms n r c m) : Lat (tabR n r c m n) := by
  have h0 := h.hn
  refine ⟨⟨by rw [tabR_len]; omega, fun i hi => ?_, fun i j hi hj => ?_⟩, by rw [tabR_len]; omega, ?_⟩
  · rw [tabR_len] at hi ⊢
    rw [tab_row hi, rowR_len]
  · rw [tabR_len] at hi hj ⊢
    rw [tab_en hi hj]; exact gR_in h
  · rintro ⟨i, hi, j, hj, k, hk, e⟩
    rw [tabR_len] at hi hj
    rw [tab_en hi hj, tab_en hi (by omega), tab_en hj hi, tab_en (by omega) hi] at e
    rcases e with e | e
    · have := gR_row h hi hj (by omega) e; omega
    · have := gR_col h hi hj (by omega) e; omega
theorem tab_small {n : Nat} {r c m : List Int} (h : Perms n r c m) : Small (tabR n r c m n) := by
  have h0 := h.hn
  refine ⟨by rw [tabR_len]; omega, fun x hx => ?_⟩
  simp only [tabR, List.mem_map] at hx
  obtain ⟨s, _, rfl⟩ := hx
  rw [rowR_len]; omega
structure PlateB (p : Plate) : Prop where
  b : 0 ≤ p.Base ∧ p.Base ≤ 255
  r : B5 p.Rows
  c : B5 p.Columns
  m : B5 p.Numbers
theorem f39_in {N n : Nat} {p : Plate} {r c m : List Int} {x4 : List (List Int)} {k1 : List (List Int) → Option (List (List Int))} (h : Perms n r c m) (hb : W ((2 : Int) + Int.tmod p.Base 4) = (n : Int)) {s : Nat} (hs : s < n) {A B : List (List Int)} (hA : A.length = s) :
    ∀ fu d, d ≤ n → n - d < fu → f39_8 p r c m x4 (s : Int) k1 fu (d : Int) (A ++ rowR n r c m s d :: B) = k1 (A ++ rowR n r c m s n :: B) := by
  intro fu
  induction fu with
  | zero => intro d _ h; omega
  | succ fu ih =>
    intro d hd hf
    have h0 := h.hn
    conv => lhs; unfold f39_8 f39_8b
    rw [hb]
    by_cases e : d = n
    · subst e; simp
    · have hd : d < n := by omega
      have a1 := perm_at h.r hs
      have a2 := perm_at h.c hd
      have hw : W (r.getD s 0 + c.getD d 0) = (((r.getD s 0 + c.getD d 0).toNat : Nat) : Int) := by
        rw [show (((r.getD s 0 + c.getD d 0).toNat : Nat) : Int) = r.getD s 0 + c.getD d 0 by omega]
        exact W_of (by omega) (by omega)
      have hg : (A ++ rowR n r c m s d :: B) = A ++ rowR n r c m s d :: B := rfl
      have q1 : ix (A ++ rowR n r c m s d :: B) (s : Int) = some (rowR n r c m s d) := by rw [← hA]; exact mid_get
      have q2 : setx (A ++ rowR n r c m s d :: B) (s : Int) (rowR n r c m s (d + 1)) = some (A ++ rowR n r c m s (d + 1) :: B) := by rw [← hA]; exact mid_set
      rw [show decide ((d : Int) < (n : Int)) = true by simp; omega]
      simp only [cond_true, q1, ix_getD (show s < r.length by rw [perm_len h.r]; exact hs), ix_getD (show d < c.length by rw [perm_len h.c]; exact hd), Option.bind_some, chk_pos (show 0 < n by omega), hw, tmod_nat,
        ix_getD (show (r.getD s 0 + c.getD d 0).toNat % n < m.length by rw [perm_len h.m]; exact Nat.mod_lt _ (by omega))]
      rw [app_ok (by simp [rowR_len]; omega) (by simp [rowR_len]; omega)]
      simp only [Option.bind_some]
      rw [show rowR n r c m s d ++ [m.getD ((r.getD s 0 + c.getD d 0).toNat % n) 0] = rowR n r c m s (d + 1) from rowR_succ.symm, q2]
      simp only [Option.bind_some]
      rw [W_nat (by omega)]
      exact ih (d + 1) hd (by omega)
theorem f39_eq {N : Nat} {p : Plate} (hp : PlateB p) (hN : 30 ≤ N) : ∃ n r c m, Perms n r c m ∧ f39 N p = some (tabR n r c m n) := by
  obtain ⟨b, hb⟩ : ∃ b : Nat, p.Base = (b : Int) := ⟨p.Base.toNat, by have := hp.b; omega⟩
  have hlt := Nat.mod_lt b (show 0 < 4 by omega)
  have hw : W ((2 : Int) + Int.tmod p.Base 4) = ((2 + b % 4 : Nat) : Int) := by
    rw [hb, show (2 : Int) + Int.tmod (b : Int) 4 = ((2 + b % 4 : Nat) : Int) by
      have := tmod_nat b 4
      rw [show ((4 : Nat) : Int) = 4 from rfl] at this
      omega]
    exact W_of (by omega) (by omega)
  obtain ⟨r, hr1, hr2⟩ := f54_eq (N := N) hp.r (n := 2 + b % 4) (by omega) hN
  obtain ⟨c, hc1, hc2⟩ := f54_eq (N := N) hp.c (n := 2 + b % 4) (by omega) hN
  obtain ⟨m, hm1, hm2⟩ := f54_eq (N := N) hp.m (n := 2 + b % 4) (by omega) hN
  generalize hn : 2 + b % 4 = n at *
  have hP : Perms n r c m := ⟨by omega, hr1, hc1, hm1⟩
  refine ⟨n, r, c, m, hP, ?_⟩
  unfold f39
  rw [hw, hr2, hc2, hm2]
  have hmk : mkS 24 ([] : List Int) (n : Int) (n : Int) = some (List.replicate n []) := by
    unfold mkS
    rw [if_pos ⟨by omega, by omega, by omega⟩]; simp
  simp only [Option.bind_some, hmk, joinK]
  have key : ∀ fu s, s ≤ n → n - s < fu → f39_5 p N r c m (List.replicate n []) f39_c12 fu (s : Int) (tabR n r c m s ++ List.replicate (n - s) []) = some (tabR n r c m n) := by
    intro fu
    induction fu with
    | zero => intro s _ h; omega
    | succ fu ih =>
      intro s hs hf
      conv => lhs; unfold f39_5 f39_5b
      by_cases e : s = n
      · subst e; simp [f39_c12]
      · have hs : s < n := by omega
        rw [show decide ((s : Int) < ((List.replicate n ([] : List Int)).length : Int)) = true by simp; omega]
        simp only [cond_true, joinK]
        obtain ⟨a, ha⟩ : ∃ a, n - s = a + 1 := ⟨n - s - 1, by omega⟩
        rw [ha, List.replicate_succ]
        have := f39_in (N := N) (p := p) (x4 := List.replicate n []) (k1 := f39_c11 p r c m (List.replicate n []) (s : Int) (f39_5 p N r c m (List.replicate n []) f39_c12 fu)) hP hw hs (A := tabR n r c m s) (B := List.replicate a []) tabR_len N 0 (by omega) (by omega)
        rw [show ((0 : Nat) : Int) = 0 from rfl, show rowR n r c m s 0 = [] from rfl] at this
        rw [this]
        unfold f39_c11
        rw [W_nat (by omega)]
        have := ih (s + 1) hs (by omega)
        rw [tabR_succ, List.append_assoc, show n - (s + 1) = a by omega] at this
        exact this
  have := key N 0 (by omega) (by omega)
  simpa [tabR] using this
theorem f40_loop {t : List (List Int)} (h : Sq t) {l : List Int} {k0 : Int → Option Int} (hl : l.length ≤ 1000000) (hd : Dig t l) : ∀ n (i s : Nat), i ≤ l.length → l.length - i < n → s < t.length → f40_3 t l k0 n (s : Int) (i : Int) = k0 ((dl t s (l.drop i) : Nat) : Int) := by
  intro n
  induction n with
  | zero => intro i s _ h; omega
  | succ n ih =>
    intro i s hi hn hs
    conv => lhs; unfold f40_3 f40_3b
    by_cases e : i = l.length
    · subst e; simp [dl_nil]
    · have hi : i < l.length := by omega
      have hx : 0 ≤ l[i] ∧ l[i] < t.length := hd _ (List.getElem_mem hi)
      obtain ⟨h1, h2⟩ := h.step hs hx
      simp only [show (i : Int) < (l.length : Int) by omega, decide_true, cond_true, ix_get hi, Option.bind_some, ix_row hs, h2]
      rw [W_nat (by omega), ih (i + 1) _ hi (by omega) h1, List.drop_eq_getElem_cons hi, dl_cons]
theorem f40_eq {N : Nat} {t : List (List Int)} (h : Lat t) {l : List Int} (hd : Dig t l) (hl : l.length ≤ 50) (hN : 100 ≤ N) : f40 N t l = some ((dl t 0 l : Nat) : Int) := by
  unfold f40
  simp only [joinK]
  have := f40_loop h.toSq (k0 := f40_c7) (by omega) hd N 0 0 (by omega) (by omega) (by have := h.two; omega)
  rw [show ((0 : Nat) : Int) = 0 from rfl] at this
  rw [this]; rfl
end Go.Vc
namespace Go.Vc
open Go.Proofs
set_option linter.unusedVariables false
set_option linter.unnecessarySimpa false
set_option linter.unusedSimpArgs false
end Go.Vc
namespace Go.Vc
set_option linter.unusedVariables false
set_option linter.unnecessarySimpa false
set_option linter.unusedSimpArgs false
set_option linter.unusedSimpArgs false
theorem at_mem {l : List Spot} {i : Nat} (h : i < l.length) : at' l i ∈ l := by rw [show at' l i = l[i] by simp [at', h]]; exact List.getElem_mem h
theorem mem_at {l : List Spot} {x : Spot} (h : x ∈ l) : ∃ i, i < l.length ∧ at' l i = x := by
  obtain ⟨i, hi⟩ := List.mem_iff_getElem?.1 h
  have := (List.getElem?_eq_some_iff.1 hi)
  obtain ⟨h1, h2⟩ := this
  exact ⟨i, h1, by simp [at', h1, h2]⟩
theorem blind_of {N : Nat} {t : List (List Int)} (h : Lat t) (hs : Small t) (hN : 1200 ≤ N) : ∃ l, SpotsOf false t l ∧ l.length ≤ 1000 ∧ f43 N t = some (l, 0) := by
  rcases f43_eq hs hN with ⟨_, l, h1, h2⟩ | ⟨h1, _⟩
  · exact ⟨l, h1, h1.few h.hi, h2⟩
  · exact absurd (chkT_good.2 h) h1
theorem twins_of {N : Nat} {t : List (List Int)} (h : Lat t) (hs : Small t) (hN : 1200 ≤ N) : ∃ l, SpotsOf true t l ∧ l.length ≤ 1000 ∧ f45 N t = some (l, 0) := by
  rcases f45_eq hs hN with ⟨_, l, h1, h2⟩ | ⟨h1, _⟩
  · exact ⟨l, h1, h1.few h.hi, h2⟩
  · exact absurd (chkT_good.2 h) h1
end Go.Vc
namespace Go.Vc
set_option linter.unusedVariables false
set_option linter.unnecessarySimpa false
set_option linter.unusedSimpArgs false
set_option linter.unusedSimpArgs false
theorem right_is {t : List (List Int)} {l : List Int} (h : Lat t) (hd : Dig t l) (h2 : 2 ≤ l.length) (hl : l.length ≤ 12) : rightT t l = if dl t 0 l = 0 then 0 else 13 := by
  have e : codT t l = 0 := codT_ok.2 ⟨h, h2, hl, hd⟩
  unfold rightT
  rw [e]; simp
theorem look_set {κ ν : Type} [DecidableEq κ] {z v : ν} {k y : κ} : ∀ {m : List (κ × ν)}, (lookK z y (setK k v m)).1 = if y = k then v else (lookK z y m).1
  | [] => by
    simp only [setK, lookK]
    by_cases e : k = y
    · rw [if_pos e, if_pos e.symm]
    · rw [if_neg e, if_neg (fun h => e h.symm)]
  | p :: r => by
    simp only [setK]
    by_cases e : p.1 = k
    · rw [if_pos e]
      simp only [lookK]
      by_cases e2 : k = y
      · rw [if_pos e2, if_pos e2.symm]
      · rw [if_neg e2, if_neg (fun h => e2 h.symm), if_neg (fun h => e2 (by rw [← e, h]))]
    · rw [if_neg e]
      simp only [lookK]
      by_cases e2 : p.1 = y
      · rw [if_pos e2, if_neg (fun h => e (by rw [e2, h])), if_pos e2]
      · rw [if_neg e2, look_set, if_neg e2]
def Mp (l : List Spot) (i : Nat) (m : List (Spot × Bool)) : Prop := ∀ y, (lookK false y m).1 = true ↔ ∃ j, j < i ∧ at' l j = y
theorem Mp.zero {l : List Spot} : Mp l 0 [] := fun y => by simp [lookK]
theorem Mp.next {l : List Spot} {i : Nat} {m : List (Spot × Bool)} (h : Mp l i m) : Mp l (i + 1) (setK (at' l i) true m) := fun y => by
  rw [look_set]
  by_cases e : y = at' l i
  · rw [if_pos e]; simp only [true_iff]; exact ⟨i, by omega, e.symm⟩
  · rw [if_neg e, h y]
    constructor
    · rintro ⟨j, h1, h2⟩; exact ⟨j, by omega, h2⟩
    · rintro ⟨j, h1, h2⟩
      by_cases e2 : j = i
      · subst e2; exact absurd h2.symm e
      · exact ⟨j, by omega, h2⟩
theorem Mp.all {q : Bool} {t : List (List Int)} {l : List Spot} {m : List (Spot × Bool)} (hl : SpotsOf q t l) (h : Mp l l.length m) {y : Spot} : (lookK false y m).1 = true ↔ V q t y := by
  rw [h y, ← hl.2 y]
  constructor
  · rintro ⟨j, h1, rfl⟩; exact at_mem h1
  · intro hy; obtain ⟨j, h1, h2⟩ := mem_at hy; exact ⟨j, h1, h2⟩
theorem f10_map1 {a1 : Int} {x1 : List (List Int)} {l : List Spot} {e : Int} {x3 : List Spot × Int} {k6 : List (Spot × Bool) → Option Bool} {r : Option Bool} (hl : l.length ≤ 1000) (hk : ∀ m, Mp l l.length m → k6 m = r) : ∀ (fu i : Nat) (m : List (Spot × Bool)), l.length - i < fu → i ≤ l.length → Mp l i m → f10_9 a1 x1 (l, e) x3 k6 fu (i : Int) m = r := by
  intro fu
  induction fu with
  | zero => intro i m h; omega
  | succ fu ih =>
    intro i m hf hi hm
    unfold f10_9 f10_9b
    by_cases c : i = l.length
    · subst c
      rw [show decide ((l.length : Int) < (l.length : Int)) = false by simp]
      exact hk m hm
    · rw [show decide ((i : Int) < (l.length : Int)) = true by simp; omega, ix_at (show i < l.length by omega), W_nat (by omega)]
      simp only [cond_true, Option.bind_some]
      exact ih (i + 1) _ (by omega) (by omega) hm.next
theorem f10_map2 {a1 : Int} {x1 : List (List Int)} {l : List Spot} {e : Int} {b : List (Spot × Bool)} {k5 : List (Spot × Bool) → Option Bool} {r : Option Bool} (hl : l.length ≤ 1000) (hk : ∀ m, Mp l l.length m → k5 m = r) : ∀ (fu i : Nat) (m : List (Spot × Bool)), l.length - i < fu → i ≤ l.length → Mp l i m → f10_14 a1 x1 (l, e) b k5 fu (i : Int) m = r := by
  intro fu
  induction fu with
  | zero => intro i m h; omega
  | succ fu ih =>
    intro i m hf hi hm
    unfold f10_14 f10_14b
    by_cases c : i = l.length
    · subst c
      rw [show decide ((l.length : Int) < (l.length : Int)) = false by simp]
      exact hk m hm
    · rw [show decide ((i : Int) < (l.length : Int)) = true by simp; omega, ix_at (show i < l.length by omega), W_nat (by omega)]
      simp only [cond_true, Option.bind_some]
      exact ih (i + 1) _ (by omega) (by omega) hm.next
theorem set_two {l : List Int} {i : Nat} (h : i + 1 < l.length) (x y : Int) : (l.set i x).set (i + 1) y = l.take i ++ ([x, y] ++ l.drop (i + 2)) := by
  rw [set_split (l := l) (k := i) (by omega)]
  have e : l.drop (i + 1) = l.getD (i + 1) 0 :: l.drop (i + 2) := by
    rw [List.drop_eq_getElem_cons h]
    simp [h]
  rw [e, List.set_append, if_neg (by simp; omega), show i + 1 - (l.take i).length = 1 by simp; omega]
  rfl
theorem two_split {l : List Int} {i : Nat} (h : i + 1 < l.length) : l = l.take i ++ ([l.getD i 0, l.getD (i + 1) 0] ++ l.drop (i + 2)) := by
  have := set_two h (l.getD i 0) (l.getD (i + 1) 0)
  rw [← this]
  apply List.ext_getElem?
  intro k
  simp only [List.getElem?_set, List.length_set, List.getD_eq_getElem?_getD]
  by_cases e1 : i + 1 = k
  · subst e1; simp [h]
  · by_cases e2 : i = k
    · subst e2; simp [show i < l.length by omega]
    · simp [e1, e2]
theorem two_iff {t : List (List Int)} (h : Lat t) {l : List Int} (hd : Dig t l) {i : Nat} (hi : i + 1 < l.length) (h0 : dl t 0 l = 0) {x y : Int} (hx : 0 ≤ x ∧ x < t.length) (hy : 0 ≤ y ∧ y < t.length) :
    dl t 0 ((l.set i x).set (i + 1) y) = 0 ↔ dl t (dl t 0 (l.take i)) [x, y] = dl t (dl t 0 (l.take i)) [l.getD i 0, l.getD (i + 1) 0] := by
  have h2 := h.two
  have hs := dl_lt h.toSq (s := 0) (by omega) (hd.take i)
  have hdd : ∀ j, j < l.length → 0 ≤ l.getD j 0 ∧ l.getD j 0 < t.length := fun j hj => hd _ (by simp [hj])
  have d2 : ∀ {u v : Int}, 0 ≤ u ∧ u < t.length → 0 ≤ v ∧ v < t.length → Dig t [u, v] := fun h1 h2 z hz => by
    simp at hz; rcases hz with rfl | rfl <;> assumption
  have e0 : dl t (dl t (dl t 0 (l.take i)) [l.getD i 0, l.getD (i + 1) 0]) (l.drop (i + 2)) = 0 := by
    rw [← dl_append, ← dl_append, ← two_split hi]; exact h0
  rw [set_two hi, dl_append, dl_append]
  constructor
  · intro e
    exact dl_inj h (dl_lt h.toSq hs (d2 hx hy)) (dl_lt h.toSq hs (d2 (hdd i (by omega)) (hdd (i + 1) hi))) (hd.drop (i + 2)) (e.trans e0.symm)
  · intro e; rw [e]; exact e0
theorem one_iff {t : List (List Int)} (h : Lat t) {l : List Int} (hd : Dig t l) {i d : Nat} (hi : i < l.length) (h0 : dl t 0 l = 0) (hx : d < t.length) : dl t 0 (l.set i (d : Int)) = 0 ↔ (d : Int) = l.getD i 0 := by
  have hdd : 0 ≤ l.getD i 0 ∧ l.getD i 0 < t.length := hd _ (by simp [hi])
  obtain ⟨c, hc⟩ : ∃ c : Nat, l.getD i 0 = (c : Int) := ⟨(l.getD i 0).toNat, by omega⟩
  have e : l.set i (c : Int) = l := by
    rw [← hc]
    apply List.ext_getElem?
    intro k
    simp only [List.getElem?_set, List.getD_eq_getElem?_getD]
    by_cases e2 : i = k
    · subst e2; simp [hi]
    · simp [e2]
  rw [hc]
  constructor
  · intro e1
    have := fix1 h hd hi hx (show c < t.length by omega) e1 (by rw [e]; exact h0)
    omega
  · intro e1
    rw [e1, e]; exact h0
theorem vw_pre {l : List Int} {i : Nat} (hi : i ≤ l.length) : vw l (i : Int) = some i := by
  unfold vw; rw [if_pos ⟨by omega, by omega⟩]; simp
section
variable {N : Nat} {t : List (List Int)} (h : Lat t) (hS : Small t) (hN : 2000 ≤ N) {b700 b701 : List (Spot × Bool)} (hT : ∀ y, (lookK false y b701).1 = true ↔ V true t y)
include h hS hN hT
theorem f10_digit {l : List Int} (hd : Dig t l) (h2 : 2 ≤ l.length) (h3 : l.length ≤ 3) (h0 : dl t 0 l = 0) {i : Nat} (hi : i < l.length) {k4 : Option Bool} (hk : k4 = some true) : ∀ (fu d : Nat), t.length - d < fu → d ≤ t.length →
    f10_i1806_i1807000202_9 N t b700 b701 l (i : Int) k4 fu (d : Int) = some true := by
  have h10 := h.hi
  have ht2 := h.two
  intro fu
  induction fu with
  | zero => intro d hf; omega
  | succ fu ih =>
    intro d hf hdn
    unfold f10_i1806_i1807000202_9 f10_i1806_i1807000202_9b
    by_cases e : d = t.length
    · rw [show decide ((d : Int) < (t.length : Int)) = false by simp; omega]
      exact hk
    · have hdl : d < t.length := by omega
      have nxt := ih (d + 1) (by omega) (by omega)
      have hdd : ∀ j, j < l.length → 0 ≤ l.getD j 0 ∧ l.getD j 0 < t.length := fun j hj => hd _ (by simp [hj])
      have hc := hdd i hi
      have hset : ∀ {m : List Int} {j : Nat} {x : Int}, j < m.length → setx m (j : Int) x = some (m.set j x) := fun {m j x} hj => by
        unfold setx; rw [if_pos ⟨by omega, by omega⟩]; simp
      rw [show decide ((d : Int) < (t.length : Int)) = true by simp; omega, app_ok (by simp; omega) (by simp; omega)]
      simp only [cond_true, Option.bind_some, List.nil_append, ix_getD hi, hset hi]
      have hdo : Dig t (l.set i (d : Int)) := hd.set ⟨by omega, by omega⟩
      rw [f27_eq hS (by simp; omega) (by omega), right_is h hdo (by simp; omega) (by simp; omega)]
      simp only [Option.bind_some]
      have g1 : (decide ((if dl t 0 (l.set i (d : Int)) = 0 then (0 : Int) else 13) = 0) == decide ((d : Int) = l.getD i 0)) = true := by
        have := one_iff h hd hi h0 hdl
        by_cases c : dl t 0 (l.set i (d : Int)) = 0
        · have e5 := this.1 c
          rw [if_pos c]
          simp only [e5, decide_true, beq_self_eq_true]
        · simp only [if_neg c, show ¬ (d : Int) = l.getD i 0 from fun hh => c (this.2 hh)]; rfl
      rw [g1, W_nat (by omega), W_nat (by omega)]
      simp only [Bool.not_true, cond_false]
      by_cases e2 : i + 1 < l.length
      · rw [show decide (((i + 1 : Nat) : Int) < (l.length : Int)) = true by simp; omega, ix_getD e2]
        simp only [cond_true, Option.bind_some]
        by_cases e3 : l.getD i 0 = l.getD (i + 1) 0
        · simp only [e3, decide_true, cond_true]
          by_cases e4 : (d : Int) = l.getD (i + 1) 0
          · simp only [e4, not_true, decide_false, cond_false]
            exact nxt
          · simp only [e4, not_false_eq_true, decide_true, cond_true]
            rw [ix_getD (show i + 1 < (l.set i (d : Int)).length by simpa using e2)]
            simp only [Option.bind_some, hset (show i + 1 < (l.set i (d : Int)).length by simpa using e2), vw_pre (show i ≤ l.length by omega)]
            rw [f40_eq h (hd.take i) (by simp; omega) (by omega)]
            simp only [Option.bind_some]
            have hdo2 : Dig t ((l.set i (d : Int)).set (i + 1) (d : Int)) := hdo.set ⟨by omega, by omega⟩
            rw [f27_eq hS (by simp; omega) (by omega), right_is h hdo2 (by simp; omega) (by simp; omega)]
            simp only [Option.bind_some]
            have hc2 := hdd (i + 1) e2
            obtain ⟨c, hcc⟩ : ∃ c : Nat, l.getD (i + 1) 0 = (c : Int) := ⟨(l.getD (i + 1) 0).toNat, by omega⟩
            have hs := dl_lt h.toSq (s := 0) (by omega) (hd.take i)
            have key := two_iff h hd e2 h0 (x := (d : Int)) (y := (d : Int)) ⟨by omega, by omega⟩ ⟨by omega, by omega⟩
            rw [e3, hcc] at key
            rw [hcc] at e4 ⊢
            have hv : V true t ⟨(dl t 0 (l.take i) : Nat), min (d : Int) (c : Int), max (d : Int) (c : Int)⟩ ↔ dl t (dl t 0 (l.take i)) [(d : Int), (d : Int)] = dl t (dl t 0 (l.take i)) [(c : Int), (c : Int)] := by
              by_cases lt : d < c
              · rw [show min (d : Int) (c : Int) = (d : Int) by omega, show max (d : Int) (c : Int) = (c : Int) by omega, v_mk hs (by omega) lt]
                exact Iff.rfl
              · rw [show min (d : Int) (c : Int) = (c : Int) by omega, show max (d : Int) (c : Int) = (d : Int) by omega, v_mk hs (by omega) (by omega)]
                exact ⟨fun e => e.symm, fun e => e.symm⟩
            have hlook := (hT _).trans hv
            have g2 : (decide ((if dl t 0 ((l.set i (d : Int)).set (i + 1) (d : Int)) = 0 then (0 : Int) else 13) = 0) == (lookK false (Spot.mk ((dl t 0 (l.take i) : Nat) : Int) (min (d : Int) (c : Int)) (max (d : Int) (c : Int))) b701).1) = true := by
              by_cases c1 : dl t 0 ((l.set i (d : Int)).set (i + 1) (d : Int)) = 0
              · rw [hlook.2 (key.1 c1)]; simp [c1]
              · have : (lookK false (Spot.mk ((dl t 0 (l.take i) : Nat) : Int) (min (d : Int) (c : Int)) (max (d : Int) (c : Int))) b701).1 = false := by
                  rw [← Bool.not_eq_true]; exact fun hh => c1 (key.2 (hlook.1 hh))
                rw [this]; simp [c1]
            rw [g2]
            simp only [Bool.not_true, cond_false]
            exact nxt
        · simp only [e3, decide_false, cond_false]
          exact nxt
      · rw [show decide (((i + 1 : Nat) : Int) < (l.length : Int)) = false by simp; omega]
        exact nxt
end
section
variable {N : Nat} {t : List (List Int)} (h : Lat t) (hS : Small t) (hN : 2000 ≤ N) {b700 b701 : List (Spot × Bool)} (hB : ∀ y, (lookK false y b700).1 = true ↔ V false t y)
include h hS hN hB
theorem f10_swap {l : List Int} (hd : Dig t l) (h2 : 2 ≤ l.length) (h3 : l.length ≤ 3) (h0 : dl t 0 l = 0) {i : Nat} (hi : i < l.length) {k3 : Option Bool} (hk : k3 = some true) : f10_i1806_i1807000202_c20 N t b700 b701 l (i : Int) k3 = some true := by
  have h10 := h.hi
  have ht2 := h.two
  unfold f10_i1806_i1807000202_c20
  rw [W_nat (by omega)]
  by_cases e2 : i + 1 < l.length
  · have hset : ∀ {m : List Int} {j : Nat} {x : Int}, j < m.length → setx m (j : Int) x = some (m.set j x) := fun {m j x} hj => by
      unfold setx; rw [if_pos ⟨by omega, by omega⟩]; simp
    have hdd : ∀ j, j < l.length → 0 ≤ l.getD j 0 ∧ l.getD j 0 < t.length := fun j hj => hd _ (by simp [hj])
    rw [show decide (((i + 1 : Nat) : Int) < (l.length : Int)) = true by simp; omega]
    simp only [cond_true, ix_getD e2, ix_getD hi, Option.bind_some]
    by_cases e3 : l.getD i 0 = l.getD (i + 1) 0
    · simp only [e3, not_true, decide_false, cond_false]
      exact hk
    · simp only [e3, not_false_eq_true, decide_true, cond_true]
      rw [app_ok (by simp; omega) (by simp; omega)]
      simp only [Option.bind_some, List.nil_append, ix_getD e2, ix_getD hi, hset hi]
      rw [ix_getD (show i + 1 < (l.set i (l.getD (i + 1) 0)).length by simpa using e2)]
      simp only [Option.bind_some, hset (show i + 1 < (l.set i (l.getD (i + 1) 0)).length by simpa using e2), vw_pre (show i ≤ l.length by omega)]
      rw [f40_eq h (hd.take i) (by simp; omega) (by omega)]
      simp only [Option.bind_some]
      have hdo2 : Dig t ((l.set i (l.getD (i + 1) 0)).set (i + 1) (l.getD i 0)) := (hd.set (hdd _ e2)).set (hdd _ hi)
      rw [f27_eq hS (by simp; omega) (by omega), right_is h hdo2 (by simp; omega) (by simp; omega)]
      simp only [Option.bind_some]
      have hc1 := hdd i hi
      have hc2 := hdd (i + 1) e2
      have key := two_iff h hd e2 h0 (x := l.getD (i + 1) 0) (y := l.getD i 0) hc2 hc1
      obtain ⟨c, hcc⟩ : ∃ c : Nat, l.getD (i + 1) 0 = (c : Int) := ⟨(l.getD (i + 1) 0).toNat, by omega⟩
      obtain ⟨d, hdc⟩ : ∃ c : Nat, l.getD i 0 = (c : Int) := ⟨(l.getD i 0).toNat, by omega⟩
      have hs := dl_lt h.toSq (s := 0) (by omega) (hd.take i)
      simp only [hcc, hdc] at key hc1 hc2 e3 ⊢
      have hv : V false t ⟨(dl t 0 (l.take i) : Nat), min (d : Int) (c : Int), max (d : Int) (c : Int)⟩ ↔ dl t (dl t 0 (l.take i)) [(c : Int), (d : Int)] = dl t (dl t 0 (l.take i)) [(d : Int), (c : Int)] := by
        by_cases lt : d < c
        · rw [show min (d : Int) (c : Int) = (d : Int) by omega, show max (d : Int) (c : Int) = (c : Int) by omega, v_mk hs (by omega) lt]
          exact ⟨fun e => e.symm, fun e => e.symm⟩
        · rw [show min (d : Int) (c : Int) = (c : Int) by omega, show max (d : Int) (c : Int) = (d : Int) by omega, v_mk hs (by omega) (by omega)]
          exact Iff.rfl
      have hlook := (hB _).trans hv
      have g2 : (decide ((if dl t 0 ((l.set i (c : Int)).set (i + 1) (d : Int)) = 0 then (0 : Int) else 13) = 0) == (lookK false (Spot.mk ((dl t 0 (l.take i) : Nat) : Int) (min (d : Int) (c : Int)) (max (d : Int) (c : Int))) b700).1) = true := by
        by_cases c1 : dl t 0 ((l.set i (c : Int)).set (i + 1) (d : Int)) = 0
        · rw [hlook.2 (key.1 c1)]; simp [c1]
        · have : (lookK false (Spot.mk ((dl t 0 (l.take i) : Nat) : Int) (min (d : Int) (c : Int)) (max (d : Int) (c : Int))) b700).1 = false := by
            rw [← Bool.not_eq_true]; exact fun hh => c1 (key.2 (hlook.1 hh))
          rw [this]; simp [c1]
      rw [g2]
      simp only [Bool.not_true, cond_false]
      exact hk
  · rw [show decide (((i + 1 : Nat) : Int) < (l.length : Int)) = false by simp; omega]
    exact hk
end
section
variable {N : Nat} {t : List (List Int)} (h : Lat t) (hS : Small t) (hN : 2000 ≤ N) {b700 b701 : List (Spot × Bool)} (hB : ∀ y, (lookK false y b700).1 = true ↔ V false t y) (hT : ∀ y, (lookK false y b701).1 = true ↔ V true t y)
include h hS hN hB hT
theorem f10_places {l : List Int} (hd : Dig t l) (h2 : 2 ≤ l.length) (h3 : l.length ≤ 3) (h0 : dl t 0 l = 0) {k2 : Option Bool} (hk : k2 = some true) : ∀ (fu i : Nat), l.length - i < fu → i ≤ l.length →
    f10_i1806_i1807000202_6 N t b700 b701 l k2 fu (i : Int) = some true := by
  have h10 := h.hi
  intro fu
  induction fu with
  | zero => intro d hf; omega
  | succ fu ih =>
    intro i hf hi
    unfold f10_i1806_i1807000202_6 f10_i1806_i1807000202_6b
    by_cases e : i = l.length
    · rw [show decide ((i : Int) < (l.length : Int)) = false by simp; omega]
      exact hk
    · rw [show decide ((i : Int) < (l.length : Int)) = true by simp; omega]
      simp only [cond_true, joinK]
      refine f10_digit h hS hN hT hd h2 h3 h0 (show i < l.length by omega) (f10_swap h hS hN hB hd h2 h3 h0 (show i < l.length by omega) ?_) N 0 (by omega) (by omega)
      unfold f10_i1806_i1807000202_c26
      rw [W_nat (by omega)]
      exact ih (i + 1) (by omega) (by omega)
theorem f10_code {l : List Int} (hd : Dig t l) (h2 : 2 ≤ l.length) (h3 : l.length ≤ 3) {a1 : Int} {r2 : List Int → Option Bool} (hk : f10_i1806_c4 a1 N t b700 b701 l r2 = some true) : f10_i1806_2b r2 a1 N t b700 b701 l = some true := by
  have h10 := h.hi
  unfold f10_i1806_2b
  simp only [joinK]
  rw [f27_eq hS (by omega) (by omega), right_is h hd h2 (by omega), f40_eq h hd (by omega) (by omega)]
  simp only [Option.bind_some]
  by_cases c : dl t 0 l = 0
  · rw [c]
    simp only [if_true, decide_true, beq_self_eq_true, Bool.not_true, cond_false, show ((0 : Nat) : Int) = 0 from rfl, not_true, decide_false]
    unfold f10_i1806_i1807000202_c27
    exact f10_places h hS hN hB hT hd h2 h3 c hk N 0 (by omega) (by omega)
  · have c' : ¬ ((dl t 0 l : Nat) : Int) = 0 := by omega
    simp only [if_neg c, c', decide_false, not_false_eq_true, decide_true, cond_true]
    exact hk
end
theorem f10_last {N : Nat} {t : List (List Int)} {b700 b701 : List (Spot × Bool)} (hN : 2000 ≤ N) {a1 : Int} {r2 : List Int → Option Bool} {l : List Int} : f10_i1806_c8 a1 N t b700 b701 r2 l (-1) = some true := by
  unfold f10_i1806_c8
  have h15 : f15 N = some true := by
    obtain ⟨m, rfl⟩ : ∃ m, N = m + 60 := ⟨N - 60, by omega⟩
    exact f15_any m
  simp [h15]
theorem set_at {l : List Int} {j : Nat} {x : Int} (hj : j < l.length) : setx l (j : Int) x = some (l.set j x) := by
  unfold setx; rw [if_pos ⟨by omega, by omega⟩]; simp
theorem f10_step {a1 : Int} {t : List (List Int)} {b700 b701 : List (Spot × Bool)} {k0 : List Int → Int → Option Bool} {l : List Int} {fu i : Nat} (ht : t.length ≤ 10 ∧ 2 ≤ t.length) (hi : i < l.length) (hl : l.length ≤ 10) :
    f10_i1806_5 a1 t b700 b701 k0 (fu + 1) l (i : Int) = if l.getD i 0 = (t.length : Int) - 1 then f10_i1806_5 a1 t b700 b701 k0 fu (l.set i 0) ((i : Int) - 1) else k0 l (i : Int) := by
  conv => lhs; unfold f10_i1806_5 f10_i1806_5b
  rw [show decide ((0 : Int) ≤ (i : Int)) = true by simp, ix_getD hi, Wi (n := (t.length : Int) - 1) (by omega) (by omega), Wi (n := (i : Int) - 1) (by omega) (by omega)]
  simp only [cond_true, Option.bind_some]
  by_cases e : l.getD i 0 = (t.length : Int) - 1
  · simp only [e, decide_true, cond_true, if_true, set_at hi, Option.bind_some]
  · simp only [e, decide_false, cond_false, if_false]
theorem f10_stop {a1 : Int} {t : List (List Int)} {b700 b701 : List (Spot × Bool)} {k0 : List Int → Int → Option Bool} {l : List Int} {fu : Nat} : f10_i1806_5 a1 t b700 b701 k0 (fu + 1) l (-1) = k0 l (-1) := by
  conv => lhs; unfold f10_i1806_5 f10_i1806_5b
  rfl
theorem f10_inc {N : Nat} {a1 : Int} {t : List (List Int)} {b700 b701 : List (Spot × Bool)} {r2 : List Int → Option Bool} {l : List Int} {i : Nat} (hi : i < l.length) (hv : 0 ≤ l.getD i 0 ∧ l.getD i 0 ≤ 100) : f10_i1806_c8 a1 N t b700 b701 r2 l (i : Int) = r2 (l.set i (l.getD i 0 + 1)) := by
  unfold f10_i1806_c8
  rw [show decide ((i : Int) < 0) = false by simp, ix_getD hi]
  simp only [cond_false, Option.bind_some, Wi (n := l.getD i 0 + 1) (by omega) (by omega), set_at hi]
theorem dig_two {t : List (List Int)} {x y : Nat} (hx : x < t.length) (hy : y < t.length) : Dig t [(x : Int), (y : Int)] := dig2 hx hy
theorem dig_three {t : List (List Int)} {x y z : Nat} (hx : x < t.length) (hy : y < t.length) (hz : z < t.length) : Dig t [(x : Int), (y : Int), (z : Int)] := by
  intro u hu; simp at hu; rcases hu with rfl | rfl | rfl <;> omega
section
variable {N : Nat} {t : List (List Int)} (h : Lat t) (h5 : t.length ≤ 5) (hS : Small t) (hN : 2000 ≤ N) {b700 b701 : List (Spot × Bool)} (hB : ∀ y, (lookK false y b700).1 = true ↔ V false t y) (hT : ∀ y, (lookK false y b701).1 = true ↔ V true t y)
include h h5 hS hN hB hT
theorem f10_all2 {a1 : Int} (ha : W ((W ((2 : Int) + (Int.tmod a1 (2 : Int)))) - (1 : Int)) = 1) : ∀ (fu x y : Nat), 36 - (6 * x + y) < fu → x < t.length → y < t.length → f10_i1806_2 a1 N t b700 b701 fu [(x : Int), (y : Int)] = some true := by
  have h10 := h.hi
  have ht2 := h.two
  intro fu
  induction fu with
  | zero => intro x y hf; omega
  | succ fu ih =>
    intro x y hf hx hy
    unfold f10_i1806_2
    refine f10_code h hS hN hB hT (dig_two hx hy) (by simp) (by simp) ?_
    unfold f10_i1806_c4
    simp only [joinK]
    rw [ha]
    obtain ⟨M, hM⟩ : ∃ M, N = M + 1 + 1 + 1 := ⟨N - 3, by omega⟩
    have last : ∀ l, f10_i1806_c8 a1 N t b700 b701 (f10_i1806_2 a1 N t b700 b701 fu) l (-1) = some true := fun l => f10_last hN
    have stp : ∀ (l : List Int) (i : Nat) (m : Nat), i < l.length → l.length ≤ 10 → f10_i1806_5 a1 t b700 b701 (f10_i1806_c8 a1 N t b700 b701 (f10_i1806_2 a1 N t b700 b701 fu)) (m + 1) l (i : Int) = _ := fun l i m hi hl => f10_step ⟨h10, ht2⟩ hi hl
    have s1 := stp [(x : Int), (y : Int)] 1 (M + 1 + 1) (by simp) (by simp)
    rw [show ((1 : Nat) : Int) = 1 from rfl, ← hM] at s1
    rw [s1]
    by_cases e1 : (y : Int) = (t.length : Int) - 1
    · rw [if_pos (by simpa using e1)]
      have s2 := stp [(x : Int), (0 : Int)] 0 (M + 1) (by simp) (by simp)
      rw [show ((1 : Int) - 1) = ((0 : Nat) : Int) from rfl, show [(x : Int), (y : Int)].set 1 0 = [(x : Int), 0] from rfl, s2]
      by_cases e2 : (x : Int) = (t.length : Int) - 1
      · rw [if_pos (by simpa using e2), show (((0 : Nat) : Int) - 1) = -1 from rfl, f10_stop]
        exact last _
      · rw [if_neg (by simpa using e2), f10_inc (by simp) (by simp; omega)]
        have := ih (x + 1) 0 (by omega) (by omega) (by omega)
        simpa using this
    · rw [if_neg (by simpa using e1)]
      have s3 := f10_inc (N := N) (a1 := a1) (t := t) (b700 := b700) (b701 := b701) (r2 := f10_i1806_2 a1 N t b700 b701 fu) (l := [(x : Int), (y : Int)]) (i := 1) (by simp) (by simp; omega)
      rw [show ((1 : Nat) : Int) = 1 from rfl] at s3
      rw [s3]
      have := ih x (y + 1) (by omega) hx (by omega)
      simpa using this
theorem f10_all3 {a1 : Int} (ha : W ((W ((2 : Int) + (Int.tmod a1 (2 : Int)))) - (1 : Int)) = 2) : ∀ (fu x y z : Nat), 216 - (36 * x + 6 * y + z) < fu → x < t.length → y < t.length → z < t.length → f10_i1806_2 a1 N t b700 b701 fu [(x : Int), (y : Int), (z : Int)] = some true := by
  have h10 := h.hi
  have ht2 := h.two
  intro fu
  induction fu with
  | zero => intro x y z hf; omega
  | succ fu ih =>
    intro x y z hf hx hy hz
    unfold f10_i1806_2
    refine f10_code h hS hN hB hT (dig_three hx hy hz) (by simp) (by simp) ?_
    unfold f10_i1806_c4
    simp only [joinK]
    rw [ha]
    obtain ⟨M, hM⟩ : ∃ M, N = M + 1 + 1 + 1 + 1 := ⟨N - 4, by omega⟩
    have last : ∀ l, f10_i1806_c8 a1 N t b700 b701 (f10_i1806_2 a1 N t b700 b701 fu) l (-1) = some true := fun l => f10_last hN
    have stp : ∀ (l : List Int) (i : Nat) (m : Nat), i < l.length → l.length ≤ 10 → f10_i1806_5 a1 t b700 b701 (f10_i1806_c8 a1 N t b700 b701 (f10_i1806_2 a1 N t b700 b701 fu)) (m + 1) l (i : Int) = _ := fun l i m hi hl => f10_step ⟨h10, ht2⟩ hi hl
    have inc : ∀ (l : List Int) (i : Nat), i < l.length → 0 ≤ l.getD i 0 ∧ l.getD i 0 ≤ 100 → f10_i1806_c8 a1 N t b700 b701 (f10_i1806_2 a1 N t b700 b701 fu) l (i : Int) = _ := fun l i hi hv => f10_inc hi hv
    have s1 := stp [(x : Int), (y : Int), (z : Int)] 2 (M + 1 + 1 + 1) (by simp) (by simp)
    rw [show ((2 : Nat) : Int) = 2 from rfl, ← hM] at s1
    rw [s1]
    by_cases e1 : (z : Int) = (t.length : Int) - 1
    · rw [if_pos (by simpa using e1)]
      have s2 := stp [(x : Int), (y : Int), (0 : Int)] 1 (M + 1 + 1) (by simp) (by simp)
      rw [show ((2 : Int) - 1) = ((1 : Nat) : Int) from rfl, show [(x : Int), (y : Int), (z : Int)].set 2 0 = [(x : Int), (y : Int), 0] from rfl, s2]
      by_cases e2 : (y : Int) = (t.length : Int) - 1
      · rw [if_pos (by simpa using e2)]
        have s3 := stp [(x : Int), (0 : Int), (0 : Int)] 0 (M + 1) (by simp) (by simp)
        rw [show (((1 : Nat) : Int) - 1) = ((0 : Nat) : Int) from rfl, show [(x : Int), (y : Int), (0 : Int)].set 1 0 = [(x : Int), 0, 0] from rfl, s3]
        by_cases e3 : (x : Int) = (t.length : Int) - 1
        · rw [if_pos (by simpa using e3), show (((0 : Nat) : Int) - 1) = -1 from rfl, f10_stop]
          exact last _
        · rw [if_neg (by simpa using e3), inc _ 0 (by simp) (by simp; omega)]
          have := ih (x + 1) 0 0 (by omega) (by omega) (by omega) (by omega)
          simpa using this
      · rw [if_neg (by simpa using e2), inc _ 1 (by simp) (by simp; omega)]
        have := ih x (y + 1) 0 (by omega) hx (by omega) (by omega)
        simpa using this
    · rw [if_neg (by simpa using e1)]
      have s3 := inc [(x : Int), (y : Int), (z : Int)] 2 (by simp) (by simp; omega)
      rw [show ((2 : Nat) : Int) = 2 from rfl] at s3
      rw [s3]
      have := ih x y (z + 1) (by omega) hx hy (by omega)
      simpa using this
end
theorem f10_true {N : Nat} {p : Plate} {a1 : Int} (hp : PlateB p) (h1' : 0 ≤ a1 ∧ a1 ≤ 255) : f10 (N + 2000) p a1 = some true := by
  unfold f10
  obtain ⟨n, r, c, m, h1, h2⟩ := f39_eq (N := N + 2000) hp (by omega)
  rw [h2]
  have hL := tab_lat h1
  have hS := tab_small h1
  have hlen : (tabR n r c m n).length ≤ 5 := by rw [tabR_len]; exact h1.hn.2
  generalize tabR n r c m n = t at hL hS hlen
  obtain ⟨l, g1, g2, g3⟩ := blind_of (N := N + 2000) hL hS (by omega)
  obtain ⟨l', k1, k2, k3⟩ := twins_of (N := N + 2000) hL hS (by omega)
  simp only [Option.bind_some, g3, k3, joinK, not_true, decide_false, cond_false]
  refine f10_map1 g2 (fun m1 hm1 => ?_) (N + 2000) 0 [] (by omega) (by omega) Mp.zero
  unfold f10_c13
  simp only [joinK]
  refine f10_map2 k2 (fun m2 hm2 => ?_) (N + 2000) 0 [] (by omega) (by omega) Mp.zero
  unfold f10_c18
  have hB : ∀ y, (lookK false y m1).1 = true ↔ V false t y := fun y => hm1.all g1
  have hT : ∀ y, (lookK false y m2).1 = true ↔ V true t y := fun y => hm2.all k1
  obtain ⟨a, rfl⟩ : ∃ n : Nat, a1 = (n : Int) := ⟨a1.toNat, by omega⟩
  have hm : Int.tmod (a : Int) 2 = ((a % 2 : Nat) : Int) := by
    have := tmod_nat a 2
    rwa [show ((2 : Nat) : Int) = 2 from rfl] at this
  have h2 := hL.two
  by_cases e : a % 2 = 0
  · have hw : W ((2 : Int) + (Int.tmod (a : Int) (2 : Int))) = ((2 : Nat) : Int) := by rw [hm, e]; exact W_of (by omega) (by omega)
    rw [hw, mkS_nat (by omega)]
    simp only [Option.bind_some]
    exact f10_all2 hL hlen hS (by omega) hB hT (by rw [hw]; exact W_of (by omega) (by omega)) (N + 2000) 0 0 (by omega) (by omega) (by omega)
  · have e : a % 2 = 1 := by omega
    have hw : W ((2 : Int) + (Int.tmod (a : Int) (2 : Int))) = ((3 : Nat) : Int) := by rw [hm, e]; exact W_of (by omega) (by omega)
    rw [hw, mkS_nat (by omega)]
    simp only [Option.bind_some]
    exact f10_all3 hL hlen hS (by omega) hB hT (by rw [hw]; exact W_of (by omega) (by omega)) (N + 2000) 0 0 0 (by omega) (by omega) (by omega) (by omega)
end Go.Vc
namespace Go.Vc
set_option linter.unusedVariables false
set_option linter.unnecessarySimpa false
set_option linter.unusedSimpArgs false
abbrev tB : Ty := .int .u8
def u8In (n : Int) : Prop := 0 ≤ n ∧ n ≤ 255
theorem tB_of {ds : List D} (h : tB.has ds) : ∃ n, ds = [u8N n] ∧ u8In n := by
  simp only [tB, Ty.has] at h
  obtain ⟨n, rfl, h⟩ := h
  exact ⟨n, rfl, by simpa [IntKind.min, IntKind.max, IntKind.signed, IntKind.bits, u8In] using h⟩
theorem tB_ofD {x : D} (h : tB.hasD x) : ∃ n, x = u8N n ∧ u8In n := by
  obtain ⟨n, h1, h2⟩ := tB_of (ds := [x]) h
  exact ⟨n, List.singleton_inj.1 h1, h2⟩
end Go.Vc
namespace Go.Vc
set_option linter.unusedVariables false
set_option linter.unnecessarySimpa false
set_option linter.unusedSimpArgs false
set_option linter.unusedSimpArgs false
abbrev tB5 : Ty := .comp [tB, tB, tB, tB, tB]
abbrev tPlate : Ty := .comp [tB, tB, tB5, tB5, tB5]
theorem tB_of' {ds : List D} (h : (Ty.int .u8).has ds) : ∃ n, ds = [u8N n] ∧ u8In n := tB_of h
theorem B5.of {ds : List D} (h : Ty.hasL [tB, tB, tB, tB, tB] ds) : ∃ x : A5u8N, ds = [u8N x.e0, u8N x.e1, u8N x.e2, u8N x.e3, u8N x.e4] ∧ B5 x := by
  simp only [Ty.hasL] at h
  obtain ⟨a, b, rfl, h1, c, d, rfl, h2, e, f, rfl, h3, g, k, rfl, h4, l, m, rfl, h5, rfl⟩ := h
  obtain ⟨x0, rfl, p0⟩ := tB_of' h1
  obtain ⟨x1, rfl, p1⟩ := tB_of' h2
  obtain ⟨x2, rfl, p2⟩ := tB_of' h3
  obtain ⟨x3, rfl, p3⟩ := tB_of' h4
  obtain ⟨x4, rfl, p4⟩ := tB_of' h5
  exact ⟨⟨x0, x1, x2, x3, x4⟩, rfl, p0, p1, p2, p3, p4⟩
theorem B5.of' {ds : List D} (h : tB5.has ds) : ∃ x : A5u8N, ds = [u8N x.e0, u8N x.e1, u8N x.e2, u8N x.e3, u8N x.e4] ∧ B5 x := by
  simp only [tB5, Ty.has] at h
  exact B5.of h
theorem B5.ofD {x : D} (h : tB5.hasD x) : ∃ a : A5u8N, x = A5u8N.d a ∧ B5 a := by
  obtain ⟨cs, rfl, h⟩ := h
  obtain ⟨a, e, h2⟩ := B5.of h
  subst e
  exact ⟨a, rfl, h2⟩
theorem Plate.ofD {x : D} (h : tPlate.hasD x) : ∃ a : Plate, x = Plate.d a ∧ PlateB a := by
  obtain ⟨cs, rfl, h⟩ := h
  rw [Ty.hasL] at h
  obtain ⟨a, b, rfl, h1, h⟩ := h
  rw [Ty.hasL] at h
  obtain ⟨c, d, rfl, h2, h⟩ := h
  rw [Ty.hasL] at h
  obtain ⟨e, f, rfl, h3, h⟩ := h
  rw [Ty.hasL] at h
  obtain ⟨g, k, rfl, h4, h⟩ := h
  rw [Ty.hasL] at h
  obtain ⟨l, m, rfl, h5, h⟩ := h
  simp only [Ty.hasL] at h
  subst h
  obtain ⟨x0, rfl, p0⟩ := tB_of' h1
  obtain ⟨x1, rfl, p1⟩ := tB_of' h2
  obtain ⟨x2, rfl, p2⟩ := B5.of' h3
  obtain ⟨x3, rfl, p3⟩ := B5.of' h4
  obtain ⟨x4, rfl, p4⟩ := B5.of' h5
  exact ⟨⟨x0, x1, x2, x3, x4⟩, rfl, p0, p2, p3, p4⟩
end Go.Vc
