/-
  A library for proofs about Go functions by symbolic evaluation, and plain Lean functions that the walked Go functions compute (written by a program of this claim).
-/
import Derived.Test.YtikifojhjbcfhaaSpotsF1
import Derived.Test.YtikifojhjbcfhaaW1
import Derived.Test.YtikifojhjbcfhaaW4
import Derived.Test.YtikifojhjbcfhaaVc3
namespace Go.Vc
set_option linter.unusedVariables false
set_option linter.unnecessarySimpa false
set_option linter.unusedSimpArgs false
set_option linter.unusedSimpArgs false
def Hp (f lo hi r : Nat) (l : List Spot) : Prop := ∀ p c, lo ≤ p → p ≠ r → c < hi → (c = 2 * p + 1 ∨ c = 2 * p + 2) → ¬ ltS (at' l (f + p)) (at' l (f + c))
def Heap (f lo hi : Nat) (l : List Spot) : Prop := ∀ p c, lo ≤ p → c < hi → (c = 2 * p + 1 ∨ c = 2 * p + 2) → ¬ ltS (at' l (f + p)) (at' l (f + c))
def Gr (f lo hi r : Nat) (l : List Spot) : Prop := ∀ p c, lo ≤ p → (r = 2 * p + 1 ∨ r = 2 * p + 2) → c < hi → (c = 2 * r + 1 ∨ c = 2 * r + 2) → ¬ ltS (at' l (f + p)) (at' l (f + c))
theorem f109_in {N f lo hi : Nat} (hN : 10 ≤ N) : ∀ (fu r : Nat) (l : List Spot), hi - r < fu → lo ≤ r → r ≤ hi → f + hi ≤ l.length → l.length ≤ 100000 → Hp f lo hi r l → Gr f lo hi r l →
    ∃ l', Out (f + lo) (f + hi) l l' ∧ Heap f lo hi l' ∧ f109_1 (hi : Int) (f : Int) N fu (r : Int) l = some l' := by
  intro fu
  induction fu with
  | zero => intro r l h; omega
  | succ fu ih =>
    intro r l hf hlr hrh hhl hl hH hG
    have hw1 : W ((W ((2 : Int) * (r : Int))) + (1 : Int)) = ((2 * r + 1 : Nat) : Int) := by
      rw [show (2 : Int) * (r : Int) = ((2 * r : Nat) : Int) by omega, W_of (n := ((2 * r : Nat) : Int)) (by omega) (by omega)]
      exact W_nat (by omega)
    have hw2 : W (((2 * r + 1 : Nat) : Int) + (1 : Int)) = ((2 * r + 2 : Nat) : Int) := W_nat (by omega)
    have hw3 : W ((f : Int) + (r : Int)) = ((f + r : Nat) : Int) := by rw [show (f : Int) + (r : Int) = ((f + r : Nat) : Int) by omega]; exact W_of (by omega) (by omega)
    unfold f109_1 f109_1b
    rw [hw1, hw2]
    simp only [joinK]
    by_cases e1 : hi ≤ 2 * r + 1
    · refine ⟨l, Out.refl, fun p c h1 h3 h4 => hH p c h1 (by omega) h3 h4, ?_⟩
      rw [show decide ((hi : Int) ≤ ((2 * r + 1 : Nat) : Int)) = true by simp; omega]
      rfl
    · rw [show decide ((hi : Int) ≤ ((2 * r + 1 : Nat) : Int)) = false by simp; omega]
      simp only [cond_false]
      have step : ∀ c : Nat, c < hi → (c = 2 * r + 1 ∨ c = 2 * r + 2) → (∀ d, d < hi → (d = 2 * r + 1 ∨ d = 2 * r + 2) → ¬ ltS (at' l (f + c)) (at' l (f + d))) →
          ∃ l', Out (f + lo) (f + hi) l l' ∧ Heap f lo hi l' ∧ f109_c5 (hi : Int) (f : Int) N (r : Int) l (f109_1 (hi : Int) (f : Int) N fu) (c : Int) = some l' := by
        intro c hc hcr hbig
        have hw4 : W ((f : Int) + (c : Int)) = ((f + c : Nat) : Int) := by rw [show (f : Int) + (c : Int) = ((f + c : Nat) : Int) by omega]; exact W_of (by omega) (by omega)
        unfold f109_c5
        rw [hw3, hw4]
        obtain ⟨d, hd, hd2⟩ := f91_eq (x := at' l (f + r)) (y := at' l (f + c)) hN
        by_cases hlt : ltS (at' l (f + r)) (at' l (f + c))
        · have hS : ∀ k, at' (sw l (f + r) (f + c)) (f + k) = if c = k then at' l (f + r) else if r = k then at' l (f + c) else at' l (f + k) := by
            intro k
            rw [at_sw (by omega) (by omega)]
            by_cases k1 : c = k
            · rw [if_pos k1, if_pos (by omega)]
            · rw [if_neg k1, if_neg (by omega)]
              by_cases k2 : r = k
              · rw [if_pos k2, if_pos (by omega)]
              · rw [if_neg k2, if_neg (by omega)]
          obtain ⟨l', h1, h2, h3⟩ := ih c (sw l (f + r) (f + c)) (by omega) (by omega) (by omega) (by rw [sw_len]; exact hhl) (by rw [sw_len]; exact hl) (by
            intro p q h1 h2 h3 h4
            rw [hS, hS, if_neg (show ¬ c = p by omega)]
            by_cases p1 : r = p
            · subst p1
              rw [if_pos rfl]
              by_cases q1 : c = q
              · rw [if_pos q1]; exact ltS_asymm hlt
              · rw [if_neg q1, if_neg (by omega)]
                exact hbig q h3 h4
            · rw [if_neg p1]
              by_cases q1 : c = q
              · omega
              · rw [if_neg q1]
                by_cases q2 : r = q
                · rw [if_pos q2]
                  exact hG p c h1 (by omega) hc hcr
                · rw [if_neg q2]
                  exact hH p q h1 (by omega) h3 h4) (by
            intro p q h1 h2 h3 h4
            have hp : p = r := by omega
            subst hp
            rw [hS, hS, if_neg (by omega), if_pos rfl, if_neg (by omega), if_neg (by omega)]
            exact hH c q (by omega) (by omega) h3 h4)
          refine ⟨l', (Out.sw (by omega) (by omega) (by omega)).trans h1, h2, ?_⟩
          have := sw_run (l := l) (i := f + r) (j := f + c) (r := fun x => f109_1 (hi : Int) (f : Int) N fu (c : Int) x) (by omega) (by omega)
          simp only [ix_at (show f + r < l.length by omega), ix_at (show f + c < l.length by omega), Option.bind_some, hd, hd2.2 hlt, decide_true, Bool.not_true, cond_false] at this ⊢
          rw [this]
          exact h3
        · refine ⟨l, Out.refl, ?_, ?_⟩
          · intro p q h1 h3 h4
            by_cases p1 : p = r
            · subst p1
              exact leS_trans (hbig q h3 h4) hlt
            · exact hH p q h1 p1 h3 h4
          · simp only [ix_at (show f + r < l.length by omega), ix_at (show f + c < l.length by omega), Option.bind_some, hd, show ¬ d < 0 from fun h => hlt (hd2.1 h), decide_false, Bool.not_false, cond_true]
      have hw5 : W ((f : Int) + ((2 * r + 1 : Nat) : Int)) = ((f + (2 * r + 1) : Nat) : Int) := by rw [show (f : Int) + ((2 * r + 1 : Nat) : Int) = ((f + (2 * r + 1) : Nat) : Int) by omega]; exact W_of (by omega) (by omega)
      have hw6 : W (((f + (2 * r + 1) : Nat) : Int) + (1 : Int)) = ((f + (2 * r + 2) : Nat) : Int) := W_nat (by omega)
      by_cases e2 : 2 * r + 2 < hi
      · rw [show decide (((2 * r + 2 : Nat) : Int) < (hi : Int)) = true by simp; omega, hw5, hw6]
        obtain ⟨d, hd, hd2⟩ := f91_eq (x := at' l (f + (2 * r + 1))) (y := at' l (f + (2 * r + 2))) hN
        simp only [cond_true, ix_at (show f + (2 * r + 1) < l.length by omega), ix_at (show f + (2 * r + 2) < l.length by omega), Option.bind_some, hd]
        by_cases hlt : ltS (at' l (f + (2 * r + 1))) (at' l (f + (2 * r + 2)))
        · simp only [hd2.2 hlt, decide_true, cond_true]
          refine step (2 * r + 2) e2 (.inr rfl) fun d h1 h2 => ?_
          rcases h2 with h2 | h2
          · rw [h2]; exact ltS_asymm hlt
          · rw [h2]; exact ltS_irrefl
        · simp only [show ¬ d < 0 from fun h => hlt (hd2.1 h), decide_false, cond_false]
          refine step (2 * r + 1) (by omega) (.inl rfl) fun d h1 h2 => ?_
          rcases h2 with h2 | h2
          · rw [h2]; exact ltS_irrefl
          · rw [h2]; exact hlt
      · rw [show decide (((2 * r + 2 : Nat) : Int) < (hi : Int)) = false by simp; omega]
        simp only [cond_false]
        refine step (2 * r + 1) (by omega) (.inl rfl) fun d h1 h2 => ?_
        rw [show d = 2 * r + 1 by omega]; exact ltS_irrefl
theorem f109_eq {N f lo hi : Nat} {l : List Spot} (hN : 30 ≤ N) (hlh : lo ≤ hi) (hN2 : hi + 10 < N) (hhl : f + hi ≤ l.length) (hl : l.length ≤ 100000) (hH : Hp f lo hi lo l) :
    ∃ l', Out (f + lo) (f + hi) l l' ∧ Heap f lo hi l' ∧ f109 N (lo : Int) (hi : Int) (f : Int) l = some l' := by
  obtain ⟨n, rfl⟩ : ∃ n, N = n + 1 := ⟨N - 1, by omega⟩
  exact f109_in (N := n) (by omega) n lo l (by omega) (Nat.le_refl _) hlh hhl hl hH (fun p c h1 h2 h3 h4 => by omega)
theorem keep_ok {l l' : List Spot} (h : l'.length = l.length) : keepL l l' = some l' := by unfold keepL; rw [if_pos h.symm]
theorem f99_build {N a b : Nat} {k0 : List Spot → Option (List Spot)} (hN : 40 ≤ N) (hab : a < b) (hbN : b + 20 < N) : ∀ (i fu : Nat) (l : List Spot), i ≤ fu → i ≤ b - a → b ≤ l.length → l.length ≤ 100000 → Heap a i (b - a) l →
    ∃ l', Out a b l l' ∧ Heap a 0 (b - a) l' ∧ f99_4 (a : Int) (b : Int) N k0 (fu + 1) ((i : Int) - 1) l = k0 l' := by
  intro i
  induction i with
  | zero =>
    intro fu l hf hi hbl hl hH
    refine ⟨l, Out.refl, hH, ?_⟩
    unfold f99_4 f99_4b
    rw [show decide ((0 : Int) ≤ ((0 : Nat) : Int) - 1) = false by simp]
    rfl
  | succ i ih =>
    intro fu l hf hi hbl hl hH
    obtain ⟨fu, rfl⟩ : ∃ n, fu = n + 1 := ⟨fu - 1, by omega⟩
    obtain ⟨l1, h1, h2, h3⟩ := f109_eq (N := N) (f := a) (lo := i) (hi := b - a) (l := l) (by omega) (by omega) (by omega) (by omega) hl (fun p c q1 q2 q3 q4 => hH p c (by omega) q3 q4)
    have h1' : Out a b l l1 := h1.wide (by omega) (by omega)
    obtain ⟨l2, h4, h5, h6⟩ := ih fu l1 (by omega) (by omega) (by rw [h1.len]; exact hbl) (by rw [h1.len]; exact hl) h2
    refine ⟨l2, h1'.trans h4, h5, ?_⟩
    unfold f99_4 f99_4b
    have hw0 : W ((b : Int) - (a : Int)) = ((b - a : Nat) : Int) := by rw [Wi (by omega) (by omega)]; omega
    have hw1 : ((i + 1 : Nat) : Int) - 1 = (i : Int) := by omega
    rw [hw1, hw0, show decide ((0 : Int) ≤ (i : Int)) = true by simp, h3]
    simp only [cond_true, Option.bind_some, keep_ok h1.len]
    rw [Wi (by omega) (by omega)]
    exact h6
theorem heap_top {f hi : Nat} {l : List Spot} (hH : Heap f 0 hi l) : ∀ c, c < hi → ¬ ltS (at' l f) (at' l (f + c)) := by
  intro c
  induction c using Nat.strongRecOn with
  | ind c ih =>
    intro hc
    by_cases e : c = 0
    · subst e; exact ltS_irrefl
    · exact leS_trans (hH ((c - 1) / 2) c (by omega) hc (by omega)) (ih ((c - 1) / 2) (by omega) (by omega))
theorem f99_pop {N a b : Nat} (hN : 40 ≤ N) (hab : a < b) (hbN : b + 20 < N) : ∀ (i fu : Nat) (l : List Spot), i ≤ fu → i ≤ b - a → b ≤ l.length → l.length ≤ 100000 → Heap a 0 i l → (∀ p q, a ≤ p → p < q → a + i ≤ q → q < b → ¬ ltS (at' l q) (at' l p)) →
    ∃ l', Out a b l l' ∧ Srt a b l' ∧ f99_8 (a : Int) N (fu + 1) ((i : Int) - 1) l = some l' := by
  intro i
  induction i with
  | zero =>
    intro fu l hf hi hbl hl hH hT
    refine ⟨l, Out.refl, fun p q h1 h2 h3 => hT p q h1 h2 (by omega) h3, ?_⟩
    unfold f99_8 f99_8b
    rw [show decide ((0 : Int) ≤ ((0 : Nat) : Int) - 1) = false by simp]
    rfl
  | succ i ih =>
    intro fu l hf hi hbl hl hH hT
    obtain ⟨fu, rfl⟩ : ∃ n, fu = n + 1 := ⟨fu - 1, by omega⟩
    have hw1 : ((i + 1 : Nat) : Int) - 1 = (i : Int) := by omega
    have hw2 : W ((a : Int) + (i : Int)) = ((a + i : Nat) : Int) := by rw [show (a : Int) + (i : Int) = ((a + i : Nat) : Int) by omega]; exact W_of (by omega) (by omega)
    have hO : Out a b l (sw l a (a + i)) := Out.sw (by omega) (by omega) hbl
    obtain ⟨l1, h1, h2, h3⟩ := f109_eq (N := N) (f := a) (lo := 0) (hi := i) (l := sw l a (a + i)) (by omega) (by omega) (by omega) (by rw [sw_len]; omega) (by rw [sw_len]; exact hl) (by
      intro p c q1 q2 q3 q4
      rw [at_sw (by omega) (by omega), at_sw (by omega) (by omega), if_neg (by omega), if_neg (by omega), if_neg (by omega), if_neg (by omega)]
      exact hH p c (by omega) (by omega) q4)
    have h1' : Out a (a + i) (sw l a (a + i)) l1 := h1.wide (by omega) (by omega)
    have hO2 : Out a b l l1 := hO.trans (h1'.wide (Nat.le_refl _) (by omega))
    have top : at' l1 (a + i) = at' l a := by
      rw [h1'.2 (a + i) (.inr (Nat.le_refl _)), at_sw (by omega) (by omega), if_pos rfl]
    obtain ⟨l2, h4, h5, h6⟩ := ih fu l1 (by omega) (by omega) (by rw [hO2.len]; exact hbl) (by rw [hO2.len]; exact hl) h2 (by
      intro p q q1 q2 q3 q4
      have src : ∀ k, a ≤ k → k < a + (i + 1) → ∃ k', (a ≤ k' ∧ k' < a + (i + 1)) ∧ at' l1 k = at' l k' := fun k g1 g2 => by
        have hOi : Out a (a + (i + 1)) l l1 := (Out.sw (by omega) (by omega) (by omega)).trans (h1'.wide (Nat.le_refl _) (by omega))
        exact hOi.from (by omega) ⟨g1, g2⟩
      by_cases e : q = a + i
      · subst e
        rw [top]
        obtain ⟨k', g1, g2⟩ := src p q1 (by omega)
        rw [g2]
        have := heap_top hH (k' - a) (by omega)
        rwa [show a + (k' - a) = k' by omega] at this
      · have eq : at' l1 q = at' l q := by
          rw [h1'.2 q (.inr (by omega)), at_sw (by omega) (by omega), if_neg (by omega), if_neg (by omega)]
        rw [eq]
        by_cases e2 : p < a + (i + 1)
        · obtain ⟨k', g1, g2⟩ := src p q1 e2
          rw [g2]
          exact hT k' q g1.1 (by omega) (by omega) q4
        · rw [h1'.2 p (.inr (by omega)), at_sw (by omega) (by omega), if_neg (by omega), if_neg (by omega)]
          exact hT p q q1 q2 (by omega) q4)
    refine ⟨l2, hO2.trans h4, h5, ?_⟩
    unfold f99_8 f99_8b
    rw [hw1, hw2, show decide ((0 : Int) ≤ (i : Int)) = true by simp]
    simp only [cond_true]
    have := sw_run (l := l) (i := a) (j := a + i) (r := fun x6 => (f109 N (0 : Int) (i : Int) (a : Int) x6).bind fun x7 => (keepL x6 x7).bind fun x8 => f99_8 (a : Int) N (fu + 1) (W ((i : Int) - 1)) x8) (by omega) (by omega)
    rw [this, show (0 : Int) = ((0 : Nat) : Int) from rfl, h3]
    simp only [Option.bind_some, keep_ok h1.len]
    rw [Wi (by omega) (by omega)]
    exact h6
theorem f99_eq {N a b : Nat} {l : List Spot} (hN : 50 ≤ N) (hab : a < b) (hbN : b + 30 < N) (hbl : b ≤ l.length) (hl : l.length ≤ 100000) : ∃ l', Out a b l l' ∧ Srt a b l' ∧ f99 N (a : Int) (b : Int) l = some l' := by
  obtain ⟨n, rfl⟩ : ∃ n, N = n + 1 := ⟨N - 1, by omega⟩
  have hw0 : W ((b : Int) - (a : Int)) = ((b - a : Nat) : Int) := by rw [Wi (by omega) (by omega)]; omega
  have hw1 : W (((b - a : Nat) : Int) - (1 : Int)) = ((b - a : Nat) : Int) - 1 := Wi (by omega) (by omega)
  have hw2 : W (Int.tdiv (((b - a : Nat) : Int) - 1) 2) = (((b - a + 1) / 2 : Nat) : Int) - 1 := by
    have h1 : Int.tdiv (((b - a : Nat) : Int) - 1) 2 = (((b - a + 1) / 2 : Nat) : Int) - 1 := by
      have := tdiv_nat (b - a - 1) 2
      rw [show (((b - a : Nat) : Int) - 1) = ((b - a - 1 : Nat) : Int) by omega]
      rw [show ((2 : Nat) : Int) = 2 from rfl] at this
      rw [this]; omega
    rw [h1]; exact Wi (by omega) (by omega)
  obtain ⟨m, hm⟩ : ∃ m, n = m + 1 := ⟨n - 1, by omega⟩
  obtain ⟨l1, h1, h2, h3⟩ := f99_build (N := n) (a := a) (b := b) (k0 := f99_c7 (a : Int) (b : Int) n) (by omega) hab (by omega) ((b - a + 1) / 2) m l (by omega) (by omega) hbl hl (fun p c q1 q2 q3 => by omega)
  obtain ⟨l2, h4, h5, h6⟩ := f99_pop (N := n) (a := a) (b := b) (by omega) hab (by omega) (b - a) m l1 (by omega) (by omega) (by rw [h1.len]; exact hbl) (by rw [h1.len]; exact hl) h2 (fun p q q1 q2 q3 q4 => by omega)
  refine ⟨l2, h1.trans h4, h5, ?_⟩
  show f99_4 (a : Int) (b : Int) n (f99_c7 (a : Int) (b : Int) n) n (W (Int.tdiv (W ((W ((b : Int) - (a : Int))) - (1 : Int))) (2 : Int))) l = some l2
  rw [hw0, hw1, hw2]
  rw [← hm] at h3 h6
  rw [h3]
  unfold f99_c7
  rw [hw0, hw1]
  exact h6
end Go.Vc
namespace Go.Vc
set_option linter.unusedVariables false
set_option linter.unnecessarySimpa false
set_option linter.unusedSimpArgs false
set_option linter.unusedSimpArgs false
theorem Abv.sub {a b b' : Nat} {l : List Spot} (h : Abv a b l) (hb : b' ≤ b) : Abv a b' l := fun h0 k h1 h2 => h h0 k h1 (by omega)
theorem join_srt {a b m : Nat} {l l' : List Spot} (hm : a ≤ m ∧ m < b) (hlo : ∀ k, a ≤ k → k < m → ltS (at' l k) (at' l m)) (hhi : ∀ k, m < k → k < b → ¬ ltS (at' l k) (at' l m))
    (f1 : ∀ k, a ≤ k → k < m → ∃ k', (a ≤ k' ∧ k' < m) ∧ at' l' k = at' l k') (f2 : at' l' m = at' l m) (f3 : ∀ k, m + 1 ≤ k → k < b → ∃ k', (m + 1 ≤ k' ∧ k' < b) ∧ at' l' k = at' l k')
    (s1 : Srt a m l') (s2 : Srt (m + 1) b l') : Srt a b l' := by
  intro p q h1 h2 h3
  have low : ∀ k, a ≤ k → k < m → ltS (at' l' k) (at' l' m) := fun k g1 g2 => by
    obtain ⟨k', g3, g4⟩ := f1 k g1 g2
    rw [g4, f2]; exact hlo k' g3.1 g3.2
  have high : ∀ k, m < k → k < b → ¬ ltS (at' l' k) (at' l' m) := fun k g1 g2 => by
    obtain ⟨k', g3, g4⟩ := f3 k g1 g2
    rw [g4, f2]; exact hhi k' (by omega) g3.2
  by_cases e1 : q < m
  · exact s1 p q h1 h2 e1
  · by_cases e2 : q = m
    · subst e2; exact ltS_asymm (low p h1 h2)
    · by_cases e3 : p < m
      · exact leS_trans (ltS_asymm (low p h1 e3)) (high q (by omega) h3)
      · by_cases e4 : p = m
        · subst e4; exact high q h2 h3
        · exact s2 p q (by omega) h2 h3
def Sorts (n : Nat) : Prop := ∀ (a b : Nat) (lim : Int) (l : List Spot), a ≤ b → b ≤ l.length → l.length ≤ 100000 → b - a ≤ 500 → b + (b - a) + 70 < n → Abv a b l → ∃ l', Out a b l l' ∧ Srt a b l' ∧ f95 n (a : Int) (b : Int) lim l = some l'
def Goes (n fu a b : Nat) : Prop := ∀ (a' b' : Nat) (lim : Int) (bal par : Bool) (l : List Spot), a ≤ a' → b' ≤ b → a' ≤ b' → b' - a' < b - a → b' ≤ l.length → l.length ≤ 100000 → Abv a' b' l → ∃ l', Out a' b' l l' ∧ Srt a' b' l' ∧ f95_2 n (f95 n) fu (a' : Int) (b' : Int) lim bal par l = some l'
theorem f95_part {n fu a b : Nat} (ih : Sorts n) (hn : b + (b - a) + 69 < n) (hba : b - a ≤ 500) (hG : Goes n fu a b) (hab : a + 2 ≤ b) {lim x : Int} {l : List Spot} (hx : Bt a b x) (hbl : b ≤ l.length) (hl : l.length ≤ 100000) (hA : Abv a b l) :
    ∃ l', Out a b l l' ∧ Srt a b l' ∧ f95_c20 n (f95 n) (a : Int) (b : Int) (f95_2 n (f95 n) fu) lim x l = some l' := by
  obtain ⟨xn, rfl⟩ : ∃ m : Nat, x = (m : Int) := ⟨x.toNat, by have := hx.1; omega⟩
  obtain ⟨m, fl, l2, ⟨h1, h2, h3, h4⟩, h5⟩ := f105_eq (N := n) (a := a) (b := b) (x := xn) (l := l) (by omega) hab (by omega) ⟨by have := hx.1; omega, by have := hx.2; omega⟩ hbl (by omega)
  have hA2 := hA.out h1 hbl
  have hl2 := h1.len
  unfold f95_c20
  rw [h5]
  simp only [Option.bind_some, keep_ok hl2]
  rw [W_nat (by omega)]
  by_cases e : W ((m : Int) - (a : Int)) < W ((b : Int) - (m : Int))
  · simp only [e, decide_true, cond_true]
    obtain ⟨l3, g1, g2, g3⟩ := ih a m lim l2 h2.1 (by omega) (by omega) (by omega) (by omega) (hA2.sub (by omega))
    have hl3 := g1.len
    rw [g3]
    simp only [Option.bind_some, keep_ok hl3]
    obtain ⟨l4, k1, k2, k3⟩ := hG (m + 1) b lim (decide ((W (Int.tdiv (W ((b : Int) - (a : Int))) (8 : Int))) ≤ (W ((m : Int) - (a : Int))))) fl l3 (by omega) (Nat.le_refl _) (by omega) (by omega) (by omega) (by omega) (by
      intro _ k q1 q2
      rw [show m + 1 - 1 = m from rfl, g1.2 k (.inr (by omega)), g1.2 m (.inr (by omega))]
      exact h4 k (by omega) q2)
    refine ⟨l4, h1.trans ((g1.wide (Nat.le_refl _) (by omega)).trans (k1.wide (by omega) (Nat.le_refl _))), ?_, k3⟩
    refine join_srt h2 h3 h4 ?_ ?_ ?_ ?_ k2
    · intro k q1 q2
      rw [k1.2 k (.inl (by omega))]
      exact g1.from (by omega) ⟨q1, q2⟩
    · rw [k1.2 m (.inl (by omega)), g1.2 m (.inr (by omega))]
    · intro k q1 q2
      obtain ⟨k', w1, w2⟩ := k1.from (by omega) ⟨q1, q2⟩
      exact ⟨k', w1, by rw [w2, g1.2 k' (.inr (by omega))]⟩
    · intro p q q1 q2 q3
      rw [k1.2 p (.inl (by omega)), k1.2 q (.inl (by omega))]
      exact g2 p q q1 q2 q3
  · simp only [e, decide_false, cond_false]
    obtain ⟨l3, g1, g2, g3⟩ := ih (m + 1) b lim l2 (by omega) (by omega) (by omega) (by omega) (by omega) (by
      intro _ k q1 q2
      rw [show m + 1 - 1 = m from rfl]
      exact h4 k (by omega) q2)
    have hl3 := g1.len
    rw [g3]
    simp only [Option.bind_some, keep_ok hl3]
    obtain ⟨l4, k1, k2, k3⟩ := hG a m lim (decide ((W (Int.tdiv (W ((b : Int) - (a : Int))) (8 : Int))) ≤ (W ((b : Int) - (m : Int))))) fl l3 (Nat.le_refl _) (by omega) h2.1 (by omega) (by omega) (by omega) (by
      intro h0 k q1 q2
      rw [g1.2 k (.inl (by omega)), g1.2 (a - 1) (.inl (by omega))]
      exact hA2 h0 k q1 (by omega))
    refine ⟨l4, h1.trans ((g1.wide (by omega) (Nat.le_refl _)).trans (k1.wide (Nat.le_refl _) (by omega))), ?_, k3⟩
    refine join_srt h2 h3 h4 ?_ ?_ ?_ k2 ?_
    · intro k q1 q2
      obtain ⟨k', w1, w2⟩ := k1.from (by omega) ⟨q1, q2⟩
      exact ⟨k', w1, by rw [w2, g1.2 k' (.inl (by omega))]⟩
    · rw [k1.2 m (.inr (by omega)), g1.2 m (.inl (by omega))]
    · intro k q1 q2
      rw [k1.2 k (.inr (by omega))]
      exact g1.from (by omega) ⟨q1, q2⟩
    · intro p q q1 q2 q3
      rw [k1.2 p (.inr (by omega)), k1.2 q (.inr (by omega))]
      exact g2 p q q1 q2 q3
theorem f95_equal {n fu a b : Nat} (ih : Sorts n) (hn : b + (b - a) + 69 < n) (hba : b - a ≤ 500) (hG : Goes n fu a b) (hab : a + 2 ≤ b) {lim x : Int} {bal par : Bool} {l : List Spot} (hx : Bt a b x) (hbl : b ≤ l.length) (hl : l.length ≤ 100000) (hA : Abv a b l) :
    ∃ l', Out a b l l' ∧ Srt a b l' ∧ f95_c17 n (f95 n) (a : Int) (b : Int) bal par (f95_2 n (f95 n) fu) lim x l = some l' := by
  have hP := f95_part ih hn hba hG hab (lim := lim) hx hbl hl hA
  unfold f95_c17
  simp only [joinK]
  by_cases e : 0 < a
  · rw [show decide ((0 : Int) < (a : Int)) = true by simp; omega, W_dec e (by omega)]
    obtain ⟨xn, rfl⟩ : ∃ m : Nat, x = (m : Int) := ⟨x.toNat, by have := hx.1; omega⟩
    have hx1 : a ≤ xn := by have := hx.1; omega
    have hx2 : xn < b := by have := hx.2; omega
    obtain ⟨d, hd, hd2⟩ := f91_eq (N := n) (x := at' l (a - 1)) (y := at' l xn) (by omega)
    simp only [cond_true, ix_at (show a - 1 < l.length by omega), ix_at (show xn < l.length by omega), Option.bind_some, hd]
    by_cases hlt : ltS (at' l (a - 1)) (at' l xn)
    · simp only [hd2.2 hlt, decide_true, Bool.not_true, cond_false]
      exact hP
    · simp only [show ¬ d < 0 from fun h => hlt (hd2.1 h), decide_false, Bool.not_false, cond_true]
      obtain ⟨m, l2, h1, h2, h3, h4, h5⟩ := f104_eq (N := n) (a := a) (b := b) (x := xn) (l := l) (by omega) hab (by omega) ⟨hx1, hx2⟩ hbl (by omega) (fun k q1 q2 => leS_trans hlt (hA e k q1 q2))
      have hl2 := h1.len
      rw [h5]
      simp only [Option.bind_some, keep_ok hl2]
      obtain ⟨l3, k1, k2, k3⟩ := hG m b lim bal par l2 (by omega) (Nat.le_refl _) h2.2 (by omega) (by omega) (by omega) (by
        intro _ k q1 q2
        rw [h3 (m - 1) (by omega) (by omega)]
        exact ltS_asymm (h4 k q1 q2))
      refine ⟨l3, h1.trans (k1.wide (by omega) (Nat.le_refl _)), ?_, k3⟩
      intro p q q1 q2 q3
      have low : ∀ k, a ≤ k → k < m → at' l3 k = at' l xn := fun k g1 g2 => by rw [k1.2 k (.inl g2)]; exact h3 k g1 g2
      by_cases e1 : q < m
      · rw [low p q1 (by omega), low q (by omega) e1]; exact ltS_irrefl
      · by_cases e2 : p < m
        · rw [low p q1 e2]
          obtain ⟨k', w1, w2⟩ := k1.from (by omega) (k := q) ⟨by omega, q3⟩
          rw [w2]; exact ltS_asymm (h4 k' w1.1 w1.2)
        · exact k2 p q (by omega) q2 q3
  · rw [show decide ((0 : Int) < (a : Int)) = false by simp; omega]
    exact hP
theorem f95_few {n fu a b : Nat} (ih : Sorts n) (hn : b + (b - a) + 69 < n) (hba : b - a ≤ 500) (hG : Goes n fu a b) (hab : a + 2 ≤ b) {lim x hint : Int} {bal par : Bool} {l : List Spot} (hx : Bt a b x) (hbl : b ≤ l.length) (hl : l.length ≤ 100000) (hA : Abv a b l) :
    ∃ l', Out a b l l' ∧ Srt a b l' ∧ f95_c15 n (f95 n) (a : Int) (b : Int) bal par (f95_2 n (f95 n) fu) lim x hint l = some l' := by
  have hP := f95_equal ih hn hba hG hab (lim := lim) (bal := bal) (par := par) hx hbl hl hA
  unfold f95_c15
  simp only [joinK]
  cases bal with
  | false => exact hP
  | true => cases par with
    | false => exact hP
    | true =>
      simp only [cond_true]
      by_cases e : hint = 1
      · simp only [e, decide_true, cond_true]
        obtain ⟨r, l2, h1, h2, h3⟩ := f103_eq (N := n) (a := a) (b := b) (l := l) (by omega) (by omega) (by omega) hbl (by omega) hA
        have hl2 := h1.len
        rw [h3]
        simp only [Option.bind_some, keep_ok hl2]
        cases r with
        | true => exact ⟨l2, h1, h2 rfl, rfl⟩
        | false =>
          obtain ⟨l3, k1, k2, k3⟩ := f95_equal ih hn hba hG hab (lim := lim) (bal := true) (par := true) (l := l2) hx (by omega) (by omega) (hA.out h1 hbl)
          exact ⟨l3, h1.trans k1, k2, k3⟩
      · simp only [e, decide_false, cond_false]
        exact hP
theorem f95_turn {n fu a b : Nat} (ih : Sorts n) (hn : b + (b - a) + 69 < n) (hba : b - a ≤ 500) (hG : Goes n fu a b) (hab : a + 8 ≤ b) {lim : Int} {bal par : Bool} {l : List Spot} (hbl : b ≤ l.length) (hl : l.length ≤ 100000) (hA : Abv a b l) :
    ∃ l', Out a b l l' ∧ Srt a b l' ∧ f95_c10 n (f95 n) (a : Int) (b : Int) bal par (f95_2 n (f95 n) fu) lim l = some l' := by
  obtain ⟨y, h, h1, h2⟩ := f101_eq (N := n) (a := a) (b := b) (l := l) (by omega) hab hbl (by omega)
  unfold f95_c10
  rw [h1]
  simp only [joinK, Option.bind_some]
  by_cases e : h = 2
  · simp only [e, decide_true, cond_true]
    obtain ⟨l2, g1, g2⟩ := f102_eq (N := n) (a := a) (b := b) (l := l) (by omega) (by omega) (by omega) hbl (by omega)
    have hl2 := g1.len
    rw [g2]
    simp only [Option.bind_some, keep_ok hl2]
    have hy : Bt a b (W (W ((b : Int) - 1) - W (y - (a : Int)))) := by
      have := h2.1; have := h2.2
      rw [Wi (n := (b : Int) - 1) (by omega) (by omega), Wi (n := y - (a : Int)) (by omega) (by omega), Wi (by omega) (by omega)]
      exact ⟨by omega, by omega⟩
    obtain ⟨l3, k1, k2, k3⟩ := f95_few ih hn hba hG (by omega) (lim := lim) (bal := bal) (par := par) (hint := 1) (l := l2) hy (by omega) (by omega) (hA.out g1 hbl)
    exact ⟨l3, g1.trans k1, k2, k3⟩
  · simp only [e, decide_false, cond_false]
    exact f95_few ih hn hba hG (by omega) h2 hbl hl hA
theorem f95_loop {n : Nat} (ih : Sorts n) : ∀ (fu a b : Nat) (lim : Int) (bal par : Bool) (l : List Spot), b - a < fu → a ≤ b → b ≤ l.length → l.length ≤ 100000 → b - a ≤ 500 → b + (b - a) + 69 < n → Abv a b l →
    ∃ l', Out a b l l' ∧ Srt a b l' ∧ f95_2 n (f95 n) fu (a : Int) (b : Int) lim bal par l = some l' := by
  intro fu
  induction fu with
  | zero => intro a b lim bal par l h; omega
  | succ fu ihf =>
    intro a b lim bal par l hf hab hbl hl hba hn hA
    have hG : Goes n fu a b := fun a' b' lim bal par l h1 h2 h3 h4 h5 h6 h7 => ihf a' b' lim bal par l (by omega) h3 h5 h6 (by omega) (by omega) h7
    have hw0 : W ((b : Int) - (a : Int)) = ((b - a : Nat) : Int) := by rw [Wi (by omega) (by omega)]; omega
    unfold f95_2 f95_2b
    rw [hw0]
    by_cases e : b - a ≤ 12
    · obtain ⟨l2, h1, h2, h3⟩ := f98_eq (N := n) (a := a) (b := b) (l := l) (by omega) hab (by omega) hbl (by omega)
      rw [show decide (((b - a : Nat) : Int) ≤ (12 : Int)) = true by simp; omega, h3]
      simp only [cond_true, Option.bind_some, keep_ok h1.len]
      exact ⟨l2, h1, h2, rfl⟩
    · rw [show decide (((b - a : Nat) : Int) ≤ (12 : Int)) = false by simp; omega]
      simp only [cond_false, joinK]
      by_cases e2 : lim = 0
      · obtain ⟨l2, h1, h2, h3⟩ := f99_eq (N := n) (a := a) (b := b) (l := l) (by omega) (by omega) (by omega) hbl hl
        simp only [e2, decide_true, cond_true, h3, Option.bind_some, keep_ok h1.len]
        exact ⟨l2, h1, h2, rfl⟩
      · simp only [e2, decide_false, cond_false]
        cases bal with
        | true =>
          simp only [Bool.not_true, cond_false]
          exact f95_turn ih hn hba hG (by omega) hbl hl hA
        | false =>
          simp only [Bool.not_false, cond_true]
          obtain ⟨l2, h1, h2⟩ := f100_eq (N := n) (a := a) (b := b) (l := l) (by omega) (by omega) hba (by omega) hbl (by omega)
          have hl2 := h1.len
          rw [h2]
          simp only [Option.bind_some, keep_ok hl2]
          obtain ⟨l3, k1, k2, k3⟩ := f95_turn ih hn hba hG (by omega) (lim := W (lim - 1)) (bal := false) (par := par) (l := l2) (by omega) (by omega) (hA.out h1 hbl)
          exact ⟨l3, h1.trans k1, k2, k3⟩
theorem f95_all : ∀ n, Sorts n := by
  intro n
  induction n with
  | zero => intro a b lim l h1 h2 h3 h4 h5; omega
  | succ n ih =>
    intro a b lim l h1 h2 h3 h4 h5 h6
    exact f95_loop ih n a b lim true true l (by omega) h1 h2 h3 h4 (by omega) h6
theorem f95_eq {N : Nat} {lim : Int} {l : List Spot} (hl : l.length ≤ 500) (hN : 1100 ≤ N) : ∃ l', l'.Perm l ∧ Srt 0 l.length l' ∧ f95 N 0 (l.length : Int) lim l = some l' := by
  obtain ⟨l', h1, h2, h3⟩ := f95_all N 0 l.length lim l (by omega) (Nat.le_refl _) (by omega) (by omega) (by omega) (fun h => by omega)
  exact ⟨l', h1.1, h2, h3⟩
end Go.Vc
namespace Go.Vc
open Go.Proofs
set_option linter.unusedVariables false
set_option linter.unnecessarySimpa false
set_option linter.unusedSimpArgs false
end Go.Vc
namespace Go.Vc
open Go.Proofs
set_option linter.unusedVariables false
set_option linter.unnecessarySimpa false
set_option linter.unusedSimpArgs false
end Go.Vc
namespace Go.Vc
open Go.Proofs
set_option linter.unusedVariables false
set_option linter.unnecessarySimpa false
set_option linter.unusedSimpArgs false
end Go.Vc
namespace Go.Vc
set_option linter.unusedVariables false
set_option linter.unnecessarySimpa false
set_option linter.unusedSimpArgs false
set_option linter.unusedSimpArgs false
def Cnd (q : Bool) (t : List (List Int)) (s a b : Nat) : Prop :=
  dl t s (bif q then [(a : Int), (a : Int)] else [(a : Int), (b : Int)]) = dl t s (bif q then [(b : Int), (b : Int)] else [(b : Int), (a : Int)])
instance (q : Bool) (t : List (List Int)) (s a b : Nat) : Decidable (Cnd q t s a b) := by unfold Cnd; infer_instance
def V (q : Bool) (t : List (List Int)) (x : Spot) : Prop := (0 ≤ x.State ∧ x.State < t.length) ∧ (0 ≤ x.A ∧ x.A < x.B ∧ x.B < t.length) ∧ Cnd q t x.State.toNat x.A.toNat x.B.toNat
def SpotsOf (q : Bool) (t : List (List Int)) (l : List Spot) : Prop := l.Pairwise ltS ∧ ∀ x, x ∈ l ↔ V q t x
theorem ltS_nodup {l : List Spot} (h : l.Pairwise ltS) : l.Nodup := h.imp fun h e => by subst e; exact ltS_irrefl h
def ltO (x y : Spot) : Prop := x.State < y.State ∨ (x.State = y.State ∧ (x.B < y.B ∨ (x.B = y.B ∧ x.A < y.A)))
def Bld (R : Spot → Spot → Prop) (q : Bool) (t : List (List Int)) (s a b : Nat) (l : List Spot) : Prop := l.Pairwise R ∧ ∀ x, x ∈ l ↔ V q t x ∧ R x ⟨s, a, b⟩
theorem spot_eq {x : Spot} {s a b : Int} (h1 : x.State = s) (h2 : x.A = a) (h3 : x.B = b) : x = ⟨s, a, b⟩ := by cases x; simp_all
theorem bld_add {q : Bool} {t : List (List Int)} {s a b : Nat} {l : List Spot} (h : Bld ltO q t s a b l) (hv : V q t ⟨s, a, b⟩) : Bld ltO q t s (a + 1) b (l ++ [⟨s, a, b⟩]) := by
  refine ⟨List.pairwise_append.2 ⟨h.1, by simp, fun x hx y hy => ?_⟩, fun x => ?_⟩
  · rw [List.mem_singleton.1 hy]; exact ((h.2 x).1 hx).2
  · rw [List.mem_append, h.2 x, List.mem_singleton]
    constructor
    · rintro (⟨h1, h2⟩ | rfl)
      · exact ⟨h1, by unfold ltO at *; simp only at *; omega⟩
      · exact ⟨hv, .inr ⟨rfl, .inr ⟨rfl, by show (a : Int) < ((a + 1 : Nat) : Int); omega⟩⟩⟩
    · rintro ⟨h1, h2⟩
      by_cases e : ltO x ⟨s, a, b⟩
      · exact .inl ⟨h1, e⟩
      · refine .inr (spot_eq ?_ ?_ ?_) <;> (unfold ltO at *; simp only at *; omega)
theorem bld_skip {q : Bool} {t : List (List Int)} {s a b : Nat} {l : List Spot} (h : Bld ltO q t s a b l) (hv : ¬ V q t ⟨s, a, b⟩) : Bld ltO q t s (a + 1) b l := by
  refine ⟨h.1, fun x => ?_⟩
  rw [h.2 x]
  constructor
  · rintro ⟨h1, h2⟩
    exact ⟨h1, by unfold ltO at *; simp only at *; omega⟩
  · rintro ⟨h1, h2⟩
    by_cases e : ltO x ⟨s, a, b⟩
    · exact ⟨h1, e⟩
    · have : x = ⟨s, a, b⟩ := by refine spot_eq ?_ ?_ ?_ <;> (unfold ltO at *; simp only at *; omega)
      rw [this] at h1; exact absurd h1 hv
theorem bld_row {q : Bool} {t : List (List Int)} {s b : Nat} {l : List Spot} (h : Bld ltO q t s b b l) : Bld ltO q t s 0 (b + 1) l := by
  refine ⟨h.1, fun x => ?_⟩
  rw [h.2 x]
  refine and_congr_right fun hv => ?_
  obtain ⟨⟨h1, h2⟩, ⟨h3, h4, h5⟩, _⟩ := hv
  unfold ltO; simp only; omega
theorem bld_state {q : Bool} {t : List (List Int)} {s : Nat} {l : List Spot} (h : Bld ltO q t s 0 t.length l) : Bld ltO q t (s + 1) 0 0 l := by
  refine ⟨h.1, fun x => ?_⟩
  rw [h.2 x]
  refine and_congr_right fun hv => ?_
  obtain ⟨⟨h1, h2⟩, ⟨h3, h4, h5⟩, _⟩ := hv
  unfold ltO; simp only; omega
theorem bld_nil {q : Bool} {t : List (List Int)} : Bld ltO q t 0 0 0 [] := by
  refine ⟨by simp, fun x => ?_⟩
  simp only [List.not_mem_nil, false_iff]
  rintro ⟨⟨⟨h1, h2⟩, ⟨h3, h4, h5⟩, _⟩, h6⟩
  unfold ltO at h6; simp only at h6; omega
theorem bld_all {q : Bool} {t : List (List Int)} {l : List Spot} (h : Bld ltO q t t.length 0 0 l) : l.Nodup ∧ ∀ x, x ∈ l ↔ V q t x := by
  refine ⟨h.1.imp fun h e => by subst e; unfold ltO at h; omega, fun x => ?_⟩
  rw [h.2 x]
  refine ⟨fun hx => hx.1, fun hv => ⟨hv, ?_⟩⟩
  obtain ⟨⟨h1, h2⟩, ⟨h3, h4, h5⟩, _⟩ := hv
  unfold ltO; simp only; omega
theorem v_mk {q : Bool} {t : List (List Int)} {s a b : Nat} (hs : s < t.length) (hb : b < t.length) (hab : a < b) : V q t ⟨s, a, b⟩ ↔ Cnd q t s a b := by
  unfold V
  constructor
  · intro h; exact h.2.2
  · intro h; exact ⟨by simp only; omega, by simp only; omega, h⟩
def tri : Nat → Nat
  | 0 => 0
  | b + 1 => tri b + b
theorem tri_le {n : Nat} (h : n ≤ 10) : tri n ≤ 45 := by
  have : ∀ n : Fin 11, tri n.val ≤ 45 := by decide
  exact this ⟨n, by omega⟩
theorem dig2 {t : List (List Int)} {a b : Nat} (ha : a < t.length) (hb : b < t.length) : Dig t [(a : Int), (b : Int)] := by
  intro x hx
  simp at hx
  rcases hx with rfl | rfl <;> omega
theorem sort_of {q : Bool} {t : List (List Int)} {l l' : List Spot} (h : Bld ltO q t t.length 0 0 l) (hp : l'.Perm l) (hs : Srt 0 l.length l') : SpotsOf q t l' := by
  obtain ⟨h1, h2⟩ := bld_all h
  refine ⟨List.pairwise_iff_getElem.2 fun i j hi hj hij => ?_, fun x => by rw [hp.mem_iff]; exact h2 x⟩
  have hl := hp.length_eq
  have hn : l'.Nodup := hp.nodup_iff.2 h1
  have h3 := hs i j (by omega) hij (by omega)
  have e1 : at' l' i = l'[i] := by simp [at', hi]
  have e2 : at' l' j = l'[j] := by simp [at', hj]
  rw [e1, e2] at h3
  by_cases e : ltS l'[i] l'[j]
  · exact e
  · have := leS_antisymm h3 e
    exact absurd this (List.pairwise_iff_getElem.1 hn i j hi hj hij)
theorem f43_in {N : Nat} {t : List (List Int)} (h : Lat t) (hN : 100 ≤ N) {s b : Nat} (hs : s < t.length) (hb : b < t.length) {k2 : List Spot → Option (List Spot × Int)} {L : Nat} (hL : L ≤ 2000) : ∀ (fu a : Nat) (l : List Spot), b - a < fu → a ≤ b → Bld ltO false t s a b l → l.length ≤ L + a →
    ∃ l', Bld ltO false t s b b l' ∧ l'.length ≤ L + b ∧ f43_i101_12 t N (s : Int) (b : Int) k2 fu l (a : Int) = k2 l' := by
  have h10 := h.hi
  intro fu
  induction fu with
  | zero => intro a l hf; omega
  | succ fu ih =>
    intro a l hf hab hB hl
    unfold f43_i101_12 f43_i101_12b
    by_cases e : a = b
    · subst e
      refine ⟨l, hB, hl, ?_⟩
      rw [show decide ((a : Int) < (a : Int)) = false by simp]
      rfl
    · rw [show decide ((a : Int) < (b : Int)) = true by simp; omega]
      have hp : f77 N (a : Int) (b : Int) = some ([(a : Int), (b : Int)], [(b : Int), (a : Int)]) := rfl
      rw [hp]
      simp only [cond_true, Option.bind_some]
      rw [f59_eq h.toSq (dig2 (by omega) (by omega)) hs (by simp) hN, f59_eq h.toSq (dig2 (by omega) (by omega)) hs (by simp) hN]
      simp only [Option.bind_some]
      rw [W_nat (by omega)]
      by_cases c : Cnd false t s a b
      · have c' : ((dl t s [(a : Int), (b : Int)] : Nat) : Int) = ((dl t s [(b : Int), (a : Int)] : Nat) : Int) := congrArg _ c
        rw [c']
        simp only [decide_true, cond_true]
        rw [app_ok (by simp; omega) (by simp; omega)]
        simp only [Option.bind_some]
        obtain ⟨l', h1, h2, h3⟩ := ih (a + 1) (l ++ [⟨s, a, b⟩]) (by omega) (by omega) (bld_add hB ((v_mk hs hb (by omega)).2 c)) (by simp; omega)
        exact ⟨l', h1, h2, h3⟩
      · have c' : ¬ ((dl t s [(a : Int), (b : Int)] : Nat) : Int) = ((dl t s [(b : Int), (a : Int)] : Nat) : Int) := fun e => c (Int.ofNat.inj e)
        simp only [c', decide_false, cond_false]
        obtain ⟨l', h1, h2, h3⟩ := ih (a + 1) l (by omega) (by omega) (bld_skip hB fun hv => c ((v_mk hs hb (by omega)).1 hv)) (by omega)
        exact ⟨l', h1, h2, h3⟩
theorem f43_mid {N : Nat} {t : List (List Int)} (h : Lat t) (hN : 100 ≤ N) {s : Nat} (hs : s < t.length) {k1 : List Spot → Option (List Spot × Int)} : ∀ (fu b : Nat) (l : List Spot), t.length - b < fu → b ≤ t.length → Bld ltO false t s 0 b l → l.length ≤ 45 * s + tri b →
    ∃ l', Bld ltO false t (s + 1) 0 0 l' ∧ l'.length ≤ 45 * (s + 1) ∧ f43_i101_9 t N (s : Int) k1 fu l (b : Int) = k1 l' := by
  have h10 := h.hi
  intro fu
  induction fu with
  | zero => intro b l hf; omega
  | succ fu ih =>
    intro b l hf hb hB hl
    unfold f43_i101_9 f43_i101_9b
    by_cases e : b = t.length
    · subst e
      have := tri_le h10
      refine ⟨l, bld_state hB, by omega, ?_⟩
      rw [show decide ((t.length : Int) < (t.length : Int)) = false by simp]
      rfl
    · rw [show decide ((b : Int) < (t.length : Int)) = true by simp; omega]
      simp only [cond_true, joinK]
      have := tri_le (n := b) (by omega)
      obtain ⟨l1, h1, h2, h3⟩ := f43_in h hN hs (b := b) (by omega) (k2 := f43_i101_c18 t (s : Int) (b : Int) (f43_i101_9 t N (s : Int) k1 fu)) (L := 45 * s + tri b) (by omega) N 0 l (by omega) (by omega) hB (by omega)
      rw [show (0 : Int) = ((0 : Nat) : Int) from rfl, h3]
      unfold f43_i101_c18
      rw [W_nat (by omega)]
      exact ih (b + 1) l1 (by omega) (by omega) (bld_row h1) (by simp only [tri]; omega)
theorem f43_out {N : Nat} {t : List (List Int)} (h : Lat t) (hN : 100 ≤ N) {k0 : List Spot → Option (List Spot × Int)} : ∀ (fu s : Nat) (l : List Spot), t.length - s < fu → s ≤ t.length → Bld ltO false t s 0 0 l → l.length ≤ 45 * s →
    ∃ l', Bld ltO false t t.length 0 0 l' ∧ l'.length ≤ 450 ∧ f43_i101_6 t N k0 fu l (s : Int) = k0 l' := by
  have h10 := h.hi
  intro fu
  induction fu with
  | zero => intro b l hf; omega
  | succ fu ih =>
    intro s l hf hs hB hl
    unfold f43_i101_6 f43_i101_6b
    by_cases e : s = t.length
    · subst e
      refine ⟨l, hB, by omega, ?_⟩
      rw [show decide ((t.length : Int) < (t.length : Int)) = false by simp]
      rfl
    · rw [show decide ((s : Int) < (t.length : Int)) = true by simp; omega]
      simp only [cond_true, joinK]
      obtain ⟨l1, h1, h2, h3⟩ := f43_mid h hN (s := s) (by omega) (k1 := f43_i101_c19 t (s : Int) (f43_i101_6 t N k0 fu)) N 0 l (by omega) (by omega) hB (by simp only [tri]; omega)
      rw [show (0 : Int) = ((0 : Nat) : Int) from rfl, h3]
      unfold f43_i101_c19
      rw [W_nat (by omega)]
      exact ih (s + 1) l1 (by omega) (by omega) h1 (by omega)
theorem f43_eq {N : Nat} {t : List (List Int)} (hs : Small t) (hN : 1200 ≤ N) : (Lat t ∧ ∃ l, SpotsOf false t l ∧ f43 N t = some (l, 0)) ∨ (chkT t ≠ 0 ∧ f43 N t = some ([], chkT t)) := by
  unfold f43
  rw [f49_eq hs (by omega)]
  simp only [Option.bind_some]
  by_cases e : chkT t = 0
  · left
    have h := chkT_good.1 e
    refine ⟨h, ?_⟩
    simp only [e, not_true, decide_false, cond_false, joinK]
    have h10 := h.hi
    obtain ⟨l, h1, h2, h3⟩ := f43_out h (N := N) (by omega) (k0 := f43_i101_c20 N) N 0 [] (by omega) (by omega) bld_nil (by simp)
    rw [show (0 : Int) = ((0 : Nat) : Int) from rfl, h3]
    unfold f43_i101_c20
    have hw : Wk .u64 ((l.length : Nat) : Int) = (l.length : Int) := by
      have := wrap_u64 (q := l.length) (by omega)
      unfold Wk
      cases inB .u64 ((l.length : Nat) : Int) with
      | true => rfl
      | false => exact this
    rw [hw]
    obtain ⟨p, hp, _⟩ := f96_eq (N := N) (m := l.length) (by omega)
    rw [hp]
    simp only [Option.bind_some]
    obtain ⟨l', g1, g2, g3⟩ := f95_eq (N := N) (lim := p) (l := l) (by omega) (by omega)
    rw [g3]
    simp only [Option.bind_some, keep_ok g1.length_eq]
    exact ⟨l', sort_of h1 g1 g2, rfl⟩
  · right
    refine ⟨e, ?_⟩
    simp only [e, not_false_eq_true, decide_true, cond_true]
theorem f45_in {N : Nat} {t : List (List Int)} (h : Lat t) (hN : 100 ≤ N) {s b : Nat} (hs : s < t.length) (hb : b < t.length) {k2 : List Spot → Option (List Spot × Int)} {L : Nat} (hL : L ≤ 2000) : ∀ (fu a : Nat) (l : List Spot), b - a < fu → a ≤ b → Bld ltO true t s a b l → l.length ≤ L + a →
    ∃ l', Bld ltO true t s b b l' ∧ l'.length ≤ L + b ∧ f45_i101_12 t N (s : Int) (b : Int) k2 fu l (a : Int) = k2 l' := by
  have h10 := h.hi
  intro fu
  induction fu with
  | zero => intro a l hf; omega
  | succ fu ih =>
    intro a l hf hab hB hl
    unfold f45_i101_12 f45_i101_12b
    by_cases e : a = b
    · subst e
      refine ⟨l, hB, hl, ?_⟩
      rw [show decide ((a : Int) < (a : Int)) = false by simp]
      rfl
    · rw [show decide ((a : Int) < (b : Int)) = true by simp; omega]
      have hp : f79 N (a : Int) (b : Int) = some ([(a : Int), (a : Int)], [(b : Int), (b : Int)]) := rfl
      rw [hp]
      simp only [cond_true, Option.bind_some]
      rw [f59_eq h.toSq (dig2 (by omega) (by omega)) hs (by simp) hN, f59_eq h.toSq (dig2 (by omega) (by omega)) hs (by simp) hN]
      simp only [Option.bind_some]
      rw [W_nat (by omega)]
      by_cases c : Cnd true t s a b
      · have c' : ((dl t s [(a : Int), (a : Int)] : Nat) : Int) = ((dl t s [(b : Int), (b : Int)] : Nat) : Int) := congrArg _ c
        rw [c']
        simp only [decide_true, cond_true]
        rw [app_ok (by simp; omega) (by simp; omega)]
        simp only [Option.bind_some]
        obtain ⟨l', h1, h2, h3⟩ := ih (a + 1) (l ++ [⟨s, a, b⟩]) (by omega) (by omega) (bld_add hB ((v_mk hs hb (by omega)).2 c)) (by simp; omega)
        exact ⟨l', h1, h2, h3⟩
      · have c' : ¬ ((dl t s [(a : Int), (a : Int)] : Nat) : Int) = ((dl t s [(b : Int), (b : Int)] : Nat) : Int) := fun e => c (Int.ofNat.inj e)
        simp only [c', decide_false, cond_false]
        obtain ⟨l', h1, h2, h3⟩ := ih (a + 1) l (by omega) (by omega) (bld_skip hB fun hv => c ((v_mk hs hb (by omega)).1 hv)) (by omega)
        exact ⟨l', h1, h2, h3⟩
theorem f45_mid {N : Nat} {t : List (List Int)} (h : Lat t) (hN : 100 ≤ N) {s : Nat} (hs : s < t.length) {k1 : List Spot → Option (List Spot × Int)} : ∀ (fu b : Nat) (l : List Spot), t.length - b < fu → b ≤ t.length → Bld ltO true t s 0 b l → l.length ≤ 45 * s + tri b →
    ∃ l', Bld ltO true t (s + 1) 0 0 l' ∧ l'.length ≤ 45 * (s + 1) ∧ f45_i101_9 t N (s : Int) k1 fu l (b : Int) = k1 l' := by
  have h10 := h.hi
  intro fu
  induction fu with
  | zero => intro b l hf; omega
  | succ fu ih =>
    intro b l hf hb hB hl
    unfold f45_i101_9 f45_i101_9b
    by_cases e : b = t.length
    · subst e
      have := tri_le h10
      refine ⟨l, bld_state hB, by omega, ?_⟩
      rw [show decide ((t.length : Int) < (t.length : Int)) = false by simp]
      rfl
    · rw [show decide ((b : Int) < (t.length : Int)) = true by simp; omega]
      simp only [cond_true, joinK]
      have := tri_le (n := b) (by omega)
      obtain ⟨l1, h1, h2, h3⟩ := f45_in h hN hs (b := b) (by omega) (k2 := f45_i101_c18 t (s : Int) (b : Int) (f45_i101_9 t N (s : Int) k1 fu)) (L := 45 * s + tri b) (by omega) N 0 l (by omega) (by omega) hB (by omega)
      rw [show (0 : Int) = ((0 : Nat) : Int) from rfl, h3]
      unfold f45_i101_c18
      rw [W_nat (by omega)]
      exact ih (b + 1) l1 (by omega) (by omega) (bld_row h1) (by simp only [tri]; omega)
theorem f45_out {N : Nat} {t : List (List Int)} (h : Lat t) (hN : 100 ≤ N) {k0 : List Spot → Option (List Spot × Int)} : ∀ (fu s : Nat) (l : List Spot), t.length - s < fu → s ≤ t.length → Bld ltO true t s 0 0 l → l.length ≤ 45 * s →
    ∃ l', Bld ltO true t t.length 0 0 l' ∧ l'.length ≤ 450 ∧ f45_i101_6 t N k0 fu l (s : Int) = k0 l' := by
  have h10 := h.hi
  intro fu
  induction fu with
  | zero => intro b l hf; omega
  | succ fu ih =>
    intro s l hf hs hB hl
    unfold f45_i101_6 f45_i101_6b
    by_cases e : s = t.length
    · subst e
      refine ⟨l, hB, by omega, ?_⟩
      rw [show decide ((t.length : Int) < (t.length : Int)) = false by simp]
      rfl
    · rw [show decide ((s : Int) < (t.length : Int)) = true by simp; omega]
      simp only [cond_true, joinK]
      obtain ⟨l1, h1, h2, h3⟩ := f45_mid h hN (s := s) (by omega) (k1 := f45_i101_c19 t (s : Int) (f45_i101_6 t N k0 fu)) N 0 l (by omega) (by omega) hB (by simp only [tri]; omega)
      rw [show (0 : Int) = ((0 : Nat) : Int) from rfl, h3]
      unfold f45_i101_c19
      rw [W_nat (by omega)]
      exact ih (s + 1) l1 (by omega) (by omega) h1 (by omega)
theorem f45_eq {N : Nat} {t : List (List Int)} (hs : Small t) (hN : 1200 ≤ N) : (Lat t ∧ ∃ l, SpotsOf true t l ∧ f45 N t = some (l, 0)) ∨ (chkT t ≠ 0 ∧ f45 N t = some ([], chkT t)) := by
  unfold f45
  rw [f49_eq hs (by omega)]
  simp only [Option.bind_some]
  by_cases e : chkT t = 0
  · left
    have h := chkT_good.1 e
    refine ⟨h, ?_⟩
    simp only [e, not_true, decide_false, cond_false, joinK]
    have h10 := h.hi
    obtain ⟨l, h1, h2, h3⟩ := f45_out h (N := N) (by omega) (k0 := f45_i101_c20 N) N 0 [] (by omega) (by omega) bld_nil (by simp)
    rw [show (0 : Int) = ((0 : Nat) : Int) from rfl, h3]
    unfold f45_i101_c20
    have hw : Wk .u64 ((l.length : Nat) : Int) = (l.length : Int) := by
      have := wrap_u64 (q := l.length) (by omega)
      unfold Wk
      cases inB .u64 ((l.length : Nat) : Int) with
      | true => rfl
      | false => exact this
    rw [hw]
    obtain ⟨p, hp, _⟩ := f96_eq (N := N) (m := l.length) (by omega)
    rw [hp]
    simp only [Option.bind_some]
    obtain ⟨l', g1, g2, g3⟩ := f95_eq (N := N) (lim := p) (l := l) (by omega) (by omega)
    rw [g3]
    simp only [Option.bind_some, keep_ok g1.length_eq]
    exact ⟨l', sort_of h1 g1 g2, rfl⟩
  · right
    refine ⟨e, ?_⟩
    simp only [e, not_false_eq_true, decide_true, cond_true]
def eN (t : List (List Int)) (i j : Nat) : Nat := (en t i j).toNat
theorem eN_lt {t : List (List Int)} (h : Lat t) {i j : Nat} (hi : i < t.length) (hj : j < t.length) : eN t i j < t.length := by have := h.lo i j hi hj; unfold eN; omega
theorem ix_eN {t : List (List Int)} (h : Lat t) {i j : Nat} (hi : i < t.length) (hj : j < t.length) : ix (row t i) (j : Int) = some ((eN t i j : Nat) : Int) := by
  rw [h.toSq.ix hi hj]; have := h.lo i j hi hj; unfold eN; congr 1; omega
theorem dl_two {t : List (List Int)} {s a b : Nat} : dl t s [(a : Int), (b : Int)] = eN t (eN t s a) b := by simp [dl, eN]
theorem SpotsOf.few {q : Bool} {t : List (List Int)} (ht : t.length ≤ 10) {l : List Spot} (h : SpotsOf q t l) : l.length ≤ 1000 := by
  have hsub : l ⊆ (List.range 10).flatMap fun (s : Nat) => (List.range 10).flatMap fun (a : Nat) => (List.range 10).map fun (b : Nat) => (⟨(s : Int), (a : Int), (b : Int)⟩ : Spot) := by
    intro x hx
    obtain ⟨⟨h1, h2⟩, ⟨h3, h4, h5⟩, _⟩ := (h.2 x).1 hx
    simp only [List.mem_flatMap, List.mem_map, List.mem_range]
    exact ⟨x.State.toNat, by omega, x.A.toNat, by omega, x.B.toNat, by omega, (spot_eq (by omega) (by omega) (by omega)).symm⟩
  have := (ltS_nodup h.1).length_le_of_subset hsub
  have e : ((List.range 10).flatMap fun (s : Nat) => (List.range 10).flatMap fun (a : Nat) => (List.range 10).map fun (b : Nat) => (⟨(s : Int), (a : Int), (b : Int)⟩ : Spot)).length = 1000 := by kernel_rfl
  omega
end Go.Vc
namespace Go.Vc
open Go.Proofs
set_option linter.unusedVariables false
set_option linter.unnecessarySimpa false
set_option linter.unusedSimpArgs false
end Go.Vc
namespace Go.Vc
set_option linter.unusedVariables false
set_option linter.unnecessarySimpa false
set_option linter.unusedSimpArgs false
set_option linter.unusedSimpArgs false
def rng (n : Nat) : List Int := (List.range n).map fun (i : Nat) => (i : Int)
theorem rng_succ {n : Nat} : rng (n + 1) = rng n ++ [(n : Int)] := by simp [rng, List.range_succ]
theorem rng_len {n : Nat} : (rng n).length = n := by simp [rng]
theorem rng_mem {n : Nat} {x : Int} (h : x ∈ rng n) : 0 ≤ x ∧ x < n := by
  simp only [rng, List.mem_map, List.mem_range] at h
  obtain ⟨a, h1, rfl⟩ := h; omega
theorem rng_nodup {n : Nat} : (rng n).Nodup := by
  unfold rng List.Nodup
  rw [List.pairwise_map]
  exact List.Pairwise.imp (fun h => by omega) List.nodup_range
def B5 (a : A5u8N) : Prop := (0 ≤ a.e0 ∧ a.e0 ≤ 255) ∧ (0 ≤ a.e1 ∧ a.e1 ≤ 255) ∧ (0 ≤ a.e2 ∧ a.e2 ≤ 255) ∧ (0 ≤ a.e3 ∧ a.e3 ≤ 255) ∧ (0 ≤ a.e4 ∧ a.e4 ≤ 255)
theorem B5.get {a : A5u8N} (h : B5 a) {k : Nat} (hk : k < 5) : ∃ x : Nat, ixN [a.e0, a.e1, a.e2, a.e3, a.e4] k = some (x : Int) := by
  obtain ⟨h0, h1, h2, h3, h4⟩ := h
  match k, hk with
  | 0, _ => exact ⟨a.e0.toNat, by simp [ixN]; omega⟩
  | 1, _ => exact ⟨a.e1.toNat, by simp [ixN]; omega⟩
  | 2, _ => exact ⟨a.e2.toNat, by simp [ixN]; omega⟩
  | 3, _ => exact ⟨a.e3.toNat, by simp [ixN]; omega⟩
  | 4, _ => exact ⟨a.e4.toNat, by simp [ixN]; omega⟩
theorem perm_step {l o : List Int} {i : Nat} (hi : i < l.length) : ((l.take i ++ l.drop (i + 1)) ++ (o ++ [l[i]])).Perm (l ++ o) := by
  rw [List.perm_iff_count]
  intro a
  have h : List.count a l = List.count a (l.take i) + List.count a (l[i] :: l.drop (i + 1)) := by
    rw [← List.count_append, ← List.drop_eq_getElem_cons hi, List.take_append_drop]
  rw [List.count_cons] at h
  simp only [List.count_append, List.count_cons, List.count_nil] at h ⊢
  omega
theorem f54_loop {a : A5u8N} (ha : B5 a) {n : Nat} (hn : n ≤ 5) : ∀ (fu : Nat) (left out : List Int), left.length < fu → left.length + out.length = n → (left ++ out).Perm (rng n) →
    ∃ l : List Int, l.Perm (rng n) ∧ f54_7 a f54_c12 fu left out (out.length : Int) = some l := by
  intro fu
  induction fu with
  | zero => intro left out h; omega
  | succ fu ih =>
    intro left out hf hl hp
    by_cases e : left.length = 0
    · have : left = [] := List.eq_nil_of_length_eq_zero e
      subst this
      refine ⟨out, by simpa using hp, ?_⟩
      conv => lhs; unfold f54_7 f54_7b
      simp [f54_c12]
    · obtain ⟨x, hx⟩ := ha.get (k := out.length) (by omega)
      have hi : x % left.length < left.length := Nat.mod_lt _ (by omega)
      generalize hq : x % left.length = i at hi
      obtain ⟨l, hl1, hl2⟩ := ih (left.take i ++ left.drop (i + 1)) (out ++ [left[i]]) (by simp; omega) (by simp; omega) ((perm_step hi).trans hp)
      refine ⟨l, hl1, ?_⟩
      conv => lhs; unfold f54_7 f54_7b
      rw [show decide ((0 : Int) < (left.length : Int)) = true by simp; omega]
      simp only [cond_true, chkI_ok (n := 5) (show 0 ≤ (out.length : Int) by omega) (by omega), Option.bind_some, Int.toNat_natCast, hx, chk_pos (show 0 < left.length by omega), tmod_nat, hq, joinK, ix_get hi]
      rw [app_ok (by simp; omega) (by simp; omega)]
      simp only [Option.bind_some]
      unfold f54_c11
      simp only [tmod_nat, hq]
      rw [sub_pre (by omega)]
      simp only [Option.bind_some]
      rw [app_ok (by simp; omega) (by simp; omega)]
      simp only [Option.bind_some, List.nil_append]
      rw [W_nat (by omega), sub_post (by omega)]
      simp only [Option.bind_some]
      rw [app_ok (by simp; omega) (by simp; omega)]
      simp only [Option.bind_some]
      rw [W_nat (by omega)]
      simpa using hl2
theorem f54_eq {N : Nat} {a : A5u8N} (ha : B5 a) {n : Nat} (hn : n ≤ 5) (hN : 30 ≤ N) : ∃ l : List Int, l.Perm (rng n) ∧ f54 N (n : Int) a = some l := by
  obtain ⟨l, h1, h2⟩ := f54_loop ha hn N (rng n) [] (by rw [rng_len]; omega) (by simp [rng_len]) (by simp)
  refine ⟨l, h1, ?_⟩
  unfold f54
  simp only [joinK]
  obtain ⟨e1, e2⟩ := loop_inv0 (F := f54_3 (n : Int) a (f54_c6 a N)) (k := f54_c6 a N) (fun s i => s ++ [(i : Int)]) (fun i s => s = rng i) n (by
    intro m s i hi h
    subst h
    conv => lhs; unfold f54_3 f54_3b
    rw [show decide ((i : Int) < (n : Int)) = true by simp; omega]
    simp only [cond_true]
    rw [app_ok (by simp [rng_len]; omega) (by simp [rng_len]; omega)]
    simp only [Option.bind_some]
    rw [W_nat (by omega)]) (by intro s i hi h; rw [h, rng_succ]) (by intro m s; (conv => lhs; unfold f54_3 f54_3b); simp) (n := N) (s := []) (by omega) rfl
  rw [e1, e2]
  unfold f54_c6
  simp only [joinK]
  exact h2
def gR (n : Nat) (r c m : List Int) (s d : Nat) : Int := m.getD ((r.getD s 0 + c.getD d 0).toNat % n) 0
def rowR (n : Nat) (r c m : List Int) (s k : Nat) : List Int := (List.range k).map fun d => gR n r c m s d
def tabR (n : Nat) (r c m : List Int) (k : Nat) : List (List Int) := (List.range k).map fun s => rowR n r c m s n
theorem rowR_succ {n : Nat} {r c m : List Int} {s k : Nat} : rowR n r c m s (k + 1) = rowR n r c m s k ++ [gR n r c m s k] := by simp [rowR, List.range_succ]
theorem tabR_succ {n : Nat} {r c m : List Int} {k : Nat} : tabR n r c m (k + 1) = tabR n r c m k ++ [rowR n r c m k n] := by simp [tabR, List.range_succ]
theorem rowR_len {n : Nat} {r c m : List Int} {s k : Nat} : (rowR n r c m s k).length = k := by simp [rowR]
theorem tabR_len {n : Nat} {r c m : List Int} {k : Nat} : (tabR n r c m k).length = k := by simp [tabR]
theorem mid_get {A B : List (List Int)} {x : List Int} : ix (A ++ x :: B) (A.length : Int) = some x := by simp [ix_nat]
theorem mid_set {A B : List (List Int)} {x y : List Int} : setx (A ++ x :: B) (A.length : Int) y = some (A ++ y :: B) := by
  unfold setx
  rw [if_pos ⟨by omega, by simp; omega⟩]
  simp
structure Perms (n : Nat) (r c m : List Int) : Prop where
  hn : 2 ≤ n ∧ n ≤ 5
  r : r.Perm (rng n)
  c : c.Perm (rng n)
  m : m.Perm (rng n)
theorem perm_len {l : List Int} {n : Nat} (h : l.Perm (rng n)) : l.length = n := by rw [h.length_eq, rng_len]
theorem perm_at {l : List Int} {n i : Nat} (h : l.Perm (rng n)) (hi : i < n) : 0 ≤ l.getD i 0 ∧ l.getD i 0 < n := by
  have := perm_len h
  exact rng_mem (h.mem_iff.1 (mem_getD (by omega)))
theorem perm_inj {l : List Int} {n i j : Nat} (h : l.Perm (rng n)) (hi : i < n) (hj : j < n) (e : l.getD i 0 = l.getD j 0) : i = j := by
  have hl := perm_len h
  have hd : l.Nodup := h.nodup_iff.2 rng_nodup
  have hd := List.pairwise_iff_getElem.1 hd
  have e : l[i] = l[j] := by simpa [show i < l.length by omega, show j < l.length by omega] using e
  rcases Nat.lt_trichotomy i j with h1 | h1 | h1
  · exact absurd e (hd i j (by omega) (by omega) h1)
  · exact h1
  · exact absurd e.symm (hd j i (by omega) (by omega) h1)
theorem tab_row {n : Nat} {r c m : List Int} {i : Nat} (hi : i < n) : row (tabR n r c m n) i = rowR n r c m i n := by
  simp [row, tabR, hi]
theorem tab_en {n : Nat} {r c m : List Int} {i j : Nat} (hi : i < n) (hj : j < n) : en (tabR n r c m n) i j = gR n r c m i j := by
  unfold en; rw [tab_row hi]
  simp [rowR, hj]
theorem mod_inj {n a x y : Nat} (hn : 2 ≤ n ∧ n ≤ 5) (ha : a < n) (hx : x < n) (hy : y < n) (e : (a + x) % n = (a + y) % n) : x = y := by
  obtain ⟨h1, h2⟩ := hn
  rcases (show n = 2 ∨ n = 3 ∨ n = 4 ∨ n = 5 by omega) with rfl | rfl | rfl | rfl <;> omega
theorem gR_in {n : Nat} {r c m : List Int} (h : Perms n r c m) {i j : Nat} : 0 ≤ gR n r c m i j ∧ gR n r c m i j < n :=
  perm_at h.m (Nat.mod_lt _ (by have := h.hn; omega))
theorem gR_row {n : Nat} {r c m : List Int} (h : Perms n r c m) {i j k : Nat} (hi : i < n) (hj : j < n) (hk : k < n) (e : gR n r c m i j = gR n r c m i k) : j = k := by
  have h0 := h.hn
  have e1 := perm_inj h.m (Nat.mod_lt _ (by omega)) (Nat.mod_lt _ (by omega)) e
  have a1 := perm_at h.r hi
  have a2 := perm_at h.c hj
  have a3 := perm_at h.c hk
  obtain ⟨x, hx⟩ : ∃ x : Nat, r.getD i 0 = (x : Int) := ⟨(r.getD i 0).toNat, by omega⟩
  obtain ⟨y, hy⟩ : ∃ x : Nat, c.getD j 0 = (x : Int) := ⟨(c.getD j 0).toNat, by omega⟩
  obtain ⟨z, hz⟩ : ∃ x : Nat, c.getD k 0 = (x : Int) := ⟨(c.getD k 0).toNat, by omega⟩
  rw [hx, hy, hz, show ((x : Int) + (y : Int)).toNat = x + y by omega, show ((x : Int) + (z : Int)).toNat = x + z by omega] at e1
  have := mod_inj h0 (show x < n by omega) (show y < n by omega) (show z < n by omega) e1
  subst this
  exact perm_inj h.c hj hk (hy.trans hz.symm)
theorem gR_col {n : Nat} {r c m : List Int} (h : Perms n r c m) {i j k : Nat} (hi : i < n) (hj : j < n) (hk : k < n) (e : gR n r c m j i = gR n r c m k i) : j = k := by
  have h0 := h.hn
  have e1 := perm_inj h.m (Nat.mod_lt _ (by omega)) (Nat.mod_lt _ (by omega)) e
  have a1 := perm_at h.c hi
  have a2 := perm_at h.r hj
  have a3 := perm_at h.r hk
  obtain ⟨x, hx⟩ : ∃ x : Nat, c.getD i 0 = (x : Int) := ⟨(c.getD i 0).toNat, by omega⟩
  obtain ⟨y, hy⟩ : ∃ x : Nat, r.getD j 0 = (x : Int) := ⟨(r.getD j 0).toNat, by omega⟩
  obtain ⟨z, hz⟩ : ∃ x : Nat, r.getD k 0 = (x : Int) := ⟨(r.getD k 0).toNat, by omega⟩
  rw [hx, hy, hz, show ((y : Int) + (x : Int)).toNat = x + y by omega, show ((z : Int) + (x : Int)).toNat = x + z by omega] at e1
  have := mod_inj h0 (show x < n by omega) (show y < n by omega) (show z < n by omega) e1
  subst this
  exact perm_inj h.r hj hk (hy.trans hz.symm)
theorem tab_lat {n : Nat} {r c m : List Int} (h : Perms n r c m) : Lat (tabR n r c m n) := by
  have h0 := h.hn
  refine ⟨⟨by rw [tabR_len]; omega, fun i hi => ?_, fun i j hi hj => ?_⟩, by rw [tabR_len]; omega, ?_⟩
  · rw [tabR_len] at hi ⊢
    rw [tab_row hi, rowR_len]
  · rw [tabR_len] at hi hj ⊢
    rw [tab_en hi hj]; exact gR_in h
  · rintro ⟨i, hi, j, hj, k, hk, e⟩
    rw [tabR_len] at hi hj
    rw [tab_en hi hj, tab_en hi (by omega), tab_en hj hi, tab_en (by omega) hi] at e
    rcases e with e | e
    · have := gR_row h hi hj (by omega) e; omega
    · have := gR_col h hi hj (by omega) e; omega
theorem tab_small {n : Nat} {r c m : List Int} (h : Perms n r c m) : Small (tabR n r c m n) := by
  have h0 := h.hn
  refine ⟨by rw [tabR_len]; omega, fun x hx => ?_⟩
  simp only [tabR, List.mem_map] at hx
  obtain ⟨s, _, rfl⟩ := hx
  rw [rowR_len]; omega
structure PlateB (p : Plate) : Prop where
  b : 0 ≤ p.Base ∧ p.Base ≤ 255
  r : B5 p.Rows
  c : B5 p.Columns
  m : B5 p.Numbers
theorem f39_in {N n : Nat} {p : Plate} {r c m : List Int} {x4 : List (List Int)} {k1 : List (List Int) → Option (List (List Int))} (h : Perms n r c m) (hb : W ((2 : Int) + Int.tmod p.Base 4) = (n : Int)) {s : Nat} (hs : s < n) {A B : List (List Int)} (hA : A.length = s) :
    ∀ fu d, d ≤ n → n - d < fu → f39_8 p r c m x4 (s : Int) k1 fu (d : Int) (A ++ rowR n r c m s d :: B) = k1 (A ++ rowR n r c m s n :: B) := by
  intro fu
  induction fu with
  | zero => intro d _ h; omega
  | succ fu ih =>
    intro d hd hf
    have h0 := h.hn
    conv => lhs; unfold f39_8 f39_8b
    rw [hb]
    by_cases e : d = n
    · subst e; simp
    · have hd : d < n := by omega
      have a1 := perm_at h.r hs
      have a2 := perm_at h.c hd
      have hw : W (r.getD s 0 + c.getD d 0) = (((r.getD s 0 + c.getD d 0).toNat : Nat) : Int) := by
        rw [show (((r.getD s 0 + c.getD d 0).toNat : Nat) : Int) = r.getD s 0 + c.getD d 0 by omega]
        exact W_of (by omega) (by omega)
      have hg : (A ++ rowR n r c m s d :: B) = A ++ rowR n r c m s d :: B := rfl
      have q1 : ix (A ++ rowR n r c m s d :: B) (s : Int) = some (rowR n r c m s d) := by rw [← hA]; exact mid_get
      have q2 : setx (A ++ rowR n r c m s d :: B) (s : Int) (rowR n r c m s (d + 1)) = some (A ++ rowR n r c m s (d + 1) :: B) := by rw [← hA]; exact mid_set
      rw [show decide ((d : Int) < (n : Int)) = true by simp; omega]
      simp only [cond_true, q1, ix_getD (show s < r.length by rw [perm_len h.r]; exact hs), ix_getD (show d < c.length by rw [perm_len h.c]; exact hd), Option.bind_some, chk_pos (show 0 < n by omega), hw, tmod_nat,
        ix_getD (show (r.getD s 0 + c.getD d 0).toNat % n < m.length by rw [perm_len h.m]; exact Nat.mod_lt _ (by omega))]
      rw [app_ok (by simp [rowR_len]; omega) (by simp [rowR_len]; omega)]
      simp only [Option.bind_some]
      rw [show rowR n r c m s d ++ [m.getD ((r.getD s 0 + c.getD d 0).toNat % n) 0] = rowR n r c m s (d + 1) from rowR_succ.symm, q2]
      simp only [Option.bind_some]
      rw [W_nat (by omega)]
      exact ih (d + 1) hd (by omega)
theorem f39_eq {N : Nat} {p : Plate} (hp : PlateB p) (hN : 30 ≤ N) : ∃ n r c m, Perms n r c m ∧ f39 N p = some (tabR n r c m n) := by
  obtain ⟨b, hb⟩ : ∃ b : Nat, p.Base = (b : Int) := ⟨p.Base.toNat, by have := hp.b; omega⟩
  have hlt := Nat.mod_lt b (show 0 < 4 by omega)
  have hw : W ((2 : Int) + Int.tmod p.Base 4) = ((2 + b % 4 : Nat) : Int) := by
    rw [hb, show (2 : Int) + Int.tmod (b : Int) 4 = ((2 + b % 4 : Nat) : Int) by
      have := tmod_nat b 4
      rw [show ((4 : Nat) : Int) = 4 from rfl] at this
      omega]
    exact W_of (by omega) (by omega)
  obtain ⟨r, hr1, hr2⟩ := f54_eq (N := N) hp.r (n := 2 + b % 4) (by omega) hN
  obtain ⟨c, hc1, hc2⟩ := f54_eq (N := N) hp.c (n := 2 + b % 4) (by omega) hN
  obtain ⟨m, hm1, hm2⟩ := f54_eq (N := N) hp.m (n := 2 + b % 4) (by omega) hN
  generalize hn : 2 + b % 4 = n at *
  have hP : Perms n r c m := ⟨by omega, hr1, hc1, hm1⟩
  refine ⟨n, r, c, m, hP, ?_⟩
  unfold f39
  rw [hw, hr2, hc2, hm2]
  have hmk : mkS 24 ([] : List Int) (n : Int) (n : Int) = some (List.replicate n []) := by
    unfold mkS
    rw [if_pos ⟨by omega, by omega, by omega⟩]; simp
  simp only [Option.bind_some, hmk, joinK]
  have key : ∀ fu s, s ≤ n → n - s < fu → f39_5 p N r c m (List.replicate n []) f39_c12 fu (s : Int) (tabR n r c m s ++ List.replicate (n - s) []) = some (tabR n r c m n) := by
    intro fu
    induction fu with
    | zero => intro s _ h; omega
    | succ fu ih =>
      intro s hs hf
      conv => lhs; unfold f39_5 f39_5b
      by_cases e : s = n
      · subst e; simp [f39_c12]
      · have hs : s < n := by omega
        rw [show decide ((s : Int) < ((List.replicate n ([] : List Int)).length : Int)) = true by simp; omega]
        simp only [cond_true, joinK]
        obtain ⟨a, ha⟩ : ∃ a, n - s = a + 1 := ⟨n - s - 1, by omega⟩
        rw [ha, List.replicate_succ]
        have := f39_in (N := N) (p := p) (x4 := List.replicate n []) (k1 := f39_c11 p r c m (List.replicate n []) (s : Int) (f39_5 p N r c m (List.replicate n []) f39_c12 fu)) hP hw hs (A := tabR n r c m s) (B := List.replicate a []) tabR_len N 0 (by omega) (by omega)
        rw [show ((0 : Nat) : Int) = 0 from rfl, show rowR n r c m s 0 = [] from rfl] at this
        rw [this]
        unfold f39_c11
        rw [W_nat (by omega)]
        have := ih (s + 1) hs (by omega)
        rw [tabR_succ, List.append_assoc, show n - (s + 1) = a by omega] at this
        exact this
  have := key N 0 (by omega) (by omega)
  simpa [tabR] using this
end Go.Vc
namespace Go.Vc
set_option linter.unusedVariables false
set_option linter.unnecessarySimpa false
set_option linter.unusedSimpArgs false
set_option linter.unusedSimpArgs false
def Pt (l : List Spot) (x : Spot) (i : Nat) : Prop := i ≤ l.length ∧ (∀ j, j < i → ltS (at' l j) x) ∧ ∀ j, i ≤ j → j < l.length → ¬ ltS (at' l j) x
theorem at_mem {l : List Spot} {i : Nat} (h : i < l.length) : at' l i ∈ l := by rw [show at' l i = l[i] by simp [at', h]]; exact List.getElem_mem h
theorem mem_at {l : List Spot} {x : Spot} (h : x ∈ l) : ∃ i, i < l.length ∧ at' l i = x := by
  obtain ⟨i, hi⟩ := List.mem_iff_getElem?.1 h
  have := (List.getElem?_eq_some_iff.1 hi)
  obtain ⟨h1, h2⟩ := this
  exact ⟨i, h1, by simp [at', h1, h2]⟩
theorem srt_at {l : List Spot} (h : l.Pairwise ltS) {i j : Nat} (hij : i < j) (hj : j < l.length) : ltS (at' l i) (at' l j) := by
  have := List.pairwise_iff_getElem.1 h i j (by omega) hj hij
  simpa [at', hj, show i < l.length by omega] using this
theorem pt_is {q : Bool} {t : List (List Int)} {l : List Spot} (hl : SpotsOf q t l) {x : Spot} {i : Nat} (h : Pt l x i) : (i < l.length ∧ at' l i = x) ↔ V q t x := by
  constructor
  · rintro ⟨h1, h2⟩
    rw [← h2]; exact (hl.2 _).1 (at_mem h1)
  · intro hv
    obtain ⟨j, h1, h2⟩ := mem_at ((hl.2 x).2 hv)
    by_cases e : j < i
    · have := h.2.1 j e
      rw [h2] at this; exact absurd this ltS_irrefl
    · by_cases e2 : j = i
      · subst e2; exact ⟨h1, h2⟩
      · have := srt_at hl.1 (show i < j by omega) h1
        rw [h2] at this
        exact absurd this (h.2.2 i (Nat.le_refl _) (by omega))
theorem pt_next {q : Bool} {t : List (List Int)} {l : List Spot} (hl : SpotsOf q t l) {s a b i : Nat} (h : Pt l ⟨s, a, b⟩ i) : ∃ i', Pt l ⟨s, a, (b + 1 : Nat)⟩ i' ∧ (V q t ⟨s, a, b⟩ → i' = i + 1) ∧ (¬ V q t ⟨s, a, b⟩ → i' = i) := by
  have up : ∀ x : Spot, ltS x ⟨s, a, b⟩ → ltS x ⟨s, a, (b + 1 : Nat)⟩ := fun x hx => by unfold ltS at *; simp only at *; omega
  have dn : ∀ x : Spot, ltS x ⟨s, a, (b + 1 : Nat)⟩ → ¬ ltS x ⟨s, a, b⟩ → x = ⟨s, a, b⟩ := fun x hx hn => by
    refine spot_eq ?_ ?_ ?_ <;> (unfold ltS at *; simp only at *; omega)
  have self : ltS ⟨s, a, b⟩ ⟨s, a, (b + 1 : Nat)⟩ := .inr ⟨rfl, .inr ⟨rfl, by show (b : Int) < ((b + 1 : Nat) : Int); omega⟩⟩
  have hi := pt_is hl h
  by_cases c : V q t ⟨s, a, b⟩
  · obtain ⟨h1, h2⟩ := hi.2 c
    refine ⟨i + 1, ⟨by omega, fun j hj => ?_, fun j hj hj2 hlt => ?_⟩, fun _ => rfl, fun hn => absurd c hn⟩
    · by_cases e : j < i
      · exact up _ (h.2.1 j e)
      · rw [show j = i by omega, h2]; exact self
    · have := srt_at hl.1 (show i < j by omega) hj2
      rw [h2] at this
      have e := dn _ hlt (ltS_asymm this)
      rw [e] at this; exact ltS_irrefl this
  · refine ⟨i, ⟨h.1, fun j hj => up _ (h.2.1 j hj), fun j hj hj2 hlt => ?_⟩, fun hv => absurd hv c, fun _ => rfl⟩
    have e := dn _ hlt (h.2.2 j hj hj2)
    exact c (e ▸ (hl.2 _).1 (at_mem hj2))
theorem pt_move {q : Bool} {t : List (List Int)} {l : List Spot} (hl : SpotsOf q t l) {x y : Spot} {i : Nat} (h : Pt l x i) (hxy : ∀ z, V q t z → (ltS z x ↔ ltS z y)) : Pt l y i :=
  ⟨h.1, fun j hj => (hxy _ ((hl.2 _).1 (at_mem (by have := h.1; omega)))).1 (h.2.1 j hj), fun j hj hj2 hlt => h.2.2 j hj hj2 ((hxy _ ((hl.2 _).1 (at_mem hj2))).2 hlt)⟩
theorem pt_row {q : Bool} {t : List (List Int)} {l : List Spot} (hl : SpotsOf q t l) {s a c i : Nat} (hc : t.length ≤ c) (h : Pt l ⟨s, a, c⟩ i) : Pt l ⟨s, (a + 1 : Nat), (a + 1 + 1 : Nat)⟩ i :=
  pt_move hl h fun z hv => by
    obtain ⟨⟨h1, h2⟩, ⟨h3, h4, h5⟩, _⟩ := hv
    unfold ltS; simp only; omega
theorem pt_state {q : Bool} {t : List (List Int)} {l : List Spot} (hl : SpotsOf q t l) {s c i : Nat} (h : Pt l ⟨s, t.length, c⟩ i) : Pt l ⟨(s + 1 : Nat), (0 : Nat), (1 : Nat)⟩ i :=
  pt_move hl h fun z hv => by
    obtain ⟨⟨h1, h2⟩, ⟨h3, h4, h5⟩, _⟩ := hv
    unfold ltS; simp only; omega
theorem pt_start {q : Bool} {t : List (List Int)} {l : List Spot} (hl : SpotsOf q t l) : Pt l ⟨(0 : Nat), (0 : Nat), (1 : Nat)⟩ 0 :=
  ⟨by omega, fun j hj => by omega, fun j _ hj hlt => by
    obtain ⟨⟨h1, h2⟩, ⟨h3, h4, h5⟩, _⟩ := (hl.2 _).1 (at_mem hj)
    unfold ltS at hlt; simp only at hlt; omega⟩
theorem pt_end {q : Bool} {t : List (List Int)} {l : List Spot} (hl : SpotsOf q t l) {i : Nat} (h : Pt l ⟨t.length, (0 : Nat), (1 : Nat)⟩ i) : i = l.length := by
  by_cases e : i < l.length
  · obtain ⟨⟨h1, h2⟩, ⟨h3, h4, h5⟩, _⟩ := (hl.2 _).1 (at_mem e)
    exact absurd (.inl h2) (h.2.2 i (Nat.le_refl _) e)
  · have := h.1; omega
theorem is_step {q : Bool} {t : List (List Int)} {l : List Spot} (hl : SpotsOf q t l) (h10 : l.length ≤ 1000) {s a b i : Nat} (hs : s < t.length) (hb : b < t.length) (hab : a < b) {x y : Nat} (hxy : x = y ↔ Cnd q t s a b) (h : Pt l ⟨s, a, b⟩ i) {k : Int → Option Bool} {r : Option Bool}
    (hk : ∀ i', Pt l ⟨s, a, (b + 1 : Nat)⟩ i' → k (i' : Int) = r) :
    (bif decide ((i : Int) < (l.length : Int)) then ((ix l (i : Int)).bind fun x22 => bif !((decide ((x : Int) = (y : Int))) == (decide (x22.State = (s : Int)) && (decide (x22.A = (a : Int)) && (decide (x22.B = (b : Int)) && true)))) then (some (false)) else (bif decide ((x : Int) = (y : Int)) then (k (W ((i : Int) + (1 : Int)))) else (k (i : Int))))
      else (bif !((decide ((x : Int) = (y : Int))) == false) then (some (false)) else (bif decide ((x : Int) = (y : Int)) then (k (W ((i : Int) + (1 : Int)))) else (k (i : Int))))) = r := by
  obtain ⟨i', h1, h2, h3⟩ := pt_next hl h
  have hk' := hk i' h1
  have hi := pt_is hl h
  have hv := v_mk (q := q) (t := t) hs hb hab
  have hil := h.1
  by_cases c : Cnd q t s a b
  · have c' : (x : Int) = (y : Int) := congrArg _ (hxy.2 c)
    obtain ⟨g1, g2⟩ := hi.2 (hv.2 c)
    rw [show decide ((i : Int) < (l.length : Int)) = true by simp; omega, ix_at g1, g2]
    simp only [c', decide_true, cond_true, Option.bind_some, Bool.and_self, beq_self_eq_true, Bool.not_true, cond_false]
    rw [W_nat (by omega), ← h2 (hv.2 c)]
    exact hk'
  · have c' : ¬ (x : Int) = (y : Int) := fun e => c (hxy.1 (Int.ofNat.inj e))
    rw [h3 (fun w => c (hv.1 w))] at hk'
    by_cases e : i < l.length
    · rw [show decide ((i : Int) < (l.length : Int)) = true by simp; omega, ix_at e]
      have hne : (decide ((at' l i).State = (s : Int)) && (decide ((at' l i).A = (a : Int)) && (decide ((at' l i).B = (b : Int)) && true))) = false := by
        rw [← Bool.not_eq_true]
        simp only [Bool.and_eq_true, decide_eq_true_eq, and_true]
        rintro ⟨e1, e2, e3⟩
        exact c (hv.1 (hi.1 ⟨e, spot_eq e1 e2 e3⟩))
      simp only [cond_true, Option.bind_some, hne, c', decide_false, beq_self_eq_true, Bool.not_true, cond_false]
      exact hk'
    · rw [show decide ((i : Int) < (l.length : Int)) = false by simp; omega]
      simp only [c', decide_false, cond_false, beq_self_eq_true, Bool.not_true]
      exact hk'
theorem f11_in {N : Nat} {t : List (List Int)} (h : Lat t) {l m : List Spot} {e1 e2 : Int} (hl : SpotsOf false t l) (hm : SpotsOf true t m) (hl1 : l.length ≤ 1000) (hm1 : m.length ≤ 1000) {s a : Nat} (hs : s < t.length) (ha : a < t.length) {k2 : Int → Int → Option Bool} {r : Option Bool}
    (hk : ∀ i j, Pt l ⟨s, (a + 1 : Nat), (a + 1 + 1 : Nat)⟩ i → Pt m ⟨s, (a + 1 : Nat), (a + 1 + 1 : Nat)⟩ j → k2 (i : Int) (j : Int) = r) :
    ∀ (fu b i j : Nat), t.length - b < fu → a < b → Pt l ⟨s, a, b⟩ i → Pt m ⟨s, a, b⟩ j → f11_12 t (l, e1) (m, e2) (s : Int) (a : Int) k2 fu (i : Int) (j : Int) (b : Int) = r := by
  have h10 := h.hi
  intro fu
  induction fu with
  | zero => intro b i j hf; omega
  | succ fu ih =>
    intro b i j hf hab hi hj
    unfold f11_12 f11_12b
    by_cases e : t.length ≤ b
    · rw [show decide ((b : Int) < (t.length : Int)) = false by simp; omega]
      exact hk i j (pt_row hl e hi) (pt_row hm e hj)
    · have hb : b < t.length := by omega
      rw [show decide ((b : Int) < (t.length : Int)) = true by simp; omega]
      simp only [cond_true, joinK, ix_row hs, Option.bind_some, ix_eN h hs ha, ix_eN h hs hb, ix_row (eN_lt h hs ha), ix_row (eN_lt h hs hb), ix_eN h (eN_lt h hs ha) hb, ix_eN h (eN_lt h hs hb) ha]
      refine is_step hl hl1 hs hb hab (by simp only [Cnd, cond_false, dl_two]) hi (k := f11_c20 t (l, e1) (m, e2) (s : Int) (a : Int) (j : Int) (b : Int) (f11_12 t (l, e1) (m, e2) (s : Int) (a : Int) k2 fu)) fun i' hi' => ?_
      unfold f11_c20
      simp only [ix_row hs, Option.bind_some, ix_eN h hs ha, ix_eN h hs hb, ix_row (eN_lt h hs ha), ix_row (eN_lt h hs hb), ix_eN h (eN_lt h hs ha) ha, ix_eN h (eN_lt h hs hb) hb]
      rw [W_nat (i := b) (by omega)]
      refine is_step hm hm1 hs hb hab (x := eN t (eN t s a) a) (y := eN t (eN t s b) b) (by simp only [Cnd, cond_true, dl_two]) hj (k := fun x => f11_12 t (l, e1) (m, e2) (s : Int) (a : Int) k2 fu (i' : Int) x ((b + 1 : Nat) : Int)) fun j' hj' => ?_
      exact ih (b + 1) i' j' (by omega) (by omega) hi' hj'
theorem f11_mid {N : Nat} {t : List (List Int)} (h : Lat t) (hN : 100 ≤ N) {l m : List Spot} {e1 e2 : Int} (hl : SpotsOf false t l) (hm : SpotsOf true t m) (hl1 : l.length ≤ 1000) (hm1 : m.length ≤ 1000) {s : Nat} (hs : s < t.length) {k1 : Int → Int → Option Bool} {r : Option Bool}
    (hk : ∀ i j, Pt l ⟨(s + 1 : Nat), (0 : Nat), (1 : Nat)⟩ i → Pt m ⟨(s + 1 : Nat), (0 : Nat), (1 : Nat)⟩ j → k1 (i : Int) (j : Int) = r) :
    ∀ (fu a i j : Nat), t.length - a < fu → a ≤ t.length → Pt l ⟨s, a, (a + 1 : Nat)⟩ i → Pt m ⟨s, a, (a + 1 : Nat)⟩ j → f11_9 N t (l, e1) (m, e2) (s : Int) k1 fu (i : Int) (j : Int) (a : Int) = r := by
  have h10 := h.hi
  intro fu
  induction fu with
  | zero => intro b i j hf; omega
  | succ fu ih =>
    intro a i j hf ha hi hj
    unfold f11_9 f11_9b
    by_cases e : a = t.length
    · rw [show decide ((a : Int) < (t.length : Int)) = false by simp; omega]
      subst e
      exact hk i j (pt_state hl hi) (pt_state hm hj)
    · rw [show decide ((a : Int) < (t.length : Int)) = true by simp; omega]
      simp only [cond_true, joinK]
      rw [W_nat (by omega)]
      refine f11_in (N := N) h hl hm hl1 hm1 hs (by omega) (fun i' j' hi' hj' => ?_) N (a + 1) i j (by omega) (by omega) hi hj
      unfold f11_c25
      rw [W_nat (by omega)]
      exact ih (a + 1) i' j' (by omega) (by omega) hi' hj'
theorem f11_out {N : Nat} {t : List (List Int)} (h : Lat t) (hN : 100 ≤ N) {l m : List Spot} {e1 e2 : Int} (hl : SpotsOf false t l) (hm : SpotsOf true t m) (hl1 : l.length ≤ 1000) (hm1 : m.length ≤ 1000) {k0 : Int → Int → Option Bool} :
    ∀ (fu s i j : Nat), t.length - s < fu → s ≤ t.length → Pt l ⟨s, (0 : Nat), (1 : Nat)⟩ i → Pt m ⟨s, (0 : Nat), (1 : Nat)⟩ j → f11_6 N t (l, e1) (m, e2) k0 fu (i : Int) (j : Int) (s : Int) = k0 (l.length : Int) (m.length : Int) := by
  have h10 := h.hi
  intro fu
  induction fu with
  | zero => intro b i j hf; omega
  | succ fu ih =>
    intro s i j hf hs hi hj
    unfold f11_6 f11_6b
    by_cases e : s = t.length
    · rw [show decide ((s : Int) < (t.length : Int)) = false by simp; omega]
      subst e
      rw [pt_end hl hi, pt_end hm hj]
      rfl
    · rw [show decide ((s : Int) < (t.length : Int)) = true by simp; omega]
      simp only [cond_true, joinK]
      refine f11_mid h hN hl hm hl1 hm1 (s := s) (by omega) (fun i' j' hi' hj' => ?_) N 0 i j (by omega) (by omega) hi hj
      unfold f11_c26
      rw [W_nat (by omega)]
      exact ih (s + 1) i' j' (by omega) (by omega) hi' hj'
theorem blind_of {N : Nat} {t : List (List Int)} (h : Lat t) (hs : Small t) (hN : 1200 ≤ N) : ∃ l, SpotsOf false t l ∧ l.length ≤ 1000 ∧ f43 N t = some (l, 0) := by
  rcases f43_eq hs hN with ⟨_, l, h1, h2⟩ | ⟨h1, _⟩
  · exact ⟨l, h1, h1.few h.hi, h2⟩
  · exact absurd (chkT_good.2 h) h1
theorem twins_of {N : Nat} {t : List (List Int)} (h : Lat t) (hs : Small t) (hN : 1200 ≤ N) : ∃ l, SpotsOf true t l ∧ l.length ≤ 1000 ∧ f45 N t = some (l, 0) := by
  rcases f45_eq hs hN with ⟨_, l, h1, h2⟩ | ⟨h1, _⟩
  · exact ⟨l, h1, h1.few h.hi, h2⟩
  · exact absurd (chkT_good.2 h) h1
theorem f11_true {N : Nat} {p : Plate} (hp : PlateB p) : f11 (N + 2000) p = some true := by
  unfold f11
  obtain ⟨n, r, c, m, h1, h2⟩ := f39_eq (N := N + 2000) hp (by omega)
  rw [h2]
  have hL := tab_lat h1
  have hS := tab_small h1
  generalize tabR n r c m n = t at hL hS
  obtain ⟨l, g1, g2, g3⟩ := blind_of (N := N + 2000) hL hS (by omega)
  obtain ⟨l', k1, k2, k3⟩ := twins_of (N := N + 2000) hL hS (by omega)
  simp only [Option.bind_some, g3, k3, joinK]
  have h10 := hL.hi
  have := f11_out (N := N + 2000) (e1 := 0) (e2 := 0) hL (by omega) g1 k1 g2 k2 (k0 := f11_c27 (N + 2000) (l, 0) (l', 0)) (N + 2000) 0 0 0 (by omega) (by omega) (pt_start g1) (pt_start k1)
  rw [show ((0 : Nat) : Int) = 0 from rfl] at this
  rw [this]
  unfold f11_c27
  have h15 : f15 (N + 2000) = some true := f15_any (N + 1940)
  simp [h15]
end Go.Vc
namespace Go.Vc
set_option linter.unusedVariables false
set_option linter.unnecessarySimpa false
set_option linter.unusedSimpArgs false
abbrev tB : Ty := .int .u8
def u8In (n : Int) : Prop := 0 ≤ n ∧ n ≤ 255
theorem tB_of {ds : List D} (h : tB.has ds) : ∃ n, ds = [u8N n] ∧ u8In n := by
  simp only [tB, Ty.has] at h
  obtain ⟨n, rfl, h⟩ := h
  exact ⟨n, rfl, by simpa [IntKind.min, IntKind.max, IntKind.signed, IntKind.bits, u8In] using h⟩
end Go.Vc
namespace Go.Vc
set_option linter.unusedVariables false
set_option linter.unnecessarySimpa false
set_option linter.unusedSimpArgs false
set_option linter.unusedSimpArgs false
abbrev tB5 : Ty := .comp [tB, tB, tB, tB, tB]
abbrev tPlate : Ty := .comp [tB, tB, tB5, tB5, tB5]
theorem tB_of' {ds : List D} (h : (Ty.int .u8).has ds) : ∃ n, ds = [u8N n] ∧ u8In n := tB_of h
theorem B5.of {ds : List D} (h : Ty.hasL [tB, tB, tB, tB, tB] ds) : ∃ x : A5u8N, ds = [u8N x.e0, u8N x.e1, u8N x.e2, u8N x.e3, u8N x.e4] ∧ B5 x := by
  simp only [Ty.hasL] at h
  obtain ⟨a, b, rfl, h1, c, d, rfl, h2, e, f, rfl, h3, g, k, rfl, h4, l, m, rfl, h5, rfl⟩ := h
  obtain ⟨x0, rfl, p0⟩ := tB_of' h1
  obtain ⟨x1, rfl, p1⟩ := tB_of' h2
  obtain ⟨x2, rfl, p2⟩ := tB_of' h3
  obtain ⟨x3, rfl, p3⟩ := tB_of' h4
  obtain ⟨x4, rfl, p4⟩ := tB_of' h5
  exact ⟨⟨x0, x1, x2, x3, x4⟩, rfl, p0, p1, p2, p3, p4⟩
theorem B5.of' {ds : List D} (h : tB5.has ds) : ∃ x : A5u8N, ds = [u8N x.e0, u8N x.e1, u8N x.e2, u8N x.e3, u8N x.e4] ∧ B5 x := by
  simp only [tB5, Ty.has] at h
  exact B5.of h
theorem B5.ofD {x : D} (h : tB5.hasD x) : ∃ a : A5u8N, x = A5u8N.d a ∧ B5 a := by
  obtain ⟨cs, rfl, h⟩ := h
  obtain ⟨a, e, h2⟩ := B5.of h
  subst e
  exact ⟨a, rfl, h2⟩
theorem Plate.ofD {x : D} (h : tPlate.hasD x) : ∃ a : Plate, x = Plate.d a ∧ PlateB a := by
  obtain ⟨cs, rfl, h⟩ := h
  rw [Ty.hasL] at h
  obtain ⟨a, b, rfl, h1, h⟩ := h
  rw [Ty.hasL] at h
  obtain ⟨c, d, rfl, h2, h⟩ := h
  rw [Ty.hasL] at h
  obtain ⟨e, f, rfl, h3, h⟩ := h
  rw [Ty.hasL] at h
  obtain ⟨g, k, rfl, h4, h⟩ := h
  rw [Ty.hasL] at h
  obtain ⟨l, m, rfl, h5, h⟩ := h
  simp only [Ty.hasL] at h
  subst h
  obtain ⟨x0, rfl, p0⟩ := tB_of' h1
  obtain ⟨x1, rfl, p1⟩ := tB_of' h2
  obtain ⟨x2, rfl, p2⟩ := B5.of' h3
  obtain ⟨x3, rfl, p3⟩ := B5.of' h4
  obtain ⟨x4, rfl, p4⟩ := B5.of' h5
  exact ⟨⟨x0, x1, x2, x3, x4⟩, rfl, p0, p2, p3, p4⟩
end Go.Vc
