/-
  A library for proofs about Go functions by symbolic evaluation, and plain Lean functions that the walked Go functions compute (written by a program of this claim).
-/
import Derived.Test.YtikifojhjbcfhaaRenamedF1
import Derived.Test.YtikifojhjbcfhaaW1
import Derived.Test.YtikifojhjbcfhaaW4
import Derived.Test.YtikifojhjbcfhaaVc3
namespace Go.Vc
set_option linter.unusedVariables false
set_option linter.unnecessarySimpa false
set_option linter.unusedSimpArgs false
set_option linter.unusedSimpArgs false
def Abv (a b : Nat) (l : List Spot) : Prop := 0 < a → ∀ k, a ≤ k → k < b → ¬ ltS (at' l k) (at' l (a - 1))
theorem Abv.out {a b : Nat} {l l' : List Spot} (h : Abv a b l) (ho : Out a b l l') (hb : b ≤ l.length) : Abv a b l' := fun h0 k h1 h2 => by
  obtain ⟨k', hk', e⟩ := ho.from hb (k := k) ⟨h1, h2⟩
  rw [e, ho.2 (a - 1) (.inl (by omega))]
  exact h h0 k' hk'.1 hk'.2
theorem f103_lt {N a i : Nat} {s1 v10 v9 : Int} {k2 : List Spot → Option (Bool × List Spot)} (hN : 10 ≤ N) : ∀ (fu j : Nat) (l : List Spot), j < fu → a ≤ j → j + 1 ≤ i → i ≤ l.length → l.length ≤ 1000000 → Abv a i l →
    (∀ p q, a ≤ p → p < q → q < i → q ≠ j → ¬ ltS (at' l q) (at' l p)) → ∃ l', Out a i l l' ∧ Srt a i l' ∧ f103_14 (a : Int) s1 N v10 v9 k2 fu (j : Int) l = k2 l' := by
  intro fu
  induction fu with
  | zero => intro j l h; omega
  | succ fu ih =>
    intro j l hf haj hji hil hl hA hI
    by_cases e : 1 ≤ j
    · obtain ⟨c, hc, hc2⟩ := f91_eq (x := at' l j) (y := at' l (j - 1)) hN
      have hd := W_dec (j := j) (by omega) (by omega)
      by_cases hlt : ltS (at' l j) (at' l (j - 1))
      · have hja : j ≠ a := fun hh => by
          subst hh
          exact hA (by omega) j (Nat.le_refl _) (by omega) hlt
        have hO : Out a i l (sw l j (j - 1)) := Out.sw (by omega) (by omega) (by omega)
        obtain ⟨l', h1, h2, h3⟩ := ih (j - 1) (sw l j (j - 1)) (by omega) (by omega) (by omega) (by rw [sw_len]; omega) (by rw [sw_len]; omega) (hA.out hO (by omega)) (by
          intro p q h1 h2 h3 h4
          rw [at_sw (by omega) (by omega), at_sw (by omega) (by omega)]
          by_cases q1 : j = q
          · subst q1
            rw [if_neg (by omega), if_pos rfl]
            by_cases p1 : j - 1 = p
            · rw [if_pos p1]; exact ltS_asymm hlt
            · rw [if_neg p1, if_neg (by omega)]
              exact hI p (j - 1) h1 (by omega) (by omega) (by omega)
          · rw [if_neg (by omega), if_neg q1]
            by_cases p1 : j - 1 = p
            · rw [if_pos p1]
              exact hI j q (by omega) (by omega) h3 (by omega)
            · rw [if_neg p1]
              by_cases p2 : j = p
              · rw [if_pos p2]
                exact hI (j - 1) q (by omega) (by omega) h3 (by omega)
              · rw [if_neg p2]
                exact hI p q h1 h2 h3 (by omega))
        refine ⟨l', hO.trans h1, h2, ?_⟩
        conv => lhs; unfold f103_14 f103_14b
        rw [show decide ((1 : Int) ≤ (j : Int)) = true by simp; omega, hd]
        simp only [cond_true, ix_at (show j < l.length by omega), ix_at (show j - 1 < l.length by omega), Option.bind_some, hc, hc2.2 hlt, decide_true, Bool.not_true, cond_false]
        have := sw_run (l := l) (i := j) (j := j - 1) (r := fun x => f103_14 (a : Int) s1 N v10 v9 k2 fu ((j - 1 : Nat) : Int) x) (by omega) (by omega)
        simp only [ix_at (show j < l.length by omega), ix_at (show j - 1 < l.length by omega), Option.bind_some] at this
        rw [this]
        exact h3
      · refine ⟨l, Out.refl, fun p q h1 h2 h3 => ?_, ?_⟩
        · by_cases q1 : q = j
          · subst q1
            by_cases p1 : p = q - 1
            · subst p1; exact hlt
            · exact leS_trans (hI p (q - 1) h1 (by omega) (by omega) (by omega)) hlt
          · exact hI p q h1 h2 (by omega) q1
        · conv => lhs; unfold f103_14 f103_14b
          rw [show decide ((1 : Int) ≤ (j : Int)) = true by simp; omega, hd]
          simp only [cond_true, ix_at (show j < l.length by omega), ix_at (show j - 1 < l.length by omega), Option.bind_some, hc, show ¬ c < 0 from fun h => hlt (hc2.1 h), decide_false, Bool.not_false]
    · have hj0 : j = 0 := by omega
      subst hj0
      refine ⟨l, Out.refl, fun p q h1 h2 h3 => hI p q h1 h2 h3 (by omega), ?_⟩
      conv => lhs; unfold f103_14 f103_14b
      simp
theorem f103_rt {N a b i : Nat} {v10 v9 : Int} {k1 : Int → List Spot → Option (Bool × List Spot)} (hN : 10 ≤ N) : ∀ (fu j : Nat) (l : List Spot), b - j < fu → i + 1 ≤ j → j ≤ b → b ≤ l.length → l.length ≤ 1000000 →
    ∃ l', Out i b l l' ∧ f103_20 (a : Int) (b : Int) N v10 k1 v9 fu (j : Int) l = k1 v9 l' := by
  intro fu
  induction fu with
  | zero => intro j l h; omega
  | succ fu ih =>
    intro j l hf hij hjb hbl hl
    by_cases e : j < b
    · obtain ⟨c, hc, hc2⟩ := f91_eq (x := at' l j) (y := at' l (j - 1)) hN
      have hd := W_dec (j := j) (by omega) (by omega)
      by_cases hlt : ltS (at' l j) (at' l (j - 1))
      · obtain ⟨l', h1, h2⟩ := ih (j + 1) (sw l j (j - 1)) (by omega) (by omega) (by omega) (by rw [sw_len]; omega) (by rw [sw_len]; omega)
        refine ⟨l', (Out.sw (by omega) (by omega) (by omega)).trans h1, ?_⟩
        conv => lhs; unfold f103_20 f103_20b
        rw [show decide ((j : Int) < (b : Int)) = true by simp; omega, hd]
        simp only [cond_true, ix_at (show j < l.length by omega), ix_at (show j - 1 < l.length by omega), Option.bind_some, hc, hc2.2 hlt, decide_true, Bool.not_true, cond_false]
        have := sw_run (l := l) (i := j) (j := j - 1) (r := fun x => f103_20 (a : Int) (b : Int) N v10 k1 v9 fu (W ((j : Int) + 1)) x) (by omega) (by omega)
        simp only [ix_at (show j < l.length by omega), ix_at (show j - 1 < l.length by omega), Option.bind_some] at this
        rw [this, W_nat (by omega)]
        exact h2
      · refine ⟨l, Out.refl, ?_⟩
        conv => lhs; unfold f103_20 f103_20b
        rw [show decide ((j : Int) < (b : Int)) = true by simp; omega, hd]
        simp only [cond_true, ix_at (show j < l.length by omega), ix_at (show j - 1 < l.length by omega), Option.bind_some, hc, show ¬ c < 0 from fun h => hlt (hc2.1 h), decide_false, Bool.not_false]
    · refine ⟨l, Out.refl, ?_⟩
      conv => lhs; unfold f103_20 f103_20b
      rw [show decide ((j : Int) < (b : Int)) = false by simp; omega]; rfl
theorem srt_chain {a i : Nat} {l : List Spot} (hai : a < i) (hS : Srt a i l) : ∀ n, (∀ q, i ≤ q → q < i + n → ¬ ltS (at' l q) (at' l (q - 1))) → Srt a (i + n) l := by
  intro n
  induction n with
  | zero => intro _; exact hS
  | succ n ih =>
    intro h
    have hS' := ih fun q h1 h2 => h q h1 (by omega)
    intro p q h1 h2 h3
    by_cases e : q = i + n
    · subst e
      have hq := h (i + n) (by omega) (by omega)
      by_cases e2 : p = i + n - 1
      · rw [e2]; exact hq
      · exact leS_trans (hS' p (i + n - 1) h1 (by omega) (by omega)) hq
    · exact hS' p q h1 h2 (by omega)
theorem srt_one {a : Nat} {l : List Spot} : Srt a (a + 1) l := fun p q h1 h2 h3 => by omega
theorem srt_step {a i : Nat} {l : List Spot} (hai : a < i) (hS : Srt a i l) (h : ¬ ltS (at' l i) (at' l (i - 1))) : Srt a (i + 1) l :=
  srt_chain hai hS 1 fun q h1 h2 => by rw [show q = i by omega]; exact h
theorem f103_up {N a b : Nat} {v10 : Int} {l : List Spot} {k3 : Int → Option (Bool × List Spot)} (hN : 10 ≤ N) (hbl : b ≤ l.length) (hl : l.length ≤ 1000000) : ∀ (fu i : Nat), b - i < fu → a < i → i ≤ b → Srt a i l →
    ∃ i', a < i' ∧ i' ≤ b ∧ Srt a i' l ∧ f103_5 (a : Int) (b : Int) N v10 l k3 fu (i : Int) = k3 (i' : Int) := by
  intro fu
  induction fu with
  | zero => intro i h; omega
  | succ fu ih =>
    intro i hf hai hib hS
    by_cases e : i < b
    · obtain ⟨c, hc, hc2⟩ := f91_eq (x := at' l i) (y := at' l (i - 1)) hN
      have hd := W_dec (j := i) (by omega) (by omega)
      by_cases hlt : ltS (at' l i) (at' l (i - 1))
      · refine ⟨i, hai, hib, hS, ?_⟩
        conv => lhs; unfold f103_5 f103_5b
        rw [show decide ((i : Int) < (b : Int)) = true by simp; omega, hd]
        simp only [cond_true, ix_at (show i < l.length by omega), ix_at (show i - 1 < l.length by omega), Option.bind_some, hc, hc2.2 hlt, decide_true, Bool.not_true, cond_false]
      · obtain ⟨i', h1, h2, h3, h4⟩ := ih (i + 1) (by omega) (by omega) (by omega) (srt_step hai hS hlt)
        refine ⟨i', h1, h2, h3, ?_⟩
        conv => lhs; unfold f103_5 f103_5b
        rw [show decide ((i : Int) < (b : Int)) = true by simp; omega, hd]
        simp only [cond_true, ix_at (show i < l.length by omega), ix_at (show i - 1 < l.length by omega), Option.bind_some, hc, show ¬ c < 0 from fun h => hlt (hc2.1 h), decide_false, Bool.not_false]
        rw [W_nat (by omega)]
        exact h4
    · refine ⟨i, hai, hib, hS, ?_⟩
      conv => lhs; unfold f103_5 f103_5b
      rw [show decide ((i : Int) < (b : Int)) = false by simp; omega]; rfl
theorem f103_main {N a b : Nat} (hN : 10 ≤ N) (hbN : b + 10 < N) : ∀ (fu c i : Nat) (l : List Spot), 5 - c < fu → c ≤ 5 → a < i → i ≤ b → b ≤ l.length → l.length ≤ 1000000 → Abv a b l → Srt a i l →
    ∃ r l', Out a b l l' ∧ (r = true → Srt a b l') ∧ f103_3 (a : Int) (b : Int) N f103_c24 fu (i : Int) (c : Int) l = some (r, l') := by
  intro fu
  induction fu with
  | zero => intro c i l h; omega
  | succ fu ih =>
    intro c i l hf hc hai hib hbl hl hA hS
    by_cases e : c < 5
    · obtain ⟨i', h1, h2, h3, h4⟩ := f103_up (N := N) (v10 := (c : Int)) (k3 := f103_c7 (a : Int) (b : Int) N (c : Int) l (f103_c4 (a : Int) (b : Int) (c : Int) (f103_3 (a : Int) (b : Int) N f103_c24 fu))) hN hbl hl N i (by omega) hai hib hS
      unfold f103_3 f103_3b
      simp only [joinK]
      rw [show decide ((c : Int) < (5 : Int)) = true by simp; omega]
      simp only [cond_true]
      rw [h4]
      unfold f103_c7
      by_cases e2 : i' = b
      · subst e2
        refine ⟨true, l, Out.refl, fun _ => h3, ?_⟩
        simp
      · have e2' : ¬ ((i' : Nat) : Int) = (b : Int) := by omega
        simp only [e2', decide_false, cond_false]
        by_cases e3 : W ((b : Int) - (a : Int)) < 50
        · refine ⟨false, l, Out.refl, fun h => by simp at h, ?_⟩
          simp [e3]
        · simp only [e3, decide_false, cond_false, joinK]
          have hd := W_dec (j := i') (by omega) (by omega)
          rw [hd]
          have hO : Out a b l (sw l i' (i' - 1)) := Out.sw (by omega) (by omega) hbl
          have hA1 := hA.out hO hbl
          have fin : ∀ lx, Out a b (sw l i' (i' - 1)) lx → Srt a i' lx → ∃ r l', Out a b l l' ∧ (r = true → Srt a b l') ∧ f103_c18 (a : Int) (b : Int) N (c : Int) (f103_c4 (a : Int) (b : Int) (c : Int) (f103_3 (a : Int) (b : Int) N f103_c24 fu)) (i' : Int) lx = some (r, l') := by
            intro lx hx hSx
            have hlx := hx.len
            rw [sw_len] at hlx
            have nxt : ∀ ly, Out i' b lx ly → ∃ r l', Out a b l l' ∧ (r = true → Srt a b l') ∧ f103_c4 (a : Int) (b : Int) (c : Int) (f103_3 (a : Int) (b : Int) N f103_c24 fu) (i' : Int) ly = some (r, l') := by
              intro ly hy
              have hy' : Out a b (sw l i' (i' - 1)) ly := hx.trans (hy.wide (by omega) (Nat.le_refl _))
              have hly := hy.len
              obtain ⟨r, l', g1, g2, g3⟩ := ih (c + 1) i' ly (by omega) (by omega) h1 h2 (by omega) (by omega) (hA1.out hy' (by rw [sw_len]; exact hbl)) (fun p q h5 h6 h7 => by
                rw [hy.2 p (.inl (by omega)), hy.2 q (.inl (by omega))]; exact hSx p q h5 h6 h7)
              refine ⟨r, l', (hO.trans hy').trans g1, g2, ?_⟩
              unfold f103_c4
              rw [W_nat (by omega)]
              exact g3
            unfold f103_c18
            by_cases e4 : (2 : Int) ≤ W ((b : Int) - (i' : Int))
            · obtain ⟨ly, r1, r2⟩ := f103_rt (N := N) (a := a) (b := b) (i := i') (v10 := (c : Int)) (v9 := (i' : Int)) (k1 := f103_c4 (a : Int) (b : Int) (c : Int) (f103_3 (a : Int) (b : Int) N f103_c24 fu)) hN N (i' + 1) lx (by omega) (by omega) (by omega) (by omega) (by omega)
              simp only [e4, decide_true, cond_true]
              rw [W_nat (by omega), r2]
              exact nxt ly r1
            · simp only [e4, decide_false, cond_false]
              exact nxt lx Out.refl
          rw [sw_run (r := fun x6 => bif decide (2 ≤ W ((i' : Int) - (a : Int))) then f103_14 (a : Int) (b : Int) N (c : Int) (i' : Int) (f103_c18 (a : Int) (b : Int) N (c : Int) (f103_c4 (a : Int) (b : Int) (c : Int) (f103_3 (a : Int) (b : Int) N f103_c24 fu)) (i' : Int)) N ((i' - 1 : Nat) : Int) x6 else f103_c18 (a : Int) (b : Int) N (c : Int) (f103_c4 (a : Int) (b : Int) (c : Int) (f103_3 (a : Int) (b : Int) N f103_c24 fu)) (i' : Int) x6) (by omega) (by omega)]
          by_cases e5 : (2 : Int) ≤ W ((i' : Int) - (a : Int))
          · simp only [e5, decide_true, cond_true]
            obtain ⟨lx, r1, r2, r3⟩ := f103_lt (N := N) (a := a) (i := i') (s1 := (b : Int)) (v10 := (c : Int)) (v9 := (i' : Int)) (k2 := f103_c18 (a : Int) (b : Int) N (c : Int) (f103_c4 (a : Int) (b : Int) (c : Int) (f103_3 (a : Int) (b : Int) N f103_c24 fu)) (i' : Int)) hN N (i' - 1) (sw l i' (i' - 1)) (by omega) (by omega) (by omega) (by rw [sw_len]; omega) (by rw [sw_len]; omega) (fun h0 k q1 q2 => hA1 h0 k q1 (by omega)) (fun p q q1 q2 q3 q4 => by
              rw [at_sw (by omega) (by omega), at_sw (by omega) (by omega), if_neg (by omega), if_neg (by omega), if_neg (by omega), if_neg (by omega)]
              exact h3 p q q1 q2 q3)
            rw [r3]
            exact fin lx (r1.wide (Nat.le_refl _) h2) r2
          · simp only [e5, decide_false, cond_false]
            refine fin _ Out.refl ?_
            have hw : W ((i' : Int) - (a : Int)) = (i' : Int) - (a : Int) := Wi (by omega) (by omega)
            rw [hw] at e5
            intro p q q1 q2 q3
            omega
    · refine ⟨false, l, Out.refl, fun h => by simp at h, ?_⟩
      unfold f103_3 f103_3b
      rw [show decide ((c : Int) < (5 : Int)) = false by simp; omega]
      rfl
theorem f103_eq {N a b : Nat} {l : List Spot} (hN : 30 ≤ N) (hab : a < b) (hbN : b + 20 < N) (hbl : b ≤ l.length) (hl : l.length ≤ 1000000) (hA : Abv a b l) :
    ∃ r l', Out a b l l' ∧ (r = true → Srt a b l') ∧ f103 N (a : Int) (b : Int) l = some (r, l') := by
  obtain ⟨n, rfl⟩ : ∃ n, N = n + 1 := ⟨N - 1, by omega⟩
  show ∃ r l', Out a b l l' ∧ (r = true → Srt a b l') ∧ f103_3 (a : Int) (b : Int) n f103_c24 n (W ((a : Int) + 1)) ((0 : Nat) : Int) l = some (r, l')
  rw [W_nat (by omega)]
  exact f103_main (by omega) (by omega) n 0 (a + 1) l (by omega) (by omega) (by omega) (by omega) hbl hl hA srt_one
end Go.Vc
namespace Go.Vc
set_option linter.unusedVariables false
set_option linter.unnecessarySimpa false
set_option linter.unusedSimpArgs false
set_option linter.unusedSimpArgs false
def Hp (f lo hi r : Nat) (l : List Spot) : Prop := ∀ p c, lo ≤ p → p ≠ r → c < hi → (c = 2 * p + 1 ∨ c = 2 * p + 2) → ¬ ltS (at' l (f + p)) (at' l (f + c))
def Heap (f lo hi : Nat) (l : List Spot) : Prop := ∀ p c, lo ≤ p → c < hi → (c = 2 * p + 1 ∨ c = 2 * p + 2) → ¬ ltS (at' l (f + p)) (at' l (f + c))
def Gr (f lo hi r : Nat) (l : List Spot) : Prop := ∀ p c, lo ≤ p → (r = 2 * p + 1 ∨ r = 2 * p + 2) → c < hi → (c = 2 * r + 1 ∨ c = 2 * r + 2) → ¬ ltS (at' l (f + p)) (at' l (f + c))
theorem f109_in {N f lo hi : Nat} (hN : 10 ≤ N) : ∀ (fu r : Nat) (l : List Spot), hi - r < fu → lo ≤ r → r ≤ hi → f + hi ≤ l.length → l.length ≤ 100000 → Hp f lo hi r l → Gr f lo hi r l →
    ∃ l', Out (f + lo) (f + hi) l l' ∧ Heap f lo hi l' ∧ f109_1 (hi : Int) (f : Int) N fu (r : Int) l = some l' := by
  intro fu
  induction fu with
  | zero => intro r l h; omega
  | succ fu ih =>
    intro r l hf hlr hrh hhl hl hH hG
    have hw1 : W ((W ((2 : Int) * (r : Int))) + (1 : Int)) = ((2 * r + 1 : Nat) : Int) := by
      rw [show (2 : Int) * (r : Int) = ((2 * r : Nat) : Int) by omega, W_of (n := ((2 * r : Nat) : Int)) (by omega) (by omega)]
      exact W_nat (by omega)
    have hw2 : W (((2 * r + 1 : Nat) : Int) + (1 : Int)) = ((2 * r + 2 : Nat) : Int) := W_nat (by omega)
    have hw3 : W ((f : Int) + (r : Int)) = ((f + r : Nat) : Int) := by rw [show (f : Int) + (r : Int) = ((f + r : Nat) : Int) by omega]; exact W_of (by omega) (by omega)
    unfold f109_1 f109_1b
    rw [hw1, hw2]
    simp only [joinK]
    by_cases e1 : hi ≤ 2 * r + 1
    · refine ⟨l, Out.refl, fun p c h1 h3 h4 => hH p c h1 (by omega) h3 h4, ?_⟩
      rw [show decide ((hi : Int) ≤ ((2 * r + 1 : Nat) : Int)) = true by simp; omega]
      rfl
    · rw [show decide ((hi : Int) ≤ ((2 * r + 1 : Nat) : Int)) = false by simp; omega]
      simp only [cond_false]
      have step : ∀ c : Nat, c < hi → (c = 2 * r + 1 ∨ c = 2 * r + 2) → (∀ d, d < hi → (d = 2 * r + 1 ∨ d = 2 * r + 2) → ¬ ltS (at' l (f + c)) (at' l (f + d))) →
          ∃ l', Out (f + lo) (f + hi) l l' ∧ Heap f lo hi l' ∧ f109_c5 (hi : Int) (f : Int) N (r : Int) l (f109_1 (hi : Int) (f : Int) N fu) (c : Int) = some l' := by
        intro c hc hcr hbig
        have hw4 : W ((f : Int) + (c : Int)) = ((f + c : Nat) : Int) := by rw [show (f : Int) + (c : Int) = ((f + c : Nat) : Int) by omega]; exact W_of (by omega) (by omega)
        unfold f109_c5
        rw [hw3, hw4]
        obtain ⟨d, hd, hd2⟩ := f91_eq (x := at' l (f + r)) (y := at' l (f + c)) hN
        by_cases hlt : ltS (at' l (f + r)) (at' l (f + c))
        · have hS : ∀ k, at' (sw l (f + r) (f + c)) (f + k) = if c = k then at' l (f + r) else if r = k then at' l (f + c) else at' l (f + k) := by
            intro k
            rw [at_sw (by omega) (by omega)]
            by_cases k1 : c = k
            · rw [if_pos k1, if_pos (by omega)]
            · rw [if_neg k1, if_neg (by omega)]
              by_cases k2 : r = k
              · rw [if_pos k2, if_pos (by omega)]
              · rw [if_neg k2, if_neg (by omega)]
          obtain ⟨l', h1, h2, h3⟩ := ih c (sw l (f + r) (f + c)) (by omega) (by omega) (by omega) (by rw [sw_len]; exact hhl) (by rw [sw_len]; exact hl) (by
            intro p q h1 h2 h3 h4
            rw [hS, hS, if_neg (show ¬ c = p by omega)]
            by_cases p1 : r = p
            · subst p1
              rw [if_pos rfl]
              by_cases q1 : c = q
              · rw [if_pos q1]; exact ltS_asymm hlt
              · rw [if_neg q1, if_neg (by omega)]
                exact hbig q h3 h4
            · rw [if_neg p1]
              by_cases q1 : c = q
              · omega
              · rw [if_neg q1]
                by_cases q2 : r = q
                · rw [if_pos q2]
                  exact hG p c h1 (by omega) hc hcr
                · rw [if_neg q2]
                  exact hH p q h1 (by omega) h3 h4) (by
            intro p q h1 h2 h3 h4
            have hp : p = r := by omega
            subst hp
            rw [hS, hS, if_neg (by omega), if_pos rfl, if_neg (by omega), if_neg (by omega)]
            exact hH c q (by omega) (by omega) h3 h4)
          refine ⟨l', (Out.sw (by omega) (by omega) (by omega)).trans h1, h2, ?_⟩
          have := sw_run (l := l) (i := f + r) (j := f + c) (r := fun x => f109_1 (hi : Int) (f : Int) N fu (c : Int) x) (by omega) (by omega)
          simp only [ix_at (show f + r < l.length by omega), ix_at (show f + c < l.length by omega), Option.bind_some, hd, hd2.2 hlt, decide_true, Bool.not_true, cond_false] at this ⊢
          rw [this]
          exact h3
        · refine ⟨l, Out.refl, ?_, ?_⟩
          · intro p q h1 h3 h4
            by_cases p1 : p = r
            · subst p1
              exact leS_trans (hbig q h3 h4) hlt
            · exact hH p q h1 p1 h3 h4
          · simp only [ix_at (show f + r < l.length by omega), ix_at (show f + c < l.length by omega), Option.bind_some, hd, show ¬ d < 0 from fun h => hlt (hd2.1 h), decide_false, Bool.not_false, cond_true]
      have hw5 : W ((f : Int) + ((2 * r + 1 : Nat) : Int)) = ((f + (2 * r + 1) : Nat) : Int) := by rw [show (f : Int) + ((2 * r + 1 : Nat) : Int) = ((f + (2 * r + 1) : Nat) : Int) by omega]; exact W_of (by omega) (by omega)
      have hw6 : W (((f + (2 * r + 1) : Nat) : Int) + (1 : Int)) = ((f + (2 * r + 2) : Nat) : Int) := W_nat (by omega)
      by_cases e2 : 2 * r + 2 < hi
      · rw [show decide (((2 * r + 2 : Nat) : Int) < (hi : Int)) = true by simp; omega, hw5, hw6]
        obtain ⟨d, hd, hd2⟩ := f91_eq (x := at' l (f + (2 * r + 1))) (y := at' l (f + (2 * r + 2))) hN
        simp only [cond_true, ix_at (show f + (2 * r + 1) < l.length by omega), ix_at (show f + (2 * r + 2) < l.length by omega), Option.bind_some, hd]
        by_cases hlt : ltS (at' l (f + (2 * r + 1))) (at' l (f + (2 * r + 2)))
        · simp only [hd2.2 hlt, decide_true, cond_true]
          refine step (2 * r + 2) e2 (.inr rfl) fun d h1 h2 => ?_
          rcases h2 with h2 | h2
          · rw [h2]; exact ltS_asymm hlt
          · rw [h2]; exact ltS_irrefl
        · simp only [show ¬ d < 0 from fun h => hlt (hd2.1 h), decide_false, cond_false]
          refine step (2 * r + 1) (by omega) (.inl rfl) fun d h1 h2 => ?_
          rcases h2 with h2 | h2
          · rw [h2]; exact ltS_irrefl
          · rw [h2]; exact hlt
      · rw [show decide (((2 * r + 2 : Nat) : Int) < (hi : Int)) = false by simp; omega]
        simp only [cond_false]
        refine step (2 * r + 1) (by omega) (.inl rfl) fun d h1 h2 => ?_
        rw [show d = 2 * r + 1 by omega]; exact ltS_irrefl
theorem f109_eq {N f lo hi : Nat} {l : List Spot} (hN : 30 ≤ N) (hlh : lo ≤ hi) (hN2 : hi + 10 < N) (hhl : f + hi ≤ l.length) (hl : l.length ≤ 100000) (hH : Hp f lo hi lo l) :
    ∃ l', Out (f + lo) (f + hi) l l' ∧ Heap f lo hi l' ∧ f109 N (lo : Int) (hi : Int) (f : Int) l = some l' := by
  obtain ⟨n, rfl⟩ : ∃ n, N = n + 1 := ⟨N - 1, by omega⟩
  exact f109_in (N := n) (by omega) n lo l (by omega) (Nat.le_refl _) hlh hhl hl hH (fun p c h1 h2 h3 h4 => by omega)
theorem keep_ok {l l' : List Spot} (h : l'.length = l.length) : keepL l l' = some l' := by unfold keepL; rw [if_pos h.symm]
theorem f99_build {N a b : Nat} {k0 : List Spot → Option (List Spot)} (hN : 40 ≤ N) (hab : a < b) (hbN : b + 20 < N) : ∀ (i fu : Nat) (l : List Spot), i ≤ fu → i ≤ b - a → b ≤ l.length → l.length ≤ 100000 → Heap a i (b - a) l →
    ∃ l', Out a b l l' ∧ Heap a 0 (b - a) l' ∧ f99_4 (a : Int) (b : Int) N k0 (fu + 1) ((i : Int) - 1) l = k0 l' := by
  intro i
  induction i with
  | zero =>
    intro fu l hf hi hbl hl hH
    refine ⟨l, Out.refl, hH, ?_⟩
    unfold f99_4 f99_4b
    rw [show decide ((0 : Int) ≤ ((0 : Nat) : Int) - 1) = false by simp]
    rfl
  | succ i ih =>
    intro fu l hf hi hbl hl hH
    obtain ⟨fu, rfl⟩ : ∃ n, fu = n + 1 := ⟨fu - 1, by omega⟩
    obtain ⟨l1, h1, h2, h3⟩ := f109_eq (N := N) (f := a) (lo := i) (hi := b - a) (l := l) (by omega) (by omega) (by omega) (by omega) hl (fun p c q1 q2 q3 q4 => hH p c (by omega) q3 q4)
    have h1' : Out a b l l1 := h1.wide (by omega) (by omega)
    obtain ⟨l2, h4, h5, h6⟩ := ih fu l1 (by omega) (by omega) (by rw [h1.len]; exact hbl) (by rw [h1.len]; exact hl) h2
    refine ⟨l2, h1'.trans h4, h5, ?_⟩
    unfold f99_4 f99_4b
    have hw0 : W ((b : Int) - (a : Int)) = ((b - a : Nat) : Int) := by rw [Wi (by omega) (by omega)]; omega
    have hw1 : ((i + 1 : Nat) : Int) - 1 = (i : Int) := by omega
    rw [hw1, hw0, show decide ((0 : Int) ≤ (i : Int)) = true by simp, h3]
    simp only [cond_true, Option.bind_some, keep_ok h1.len]
    rw [Wi (by omega) (by omega)]
    exact h6
theorem heap_top {f hi : Nat} {l : List Spot} (hH : Heap f 0 hi l) : ∀ c, c < hi → ¬ ltS (at' l f) (at' l (f + c)) := by
  intro c
  induction c using Nat.strongRecOn with
  | ind c ih =>
    intro hc
    by_cases e : c = 0
    · subst e; exact ltS_irrefl
    · exact leS_trans (hH ((c - 1) / 2) c (by omega) hc (by omega)) (ih ((c - 1) / 2) (by omega) (by omega))
theorem f99_pop {N a b : Nat} (hN : 40 ≤ N) (hab : a < b) (hbN : b + 20 < N) : ∀ (i fu : Nat) (l : List Spot), i ≤ fu → i ≤ b - a → b ≤ l.length → l.length ≤ 100000 → Heap a 0 i l → (∀ p q, a ≤ p → p < q → a + i ≤ q → q < b → ¬ ltS (at' l q) (at' l p)) →
    ∃ l', Out a b l l' ∧ Srt a b l' ∧ f99_8 (a : Int) N (fu + 1) ((i : Int) - 1) l = some l' := by
  intro i
  induction i with
  | zero =>
    intro fu l hf hi hbl hl hH hT
    refine ⟨l, Out.refl, fun p q h1 h2 h3 => hT p q h1 h2 (by omega) h3, ?_⟩
    unfold f99_8 f99_8b
    rw [show decide ((0 : Int) ≤ ((0 : Nat) : Int) - 1) = false by simp]
    rfl
  | succ i ih =>
    intro fu l hf hi hbl hl hH hT
    obtain ⟨fu, rfl⟩ : ∃ n, fu = n + 1 := ⟨fu - 1, by omega⟩
    have hw1 : ((i + 1 : Nat) : Int) - 1 = (i : Int) := by omega
    have hw2 : W ((a : Int) + (i : Int)) = ((a + i : Nat) : Int) := by rw [show (a : Int) + (i : Int) = ((a + i : Nat) : Int) by omega]; exact W_of (by omega) (by omega)
    have hO : Out a b l (sw l a (a + i)) := Out.sw (by omega) (by omega) hbl
    obtain ⟨l1, h1, h2, h3⟩ := f109_eq (N := N) (f := a) (lo := 0) (hi := i) (l := sw l a (a + i)) (by omega) (by omega) (by omega) (by rw [sw_len]; omega) (by rw [sw_len]; exact hl) (by
      intro p c q1 q2 q3 q4
      rw [at_sw (by omega) (by omega), at_sw (by omega) (by omega), if_neg (by omega), if_neg (by omega), if_neg (by omega), if_neg (by omega)]
      exact hH p c (by omega) (by omega) q4)
    have h1' : Out a (a + i) (sw l a (a + i)) l1 := h1.wide (by omega) (by omega)
    have hO2 : Out a b l l1 := hO.trans (h1'.wide (Nat.le_refl _) (by omega))
    have top : at' l1 (a + i) = at' l a := by
      rw [h1'.2 (a + i) (.inr (Nat.le_refl _)), at_sw (by omega) (by omega), if_pos rfl]
    obtain ⟨l2, h4, h5, h6⟩ := ih fu l1 (by omega) (by omega) (by rw [hO2.len]; exact hbl) (by rw [hO2.len]; exact hl) h2 (by
      intro p q q1 q2 q3 q4
      have src : ∀ k, a ≤ k → k < a + (i + 1) → ∃ k', (a ≤ k' ∧ k' < a + (i + 1)) ∧ at' l1 k = at' l k' := fun k g1 g2 => by
        have hOi : Out a (a + (i + 1)) l l1 := (Out.sw (by omega) (by omega) (by omega)).trans (h1'.wide (Nat.le_refl _) (by omega))
        exact hOi.from (by omega) ⟨g1, g2⟩
      by_cases e : q = a + i
      · subst e
        rw [top]
        obtain ⟨k', g1, g2⟩ := src p q1 (by omega)
        rw [g2]
        have := heap_top hH (k' - a) (by omega)
        rwa [show a + (k' - a) = k' by omega] at this
      · have eq : at' l1 q = at' l q := by
          rw [h1'.2 q (.inr (by omega)), at_sw (by omega) (by omega), if_neg (by omega), if_neg (by omega)]
        rw [eq]
        by_cases e2 : p < a + (i + 1)
        · obtain ⟨k', g1, g2⟩ := src p q1 e2
          rw [g2]
          exact hT k' q g1.1 (by omega) (by omega) q4
        · rw [h1'.2 p (.inr (by omega)), at_sw (by omega) (by omega), if_neg (by omega), if_neg (by omega)]
          exact hT p q q1 q2 (by omega) q4)
    refine ⟨l2, hO2.trans h4, h5, ?_⟩
    unfold f99_8 f99_8b
    rw [hw1, hw2, show decide ((0 : Int) ≤ (i : Int)) = true by simp]
    simp only [cond_true]
    have := sw_run (l := l) (i := a) (j := a + i) (r := fun x6 => (f109 N (0 : Int) (i : Int) (a : Int) x6).bind fun x7 => (keepL x6 x7).bind fun x8 => f99_8 (a : Int) N (fu + 1) (W ((i : Int) - 1)) x8) (by omega) (by omega)
    rw [this, show (0 : Int) = ((0 : Nat) : Int) from rfl, h3]
    simp only [Option.bind_some, keep_ok h1.len]
    rw [Wi (by omega) (by omega)]
    exact h6
theorem f99_eq {N a b : Nat} {l : List Spot} (hN : 50 ≤ N) (hab : a < b) (hbN : b + 30 < N) (hbl : b ≤ l.length) (hl : l.length ≤ 100000) : ∃ l', Out a b l l' ∧ Srt a b l' ∧ f99 N (a : Int) (b : Int) l = some l' := by
  obtain ⟨n, rfl⟩ : ∃ n, N = n + 1 := ⟨N - 1, by omega⟩
  have hw0 : W ((b : Int) - (a : Int)) = ((b - a : Nat) : Int) := by rw [Wi (by omega) (by omega)]; omega
  have hw1 : W (((b - a : Nat) : Int) - (1 : Int)) = ((b - a : Nat) : Int) - 1 := Wi (by omega) (by omega)
  have hw2 : W (Int.tdiv (((b - a : Nat) : Int) - 1) 2) = (((b - a + 1) / 2 : Nat) : Int) - 1 := by
    have h1 : Int.tdiv (((b - a : Nat) : Int) - 1) 2 = (((b - a + 1) / 2 : Nat) : Int) - 1 := by
      have := tdiv_nat (b - a - 1) 2
      rw [show (((b - a : Nat) : Int) - 1) = ((b - a - 1 : Nat) : Int) by omega]
      rw [show ((2 : Nat) : Int) = 2 from rfl] at this
      rw [this]; omega
    rw [h1]; exact Wi (by omega) (by omega)
  obtain ⟨m, hm⟩ : ∃ m, n = m + 1 := ⟨n - 1, by omega⟩
  obtain ⟨l1, h1, h2, h3⟩ := f99_build (N := n) (a := a) (b := b) (k0 := f99_c7 (a : Int) (b : Int) n) (by omega) hab (by omega) ((b - a + 1) / 2) m l (by omega) (by omega) hbl hl (fun p c q1 q2 q3 => by omega)
  obtain ⟨l2, h4, h5, h6⟩ := f99_pop (N := n) (a := a) (b := b) (by omega) hab (by omega) (b - a) m l1 (by omega) (by omega) (by rw [h1.len]; exact hbl) (by rw [h1.len]; exact hl) h2 (fun p q q1 q2 q3 q4 => by omega)
  refine ⟨l2, h1.trans h4, h5, ?_⟩
  show f99_4 (a : Int) (b : Int) n (f99_c7 (a : Int) (b : Int) n) n (W (Int.tdiv (W ((W ((b : Int) - (a : Int))) - (1 : Int))) (2 : Int))) l = some l2
  rw [hw0, hw1, hw2]
  rw [← hm] at h3 h6
  rw [h3]
  unfold f99_c7
  rw [hw0, hw1]
  exact h6
end Go.Vc
namespace Go.Vc
set_option linter.unusedVariables false
set_option linter.unnecessarySimpa false
set_option linter.unusedSimpArgs false
set_option linter.unusedSimpArgs false
theorem Abv.sub {a b b' : Nat} {l : List Spot} (h : Abv a b l) (hb : b' ≤ b) : Abv a b' l := fun h0 k h1 h2 => h h0 k h1 (by omega)
theorem join_srt {a b m : Nat} {l l' : List Spot} (hm : a ≤ m ∧ m < b) (hlo : ∀ k, a ≤ k → k < m → ltS (at' l k) (at' l m)) (hhi : ∀ k, m < k → k < b → ¬ ltS (at' l k) (at' l m))
    (f1 : ∀ k, a ≤ k → k < m → ∃ k', (a ≤ k' ∧ k' < m) ∧ at' l' k = at' l k') (f2 : at' l' m = at' l m) (f3 : ∀ k, m + 1 ≤ k → k < b → ∃ k', (m + 1 ≤ k' ∧ k' < b) ∧ at' l' k = at' l k')
    (s1 : Srt a m l') (s2 : Srt (m + 1) b l') : Srt a b l' := by
  intro p q h1 h2 h3
  have low : ∀ k, a ≤ k → k < m → ltS (at' l' k) (at' l' m) := fun k g1 g2 => by
    obtain ⟨k', g3, g4⟩ := f1 k g1 g2
    rw [g4, f2]; exact hlo k' g3.1 g3.2
  have high : ∀ k, m < k → k < b → ¬ ltS (at' l' k) (at' l' m) := fun k g1 g2 => by
    obtain ⟨k', g3, g4⟩ := f3 k g1 g2
    rw [g4, f2]; exact hhi k' (by omega) g3.2
  by_cases e1 : q < m
  · exact s1 p q h1 h2 e1
  · by_cases e2 : q = m
    · subst e2; exact ltS_asymm (low p h1 h2)
    · by_cases e3 : p < m
      · exact leS_trans (ltS_asymm (low p h1 e3)) (high q (by omega) h3)
      · by_cases e4 : p = m
        · subst e4; exact high q h2 h3
        · exact s2 p q (by omega) h2 h3
def Sorts (n : Nat) : Prop := ∀ (a b : Nat) (lim : Int) (l : List Spot), a ≤ b → b ≤ l.length → l.length ≤ 100000 → b - a ≤ 500 → b + (b - a) + 70 < n → Abv a b l → ∃ l', Out a b l l' ∧ Srt a b l' ∧ f95 n (a : Int) (b : Int) lim l = some l'
def Goes (n fu a b : Nat) : Prop := ∀ (a' b' : Nat) (lim : Int) (bal par : Bool) (l : List Spot), a ≤ a' → b' ≤ b → a' ≤ b' → b' - a' < b - a → b' ≤ l.length → l.length ≤ 100000 → Abv a' b' l → ∃ l', Out a' b' l l' ∧ Srt a' b' l' ∧ f95_2 n (f95 n) fu (a' : Int) (b' : Int) lim bal par l = some l'
theorem f95_part {n fu a b : Nat} (ih : Sorts n) (hn : b + (b - a) + 69 < n) (hba : b - a ≤ 500) (hG : Goes n fu a b) (hab : a + 2 ≤ b) {lim x : Int} {l : List Spot} (hx : Bt a b x) (hbl : b ≤ l.length) (hl : l.length ≤ 100000) (hA : Abv a b l) :
    ∃ l', Out a b l l' ∧ Srt a b l' ∧ f95_c20 n (f95 n) (a : Int) (b : Int) (f95_2 n (f95 n) fu) lim x l = some l' := by
  obtain ⟨xn, rfl⟩ : ∃ m : Nat, x = (m : Int) := ⟨x.toNat, by have := hx.1; omega⟩
  obtain ⟨m, fl, l2, ⟨h1, h2, h3, h4⟩, h5⟩ := f105_eq (N := n) (a := a) (b := b) (x := xn) (l := l) (by omega) hab (by omega) ⟨by have := hx.1; omega, by have := hx.2; omega⟩ hbl (by omega)
  have hA2 := hA.out h1 hbl
  have hl2 := h1.len
  unfold f95_c20
  rw [h5]
  simp only [Option.bind_some, keep_ok hl2]
  rw [W_nat (by omega)]
  by_cases e : W ((m : Int) - (a : Int)) < W ((b : Int) - (m : Int))
  · simp only [e, decide_true, cond_true]
    obtain ⟨l3, g1, g2, g3⟩ := ih a m lim l2 h2.1 (by omega) (by omega) (by omega) (by omega) (hA2.sub (by omega))
    have hl3 := g1.len
    rw [g3]
    simp only [Option.bind_some, keep_ok hl3]
    obtain ⟨l4, k1, k2, k3⟩ := hG (m + 1) b lim (decide ((W (Int.tdiv (W ((b : Int) - (a : Int))) (8 : Int))) ≤ (W ((m : Int) - (a : Int))))) fl l3 (by omega) (Nat.le_refl _) (by omega) (by omega) (by omega) (by omega) (by
      intro _ k q1 q2
      rw [show m + 1 - 1 = m from rfl, g1.2 k (.inr (by omega)), g1.2 m (.inr (by omega))]
      exact h4 k (by omega) q2)
    refine ⟨l4, h1.trans ((g1.wide (Nat.le_refl _) (by omega)).trans (k1.wide (by omega) (Nat.le_refl _))), ?_, k3⟩
    refine join_srt h2 h3 h4 ?_ ?_ ?_ ?_ k2
    · intro k q1 q2
      rw [k1.2 k (.inl (by omega))]
      exact g1.from (by omega) ⟨q1, q2⟩
    · rw [k1.2 m (.inl (by omega)), g1.2 m (.inr (by omega))]
    · intro k q1 q2
      obtain ⟨k', w1, w2⟩ := k1.from (by omega) ⟨q1, q2⟩
      exact ⟨k', w1, by rw [w2, g1.2 k' (.inr (by omega))]⟩
    · intro p q q1 q2 q3
      rw [k1.2 p (.inl (by omega)), k1.2 q (.inl (by omega))]
      exact g2 p q q1 q2 q3
  · simp only [e, decide_false, cond_false]
    obtain ⟨l3, g1, g2, g3⟩ := ih (m + 1) b lim l2 (by omega) (by omega) (by omega) (by omega) (by omega) (by
      intro _ k q1 q2
      rw [show m + 1 - 1 = m from rfl]
      exact h4 k (by omega) q2)
    have hl3 := g1.len
    rw [g3]
    simp only [Option.bind_some, keep_ok hl3]
    obtain ⟨l4, k1, k2, k3⟩ := hG a m lim (decide ((W (Int.tdiv (W ((b : Int) - (a : Int))) (8 : Int))) ≤ (W ((b : Int) - (m : Int))))) fl l3 (Nat.le_refl _) (by omega) h2.1 (by omega) (by omega) (by omega) (by
      intro h0 k q1 q2
      rw [g1.2 k (.inl (by omega)), g1.2 (a - 1) (.inl (by omega))]
      exact hA2 h0 k q1 (by omega))
    refine ⟨l4, h1.trans ((g1.wide (by omega) (Nat.le_refl _)).trans (k1.wide (Nat.le_refl _) (by omega))), ?_, k3⟩
    refine join_srt h2 h3 h4 ?_ ?_ ?_ k2 ?_
    · intro k q1 q2
      obtain ⟨k', w1, w2⟩ := k1.from (by omega) ⟨q1, q2⟩
      exact ⟨k', w1, by rw [w2, g1.2 k' (.inl (by omega))]⟩
    · rw [k1.2 m (.inr (by omega)), g1.2 m (.inl (by omega))]
    · intro k q1 q2
      rw [k1.2 k (.inr (by omega))]
      exact g1.from (by omega) ⟨q1, q2⟩
    · intro p q q1 q2 q3
      rw [k1.2 p (.inr (by omega)), k1.2 q (.inr (by omega))]
      exact g2 p q q1 q2 q3
theorem f95_equal {n fu a b : Nat} (ih : Sorts n) (hn : b + (b - a) + 69 < n) (hba : b - a ≤ 500) (hG : Goes n fu a b) (hab : a + 2 ≤ b) {lim x : Int} {bal par : Bool} {l : List Spot} (hx : Bt a b x) (hbl : b ≤ l.length) (hl : l.length ≤ 100000) (hA : Abv a b l) :
    ∃ l', Out a b l l' ∧ Srt a b l' ∧ f95_c17 n (f95 n) (a : Int) (b : Int) bal par (f95_2 n (f95 n) fu) lim x l = some l' := by
  have hP := f95_part ih hn hba hG hab (lim := lim) hx hbl hl hA
  unfold f95_c17
  simp only [joinK]
  by_cases e : 0 < a
  · rw [show decide ((0 : Int) < (a : Int)) = true by simp; omega, W_dec e (by omega)]
    obtain ⟨xn, rfl⟩ : ∃ m : Nat, x = (m : Int) := ⟨x.toNat, by have := hx.1; omega⟩
    have hx1 : a ≤ xn := by have := hx.1; omega
    have hx2 : xn < b := by have := hx.2; omega
    obtain ⟨d, hd, hd2⟩ := f91_eq (N := n) (x := at' l (a - 1)) (y := at' l xn) (by omega)
    simp only [cond_true, ix_at (show a - 1 < l.length by omega), ix_at (show xn < l.length by omega), Option.bind_some, hd]
    by_cases hlt : ltS (at' l (a - 1)) (at' l xn)
    · simp only [hd2.2 hlt, decide_true, Bool.not_true, cond_false]
      exact hP
    · simp only [show ¬ d < 0 from fun h => hlt (hd2.1 h), decide_false, Bool.not_false, cond_true]
      obtain ⟨m, l2, h1, h2, h3, h4, h5⟩ := f104_eq (N := n) (a := a) (b := b) (x := xn) (l := l) (by omega) hab (by omega) ⟨hx1, hx2⟩ hbl (by omega) (fun k q1 q2 => leS_trans hlt (hA e k q1 q2))
      have hl2 := h1.len
      rw [h5]
      simp only [Option.bind_some, keep_ok hl2]
      obtain ⟨l3, k1, k2, k3⟩ := hG m b lim bal par l2 (by omega) (Nat.le_refl _) h2.2 (by omega) (by omega) (by omega) (by
        intro _ k q1 q2
        rw [h3 (m - 1) (by omega) (by omega)]
        exact ltS_asymm (h4 k q1 q2))
      refine ⟨l3, h1.trans (k1.wide (by omega) (Nat.le_refl _)), ?_, k3⟩
      intro p q q1 q2 q3
      have low : ∀ k, a ≤ k → k < m → at' l3 k = at' l xn := fun k g1 g2 => by rw [k1.2 k (.inl g2)]; exact h3 k g1 g2
      by_cases e1 : q < m
      · rw [low p q1 (by omega), low q (by omega) e1]; exact ltS_irrefl
      · by_cases e2 : p < m
        · rw [low p q1 e2]
          obtain ⟨k', w1, w2⟩ := k1.from (by omega) (k := q) ⟨by omega, q3⟩
          rw [w2]; exact ltS_asymm (h4 k' w1.1 w1.2)
        · exact k2 p q (by omega) q2 q3
  · rw [show decide ((0 : Int) < (a : Int)) = false by simp; omega]
    exact hP
theorem f95_few {n fu a b : Nat} (ih : Sorts n) (hn : b + (b - a) + 69 < n) (hba : b - a ≤ 500) (hG : Goes n fu a b) (hab : a + 2 ≤ b) {lim x hint : Int} {bal par : Bool} {l : List Spot} (hx : Bt a b x) (hbl : b ≤ l.length) (hl : l.length ≤ 100000) (hA : Abv a b l) :
    ∃ l', Out a b l l' ∧ Srt a b l' ∧ f95_c15 n (f95 n) (a : Int) (b : Int) bal par (f95_2 n (f95 n) fu) lim x hint l = some l' := by
  have hP := f95_equal ih hn hba hG hab (lim := lim) (bal := bal) (par := par) hx hbl hl hA
  unfold f95_c15
  simp only [joinK]
  cases bal with
  | false => exact hP
  | true => cases par with
    | false => exact hP
    | true =>
      simp only [cond_true]
      by_cases e : hint = 1
      · simp only [e, decide_true, cond_true]
        obtain ⟨r, l2, h1, h2, h3⟩ := f103_eq (N := n) (a := a) (b := b) (l := l) (by omega) (by omega) (by omega) hbl (by omega) hA
        have hl2 := h1.len
        rw [h3]
        simp only [Option.bind_some, keep_ok hl2]
        cases r with
        | true => exact ⟨l2, h1, h2 rfl, rfl⟩
        | false =>
          obtain ⟨l3, k1, k2, k3⟩ := f95_equal ih hn hba hG hab (lim := lim) (bal := true) (par := true) (l := l2) hx (by omega) (by omega) (hA.out h1 hbl)
          exact ⟨l3, h1.trans k1, k2, k3⟩
      · simp only [e, decide_false, cond_false]
        exact hP
theorem f95_turn {n fu a b : Nat} (ih : Sorts n) (hn : b + (b - a) + 69 < n) (hba : b - a ≤ 500) (hG : Goes n fu a b) (hab : a + 8 ≤ b) {lim : Int} {bal par : Bool} {l : List Spot} (hbl : b ≤ l.length) (hl : l.length ≤ 100000) (hA : Abv a b l) :
    ∃ l', Out a b l l' ∧ Srt a b l' ∧ f95_c10 n (f95 n) (a : Int) (b : Int) bal par (f95_2 n (f95 n) fu) lim l = some l' := by
  obtain ⟨y, h, h1, h2⟩ := f101_eq (N := n) (a := a) (b := b) (l := l) (by omega) hab hbl (by omega)
  unfold f95_c10
  rw [h1]
  simp only [joinK, Option.bind_some]
  by_cases e : h = 2
  · simp only [e, decide_true, cond_true]
    obtain ⟨l2, g1, g2⟩ := f102_eq (N := n) (a := a) (b := b) (l := l) (by omega) (by omega) (by omega) hbl (by omega)
    have hl2 := g1.len
    rw [g2]
    simp only [Option.bind_some, keep_ok hl2]
    have hy : Bt a b (W (W ((b : Int) - 1) - W (y - (a : Int)))) := by
      have := h2.1; have := h2.2
      rw [Wi (n := (b : Int) - 1) (by omega) (by omega), Wi (n := y - (a : Int)) (by omega) (by omega), Wi (by omega) (by omega)]
      exact ⟨by omega, by omega⟩
    obtain ⟨l3, k1, k2, k3⟩ := f95_few ih hn hba hG (by omega) (lim := lim) (bal := bal) (par := par) (hint := 1) (l := l2) hy (by omega) (by omega) (hA.out g1 hbl)
    exact ⟨l3, g1.trans k1, k2, k3⟩
  · simp only [e, decide_false, cond_false]
    exact f95_few ih hn hba hG (by omega) h2 hbl hl hA
theorem f95_loop {n : Nat} (ih : Sorts n) : ∀ (fu a b : Nat) (lim : Int) (bal par : Bool) (l : List Spot), b - a < fu → a ≤ b → b ≤ l.length → l.length ≤ 100000 → b - a ≤ 500 → b + (b - a) + 69 < n → Abv a b l →
    ∃ l', Out a b l l' ∧ Srt a b l' ∧ f95_2 n (f95 n) fu (a : Int) (b : Int) lim bal par l = some l' := by
  intro fu
  induction fu with
  | zero => intro a b lim bal par l h; omega
  | succ fu ihf =>
    intro a b lim bal par l hf hab hbl hl hba hn hA
    have hG : Goes n fu a b := fun a' b' lim bal par l h1 h2 h3 h4 h5 h6 h7 => ihf a' b' lim bal par l (by omega) h3 h5 h6 (by omega) (by omega) h7
    have hw0 : W ((b : Int) - (a : Int)) = ((b - a : Nat) : Int) := by rw [Wi (by omega) (by omega)]; omega
    unfold f95_2 f95_2b
    rw [hw0]
    by_cases e : b - a ≤ 12
    · obtain ⟨l2, h1, h2, h3⟩ := f98_eq (N := n) (a := a) (b := b) (l := l) (by omega) hab (by omega) hbl (by omega)
      rw [show decide (((b - a : Nat) : Int) ≤ (12 : Int)) = true by simp; omega, h3]
      simp only [cond_true, Option.bind_some, keep_ok h1.len]
      exact ⟨l2, h1, h2, rfl⟩
    · rw [show decide (((b - a : Nat) : Int) ≤ (12 : Int)) = false by simp; omega]
      simp only [cond_false, joinK]
      by_cases e2 : lim = 0
      · obtain ⟨l2, h1, h2, h3⟩ := f99_eq (N := n) (a := a) (b := b) (l := l) (by omega) (by omega) (by omega) hbl hl
        simp only [e2, decide_true, cond_true, h3, Option.bind_some, keep_ok h1.len]
        exact ⟨l2, h1, h2, rfl⟩
      · simp only [e2, decide_false, cond_false]
        cases bal with
        | true =>
          simp only [Bool.not_true, cond_false]
          exact f95_turn ih hn hba hG (by omega) hbl hl hA
        | false =>
          simp only [Bool.not_false, cond_true]
          obtain ⟨l2, h1, h2⟩ := f100_eq (N := n) (a := a) (b := b) (l := l) (by omega) (by omega) hba (by omega) hbl (by omega)
          have hl2 := h1.len
          rw [h2]
          simp only [Option.bind_some, keep_ok hl2]
          obtain ⟨l3, k1, k2, k3⟩ := f95_turn ih hn hba hG (by omega) (lim := W (lim - 1)) (bal := false) (par := par) (l := l2) (by omega) (by omega) (hA.out h1 hbl)
          exact ⟨l3, h1.trans k1, k2, k3⟩
theorem f95_all : ∀ n, Sorts n := by
  intro n
  induction n with
  | zero => intro a b lim l h1 h2 h3 h4 h5; omega
  | succ n ih =>
    intro a b lim l h1 h2 h3 h4 h5 h6
    exact f95_loop ih n a b lim true true l (by omega) h1 h2 h3 h4 (by omega) h6
theorem f95_eq {N : Nat} {lim : Int} {l : List Spot} (hl : l.length ≤ 500) (hN : 1100 ≤ N) : ∃ l', l'.Perm l ∧ Srt 0 l.length l' ∧ f95 N 0 (l.length : Int) lim l = some l' := by
  obtain ⟨l', h1, h2, h3⟩ := f95_all N 0 l.length lim l (by omega) (Nat.le_refl _) (by omega) (by omega) (by omega) (fun h => by omega)
  exact ⟨l', h1.1, h2, h3⟩
end Go.Vc
namespace Go.Vc
open Go.Proofs
set_option linter.unusedVariables false
set_option linter.unnecessarySimpa false
set_option linter.unusedSimpArgs false
end Go.Vc
namespace Go.Vc
open Go.Proofs
set_option linter.unusedVariables false
set_option linter.unnecessarySimpa false
set_option linter.unusedSimpArgs false
end Go.Vc
namespace Go.Vc
open Go.Proofs
set_option linter.unusedVariables false
set_option linter.unnecessarySimpa false
set_option linter.unusedSimpArgs false
end Go.Vc
namespace Go.Vc
set_option linter.unusedVariables false
set_option linter.unnecessarySimpa false
set_option linter.unusedSimpArgs false
set_option linter.unusedSimpArgs false
def Cnd (q : Bool) (t : List (List Int)) (s a b : Nat) : Prop :=
  dl t s (bif q then [(a : Int), (a : Int)] else [(a : Int), (b : Int)]) = dl t s (bif q then [(b : Int), (b : Int)] else [(b : Int), (a : Int)])
instance (q : Bool) (t : List (List Int)) (s a b : Nat) : Decidable (Cnd q t s a b) := by unfold Cnd; infer_instance
def V (q : Bool) (t : List (List Int)) (x : Spot) : Prop := (0 ≤ x.State ∧ x.State < t.length) ∧ (0 ≤ x.A ∧ x.A < x.B ∧ x.B < t.length) ∧ Cnd q t x.State.toNat x.A.toNat x.B.toNat
def SpotsOf (q : Bool) (t : List (List Int)) (l : List Spot) : Prop := l.Pairwise ltS ∧ ∀ x, x ∈ l ↔ V q t x
theorem ltS_nodup {l : List Spot} (h : l.Pairwise ltS) : l.Nodup := h.imp fun h e => by subst e; exact ltS_irrefl h
def ltO (x y : Spot) : Prop := x.State < y.State ∨ (x.State = y.State ∧ (x.B < y.B ∨ (x.B = y.B ∧ x.A < y.A)))
def Bld (R : Spot → Spot → Prop) (q : Bool) (t : List (List Int)) (s a b : Nat) (l : List Spot) : Prop := l.Pairwise R ∧ ∀ x, x ∈ l ↔ V q t x ∧ R x ⟨s, a, b⟩
theorem spot_eq {x : Spot} {s a b : Int} (h1 : x.State = s) (h2 : x.A = a) (h3 : x.B = b) : x = ⟨s, a, b⟩ := by cases x; simp_all
theorem bld_add {q : Bool} {t : List (List Int)} {s a b : Nat} {l : List Spot} (h : Bld ltO q t s a b l) (hv : V q t ⟨s, a, b⟩) : Bld ltO q t s (a + 1) b (l ++ [⟨s, a, b⟩]) := by
  refine ⟨List.pairwise_append.2 ⟨h.1, by simp, fun x hx y hy => ?_⟩, fun x => ?_⟩
  · rw [List.mem_singleton.1 hy]; exact ((h.2 x).1 hx).2
  · rw [List.mem_append, h.2 x, List.mem_singleton]
    constructor
    · rintro (⟨h1, h2⟩ | rfl)
      · exact ⟨h1, by unfold ltO at *; simp only at *; omega⟩
      · exact ⟨hv, .inr ⟨rfl, .inr ⟨rfl, by show (a : Int) < ((a + 1 : Nat) : Int); omega⟩⟩⟩
    · rintro ⟨h1, h2⟩
      by_cases e : ltO x ⟨s, a, b⟩
      · exact .inl ⟨h1, e⟩
      · refine .inr (spot_eq ?_ ?_ ?_) <;> (unfold ltO at *; simp only at *; omega)
theorem bld_skip {q : Bool} {t : List (List Int)} {s a b : Nat} {l : List Spot} (h : Bld ltO q t s a b l) (hv : ¬ V q t ⟨s, a, b⟩) : Bld ltO q t s (a + 1) b l := by
  refine ⟨h.1, fun x => ?_⟩
  rw [h.2 x]
  constructor
  · rintro ⟨h1, h2⟩
    exact ⟨h1, by unfold ltO at *; simp only at *; omega⟩
  · rintro ⟨h1, h2⟩
    by_cases e : ltO x ⟨s, a, b⟩
    · exact ⟨h1, e⟩
    · have : x = ⟨s, a, b⟩ := by refine spot_eq ?_ ?_ ?_ <;> (unfold ltO at *; simp only at *; omega)
      rw [this] at h1; exact absurd h1 hv
theorem bld_row {q : Bool} {t : List (List Int)} {s b : Nat} {l : List Spot} (h : Bld ltO q t s b b l) : Bld ltO q t s 0 (b + 1) l := by
  refine ⟨h.1, fun x => ?_⟩
  rw [h.2 x]
  refine and_congr_right fun hv => ?_
  obtain ⟨⟨h1, h2⟩, ⟨h3, h4, h5⟩, _⟩ := hv
  unfold ltO; simp only; omega
theorem bld_state {q : Bool} {t : List (List Int)} {s : Nat} {l : List Spot} (h : Bld ltO q t s 0 t.length l) : Bld ltO q t (s + 1) 0 0 l := by
  refine ⟨h.1, fun x => ?_⟩
  rw [h.2 x]
  refine and_congr_right fun hv => ?_
  obtain ⟨⟨h1, h2⟩, ⟨h3, h4, h5⟩, _⟩ := hv
  unfold ltO; simp only; omega
theorem bld_nil {q : Bool} {t : List (List Int)} : Bld ltO q t 0 0 0 [] := by
  refine ⟨by simp, fun x => ?_⟩
  simp only [List.not_mem_nil, false_iff]
  rintro ⟨⟨⟨h1, h2⟩, ⟨h3, h4, h5⟩, _⟩, h6⟩
  unfold ltO at h6; simp only at h6; omega
theorem bld_all {q : Bool} {t : List (List Int)} {l : List Spot} (h : Bld ltO q t t.length 0 0 l) : l.Nodup ∧ ∀ x, x ∈ l ↔ V q t x := by
  refine ⟨h.1.imp fun h e => by subst e; unfold ltO at h; omega, fun x => ?_⟩
  rw [h.2 x]
  refine ⟨fun hx => hx.1, fun hv => ⟨hv, ?_⟩⟩
  obtain ⟨⟨h1, h2⟩, ⟨h3, h4, h5⟩, _⟩ := hv
  unfold ltO; simp only; omega
theorem v_mk {q : Bool} {t : List (List Int)} {s a b : Nat} (hs : s < t.length) (hb : b < t.length) (hab : a < b) : V q t ⟨s, a, b⟩ ↔ Cnd q t s a b := by
  unfold V
  constructor
  · intro h; exact h.2.2
  · intro h; exact ⟨by simp only; omega, by simp only; omega, h⟩
def tri : Nat → Nat
  | 0 => 0
  | b + 1 => tri b + b
theorem tri_le {n : Nat} (h : n ≤ 10) : tri n ≤ 45 := by
  have : ∀ n : Fin 11, tri n.val ≤ 45 := by decide
  exact this ⟨n, by omega⟩
theorem dig2 {t : List (List Int)} {a b : Nat} (ha : a < t.length) (hb : b < t.length) : Dig t [(a : Int), (b : Int)] := by
  intro x hx
  simp at hx
  rcases hx with rfl | rfl <;> omega
theorem sort_of {q : Bool} {t : List (List Int)} {l l' : List Spot} (h : Bld ltO q t t.length 0 0 l) (hp : l'.Perm l) (hs : Srt 0 l.length l') : SpotsOf q t l' := by
  obtain ⟨h1, h2⟩ := bld_all h
  refine ⟨List.pairwise_iff_getElem.2 fun i j hi hj hij => ?_, fun x => by rw [hp.mem_iff]; exact h2 x⟩
  have hl := hp.length_eq
  have hn : l'.Nodup := hp.nodup_iff.2 h1
  have h3 := hs i j (by omega) hij (by omega)
  have e1 : at' l' i = l'[i] := by simp [at', hi]
  have e2 : at' l' j = l'[j] := by simp [at', hj]
  rw [e1, e2] at h3
  by_cases e : ltS l'[i] l'[j]
  · exact e
  · have := leS_antisymm h3 e
    exact absurd this (List.pairwise_iff_getElem.1 hn i j hi hj hij)
theorem f43_in {N : Nat} {t : List (List Int)} (h : Lat t) (hN : 100 ≤ N) {s b : Nat} (hs : s < t.length) (hb : b < t.length) {k2 : List Spot → Option (List Spot × Int)} {L : Nat} (hL : L ≤ 2000) : ∀ (fu a : Nat) (l : List Spot), b - a < fu → a ≤ b → Bld ltO false t s a b l → l.length ≤ L + a →
    ∃ l', Bld ltO false t s b b l' ∧ l'.length ≤ L + b ∧ f43_i101_12 t N (s : Int) (b : Int) k2 fu l (a : Int) = k2 l' := by
  have h10 := h.hi
  intro fu
  induction fu with
  | zero => intro a l hf; omega
  | succ fu ih =>
    intro a l hf hab hB hl
    unfold f43_i101_12 f43_i101_12b
    by_cases e : a = b
    · subst e
      refine ⟨l, hB, hl, ?_⟩
      rw [show decide ((a : Int) < (a : Int)) = false by simp]
      rfl
    · rw [show decide ((a : Int) < (b : Int)) = true by simp; omega]
      have hp : f77 N (a : Int) (b : Int) = some ([(a : Int), (b : Int)], [(b : Int), (a : Int)]) := rfl
      rw [hp]
      simp only [cond_true, Option.bind_some]
      rw [f59_eq h.toSq (dig2 (by omega) (by omega)) hs (by simp) hN, f59_eq h.toSq (dig2 (by omega) (by omega)) hs (by simp) hN]
      simp only [Option.bind_some]
      rw [W_nat (by omega)]
      by_cases c : Cnd false t s a b
      · have c' : ((dl t s [(a : Int), (b : Int)] : Nat) : Int) = ((dl t s [(b : Int), (a : Int)] : Nat) : Int) := congrArg _ c
        rw [c']
        simp only [decide_true, cond_true]
        rw [app_ok (by simp; omega) (by simp; omega)]
        simp only [Option.bind_some]
        obtain ⟨l', h1, h2, h3⟩ := ih (a + 1) (l ++ [⟨s, a, b⟩]) (by omega) (by omega) (bld_add hB ((v_mk hs hb (by omega)).2 c)) (by simp; omega)
        exact ⟨l', h1, h2, h3⟩
      · have c' : ¬ ((dl t s [(a : Int), (b : Int)] : Nat) : Int) = ((dl t s [(b : Int), (a : Int)] : Nat) : Int) := fun e => c (Int.ofNat.inj e)
        simp only [c', decide_false, cond_false]
        obtain ⟨l', h1, h2, h3⟩ := ih (a + 1) l (by omega) (by omega) (bld_skip hB fun hv => c ((v_mk hs hb (by omega)).1 hv)) (by omega)
        exact ⟨l', h1, h2, h3⟩
theorem f43_mid {N : Nat} {t : List (List Int)} (h : Lat t) (hN : 100 ≤ N) {s : Nat} (hs : s < t.length) {k1 : List Spot → Option (List Spot × Int)} : ∀ (fu b : Nat) (l : List Spot), t.length - b < fu → b ≤ t.length → Bld ltO false t s 0 b l → l.length ≤ 45 * s + tri b →
    ∃ l', Bld ltO false t (s + 1) 0 0 l' ∧ l'.length ≤ 45 * (s + 1) ∧ f43_i101_9 t N (s : Int) k1 fu l (b : Int) = k1 l' := by
  have h10 := h.hi
  intro fu
  induction fu with
  | zero => intro b l hf; omega
  | succ fu ih =>
    intro b l hf hb hB hl
    unfold f43_i101_9 f43_i101_9b
    by_cases e : b = t.length
    · subst e
      have := tri_le h10
      refine ⟨l, bld_state hB, by omega, ?_⟩
      rw [show decide ((t.length : Int) < (t.length : Int)) = false by simp]
      rfl
    · rw [show decide ((b : Int) < (t.length : Int)) = true by simp; omega]
      simp only [cond_true, joinK]
      have := tri_le (n := b) (by omega)
      obtain ⟨l1, h1, h2, h3⟩ := f43_in h hN hs (b := b) (by omega) (k2 := f43_i101_c18 t (s : Int) (b : Int) (f43_i101_9 t N (s : Int) k1 fu)) (L := 45 * s + tri b) (by omega) N 0 l (by omega) (by omega) hB (by omega)
      rw [show (0 : Int) = ((0 : Nat) : Int) from rfl, h3]
      unfold f43_i101_c18
      rw [W_nat (by omega)]
      exact ih (b + 1) l1 (by omega) (by omega) (bld_row h1) (by simp only [tri]; omega)
theorem f43_out {N : Nat} {t : List (List Int)} (h : Lat t) (hN : 100 ≤ N) {k0 : List Spot → Option (List Spot × Int)} : ∀ (fu s : Nat) (l : List Spot), t.length - s < fu → s ≤ t.length → Bld ltO false t s 0 0 l → l.length ≤ 45 * s →
    ∃ l', Bld ltO false t t.length 0 0 l' ∧ l'.length ≤ 450 ∧ f43_i101_6 t N k0 fu l (s : Int) = k0 l' := by
  have h10 := h.hi
  intro fu
  induction fu with
  | zero => intro b l hf; omega
  | succ fu ih =>
    intro s l hf hs hB hl
    unfold f43_i101_6 f43_i101_6b
    by_cases e : s = t.length
    · subst e
      refine ⟨l, hB, by omega, ?_⟩
      rw [show decide ((t.length : Int) < (t.length : Int)) = false by simp]
      rfl
    · rw [show decide ((s : Int) < (t.length : Int)) = true by simp; omega]
      simp only [cond_true, joinK]
      obtain ⟨l1, h1, h2, h3⟩ := f43_mid h hN (s := s) (by omega) (k1 := f43_i101_c19 t (s : Int) (f43_i101_6 t N k0 fu)) N 0 l (by omega) (by omega) hB (by simp only [tri]; omega)
      rw [show (0 : Int) = ((0 : Nat) : Int) from rfl, h3]
      unfold f43_i101_c19
      rw [W_nat (by omega)]
      exact ih (s + 1) l1 (by omega) (by omega) h1 (by omega)
theorem f43_eq {N : Nat} {t : List (List Int)} (hs : Small t) (hN : 1200 ≤ N) : (Lat t ∧ ∃ l, SpotsOf false t l ∧ f43 N t = some (l, 0)) ∨ (chkT t ≠ 0 ∧ f43 N t = some ([], chkT t)) := by
  unfold f43
  rw [f49_eq hs (by omega)]
  simp only [Option.bind_some]
  by_cases e : chkT t = 0
  · left
    have h := chkT_good.1 e
    refine ⟨h, ?_⟩
    simp only [e, not_true, decide_false, cond_false, joinK]
    have h10 := h.hi
    obtain ⟨l, h1, h2, h3⟩ := f43_out h (N := N) (by omega) (k0 := f43_i101_c20 N) N 0 [] (by omega) (by omega) bld_nil (by simp)
    rw [show (0 : Int) = ((0 : Nat) : Int) from rfl, h3]
    unfold f43_i101_c20
    have hw : Wk .u64 ((l.length : Nat) : Int) = (l.length : Int) := by
      have := wrap_u64 (q := l.length) (by omega)
      unfold Wk
      cases inB .u64 ((l.length : Nat) : Int) with
      | true => rfl
      | false => exact this
    rw [hw]
    obtain ⟨p, hp, _⟩ := f96_eq (N := N) (m := l.length) (by omega)
    rw [hp]
    simp only [Option.bind_some]
    obtain ⟨l', g1, g2, g3⟩ := f95_eq (N := N) (lim := p) (l := l) (by omega) (by omega)
    rw [g3]
    simp only [Option.bind_some, keep_ok g1.length_eq]
    exact ⟨l', sort_of h1 g1 g2, rfl⟩
  · right
    refine ⟨e, ?_⟩
    simp only [e, not_false_eq_true, decide_true, cond_true]
theorem f45_in {N : Nat} {t : List (List Int)} (h : Lat t) (hN : 100 ≤ N) {s b : Nat} (hs : s < t.length) (hb : b < t.length) {k2 : List Spot → Option (List Spot × Int)} {L : Nat} (hL : L ≤ 2000) : ∀ (fu a : Nat) (l : List Spot), b - a < fu → a ≤ b → Bld ltO true t s a b l → l.length ≤ L + a →
    ∃ l', Bld ltO true t s b b l' ∧ l'.length ≤ L + b ∧ f45_i101_12 t N (s : Int) (b : Int) k2 fu l (a : Int) = k2 l' := by
  have h10 := h.hi
  intro fu
  induction fu with
  | zero => intro a l hf; omega
  | succ fu ih =>
    intro a l hf hab hB hl
    unfold f45_i101_12 f45_i101_12b
    by_cases e : a = b
    · subst e
      refine ⟨l, hB, hl, ?_⟩
      rw [show decide ((a : Int) < (a : Int)) = false by simp]
      rfl
    · rw [show decide ((a : Int) < (b : Int)) = true by simp; omega]
      have hp : f79 N (a : Int) (b : Int) = some ([(a : Int), (a : Int)], [(b : Int), (b : Int)]) := rfl
      rw [hp]
      simp only [cond_true, Option.bind_some]
      rw [f59_eq h.toSq (dig2 (by omega) (by omega)) hs (by simp) hN, f59_eq h.toSq (dig2 (by omega) (by omega)) hs (by simp) hN]
      simp only [Option.bind_some]
      rw [W_nat (by omega)]
      by_cases c : Cnd true t s a b
      · have c' : ((dl t s [(a : Int), (a : Int)] : Nat) : Int) = ((dl t s [(b : Int), (b : Int)] : Nat) : Int) := congrArg _ c
        rw [c']
        simp only [decide_true, cond_true]
        rw [app_ok (by simp; omega) (by simp; omega)]
        simp only [Option.bind_some]
        obtain ⟨l', h1, h2, h3⟩ := ih (a + 1) (l ++ [⟨s, a, b⟩]) (by omega) (by omega) (bld_add hB ((v_mk hs hb (by omega)).2 c)) (by simp; omega)
        exact ⟨l', h1, h2, h3⟩
      · have c' : ¬ ((dl t s [(a : Int), (a : Int)] : Nat) : Int) = ((dl t s [(b : Int), (b : Int)] : Nat) : Int) := fun e => c (Int.ofNat.inj e)
        simp only [c', decide_false, cond_false]
        obtain ⟨l', h1, h2, h3⟩ := ih (a + 1) l (by omega) (by omega) (bld_skip hB fun hv => c ((v_mk hs hb (by omega)).1 hv)) (by omega)
        exact ⟨l', h1, h2, h3⟩
theorem f45_mid {N : Nat} {t : List (List Int)} (h : Lat t) (hN : 100 ≤ N) {s : Nat} (hs : s < t.length) {k1 : List Spot → Option (List Spot × Int)} : ∀ (fu b : Nat) (l : List Spot), t.length - b < fu → b ≤ t.length → Bld ltO true t s 0 b l → l.length ≤ 45 * s + tri b →
    ∃ l', Bld ltO true t (s + 1) 0 0 l' ∧ l'.length ≤ 45 * (s + 1) ∧ f45_i101_9 t N (s : Int) k1 fu l (b : Int) = k1 l' := by
  have h10 := h.hi
  intro fu
  induction fu with
  | zero => intro b l hf; omega
  | succ fu ih =>
    intro b l hf hb hB hl
    unfold f45_i101_9 f45_i101_9b
    by_cases e : b = t.length
    · subst e
      have := tri_le h10
      refine ⟨l, bld_state hB, by omega, ?_⟩
      rw [show decide ((t.length : Int) < (t.length : Int)) = false by simp]
      rfl
    · rw [show decide ((b : Int) < (t.length : Int)) = true by simp; omega]
      simp only [cond_true, joinK]
      have := tri_le (n := b) (by omega)
      obtain ⟨l1, h1, h2, h3⟩ := f45_in h hN hs (b := b) (by omega) (k2 := f45_i101_c18 t (s : Int) (b : Int) (f45_i101_9 t N (s : Int) k1 fu)) (L := 45 * s + tri b) (by omega) N 0 l (by omega) (by omega) hB (by omega)
      rw [show (0 : Int) = ((0 : Nat) : Int) from rfl, h3]
      unfold f45_i101_c18
      rw [W_nat (by omega)]
      exact ih (b + 1) l1 (by omega) (by omega) (bld_row h1) (by simp only [tri]; omega)
theorem f45_out {N : Nat} {t : List (List Int)} (h : Lat t) (hN : 100 ≤ N) {k0 : List Spot → Option (List Spot × Int)} : ∀ (fu s : Nat) (l : List Spot), t.length - s < fu → s ≤ t.length → Bld ltO true t s 0 0 l → l.length ≤ 45 * s →
    ∃ l', Bld ltO true t t.length 0 0 l' ∧ l'.length ≤ 450 ∧ f45_i101_6 t N k0 fu l (s : Int) = k0 l' := by
  have h10 := h.hi
  intro fu
  induction fu with
  | zero => intro b l hf; omega
  | succ fu ih =>
    intro s l hf hs hB hl
    unfold f45_i101_6 f45_i101_6b
    by_cases e : s = t.length
    · subst e
      refine ⟨l, hB, by omega, ?_⟩
      rw [show decide ((t.length : Int) < (t.length : Int)) = false by simp]
      rfl
    · rw [show decide ((s : Int) < (t.length : Int)) = true by simp; omega]
      simp only [cond_true, joinK]
      obtain ⟨l1, h1, h2, h3⟩ := f45_mid h hN (s := s) (by omega) (k1 := f45_i101_c19 t (s : Int) (f45_i101_6 t N k0 fu)) N 0 l (by omega) (by omega) hB (by simp only [tri]; omega)
      rw [show (0 : Int) = ((0 : Nat) : Int) from rfl, h3]
      unfold f45_i101_c19
      rw [W_nat (by omega)]
      exact ih (s + 1) l1 (by omega) (by omega) h1 (by omega)
theorem f45_eq {N : Nat} {t : List (List Int)} (hs : Small t) (hN : 1200 ≤ N) : (Lat t ∧ ∃ l, SpotsOf true t l ∧ f45 N t = some (l, 0)) ∨ (chkT t ≠ 0 ∧ f45 N t = some ([], chkT t)) := by
  unfold f45
  rw [f49_eq hs (by omega)]
  simp only [Option.bind_some]
  by_cases e : chkT t = 0
  · left
    have h := chkT_good.1 e
    refine ⟨h, ?_⟩
    simp only [e, not_true, decide_false, cond_false, joinK]
    have h10 := h.hi
    obtain ⟨l, h1, h2, h3⟩ := f45_out h (N := N) (by omega) (k0 := f45_i101_c20 N) N 0 [] (by omega) (by omega) bld_nil (by simp)
    rw [show (0 : Int) = ((0 : Nat) : Int) from rfl, h3]
    unfold f45_i101_c20
    have hw : Wk .u64 ((l.length : Nat) : Int) = (l.length : Int) := by
      have := wrap_u64 (q := l.length) (by omega)
      unfold Wk
      cases inB .u64 ((l.length : Nat) : Int) with
      | true => rfl
      | false => exact this
    rw [hw]
    obtain ⟨p, hp, _⟩ := f96_eq (N := N) (m := l.length) (by omega)
    rw [hp]
    simp only [Option.bind_some]
    obtain ⟨l', g1, g2, g3⟩ := f95_eq (N := N) (lim := p) (l := l) (by omega) (by omega)
    rw [g3]
    simp only [Option.bind_some, keep_ok g1.length_eq]
    exact ⟨l', sort_of h1 g1 g2, rfl⟩
  · right
    refine ⟨e, ?_⟩
    simp only [e, not_false_eq_true, decide_true, cond_true]
def eN (t : List (List Int)) (i j : Nat) : Nat := (en t i j).toNat
theorem eN_lt {t : List (List Int)} (h : Lat t) {i j : Nat} (hi : i < t.length) (hj : j < t.length) : eN t i j < t.length := by have := h.lo i j hi hj; unfold eN; omega
theorem ix_eN {t : List (List Int)} (h : Lat t) {i j : Nat} (hi : i < t.length) (hj : j < t.length) : ix (row t i) (j : Int) = some ((eN t i j : Nat) : Int) := by
  rw [h.toSq.ix hi hj]; have := h.lo i j hi hj; unfold eN; congr 1; omega
theorem SpotsOf.few {q : Bool} {t : List (List Int)} (ht : t.length ≤ 10) {l : List Spot} (h : SpotsOf q t l) : l.length ≤ 1000 := by
  have hsub : l ⊆ (List.range 10).flatMap fun (s : Nat) => (List.range 10).flatMap fun (a : Nat) => (List.range 10).map fun (b : Nat) => (⟨(s : Int), (a : Int), (b : Int)⟩ : Spot) := by
    intro x hx
    obtain ⟨⟨h1, h2⟩, ⟨h3, h4, h5⟩, _⟩ := (h.2 x).1 hx
    simp only [List.mem_flatMap, List.mem_map, List.mem_range]
    exact ⟨x.State.toNat, by omega, x.A.toNat, by omega, x.B.toNat, by omega, (spot_eq (by omega) (by omega) (by omega)).symm⟩
  have := (ltS_nodup h.1).length_le_of_subset hsub
  have e : ((List.range 10).flatMap fun (s : Nat) => (List.range 10).flatMap fun (a : Nat) => (List.range 10).map fun (b : Nat) => (⟨(s : Int), (a : Int), (b : Int)⟩ : Spot)).length = 1000 := by kernel_rfl
  omega
end Go.Vc
namespace Go.Vc
open Go.Proofs
set_option linter.unusedVariables false
set_option linter.unnecessarySimpa false
set_option linter.unusedSimpArgs false
end Go.Vc
namespace Go.Vc
set_option linter.unusedVariables false
set_option linter.unnecessarySimpa false
set_option linter.unusedSimpArgs false
set_option linter.unusedSimpArgs false
def rng (n : Nat) : List Int := (List.range n).map fun (i : Nat) => (i : Int)
theorem rng_succ {n : Nat} : rng (n + 1) = rng n ++ [(n : Int)] := by simp [rng, List.range_succ]
theorem rng_len {n : Nat} : (rng n).length = n := by simp [rng]
theorem rng_mem {n : Nat} {x : Int} (h : x ∈ rng n) : 0 ≤ x ∧ x < n := by
  simp only [rng, List.mem_map, List.mem_range] at h
  obtain ⟨a, h1, rfl⟩ := h; omega
theorem rng_nodup {n : Nat} : (rng n).Nodup := by
  unfold rng List.Nodup
  rw [List.pairwise_map]
  exact List.Pairwise.imp (fun h => by omega) List.nodup_range
def B5 (a : A5u8N) : Prop := (0 ≤ a.e0 ∧ a.e0 ≤ 255) ∧ (0 ≤ a.e1 ∧ a.e1 ≤ 255) ∧ (0 ≤ a.e2 ∧ a.e2 ≤ 255) ∧ (0 ≤ a.e3 ∧ a.e3 ≤ 255) ∧ (0 ≤ a.e4 ∧ a.e4 ≤ 255)
theorem B5.get {a : A5u8N} (h : B5 a) {k : Nat} (hk : k < 5) : ∃ x : Nat, ixN [a.e0, a.e1, a.e2, a.e3, a.e4] k = some (x : Int) := by
  obtain ⟨h0, h1, h2, h3, h4⟩ := h
  match k, hk with
  | 0, _ => exact ⟨a.e0.toNat, by simp [ixN]; omega⟩
  | 1, _ => exact ⟨a.e1.toNat, by simp [ixN]; omega⟩
  | 2, _ => exact ⟨a.e2.toNat, by simp [ixN]; omega⟩
  | 3, _ => exact ⟨a.e3.toNat, by simp [ixN]; omega⟩
  | 4, _ => exact ⟨a.e4.toNat, by simp [ixN]; omega⟩
theorem perm_step {l o : List Int} {i : Nat} (hi : i < l.length) : ((l.take i ++ l.drop (i + 1)) ++ (o ++ [l[i]])).Perm (l ++ o) := by
  rw [List.perm_iff_count]
  intro a
  have h : List.count a l = List.count a (l.take i) + List.count a (l[i] :: l.drop (i + 1)) := by
    rw [← List.count_append, ← List.drop_eq_getElem_cons hi, List.take_append_drop]
  rw [List.count_cons] at h
  simp only [List.count_append, List.count_cons, List.count_nil] at h ⊢
  omega
theorem f54_loop {a : A5u8N} (ha : B5 a) {n : Nat} (hn : n ≤ 5) : ∀ (fu : Nat) (left out : List Int), left.length < fu → left.length + out.length = n → (left ++ out).Perm (rng n) →
    ∃ l : List Int, l.Perm (rng n) ∧ f54_7 a f54_c12 fu left out (out.length : Int) = some l := by
  intro fu
  induction fu with
  | zero => intro left out h; omega
  | succ fu ih =>
    intro left out hf hl hp
    by_cases e : left.length = 0
    · have : left = [] := List.eq_nil_of_length_eq_zero e
      subst this
      refine ⟨out, by simpa using hp, ?_⟩
      conv => lhs; unfold f54_7 f54_7b
      simp [f54_c12]
    · obtain ⟨x, hx⟩ := ha.get (k := out.length) (by omega)
      have hi : x % left.length < left.length := Nat.mod_lt _ (by omega)
      generalize hq : x % left.length = i at hi
      obtain ⟨l, hl1, hl2⟩ := ih (left.take i ++ left.drop (i + 1)) (out ++ [left[i]]) (by simp; omega) (by simp; omega) ((perm_step hi).trans hp)
      refine ⟨l, hl1, ?_⟩
      conv => lhs; unfold f54_7 f54_7b
      rw [show decide ((0 : Int) < (left.length : Int)) = true by simp; omega]
      simp only [cond_true, chkI_ok (n := 5) (show 0 ≤ (out.length : Int) by omega) (by omega), Option.bind_some, Int.toNat_natCast, hx, chk_pos (show 0 < left.length by omega), tmod_nat, hq, joinK, ix_get hi]
      rw [app_ok (by simp; omega) (by simp; omega)]
      simp only [Option.bind_some]
      unfold f54_c11
      simp only [tmod_nat, hq]
      rw [sub_pre (by omega)]
      simp only [Option.bind_some]
      rw [app_ok (by simp; omega) (by simp; omega)]
      simp only [Option.bind_some, List.nil_append]
      rw [W_nat (by omega), sub_post (by omega)]
      simp only [Option.bind_some]
      rw [app_ok (by simp; omega) (by simp; omega)]
      simp only [Option.bind_some]
      rw [W_nat (by omega)]
      simpa using hl2
theorem f54_eq {N : Nat} {a : A5u8N} (ha : B5 a) {n : Nat} (hn : n ≤ 5) (hN : 30 ≤ N) : ∃ l : List Int, l.Perm (rng n) ∧ f54 N (n : Int) a = some l := by
  obtain ⟨l, h1, h2⟩ := f54_loop ha hn N (rng n) [] (by rw [rng_len]; omega) (by simp [rng_len]) (by simp)
  refine ⟨l, h1, ?_⟩
  unfold f54
  simp only [joinK]
  obtain ⟨e1, e2⟩ := loop_inv0 (F := f54_3 (n : Int) a (f54_c6 a N)) (k := f54_c6 a N) (fun s i => s ++ [(i : Int)]) (fun i s => s = rng i) n (by
    intro m s i hi h
    subst h
    conv => lhs; unfold f54_3 f54_3b
    rw [show decide ((i : Int) < (n : Int)) = true by simp; omega]
    simp only [cond_true]
    rw [app_ok (by simp [rng_len]; omega) (by simp [rng_len]; omega)]
    simp only [Option.bind_some]
    rw [W_nat (by omega)]) (by intro s i hi h; rw [h, rng_succ]) (by intro m s; (conv => lhs; unfold f54_3 f54_3b); simp) (n := N) (s := []) (by omega) rfl
  rw [e1, e2]
  unfold f54_c6
  simp only [joinK]
  exact h2
def gR (n : Nat) (r c m : List Int) (s d : Nat) : Int := m.getD ((r.getD s 0 + c.getD d 0).toNat % n) 0
def rowR (n : Nat) (r c m : List Int) (s k : Nat) : List Int := (List.range k).map fun d => gR n r c m s d
def tabR (n : Nat) (r c m : List Int) (k : Nat) : List (List Int) := (List.range k).map fun s => rowR n r c m s n
theorem rowR_succ {n : Nat} {r c m : List Int} {s k : Nat} : rowR n r c m s (k + 1) = rowR n r c m s k ++ [gR n r c m s k] := by simp [rowR, List.range_succ]
theorem tabR_succ {n : Nat} {r c m : List Int} {k : Nat} : tabR n r c m (k + 1) = tabR n r c m k ++ [rowR n r c m k n] := by simp [tabR, List.range_succ]
theorem rowR_len {n : Nat} {r c m : List Int} {s k : Nat} : (rowR n r c m s k).length = k := by simp [rowR]
theorem tabR_len {n : Nat} {r c m : List Int} {k : Nat} : (tabR n r c m k).length = k := by simp [tabR]
theorem mid_get {A B : List (List Int)} {x : List Int} : ix (A ++ x :: B) (A.length : Int) = some x := by simp [ix_nat]
theorem mid_set {A B : List (List Int)} {x y : List Int} : setx (A ++ x :: B) (A.length : Int) y = some (A ++ y :: B) := by
  unfold setx
  rw [if_pos ⟨by omega, by simp; omega⟩]
  simp
structure Perms (n : Nat) (r c m : List Int) : Prop where
  hn : 2 ≤ n ∧ n ≤ 5
  r : r.Perm (rng n)
  c : c.Perm (rng n)
  m : m.Perm (rng n)
theorem perm_len {l : List Int} {n : Nat} (h : l.Perm (rng n)) : l.length = n := by rw [h.length_eq, rng_len]
theorem perm_at {l : List Int} {n i : Nat} (h : l.Perm (rng n)) (hi : i < n) : 0 ≤ l.getD i 0 ∧ l.getD i 0 < n := by
  have := perm_len h
  exact rng_mem (h.mem_iff.1 (mem_getD (by omega)))
theorem perm_inj {l : List Int} {n i j : Nat} (h : l.Perm (rng n)) (hi : i < n) (hj : j < n) (e : l.getD i 0 = l.getD j 0) : i = j := by
  have hl := perm_len h
  have hd : l.Nodup := h.nodup_iff.2 rng_nodup
  have hd := List.pairwise_iff_getElem.1 hd
  have e : l[i] = l[j] := by simpa [show i < l.length by omega, show j < l.length by omega] using e
  rcases Nat.lt_trichotomy i j with h1 | h1 | h1
  · exact absurd e (hd i j (by omega) (by omega) h1)
  · exact h1
  · exact absurd e.symm (hd j i (by omega) (by omega) h1)
theorem tab_row {n : Nat} {r c m : List Int} {i : Nat} (hi : i < n) : row (tabR n r c m n) i = rowR n r c m i n := by
  simp [row, tabR, hi]
theorem tab_en {n : Nat} {r c m : List Int} {i j : Nat} (hi : i < n) (hj : j < n) : en (tabR n r c m n) i j = gR n r c m i j := by
  unfold en; rw [tab_row hi]
  simp [rowR, hj]
theorem mod_inj {n a x y : Nat} (hn : 2 ≤ n ∧ n ≤ 5) (ha : a < n) (hx : x < n) (hy : y < n) (e : (a + x) % n = (a + y) % n) : x = y := by
  obtain ⟨h1, h2⟩ := hn
  rcases (show n = 2 ∨ n = 3 ∨ n = 4 ∨ n = 5 by omega) with rfl | rfl | rfl | rfl <;> omega
theorem gR_in {n : Nat} {r c m : List Int} (h : Perms n r c m) {i j : Nat} : 0 ≤ gR n r c m i j ∧ gR n r c m i j < n :=
  perm_at h.m (Nat.mod_lt _ (by have := h.hn; omega))
theorem gR_row {n : Nat} {r c m : List Int} (h : Perms n r c m) {i j k : Nat} (hi : i < n) (hj : j < n) (hk : k < n) (e : gR n r c m i j = gR n r c m i k) : j = k := by
  have h0 := h.hn
  have e1 := perm_inj h.m (Nat.mod_lt _ (by omega)) (Nat.mod_lt _ (by omega)) e
  have a1 := perm_at h.r hi
  have a2 := perm_at h.c hj
  have a3 := perm_at h.c hk
  obtain ⟨x, hx⟩ : ∃ x : Nat, r.getD i 0 = (x : Int) := ⟨(r.getD i 0).toNat, by omega⟩
  obtain ⟨y, hy⟩ : ∃ x : Nat, c.getD j 0 = (x : Int) := ⟨(c.getD j 0).toNat, by omega⟩
  obtain ⟨z, hz⟩ : ∃ x : Nat, c.getD k 0 = (x : Int) := ⟨(c.getD k 0).toNat, by omega⟩
  rw [hx, hy, hz, show ((x : Int) + (y : Int)).toNat = x + y by omega, show ((x : Int) + (z : Int)).toNat = x + z by omega] at e1
  have := mod_inj h0 (show x < n by omega) (show y < n by omega) (show z < n by omega) e1
  subst this
  exact perm_inj h.c hj hk (hy.trans hz.symm)
theorem gR_col {n : Nat} {r c m : List Int} (h : Perms n r c m) {i j k : Nat} (hi : i < n) (hj : j < n) (hk : k < n) (e : gR n r c m j i = gR n r c m k i) : j = k := by
  have h0 := h.hn
  have e1 := perm_inj h.m (Nat.mod_lt _ (by omega)) (Nat.mod_lt _ (by omega)) e
  have a1 := perm_at h.c hi
  have a2 := perm_at h.r hj
  have a3 := perm_at h.r hk
  obtain ⟨x, hx⟩ : ∃ x : Nat, c.getD i 0 = (x : Int) := ⟨(c.getD i 0).toNat, by omega⟩
  obtain ⟨y, hy⟩ : ∃ x : Nat, r.getD j 0 = (x : Int) := ⟨(r.getD j 0).toNat, by omega⟩
  obtain ⟨z, hz⟩ : ∃ x : Nat, r.getD k 0 = (x : Int) := ⟨(r.getD k 0).toNat, by omega⟩
  rw [hx, hy, hz, show ((y : Int) + (x : Int)).toNat = x + y by omega, show ((z : Int) + (x : Int)).toNat = x + z by omega] at e1
  have := mod_inj h0 (show x < n by omega) (show y < n by omega) (show z < n by omega) e1
  subst this
  exact perm_inj h.r hj hk (hy.trans hz.symm)
theorem tab_lat {n : Nat} {r c m : List Int} (h : Perms n r c m) : Lat (tabR n r c m n) := by
  have h0 := h.hn
  refine ⟨⟨by rw [tabR_len]; omega, fun i hi => ?_, fun i j hi hj => ?_⟩, by rw [tabR_len]; omega, ?_⟩
  · rw [tabR_len] at hi ⊢
    rw [tab_row hi, rowR_len]
  · rw [tabR_len] at hi hj ⊢
    rw [tab_en hi hj]; exact gR_in h
  · rintro ⟨i, hi, j, hj, k, hk, e⟩
    rw [tabR_len] at hi hj
    rw [tab_en hi hj, tab_en hi (by omega), tab_en hj hi, tab_en (by omega) hi] at e
    rcases e with e | e
    · have := gR_row h hi hj (by omega) e; omega
    · have := gR_col h hi hj (by omega) e; omega
theorem tab_small {n : Nat} {r c m : List Int} (h : Perms n r c m) : Small (tabR n r c m n) := by
  have h0 := h.hn
  refine ⟨by rw [tabR_len]; omega, fun x hx => ?_⟩
  simp only [tabR, List.mem_map] at hx
  obtain ⟨s, _, rfl⟩ := hx
  rw [rowR_len]; omega
structure PlateB (p : Plate) : Prop where
  b : 0 ≤ p.Base ∧ p.Base ≤ 255
  r : B5 p.Rows
  c : B5 p.Columns
  m : B5 p.Numbers
theorem f39_in {N n : Nat} {p : Plate} {r c m : List Int} {x4 : List (List Int)} {k1 : List (List Int) → Option (List (List Int))} (h : Perms n r c m) (hb : W ((2 : Int) + Int.tmod p.Base 4) = (n : Int)) {s : Nat} (hs : s < n) {A B : List (List Int)} (hA : A.length = s) :
    ∀ fu d, d ≤ n → n - d < fu → f39_8 p r c m x4 (s : Int) k1 fu (d : Int) (A ++ rowR n r c m s d :: B) = k1 (A ++ rowR n r c m s n :: B) := by
  intro fu
  induction fu with
  | zero => intro d _ h; omega
  | succ fu ih =>
    intro d hd hf
    have h0 := h.hn
    conv => lhs; unfold f39_8 f39_8b
    rw [hb]
    by_cases e : d = n
    · subst e; simp
    · have hd : d < n := by omega
      have a1 := perm_at h.r hs
      have a2 := perm_at h.c hd
      have hw : W (r.getD s 0 + c.getD d 0) = (((r.getD s 0 + c.getD d 0).toNat : Nat) : Int) := by
        rw [show (((r.getD s 0 + c.getD d 0).toNat : Nat) : Int) = r.getD s 0 + c.getD d 0 by omega]
        exact W_of (by omega) (by omega)
      have hg : (A ++ rowR n r c m s d :: B) = A ++ rowR n r c m s d :: B := rfl
      have q1 : ix (A ++ rowR n r c m s d :: B) (s : Int) = some (rowR n r c m s d) := by rw [← hA]; exact mid_get
      have q2 : setx (A ++ rowR n r c m s d :: B) (s : Int) (rowR n r c m s (d + 1)) = some (A ++ rowR n r c m s (d + 1) :: B) := by rw [← hA]; exact mid_set
      rw [show decide ((d : Int) < (n : Int)) = true by simp; omega]
      simp only [cond_true, q1, ix_getD (show s < r.length by rw [perm_len h.r]; exact hs), ix_getD (show d < c.length by rw [perm_len h.c]; exact hd), Option.bind_some, chk_pos (show 0 < n by omega), hw, tmod_nat,
        ix_getD (show (r.getD s 0 + c.getD d 0).toNat % n < m.length by rw [perm_len h.m]; exact Nat.mod_lt _ (by omega))]
      rw [app_ok (by simp [rowR_len]; omega) (by simp [rowR_len]; omega)]
      simp only [Option.bind_some]
      rw [show rowR n r c m s d ++ [m.getD ((r.getD s 0 + c.getD d 0).toNat % n) 0] = rowR n r c m s (d + 1) from rowR_succ.symm, q2]
      simp only [Option.bind_some]
      rw [W_nat (by omega)]
      exact ih (d + 1) hd (by omega)
theorem f39_eq {N : Nat} {p : Plate} (hp : PlateB p) (hN : 30 ≤ N) : ∃ n r c m, Perms n r c m ∧ f39 N p = some (tabR n r c m n) := by
  obtain ⟨b, hb⟩ : ∃ b : Nat, p.Base = (b : Int) := ⟨p.Base.toNat, by have := hp.b; omega⟩
  have hlt := Nat.mod_lt b (show 0 < 4 by omega)
  have hw : W ((2 : Int) + Int.tmod p.Base 4) = ((2 + b % 4 : Nat) : Int) := by
    rw [hb, show (2 : Int) + Int.tmod (b : Int) 4 = ((2 + b % 4 : Nat) : Int) by
      have := tmod_nat b 4
      rw [show ((4 : Nat) : Int) = 4 from rfl] at this
      omega]
    exact W_of (by omega) (by omega)
  obtain ⟨r, hr1, hr2⟩ := f54_eq (N := N) hp.r (n := 2 + b % 4) (by omega) hN
  obtain ⟨c, hc1, hc2⟩ := f54_eq (N := N) hp.c (n := 2 + b % 4) (by omega) hN
  obtain ⟨m, hm1, hm2⟩ := f54_eq (N := N) hp.m (n := 2 + b % 4) (by omega) hN
  generalize hn : 2 + b % 4 = n at *
  have hP : Perms n r c m := ⟨by omega, hr1, hc1, hm1⟩
  refine ⟨n, r, c, m, hP, ?_⟩
  unfold f39
  rw [hw, hr2, hc2, hm2]
  have hmk : mkS 24 ([] : List Int) (n : Int) (n : Int) = some (List.replicate n []) := by
    unfold mkS
    rw [if_pos ⟨by omega, by omega, by omega⟩]; simp
  simp only [Option.bind_some, hmk, joinK]
  have key : ∀ fu s, s ≤ n → n - s < fu → f39_5 p N r c m (List.replicate n []) f39_c12 fu (s : Int) (tabR n r c m s ++ List.replicate (n - s) []) = some (tabR n r c m n) := by
    intro fu
    induction fu with
    | zero => intro s _ h; omega
    | succ fu ih =>
      intro s hs hf
      conv => lhs; unfold f39_5 f39_5b
      by_cases e : s = n
      · subst e; simp [f39_c12]
      · have hs : s < n := by omega
        rw [show decide ((s : Int) < ((List.replicate n ([] : List Int)).length : Int)) = true by simp; omega]
        simp only [cond_true, joinK]
        obtain ⟨a, ha⟩ : ∃ a, n - s = a + 1 := ⟨n - s - 1, by omega⟩
        rw [ha, List.replicate_succ]
        have := f39_in (N := N) (p := p) (x4 := List.replicate n []) (k1 := f39_c11 p r c m (List.replicate n []) (s : Int) (f39_5 p N r c m (List.replicate n []) f39_c12 fu)) hP hw hs (A := tabR n r c m s) (B := List.replicate a []) tabR_len N 0 (by omega) (by omega)
        rw [show ((0 : Nat) : Int) = 0 from rfl, show rowR n r c m s 0 = [] from rfl] at this
        rw [this]
        unfold f39_c11
        rw [W_nat (by omega)]
        have := ih (s + 1) hs (by omega)
        rw [tabR_succ, List.append_assoc, show n - (s + 1) = a by omega] at this
        exact this
  have := key N 0 (by omega) (by omega)
  simpa [tabR] using this
end Go.Vc
namespace Go.Vc
open Go.Proofs
set_option linter.unusedVariables false
set_option linter.unnecessarySimpa false
set_option linter.unusedSimpArgs false
end Go.Vc
namespace Go.Vc
set_option linter.unusedVariables false
set_option linter.unnecessarySimpa false
set_option linter.unusedSimpArgs false
set_option linter.unusedSimpArgs false
theorem blind_of {N : Nat} {t : List (List Int)} (h : Lat t) (hs : Small t) (hN : 1200 ≤ N) : ∃ l, SpotsOf false t l ∧ l.length ≤ 1000 ∧ f43 N t = some (l, 0) := by
  rcases f43_eq hs hN with ⟨_, l, h1, h2⟩ | ⟨h1, _⟩
  · exact ⟨l, h1, h1.few h.hi, h2⟩
  · exact absurd (chkT_good.2 h) h1
theorem twins_of {N : Nat} {t : List (List Int)} (h : Lat t) (hs : Small t) (hN : 1200 ≤ N) : ∃ l, SpotsOf true t l ∧ l.length ≤ 1000 ∧ f45 N t = some (l, 0) := by
  rcases f45_eq hs hN with ⟨_, l, h1, h2⟩ | ⟨h1, _⟩
  · exact ⟨l, h1, h1.few h.hi, h2⟩
  · exact absurd (chkT_good.2 h) h1
end Go.Vc
namespace Go.Vc
set_option linter.unusedVariables false
set_option linter.unnecessarySimpa false
set_option linter.unusedSimpArgs false
set_option linter.unusedSimpArgs false
structure Nms (n : Nat) (T : List Int) : Prop where
  len : T.length = n
  rg : ∀ i, i < n → 0 ≤ T.getD i 0 ∧ T.getD i 0 < n
  inj : ∀ i j, i < n → j < n → T.getD i 0 = T.getD j 0 → i = j
  zero : T.getD 0 0 = 0
def tn (T : List Int) (i : Nat) : Nat := (T.getD i 0).toNat
theorem Nms.lt {n : Nat} {T : List Int} (h : Nms n T) {i : Nat} (hi : i < n) : tn T i < n := by have := h.rg i hi; unfold tn; omega
theorem Nms.val {n : Nat} {T : List Int} (h : Nms n T) {i : Nat} (hi : i < n) : T.getD i 0 = (tn T i : Int) := by have := h.rg i hi; unfold tn; omega
theorem Nms.tinj {n : Nat} {T : List Int} (h : Nms n T) {i j : Nat} (hi : i < n) (hj : j < n) (e : tn T i = tn T j) : i = j := h.inj i j hi hj (by rw [h.val hi, h.val hj, e])
theorem Nms.sur {n : Nat} {T : List Int} (h : Nms n T) {y : Nat} (hy : y < n) : ∃ i, i < n ∧ tn T i = y := pig n (tn T) (fun i hi => h.lt hi) (fun i j hi hj e => h.tinj hi hj e) y hy
theorem Nms.z {n : Nat} {T : List Int} (h : Nms n T) : tn T 0 = 0 := by unfold tn; rw [h.zero]; rfl
theorem Nms.ix {n : Nat} {T : List Int} (h : Nms n T) {i : Nat} (hi : i < n) : Vc.ix T (i : Int) = some (tn T i : Int) := by
  have := h.len
  rw [← h.val hi, ix_nat, List.getD_eq_getElem?_getD, List.getElem?_eq_getElem (by omega)]; rfl
structure RenT (t o : List (List Int)) (T : List Int) : Prop where
  lat : Lat t
  nms : Nms t.length T
  len : o.length = t.length
  rows : ∀ i, i < t.length → (row o i).length = t.length
  eq : ∀ i j, i < t.length → j < t.length → en o (tn T i) (tn T j) = (tn T (eN t i j) : Int)
theorem RenT.eqN {t o : List (List Int)} {T : List Int} (h : RenT t o T) {i j : Nat} (hi : i < t.length) (hj : j < t.length) : eN o (tn T i) (tn T j) = tn T (eN t i j) := by
  unfold eN; rw [h.eq i j hi hj]; rfl
theorem eN_val {t : List (List Int)} (h : Lat t) {i j : Nat} (hi : i < t.length) (hj : j < t.length) : en t i j = (eN t i j : Int) := by have := h.lo i j hi hj; unfold eN; omega
theorem RenT.lat' {t o : List (List Int)} {T : List Int} (h : RenT t o T) : Lat o := by
  have hl := h.len
  have h2 := h.lat.two
  refine ⟨⟨by rw [hl]; exact h.lat.hi, fun i hi => by rw [hl]; exact h.rows i (by omega), fun i j hi hj => ?_⟩, by omega, ?_⟩
  · obtain ⟨i', a1, rfl⟩ := h.nms.sur (show i < t.length by omega)
    obtain ⟨j', a2, rfl⟩ := h.nms.sur (show j < t.length by omega)
    rw [h.eq i' j' a1 a2, hl]
    have := h.nms.lt (eN_lt h.lat a1 a2)
    omega
  · rintro ⟨i, hi, j, hj, k, hk, e⟩
    obtain ⟨i', a1, rfl⟩ := h.nms.sur (show i < t.length by omega)
    obtain ⟨j', a2, rfl⟩ := h.nms.sur (show j < t.length by omega)
    obtain ⟨k', a3, e3⟩ := h.nms.sur (show k < t.length by omega)
    have hne : j' ≠ k' := fun hh => by subst hh; omega
    rw [← e3, h.eq i' j' a1 a2, h.eq i' k' a1 a3, h.eq j' i' a2 a1, h.eq k' i' a3 a1] at e
    rcases e with e | e
    · have := h.nms.tinj (eN_lt h.lat a1 a2) (eN_lt h.lat a1 a3) (by omega)
      exact hne (h.lat.rowInj a1 a2 a3 (by rw [eN_val h.lat a1 a2, eN_val h.lat a1 a3, this]))
    · have := h.nms.tinj (eN_lt h.lat a2 a1) (eN_lt h.lat a3 a1) (by omega)
      exact hne (h.lat.colInj a1 a2 a3 (by rw [eN_val h.lat a2 a1, eN_val h.lat a3 a1, this]))
def nmL (T : List Int) (l : List Int) : List Int := l.map fun d => (tn T d.toNat : Int)
theorem RenT.dl {t o : List (List Int)} {T : List Int} (h : RenT t o T) : ∀ {l : List Int} {s : Nat}, s < t.length → Dig t l → Vc.dl o (tn T s) (nmL T l) = tn T (Vc.dl t s l) := by
  intro l
  induction l with
  | nil => intro s _ _; rfl
  | cons d l ih =>
    intro s hs hd
    have hd' := hd.cons
    have e : nmL T (d :: l) = (tn T d.toNat : Int) :: nmL T l := rfl
    rw [e, dl_cons, dl_cons]
    have e2 : (en o (tn T s) ((tn T d.toNat : Int)).toNat).toNat = tn T (eN t s d.toNat) := by
      rw [Int.toNat_natCast]; exact h.eqN hs (by omega)
    rw [e2]
    exact ih (eN_lt h.lat hs (by omega)) hd'.2
theorem RenT.dig {t o : List (List Int)} {T : List Int} (h : RenT t o T) {l : List Int} (hd : Dig t l) : Dig o (nmL T l) := by
  intro x hx
  simp only [nmL, List.mem_map] at hx
  obtain ⟨d, hd1, rfl⟩ := hx
  have := hd d hd1
  have h2 := h.nms.lt (show d.toNat < t.length by omega)
  have := h.len
  omega
theorem RenT.cnd {t o : List (List Int)} {T : List Int} (h : RenT t o T) {q : Bool} {s a b : Nat} (hs : s < t.length) (ha : a < t.length) (hb : b < t.length) : Cnd q o (tn T s) (tn T a) (tn T b) ↔ Cnd q t s a b := by
  have key : ∀ u v : Nat, u < t.length → v < t.length → Vc.dl o (tn T s) [(tn T u : Int), (tn T v : Int)] = tn T (Vc.dl t s [(u : Int), (v : Int)]) := fun u v hu hv => by
    have := h.dl (l := [(u : Int), (v : Int)]) hs (dig2 hu hv)
    exact this
  have tl : ∀ u v : Nat, u < t.length → v < t.length → Vc.dl t s [(u : Int), (v : Int)] < t.length := fun u v hu hv => dl_lt h.lat.toSq hs (dig2 hu hv)
  unfold Cnd
  cases q with
  | true =>
    simp only [cond_true]
    rw [key a a ha ha, key b b hb hb]
    exact ⟨fun e => h.nms.tinj (tl a a ha ha) (tl b b hb hb) e, fun e => by rw [e]⟩
  | false =>
    simp only [cond_false]
    rw [key a b ha hb, key b a hb ha]
    exact ⟨fun e => h.nms.tinj (tl a b ha hb) (tl b a hb ha) e, fun e => by rw [e]⟩
theorem Cnd.sym {q : Bool} {t : List (List Int)} {s a b : Nat} (h : Cnd q t s a b) : Cnd q t s b a := by
  unfold Cnd at *
  cases q <;> exact h.symm
def rnS (T : List Int) (x : Spot) : Spot := ⟨(tn T x.State.toNat : Int), (min (tn T x.A.toNat) (tn T x.B.toNat) : Nat), (max (tn T x.A.toNat) (tn T x.B.toNat) : Nat)⟩
theorem RenT.v {t o : List (List Int)} {T : List Int} (h : RenT t o T) {q : Bool} {x : Spot} (hv : V q t x) : V q o (rnS T x) := by
  obtain ⟨⟨h1, h2⟩, ⟨h3, h4, h5⟩, h6⟩ := hv
  have hl := h.len
  have s1 : x.State.toNat < t.length := by omega
  have a1 : x.A.toNat < t.length := by omega
  have b1 : x.B.toNat < t.length := by omega
  have hS := h.nms.lt s1
  have hA := h.nms.lt a1
  have hB := h.nms.lt b1
  have hne : tn T x.A.toNat ≠ tn T x.B.toNat := fun e => by have := h.nms.tinj a1 b1 e; omega
  have hc := (h.cnd (q := q) s1 a1 b1).2 h6
  unfold rnS
  refine (v_mk (by omega) (by omega) (by omega)).2 ?_
  by_cases c : tn T x.A.toNat ≤ tn T x.B.toNat
  · rw [Nat.min_eq_left c, Nat.max_eq_right c]; exact hc
  · rw [Nat.min_eq_right (by omega), Nat.max_eq_left (by omega)]; exact hc.sym
theorem RenT.vinj {t o : List (List Int)} {T : List Int} (h : RenT t o T) {q : Bool} {x y : Spot} (hx : V q t x) (hy : V q t y) (e : rnS T x = rnS T y) : x = y := by
  obtain ⟨⟨h1, h2⟩, ⟨h3, h4, h5⟩, _⟩ := hx
  obtain ⟨⟨k1, k2⟩, ⟨k3, k4, k5⟩, _⟩ := hy
  unfold rnS at e
  injection e with e1 e2 e3
  have s1 := h.nms.tinj (i := x.State.toNat) (j := y.State.toNat) (by omega) (by omega) (by omega)
  by_cases c : tn T x.A.toNat = tn T y.A.toNat
  · have a1 := h.nms.tinj (i := x.A.toNat) (j := y.A.toNat) (by omega) (by omega) c
    have b1 := h.nms.tinj (i := x.B.toNat) (j := y.B.toNat) (by omega) (by omega) (by omega)
    exact spot_eq (by omega) (by omega) (by omega)
  · have a1 := h.nms.tinj (i := x.A.toNat) (j := y.B.toNat) (by omega) (by omega) (by omega)
    have b1 := h.nms.tinj (i := x.B.toNat) (j := y.A.toNat) (by omega) (by omega) (by omega)
    omega
theorem RenT.vsur {t o : List (List Int)} {T : List Int} (h : RenT t o T) {q : Bool} {y : Spot} (hy : V q o y) : ∃ x, V q t x ∧ rnS T x = y := by
  obtain ⟨⟨h1, h2⟩, ⟨h3, h4, h5⟩, h6⟩ := hy
  have hl := h.len
  obtain ⟨s, s1, s2⟩ := h.nms.sur (show y.State.toNat < t.length by omega)
  obtain ⟨a, a1, a2⟩ := h.nms.sur (show y.A.toNat < t.length by omega)
  obtain ⟨b, b1, b2⟩ := h.nms.sur (show y.B.toNat < t.length by omega)
  rw [← s2, ← a2, ← b2] at h6
  have hc := (h.cnd s1 a1 b1).1 h6
  have hne : a ≠ b := fun e => by subst e; omega
  by_cases c : a < b
  · refine ⟨⟨s, a, b⟩, (v_mk s1 b1 c).2 hc, ?_⟩
    unfold rnS
    simp only [Int.toNat_natCast]
    exact (spot_eq (by omega) (by omega) (by omega)).symm
  · refine ⟨⟨s, b, a⟩, (v_mk s1 a1 (by omega)).2 hc.sym, ?_⟩
    unfold rnS
    simp only [Int.toNat_natCast]
    exact (spot_eq (by omega) (by omega) (by omega)).symm
theorem nodup_map {α β : Type} {f : α → β} {l : List α} (h : ∀ x y, x ∈ l → y ∈ l → f x = f y → x = y) (hn : l.Nodup) : (l.map f).Nodup := by
  induction l with
  | nil => simp
  | cons a l ih =>
    simp only [List.map_cons, List.nodup_cons] at *
    refine ⟨fun hm => ?_, ih (fun x y hx hy => h x y (by simp [hx]) (by simp [hy])) hn.2⟩
    obtain ⟨y, hy, e⟩ := List.mem_map.1 hm
    have := h y a (by simp [hy]) (by simp) e
    subst this
    exact hn.1 hy
theorem RenT.count {t o : List (List Int)} {T : List Int} (h : RenT t o T) {q : Bool} {l m : List Spot} (hl : SpotsOf q t l) (hm : SpotsOf q o m) : l.length = m.length := by
  have hp : (l.map (rnS T)).Perm m := (List.perm_ext_iff_of_nodup (nodup_map (fun x y hx hy e => h.vinj ((hl.2 x).1 hx) ((hl.2 y).1 hy) e) (ltS_nodup hl.1)) (ltS_nodup hm.1)).2 fun y => by
    rw [hm.2 y, List.mem_map]
    constructor
    · rintro ⟨x, hx, rfl⟩; exact h.v ((hl.2 x).1 hx)
    · intro hy
      obtain ⟨x, hx, e⟩ := h.vsur hy
      exact ⟨x, (hl.2 x).2 hx, e⟩
  have := hp.length_eq
  simpa using this
theorem right_ok {t : List (List Int)} {l : List Int} (h : Lat t) (hd : Dig t l) (hl : l.length ≤ 12) : rightT t l = if l.length < 2 then 1 else if dl t 0 l = 0 then 0 else 13 := by
  have e : codT t l = if l.length < 2 then 1 else 0 := by
    unfold codT
    rw [if_neg (fun hn => hn (chkT_good.2 h)), digT_ok.2 ⟨h, hl, hd⟩]
  unfold rightT
  rw [e]
  by_cases c : l.length < 2
  · simp [c]
  · simp [c]
theorem getD_setI {l : List Int} {i j : Nat} {x : Int} (h : i < l.length) : (l.set i x).getD j 0 = if i = j then x else l.getD j 0 := by
  simp only [List.getD_eq_getElem?_getD, List.getElem?_set]
  by_cases e : i = j
  · subst e; simp [h]
  · simp [e]
theorem row_set {t : List (List Int)} {i j : Nat} {r : List Int} (h : i < t.length) : row (t.set i r) j = if i = j then r else row t j := by
  simp only [row, List.getD_eq_getElem?_getD, List.getElem?_set]
  by_cases e : i = j
  · subst e; simp [h]
  · simp [e]
theorem f13_up {n : Nat} {a2 : List Int} {x1 : List (List Int)} (hx : x1.length = n) (hn : n ≤ 10) {l : List Int} (hl : l.Perm (rng (n - 1))) {k4 : List Int → Option Bool} {r : Option Bool} (hk : ∀ T, Nms n T → k4 T = r) : ∀ (fu i : Nat) (v : List Int), n - i < fu → 1 ≤ i → i ≤ n → v.length = n → v.getD 0 0 = 0 →
    (∀ j, 1 ≤ j → j < i → v.getD j 0 = l.getD (j - 1) 0 + 1) → (∀ j, i ≤ j → j < n → v.getD j 0 = l.getD (j - 1) 0) → f13_5 a2 x1 k4 fu v (i : Int) = r := by
  intro fu
  induction fu with
  | zero => intro i v h; omega
  | succ fu ih =>
    intro i v hf h1 h2 hv h0 hlo hhi
    unfold f13_5 f13_5b
    by_cases e : i = n
    · subst e
      rw [show decide ((i : Int) < (x1.length : Int)) = false by simp; omega]
      refine hk v ⟨hv, fun j hj => ?_, fun j k hj hk e => ?_, h0⟩
      · by_cases c : j = 0
        · subst c; rw [h0]; omega
        · rw [hlo j (by omega) hj]
          have := perm_at hl (show j - 1 < i - 1 by omega)
          omega
      · have pos : ∀ j, 1 ≤ j → j < i → 1 ≤ v.getD j 0 := fun j q1 q2 => by
          rw [hlo j q1 q2]
          have := perm_at hl (show j - 1 < i - 1 by omega)
          omega
        by_cases c : j = 0
        · by_cases c2 : k = 0
          · omega
          · have := pos k (by omega) hk
            rw [c, h0] at e; omega
        · by_cases c2 : k = 0
          · have := pos j (by omega) hj
            rw [c2, h0] at e; omega
          · rw [hlo j (by omega) hj, hlo k (by omega) hk] at e
            have := perm_inj hl (i := j - 1) (j := k - 1) (by omega) (by omega) (by omega)
            omega
    · have hb := perm_at hl (show i - 1 < n - 1 by omega)
      have hi := hhi i (Nat.le_refl _) (by omega)
      have hix : ix v (i : Int) = some (v.getD i 0) := ix_getD (by omega)
      rw [show decide ((i : Int) < (x1.length : Int)) = true by simp; omega, hix]
      simp only [cond_true, Option.bind_some]
      rw [hi, Wi (n := l.getD (i - 1) 0 + 1) (by omega) (by omega), W_nat (by omega)]
      have hs : setx v (i : Int) (l.getD (i - 1) 0 + 1) = some (v.set i (l.getD (i - 1) 0 + 1)) := by
        unfold setx; rw [if_pos ⟨by omega, by omega⟩]; simp
      rw [hs]
      simp only [Option.bind_some]
      refine ih (i + 1) _ (by omega) (by omega) (by omega) (by simp [hv]) ?_ ?_ ?_
      · rw [getD_setI (by omega), if_neg (by omega)]; exact h0
      · intro j q1 q2
        rw [getD_setI (by omega)]
        by_cases c : i = j
        · subst c; rw [if_pos rfl]
        · rw [if_neg c]; exact hlo j q1 (by omega)
      · intro j q1 q2
        rw [getD_setI (by omega), if_neg (by omega)]
        exact hhi j (by omega) q2
theorem mkS_rows {n : Nat} (hn : n ≤ 100) : mkS 24 ([] : List Int) (n : Int) (n : Int) = some (List.replicate n []) := by
  unfold mkS
  rw [if_pos ⟨by omega, by omega, by omega⟩]; simp
theorem f13_zero {n : Nat} {a2 : List Int} {x1 x4 : List (List Int)} {T : List Int} (hx : x1.length = n) (hx4 : x4.length = n) (hn : n ≤ 10) {k3 : List (List Int) → Option Bool} {r : Option Bool} (hk : ∀ o : List (List Int), o.length = n → (∀ i, i < n → (row o i).length = n) → k3 o = r) :
    ∀ (fu i : Nat) (o : List (List Int)), n - i < fu → i ≤ n → o.length = n → (∀ j, j < i → (row o j).length = n) → f13_10 a2 x1 T x4 k3 fu (i : Int) o = r := by
  intro fu
  induction fu with
  | zero => intro i v h; omega
  | succ fu ih =>
    intro i o hf hi ho hr
    unfold f13_10 f13_10b
    rw [hx4, hx]
    by_cases e : i = n
    · subst e
      rw [show decide ((i : Int) < (i : Int)) = false by simp]
      exact hk o ho hr
    · rw [show decide ((i : Int) < (n : Int)) = true by simp; omega, mkS_nat (by omega)]
      simp only [cond_true, Option.bind_some]
      rw [ix_row (by omega)]
      have hs : setx o (i : Int) (List.replicate n (0 : Int)) = some (o.set i (List.replicate n 0)) := by
        unfold setx; rw [if_pos ⟨by omega, by omega⟩]; simp
      rw [hs, W_nat (by omega)]
      simp only [Option.bind_some]
      refine ih (i + 1) _ (by omega) (by omega) (by simp [ho]) fun j hj => ?_
      rw [row_set (by omega)]
      by_cases c : i = j
      · rw [if_pos c]; simp
      · rw [if_neg c]; exact hr j (by omega)
structure Part13 (t o : List (List Int)) (T : List Int) (s d : Nat) : Prop where
  len : o.length = t.length
  rows : ∀ i, i < t.length → (row o i).length = t.length
  eq : ∀ i j, i < t.length → j < t.length → (i < s ∨ (i = s ∧ j < d)) → en o (tn T i) (tn T j) = (tn T (eN t i j) : Int)
theorem en_set {o : List (List Int)} {i j a b : Nat} {x : Int} (hi : i < o.length) (hj : j < (row o i).length) : en (o.set i ((row o i).set j x)) a b = if i = a ∧ j = b then x else en o a b := by
  unfold en
  rw [row_set hi]
  by_cases c : i = a
  · subst c
    rw [if_pos rfl, getD_setI hj]
    by_cases c2 : j = b
    · rw [if_pos c2, if_pos ⟨rfl, c2⟩]
    · rw [if_neg c2, if_neg (fun h => c2 h.2)]
  · rw [if_neg c, if_neg (fun h => c h.1)]
theorem f13_in {a2 : List Int} {t : List (List Int)} {T : List Int} (h : Lat t) (hT : Nms t.length T) {s : Nat} (hs : s < t.length) {k2 : List (List Int) → Option Bool} {r : Option Bool} (hk : ∀ o, Part13 t o T (s + 1) 0 → k2 o = r) :
    ∀ (fu d : Nat) (o : List (List Int)), t.length - d < fu → d ≤ t.length → Part13 t o T s d → f13_18 a2 t T (s : Int) k2 fu (d : Int) o = r := by
  have h10 := h.hi
  intro fu
  induction fu with
  | zero => intro d o hf; omega
  | succ fu ih =>
    intro d o hf hd hP
    unfold f13_18 f13_18b
    by_cases e : d = t.length
    · subst e
      rw [show decide ((t.length : Int) < (t.length : Int)) = false by simp]
      exact hk o ⟨hP.len, hP.rows, fun i j hi hj hb => hP.eq i j hi hj (by omega)⟩
    · have hd' : d < t.length := by omega
      have ho := hP.len
      have hTs := hT.lt hs
      have hTd := hT.lt hd'
      have hr := hP.rows _ hTs
      rw [show decide ((d : Int) < (t.length : Int)) = true by simp; omega]
      simp only [cond_true, hT.ix hs, hT.ix hd', Option.bind_some, ix_row (show tn T s < o.length by omega), ix_row hs, ix_eN h hs hd', hT.ix (eN_lt h hs hd'), ix_en (show tn T d < (row o (tn T s)).length by omega)]
      have s1 : setx (row o (tn T s)) ((tn T d : Nat) : Int) (tn T (eN t s d) : Int) = some ((row o (tn T s)).set (tn T d) (tn T (eN t s d) : Int)) := by
        unfold setx; rw [if_pos ⟨by omega, by omega⟩]; simp
      rw [s1]
      simp only [Option.bind_some]
      have s2 : ∀ rr : List Int, setx o ((tn T s : Nat) : Int) rr = some (o.set (tn T s) rr) := fun rr => by
        unfold setx; rw [if_pos ⟨by omega, by omega⟩]; simp
      rw [s2, W_nat (by omega)]
      simp only [Option.bind_some]
      refine ih (d + 1) _ (by omega) (by omega) ⟨by simp [ho], fun i hi => ?_, fun i j hi hj hb => ?_⟩
      · rw [row_set (by omega)]
        by_cases c : tn T s = i
        · rw [if_pos c]; simp [hr]
        · rw [if_neg c]; exact hP.rows i hi
      · rw [en_set (by omega) (by omega)]
        by_cases c : tn T s = tn T i ∧ tn T d = tn T j
        · have c1 := hT.tinj hs hi c.1
          have c2 := hT.tinj hd' hj c.2
          subst c1; subst c2
          rw [if_pos c]
        · rw [if_neg c]
          refine hP.eq i j hi hj ?_
          by_cases c1 : i = s
          · subst c1
            by_cases c2 : j = d
            · subst c2; exact absurd ⟨rfl, rfl⟩ c
            · omega
          · omega
theorem f13_fill {N : Nat} {a2 : List Int} {t : List (List Int)} {T : List Int} (h : Lat t) (hN : 100 ≤ N) (hT : Nms t.length T) {k1 : List (List Int) → Option Bool} {r : Option Bool} (hk : ∀ o, RenT t o T → k1 o = r) :
    ∀ (fu s : Nat) (o : List (List Int)), t.length - s < fu → s ≤ t.length → Part13 t o T s 0 → f13_15 a2 N t T k1 fu (s : Int) o = r := by
  have h10 := h.hi
  intro fu
  induction fu with
  | zero => intro d o hf; omega
  | succ fu ih =>
    intro s o hf hs hP
    unfold f13_15 f13_15b
    by_cases e : s = t.length
    · subst e
      rw [show decide ((t.length : Int) < (t.length : Int)) = false by simp]
      exact hk o ⟨h, hT, hP.len, hP.rows, fun i j hi hj => hP.eq i j hi hj (.inl hi)⟩
    · rw [show decide ((s : Int) < (t.length : Int)) = true by simp; omega]
      simp only [cond_true, joinK]
      refine f13_in h hT (s := s) (by omega) (fun o' ho' => ?_) N 0 o (by omega) (by omega) hP
      unfold f13_c22
      rw [W_nat (by omega)]
      exact ih (s + 1) o' (by omega) (by omega) ho'
theorem f13_digits {t o : List (List Int)} {T : List Int} (h : RenT t o T) {a : List Int} (ha : ∀ x, x ∈ a → 0 ≤ x) {k0 : List Int → List Int → Option Bool} {r : Option Bool} (hk : ∀ l, Dig t l → l.length ≤ 9 → k0 l (nmL T l) = r) :
    ∀ (fu i : Nat) (l : List Int), 10 - i < fu → i ≤ 9 → i ≤ a.length → l.length = i → Dig t l → f13_25 a t T o k0 fu l (nmL T l) (i : Int) = r := by
  have h2 := h.lat.two
  have h10 := h.lat.hi
  intro fu
  induction fu with
  | zero => intro d o hf; omega
  | succ fu ih =>
    intro i l hf hi hia hl hd
    unfold f13_25 f13_25b
    by_cases e : i < a.length
    · by_cases e2 : i < 9
      · obtain ⟨x, hx⟩ : ∃ x : Nat, a[i] = (x : Int) := ⟨a[i].toNat, by have := ha _ (List.getElem_mem e); omega⟩
        have hm := Nat.mod_lt x (show 0 < t.length by omega)
        simp only [show (i : Int) < (a.length : Int) by omega, show (i : Int) < 9 by omega, decide_true, cond_true, ix_get e, Option.bind_some, chk_pos (show 0 < t.length by omega)]
        rw [hx, tmod_nat, app_ok (by simp; omega) (by simp; omega)]
        have hg : ix (l ++ [((x % t.length : Nat) : Int)]) (i : Int) = some ((x % t.length : Nat) : Int) := by rw [ix_nat]; simp [← hl]
        have hn : (nmL T l).length = i := by simp [nmL, hl]
        simp only [Option.bind_some, hg, h.nms.ix hm]
        rw [app_ok (by simp; omega) (by simp; omega), W_nat (by omega)]
        simp only [Option.bind_some]
        have en : nmL T l ++ [((tn T (x % t.length) : Nat) : Int)] = nmL T (l ++ [((x % t.length : Nat) : Int)]) := by simp only [nmL, List.map_append, List.map_cons, List.map_nil, Int.toNat_natCast]
        rw [en]
        refine ih (i + 1) _ (by omega) (by omega) e (by simp [hl]) (Dig.append.2 ⟨hd, fun y hy => ?_⟩)
        have := List.mem_singleton.1 hy
        omega
      · simp only [show (i : Int) < (a.length : Int) by omega, show ¬ (i : Int) < 9 by omega, decide_true, decide_false, cond_true, cond_false]
        exact hk l hd (by omega)
    · simp only [show ¬ (i : Int) < (a.length : Int) by omega, decide_false, cond_false]
      exact hk l hd (by omega)
theorem RenT.small {t o : List (List Int)} {T : List Int} (h : RenT t o T) : Small o := by
  have h10 := h.lat.hi
  have hl := h.len
  refine ⟨by omega, fun r hr => ?_⟩
  obtain ⟨i, hi⟩ := List.mem_iff_getElem?.1 hr
  have h3 := (List.getElem?_eq_some_iff.1 hi).1
  rw [row_get h3] at hi
  rw [← Option.some.inj hi, h.rows i (by omega)]; omega
theorem f13_end {N : Nat} {t o : List (List Int)} {T : List Int} (h : RenT t o T) (hS : Small t) {l : List Int} (hd : Dig t l) (hl : l.length ≤ 9) (hN : 2000 ≤ N) : f13_c29 N t T o l (nmL T l) = some true := by
  have hL := h.lat
  have hL' := h.lat'
  have hS' := h.small
  have hd' := h.dig hd
  have hn : (nmL T l).length = l.length := by simp [nmL]
  have h2 := hL.two
  have h15 : f15 N = some true := by
    obtain ⟨m, rfl⟩ : ∃ m, N = m + 60 := ⟨N - 60, by omega⟩
    exact f15_any m
  obtain ⟨b, b1, _, b3⟩ := blind_of (N := N) hL hS (by omega)
  obtain ⟨b', c1, _, c3⟩ := blind_of (N := N) hL' hS' (by omega)
  obtain ⟨w, t1, _, t3⟩ := twins_of (N := N) hL hS (by omega)
  obtain ⟨w', u1, _, u3⟩ := twins_of (N := N) hL' hS' (by omega)
  have e1 := h.count b1 c1
  have e2 := h.count t1 u1
  have hlt := dl_lt hL.toSq (s := 0) (by omega) hd
  have hdl := h.dl (s := 0) (by omega) hd
  rw [h.nms.z] at hdl
  unfold f13_c29
  rw [b3, c3, t3, u3, f21_eq hS (by omega) (by omega), f21_eq hS' (by omega) (by omega), digT_ok.2 ⟨hL, by omega, hd⟩, digT_ok.2 ⟨hL', by omega, hd'⟩, f27_eq hS (by omega) (by omega), f27_eq hS' (by omega) (by omega),
    right_ok hL hd (by omega), right_ok hL' hd' (by omega), hn, hdl]
  simp only [if_true, Option.bind_some, not_true, decide_false, cond_false, decide_true, cond_true, e1, e2]
  rw [show decide (((dl t 0 l : Nat) : Int) < 0) = false by simp, show decide ((t.length : Int) ≤ ((dl t 0 l : Nat) : Int)) = false by simp; omega]
  simp only [cond_false, h.nms.ix hlt, Option.bind_some, decide_true, cond_true]
  have ez : (tn T (dl t 0 l) = 0) ↔ (dl t 0 l = 0) := ⟨fun e => h.nms.tinj hlt (by omega) (by rw [e, h.nms.z]), fun e => by rw [e, h.nms.z]⟩
  simp [h15, ez]
theorem f13_true {N : Nat} {p : Plate} {a1 : A5u8N} {a : List Int} (hp : PlateB p) (h5 : B5 a1) (ha : ∀ x, x ∈ a → 0 ≤ x) : f13 (N + 2000) p a1 a = some true := by
  unfold f13
  obtain ⟨n, r, c, m, h1, h2⟩ := f39_eq (N := N + 2000) hp (by omega)
  rw [h2]
  have hL := tab_lat h1
  have hS := tab_small h1
  have hn0 := h1.hn
  have hlen : (tabR n r c m n).length = n := tabR_len
  generalize tabR n r c m n = t at hL hS hlen
  subst hlen
  obtain ⟨l, g1, g2⟩ := f54_eq (N := N + 2000) h5 (n := t.length - 1) (by omega) (by omega)
  have hw : W ((t.length : Int) - 1) = ((t.length - 1 : Nat) : Int) := W_dec (by omega) (by omega)
  have hl := perm_len g1
  simp only [Option.bind_some, hw, g2]
  rw [app_ok (by simp; omega) (by simp; omega)]
  simp only [Option.bind_some, joinK]
  have h10 := hL.hi
  refine f13_up (n := t.length) rfl (by omega) g1 (fun T hT => ?_) (N + 2000) 1 ([0] ++ l) (by omega) (by omega) (by omega) (by simp; omega) rfl (fun j q1 q2 => by omega) (fun j q1 q2 => by
    obtain ⟨k, rfl⟩ : ∃ k, j = k + 1 := ⟨j - 1, by omega⟩
    simp)
  unfold f13_c8
  rw [mkS_rows (by omega)]
  simp only [Option.bind_some, joinK]
  refine f13_zero (n := t.length) rfl (by simp) (by omega) (fun o ho hr => ?_) (N + 2000) 0 _ (by omega) (by omega) (by simp) (fun j hj => by omega)
  unfold f13_c14
  simp only [joinK]
  refine f13_fill hL (by omega) hT (fun o' ho' => ?_) (N + 2000) 0 o (by omega) (by omega) ⟨ho, hr, fun i j hi hj hb => by omega⟩
  unfold f13_c23
  simp only [joinK]
  exact f13_digits ho' ha (fun l hd hl => f13_end ho' hS hd hl (by omega)) (N + 2000) 0 [] (by omega) (by omega) (by omega) rfl (fun x hx => by simp at hx)
end Go.Vc
namespace Go.Vc
set_option linter.unusedVariables false
set_option linter.unnecessarySimpa false
set_option linter.unusedSimpArgs false
abbrev tB : Ty := .int .u8
abbrev tBytes : Ty := .slice tB false 1
def u8In (n : Int) : Prop := 0 ≤ n ∧ n ≤ 255
theorem tB_of {ds : List D} (h : tB.has ds) : ∃ n, ds = [u8N n] ∧ u8In n := by
  simp only [tB, Ty.has] at h
  obtain ⟨n, rfl, h⟩ := h
  exact ⟨n, rfl, by simpa [IntKind.min, IntKind.max, IntKind.signed, IntKind.bits, u8In] using h⟩
theorem bytes_of {ds : List D} (h : tBytes.has ds) : ∃ l : List Int, ds = [sl_u8N l] ∧ ∀ x, x ∈ l → u8In x := by
  obtain ⟨l, h1, _, h3⟩ := slice_of (d := u8N) (p := u8In) (fun cs hc => by
    obtain ⟨n, rfl, h⟩ := tB_of hc
    exact ⟨n, rfl, h⟩) h
  exact ⟨l, h1, h3⟩
theorem bytes_ofD {x : D} (h : tBytes.hasD x) : ∃ l : List Int, x = sl_u8N l ∧ ∀ x, x ∈ l → u8In x := by
  obtain ⟨n, h1, h2⟩ := bytes_of (ds := [x]) h
  exact ⟨n, List.singleton_inj.1 h1, h2⟩
end Go.Vc
namespace Go.Vc
set_option linter.unusedVariables false
set_option linter.unnecessarySimpa false
set_option linter.unusedSimpArgs false
set_option linter.unusedSimpArgs false
abbrev tB5 : Ty := .comp [tB, tB, tB, tB, tB]
abbrev tPlate : Ty := .comp [tB, tB, tB5, tB5, tB5]
theorem tB_of' {ds : List D} (h : (Ty.int .u8).has ds) : ∃ n, ds = [u8N n] ∧ u8In n := tB_of h
theorem B5.of {ds : List D} (h : Ty.hasL [tB, tB, tB, tB, tB] ds) : ∃ x : A5u8N, ds = [u8N x.e0, u8N x.e1, u8N x.e2, u8N x.e3, u8N x.e4] ∧ B5 x := by
  simp only [Ty.hasL] at h
  obtain ⟨a, b, rfl, h1, c, d, rfl, h2, e, f, rfl, h3, g, k, rfl, h4, l, m, rfl, h5, rfl⟩ := h
  obtain ⟨x0, rfl, p0⟩ := tB_of' h1
  obtain ⟨x1, rfl, p1⟩ := tB_of' h2
  obtain ⟨x2, rfl, p2⟩ := tB_of' h3
  obtain ⟨x3, rfl, p3⟩ := tB_of' h4
  obtain ⟨x4, rfl, p4⟩ := tB_of' h5
  exact ⟨⟨x0, x1, x2, x3, x4⟩, rfl, p0, p1, p2, p3, p4⟩
theorem B5.of' {ds : List D} (h : tB5.has ds) : ∃ x : A5u8N, ds = [u8N x.e0, u8N x.e1, u8N x.e2, u8N x.e3, u8N x.e4] ∧ B5 x := by
  simp only [tB5, Ty.has] at h
  exact B5.of h
theorem B5.ofD {x : D} (h : tB5.hasD x) : ∃ a : A5u8N, x = A5u8N.d a ∧ B5 a := by
  obtain ⟨cs, rfl, h⟩ := h
  obtain ⟨a, e, h2⟩ := B5.of h
  subst e
  exact ⟨a, rfl, h2⟩
theorem Plate.ofD {x : D} (h : tPlate.hasD x) : ∃ a : Plate, x = Plate.d a ∧ PlateB a := by
  obtain ⟨cs, rfl, h⟩ := h
  rw [Ty.hasL] at h
  obtain ⟨a, b, rfl, h1, h⟩ := h
  rw [Ty.hasL] at h
  obtain ⟨c, d, rfl, h2, h⟩ := h
  rw [Ty.hasL] at h
  obtain ⟨e, f, rfl, h3, h⟩ := h
  rw [Ty.hasL] at h
  obtain ⟨g, k, rfl, h4, h⟩ := h
  rw [Ty.hasL] at h
  obtain ⟨l, m, rfl, h5, h⟩ := h
  simp only [Ty.hasL] at h
  subst h
  obtain ⟨x0, rfl, p0⟩ := tB_of' h1
  obtain ⟨x1, rfl, p1⟩ := tB_of' h2
  obtain ⟨x2, rfl, p2⟩ := B5.of' h3
  obtain ⟨x3, rfl, p3⟩ := B5.of' h4
  obtain ⟨x4, rfl, p4⟩ := B5.of' h5
  exact ⟨⟨x0, x1, x2, x3, x4⟩, rfl, p0, p2, p3, p4⟩
end Go.Vc
