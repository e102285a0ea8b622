/-
  A library for proofs about Go functions by symbolic evaluation, and plain Lean functions that the walked Go functions compute (written by a program of this claim).
-/
import Derived.Test.YtikifojhjbcfhaaW1
import Derived.Test.YtikifojhjbcfhaaLinesF1
import Derived.Test.YtikifojhjbcfhaaW4
import Derived.Test.YtikifojhjbcfhaaW2
import Derived.Test.YtikifojhjbcfhaaVc3
namespace Go.Vc
open Go.Proofs
set_option linter.unusedVariables false
set_option linter.unnecessarySimpa false
set_option linter.unusedSimpArgs false
end Go.Vc
namespace Go.Vc
open Go.Proofs
set_option linter.unusedVariables false
set_option linter.unnecessarySimpa false
set_option linter.unusedSimpArgs false
end Go.Vc
namespace Go.Vc
open Go.Proofs
set_option linter.unusedVariables false
set_option linter.unnecessarySimpa false
set_option linter.unusedSimpArgs false
end Go.Vc
namespace Go.Vc
set_option linter.unusedVariables false
set_option linter.unnecessarySimpa false
set_option linter.unusedSimpArgs false
set_option linter.unusedSimpArgs false
def Cnd (q : Bool) (t : List (List Int)) (s a b : Nat) : Prop :=
  dl t s (bif q then [(a : Int), (a : Int)] else [(a : Int), (b : Int)]) = dl t s (bif q then [(b : Int), (b : Int)] else [(b : Int), (a : Int)])
instance (q : Bool) (t : List (List Int)) (s a b : Nat) : Decidable (Cnd q t s a b) := by unfold Cnd; infer_instance
def V (q : Bool) (t : List (List Int)) (x : Spot) : Prop := (0 ≤ x.State ∧ x.State < t.length) ∧ (0 ≤ x.A ∧ x.A < x.B ∧ x.B < t.length) ∧ Cnd q t x.State.toNat x.A.toNat x.B.toNat
def SpotsOf (q : Bool) (t : List (List Int)) (l : List Spot) : Prop := l.Pairwise ltS ∧ ∀ x, x ∈ l ↔ V q t x
theorem ltS_nodup {l : List Spot} (h : l.Pairwise ltS) : l.Nodup := h.imp fun h e => by subst e; exact ltS_irrefl h
def ltO (x y : Spot) : Prop := x.State < y.State ∨ (x.State = y.State ∧ (x.B < y.B ∨ (x.B = y.B ∧ x.A < y.A)))
def Bld (R : Spot → Spot → Prop) (q : Bool) (t : List (List Int)) (s a b : Nat) (l : List Spot) : Prop := l.Pairwise R ∧ ∀ x, x ∈ l ↔ V q t x ∧ R x ⟨s, a, b⟩
theorem spot_eq {x : Spot} {s a b : Int} (h1 : x.State = s) (h2 : x.A = a) (h3 : x.B = b) : x = ⟨s, a, b⟩ := by cases x; simp_all
theorem bld_add {q : Bool} {t : List (List Int)} {s a b : Nat} {l : List Spot} (h : Bld ltO q t s a b l) (hv : V q t ⟨s, a, b⟩) : Bld ltO q t s (a + 1) b (l ++ [⟨s, a, b⟩]) := by
  refine ⟨List.pairwise_append.2 ⟨h.1, by simp, fun x hx y hy => ?_⟩, fun x => ?_⟩
  · rw [List.mem_singleton.1 hy]; exact ((h.2 x).1 hx).2
  · rw [List.mem_append, h.2 x, List.mem_singleton]
    constructor
    · rintro (⟨h1, h2⟩ | rfl)
      · exact ⟨h1, by unfold ltO at *; simp only at *; omega⟩
      · exact ⟨hv, .inr ⟨rfl, .inr ⟨rfl, by show (a : Int) < ((a + 1 : Nat) : Int); omega⟩⟩⟩
    · rintro ⟨h1, h2⟩
      by_cases e : ltO x ⟨s, a, b⟩
      · exact .inl ⟨h1, e⟩
      · refine .inr (spot_eq ?_ ?_ ?_) <;> (unfold ltO at *; simp only at *; omega)
theorem bld_skip {q : Bool} {t : List (List Int)} {s a b : Nat} {l : List Spot} (h : Bld ltO q t s a b l) (hv : ¬ V q t ⟨s, a, b⟩) : Bld ltO q t s (a + 1) b l := by
  refine ⟨h.1, fun x => ?_⟩
  rw [h.2 x]
  constructor
  · rintro ⟨h1, h2⟩
    exact ⟨h1, by unfold ltO at *; simp only at *; omega⟩
  · rintro ⟨h1, h2⟩
    by_cases e : ltO x ⟨s, a, b⟩
    · exact ⟨h1, e⟩
    · have : x = ⟨s, a, b⟩ := by refine spot_eq ?_ ?_ ?_ <;> (unfold ltO at *; simp only at *; omega)
      rw [this] at h1; exact absurd h1 hv
theorem bld_row {q : Bool} {t : List (List Int)} {s b : Nat} {l : List Spot} (h : Bld ltO q t s b b l) : Bld ltO q t s 0 (b + 1) l := by
  refine ⟨h.1, fun x => ?_⟩
  rw [h.2 x]
  refine and_congr_right fun hv => ?_
  obtain ⟨⟨h1, h2⟩, ⟨h3, h4, h5⟩, _⟩ := hv
  unfold ltO; simp only; omega
theorem bld_state {q : Bool} {t : List (List Int)} {s : Nat} {l : List Spot} (h : Bld ltO q t s 0 t.length l) : Bld ltO q t (s + 1) 0 0 l := by
  refine ⟨h.1, fun x => ?_⟩
  rw [h.2 x]
  refine and_congr_right fun hv => ?_
  obtain ⟨⟨h1, h2⟩, ⟨h3, h4, h5⟩, _⟩ := hv
  unfold ltO; simp only; omega
theorem bld_nil {q : Bool} {t : List (List Int)} : Bld ltO q t 0 0 0 [] := by
  refine ⟨by simp, fun x => ?_⟩
  simp only [List.not_mem_nil, false_iff]
  rintro ⟨⟨⟨h1, h2⟩, ⟨h3, h4, h5⟩, _⟩, h6⟩
  unfold ltO at h6; simp only at h6; omega
theorem bld_all {q : Bool} {t : List (List Int)} {l : List Spot} (h : Bld ltO q t t.length 0 0 l) : l.Nodup ∧ ∀ x, x ∈ l ↔ V q t x := by
  refine ⟨h.1.imp fun h e => by subst e; unfold ltO at h; omega, fun x => ?_⟩
  rw [h.2 x]
  refine ⟨fun hx => hx.1, fun hv => ⟨hv, ?_⟩⟩
  obtain ⟨⟨h1, h2⟩, ⟨h3, h4, h5⟩, _⟩ := hv
  unfold ltO; simp only; omega
theorem v_mk {q : Bool} {t : List (List Int)} {s a b : Nat} (hs : s < t.length) (hb : b < t.length) (hab : a < b) : V q t ⟨s, a, b⟩ ↔ Cnd q t s a b := by
  unfold V
  constructor
  · intro h; exact h.2.2
  · intro h; exact ⟨by simp only; omega, by simp only; omega, h⟩
def tri : Nat → Nat
  | 0 => 0
  | b + 1 => tri b + b
theorem tri_le {n : Nat} (h : n ≤ 10) : tri n ≤ 45 := by
  have : ∀ n : Fin 11, tri n.val ≤ 45 := by decide
  exact this ⟨n, by omega⟩
theorem dig2 {t : List (List Int)} {a b : Nat} (ha : a < t.length) (hb : b < t.length) : Dig t [(a : Int), (b : Int)] := by
  intro x hx
  simp at hx
  rcases hx with rfl | rfl <;> omega
theorem sort_of {q : Bool} {t : List (List Int)} {l l' : List Spot} (h : Bld ltO q t t.length 0 0 l) (hp : l'.Perm l) (hs : Srt 0 l.length l') : SpotsOf q t l' := by
  obtain ⟨h1, h2⟩ := bld_all h
  refine ⟨List.pairwise_iff_getElem.2 fun i j hi hj hij => ?_, fun x => by rw [hp.mem_iff]; exact h2 x⟩
  have hl := hp.length_eq
  have hn : l'.Nodup := hp.nodup_iff.2 h1
  have h3 := hs i j (by omega) hij (by omega)
  have e1 : at' l' i = l'[i] := by simp [at', hi]
  have e2 : at' l' j = l'[j] := by simp [at', hj]
  rw [e1, e2] at h3
  by_cases e : ltS l'[i] l'[j]
  · exact e
  · have := leS_antisymm h3 e
    exact absurd this (List.pairwise_iff_getElem.1 hn i j hi hj hij)
theorem f43_in {N : Nat} {t : List (List Int)} (h : Lat t) (hN : 100 ≤ N) {s b : Nat} (hs : s < t.length) (hb : b < t.length) {k2 : List Spot → Option (List Spot × Int)} {L : Nat} (hL : L ≤ 2000) : ∀ (fu a : Nat) (l : List Spot), b - a < fu → a ≤ b → Bld ltO false t s a b l → l.length ≤ L + a →
    ∃ l', Bld ltO false t s b b l' ∧ l'.length ≤ L + b ∧ f43_i101_12 t N (s : Int) (b : Int) k2 fu l (a : Int) = k2 l' := by
  have h10 := h.hi
  intro fu
  induction fu with
  | zero => intro a l hf; omega
  | succ fu ih =>
    intro a l hf hab hB hl
    unfold f43_i101_12 f43_i101_12b
    by_cases e : a = b
    · subst e
      refine ⟨l, hB, hl, ?_⟩
      rw [show decide ((a : Int) < (a : Int)) = false by simp]
      rfl
    · rw [show decide ((a : Int) < (b : Int)) = true by simp; omega]
      have hp : f77 N (a : Int) (b : Int) = some ([(a : Int), (b : Int)], [(b : Int), (a : Int)]) := rfl
      rw [hp]
      simp only [cond_true, Option.bind_some]
      rw [f59_eq h.toSq (dig2 (by omega) (by omega)) hs (by simp) hN, f59_eq h.toSq (dig2 (by omega) (by omega)) hs (by simp) hN]
      simp only [Option.bind_some]
      rw [W_nat (by omega)]
      by_cases c : Cnd false t s a b
      · have c' : ((dl t s [(a : Int), (b : Int)] : Nat) : Int) = ((dl t s [(b : Int), (a : Int)] : Nat) : Int) := congrArg _ c
        rw [c']
        simp only [decide_true, cond_true]
        rw [app_ok (by simp; omega) (by simp; omega)]
        simp only [Option.bind_some]
        obtain ⟨l', h1, h2, h3⟩ := ih (a + 1) (l ++ [⟨s, a, b⟩]) (by omega) (by omega) (bld_add hB ((v_mk hs hb (by omega)).2 c)) (by simp; omega)
        exact ⟨l', h1, h2, h3⟩
      · have c' : ¬ ((dl t s [(a : Int), (b : Int)] : Nat) : Int) = ((dl t s [(b : Int), (a : Int)] : Nat) : Int) := fun e => c (Int.ofNat.inj e)
        simp only [c', decide_false, cond_false]
        obtain ⟨l', h1, h2, h3⟩ := ih (a + 1) l (by omega) (by omega) (bld_skip hB fun hv => c ((v_mk hs hb (by omega)).1 hv)) (by omega)
        exact ⟨l', h1, h2, h3⟩
theorem f43_mid {N : Nat} {t : List (List Int)} (h : Lat t) (hN : 100 ≤ N) {s : Nat} (hs : s < t.length) {k1 : List Spot → Option (List Spot × Int)} : ∀ (fu b : Nat) (l : List Spot), t.length - b < fu → b ≤ t.length → Bld ltO false t s 0 b l → l.length ≤ 45 * s + tri b →
    ∃ l', Bld ltO false t (s + 1) 0 0 l' ∧ l'.length ≤ 45 * (s + 1) ∧ f43_i101_9 t N (s : Int) k1 fu l (b : Int) = k1 l' := by
  have h10 := h.hi
  intro fu
  induction fu with
  | zero => intro b l hf; omega
  | succ fu ih =>
    intro b l hf hb hB hl
    unfold f43_i101_9 f43_i101_9b
    by_cases e : b = t.length
    · subst e
      have := tri_le h10
      refine ⟨l, bld_state hB, by omega, ?_⟩
      rw [show decide ((t.length : Int) < (t.length : Int)) = false by simp]
      rfl
    · rw [show decide ((b : Int) < (t.length : Int)) = true by simp; omega]
      simp only [cond_true, joinK]
      have := tri_le (n := b) (by omega)
      obtain ⟨l1, h1, h2, h3⟩ := f43_in h hN hs (b := b) (by omega) (k2 := f43_i101_c18 t (s : Int) (b : Int) (f43_i101_9 t N (s : Int) k1 fu)) (L := 45 * s + tri b) (by omega) N 0 l (by omega) (by omega) hB (by omega)
      rw [show (0 : Int) = ((0 : Nat) : Int) from rfl, h3]
      unfold f43_i101_c18
      rw [W_nat (by omega)]
      exact ih (b + 1) l1 (by omega) (by omega) (bld_row h1) (by simp only [tri]; omega)
theorem f43_out {N : Nat} {t : List (List Int)} (h : Lat t) (hN : 100 ≤ N) {k0 : List Spot → Option (List Spot × Int)} : ∀ (fu s : Nat) (l : List Spot), t.length - s < fu → s ≤ t.length → Bld ltO false t s 0 0 l → l.length ≤ 45 * s →
    ∃ l', Bld ltO false t t.length 0 0 l' ∧ l'.length ≤ 450 ∧ f43_i101_6 t N k0 fu l (s : Int) = k0 l' := by
  have h10 := h.hi
  intro fu
  induction fu with
  | zero => intro b l hf; omega
  | succ fu ih =>
    intro s l hf hs hB hl
    unfold f43_i101_6 f43_i101_6b
    by_cases e : s = t.length
    · subst e
      refine ⟨l, hB, by omega, ?_⟩
      rw [show decide ((t.length : Int) < (t.length : Int)) = false by simp]
      rfl
    · rw [show decide ((s : Int) < (t.length : Int)) = true by simp; omega]
      simp only [cond_true, joinK]
      obtain ⟨l1, h1, h2, h3⟩ := f43_mid h hN (s := s) (by omega) (k1 := f43_i101_c19 t (s : Int) (f43_i101_6 t N k0 fu)) N 0 l (by omega) (by omega) hB (by simp only [tri]; omega)
      rw [show (0 : Int) = ((0 : Nat) : Int) from rfl, h3]
      unfold f43_i101_c19
      rw [W_nat (by omega)]
      exact ih (s + 1) l1 (by omega) (by omega) h1 (by omega)
theorem f43_eq {N : Nat} {t : List (List Int)} (hs : Small t) (hN : 1200 ≤ N) : (Lat t ∧ ∃ l, SpotsOf false t l ∧ f43 N t = some (l, 0)) ∨ (chkT t ≠ 0 ∧ f43 N t = some ([], chkT t)) := by
  unfold f43
  rw [f49_eq hs (by omega)]
  simp only [Option.bind_some]
  by_cases e : chkT t = 0
  · left
    have h := chkT_good.1 e
    refine ⟨h, ?_⟩
    simp only [e, not_true, decide_false, cond_false, joinK]
    have h10 := h.hi
    obtain ⟨l, h1, h2, h3⟩ := f43_out h (N := N) (by omega) (k0 := f43_i101_c20 N) N 0 [] (by omega) (by omega) bld_nil (by simp)
    rw [show (0 : Int) = ((0 : Nat) : Int) from rfl, h3]
    unfold f43_i101_c20
    have hw : Wk .u64 ((l.length : Nat) : Int) = (l.length : Int) := by
      have := wrap_u64 (q := l.length) (by omega)
      unfold Wk
      cases inB .u64 ((l.length : Nat) : Int) with
      | true => rfl
      | false => exact this
    rw [hw]
    obtain ⟨p, hp, _⟩ := f96_eq (N := N) (m := l.length) (by omega)
    rw [hp]
    simp only [Option.bind_some]
    obtain ⟨l', g1, g2, g3⟩ := f95_eq (N := N) (lim := p) (l := l) (by omega) (by omega)
    rw [g3]
    simp only [Option.bind_some, keep_ok g1.length_eq]
    exact ⟨l', sort_of h1 g1 g2, rfl⟩
  · right
    refine ⟨e, ?_⟩
    simp only [e, not_false_eq_true, decide_true, cond_true]
theorem f45_in {N : Nat} {t : List (List Int)} (h : Lat t) (hN : 100 ≤ N) {s b : Nat} (hs : s < t.length) (hb : b < t.length) {k2 : List Spot → Option (List Spot × Int)} {L : Nat} (hL : L ≤ 2000) : ∀ (fu a : Nat) (l : List Spot), b - a < fu → a ≤ b → Bld ltO true t s a b l → l.length ≤ L + a →
    ∃ l', Bld ltO true t s b b l' ∧ l'.length ≤ L + b ∧ f45_i101_12 t N (s : Int) (b : Int) k2 fu l (a : Int) = k2 l' := by
  have h10 := h.hi
  intro fu
  induction fu with
  | zero => intro a l hf; omega
  | succ fu ih =>
    intro a l hf hab hB hl
    unfold f45_i101_12 f45_i101_12b
    by_cases e : a = b
    · subst e
      refine ⟨l, hB, hl, ?_⟩
      rw [show decide ((a : Int) < (a : Int)) = false by simp]
      rfl
    · rw [show decide ((a : Int) < (b : Int)) = true by simp; omega]
      have hp : f79 N (a : Int) (b : Int) = some ([(a : Int), (a : Int)], [(b : Int), (b : Int)]) := rfl
      rw [hp]
      simp only [cond_true, Option.bind_some]
      rw [f59_eq h.toSq (dig2 (by omega) (by omega)) hs (by simp) hN, f59_eq h.toSq (dig2 (by omega) (by omega)) hs (by simp) hN]
      simp only [Option.bind_some]
      rw [W_nat (by omega)]
      by_cases c : Cnd true t s a b
      · have c' : ((dl t s [(a : Int), (a : Int)] : Nat) : Int) = ((dl t s [(b : Int), (b : Int)] : Nat) : Int) := congrArg _ c
        rw [c']
        simp only [decide_true, cond_true]
        rw [app_ok (by simp; omega) (by simp; omega)]
        simp only [Option.bind_some]
        obtain ⟨l', h1, h2, h3⟩ := ih (a + 1) (l ++ [⟨s, a, b⟩]) (by omega) (by omega) (bld_add hB ((v_mk hs hb (by omega)).2 c)) (by simp; omega)
        exact ⟨l', h1, h2, h3⟩
      · have c' : ¬ ((dl t s [(a : Int), (a : Int)] : Nat) : Int) = ((dl t s [(b : Int), (b : Int)] : Nat) : Int) := fun e => c (Int.ofNat.inj e)
        simp only [c', decide_false, cond_false]
        obtain ⟨l', h1, h2, h3⟩ := ih (a + 1) l (by omega) (by omega) (bld_skip hB fun hv => c ((v_mk hs hb (by omega)).1 hv)) (by omega)
        exact ⟨l', h1, h2, h3⟩
theorem f45_mid {N : Nat} {t : List (List Int)} (h : Lat t) (hN : 100 ≤ N) {s : Nat} (hs : s < t.length) {k1 : List Spot → Option (List Spot × Int)} : ∀ (fu b : Nat) (l : List Spot), t.length - b < fu → b ≤ t.length → Bld ltO true t s 0 b l → l.length ≤ 45 * s + tri b →
    ∃ l', Bld ltO true t (s + 1) 0 0 l' ∧ l'.length ≤ 45 * (s + 1) ∧ f45_i101_9 t N (s : Int) k1 fu l (b : Int) = k1 l' := by
  have h10 := h.hi
  intro fu
  induction fu with
  | zero => intro b l hf; omega
  | succ fu ih =>
    intro b l hf hb hB hl
    unfold f45_i101_9 f45_i101_9b
    by_cases e : b = t.length
    · subst e
      have := tri_le h10
      refine ⟨l, bld_state hB, by omega, ?_⟩
      rw [show decide ((t.length : Int) < (t.length : Int)) = false by simp]
      rfl
    · rw [show decide ((b : Int) < (t.length : Int)) = true by simp; omega]
      simp only [cond_true, joinK]
      have := tri_le (n := b) (by omega)
      obtain ⟨l1, h1, h2, h3⟩ := f45_in h hN hs (b := b) (by omega) (k2 := f45_i101_c18 t (s : Int) (b : Int) (f45_i101_9 t N (s : Int) k1 fu)) (L := 45 * s + tri b) (by omega) N 0 l (by omega) (by omega) hB (by omega)
      rw [show (0 : Int) = ((0 : Nat) : Int) from rfl, h3]
      unfold f45_i101_c18
      rw [W_nat (by omega)]
      exact ih (b + 1) l1 (by omega) (by omega) (bld_row h1) (by simp only [tri]; omega)
theorem f45_out {N : Nat} {t : List (List Int)} (h : Lat t) (hN : 100 ≤ N) {k0 : List Spot → Option (List Spot × Int)} : ∀ (fu s : Nat) (l : List Spot), t.length - s < fu → s ≤ t.length → Bld ltO true t s 0 0 l → l.length ≤ 45 * s →
    ∃ l', Bld ltO true t t.length 0 0 l' ∧ l'.length ≤ 450 ∧ f45_i101_6 t N k0 fu l (s : Int) = k0 l' := by
  have h10 := h.hi
  intro fu
  induction fu with
  | zero => intro b l hf; omega
  | succ fu ih =>
    intro s l hf hs hB hl
    unfold f45_i101_6 f45_i101_6b
    by_cases e : s = t.length
    · subst e
      refine ⟨l, hB, by omega, ?_⟩
      rw [show decide ((t.length : Int) < (t.length : Int)) = false by simp]
      rfl
    · rw [show decide ((s : Int) < (t.length : Int)) = true by simp; omega]
      simp only [cond_true, joinK]
      obtain ⟨l1, h1, h2, h3⟩ := f45_mid h hN (s := s) (by omega) (k1 := f45_i101_c19 t (s : Int) (f45_i101_6 t N k0 fu)) N 0 l (by omega) (by omega) hB (by simp only [tri]; omega)
      rw [show (0 : Int) = ((0 : Nat) : Int) from rfl, h3]
      unfold f45_i101_c19
      rw [W_nat (by omega)]
      exact ih (s + 1) l1 (by omega) (by omega) h1 (by omega)
theorem f45_eq {N : Nat} {t : List (List Int)} (hs : Small t) (hN : 1200 ≤ N) : (Lat t ∧ ∃ l, SpotsOf true t l ∧ f45 N t = some (l, 0)) ∨ (chkT t ≠ 0 ∧ f45 N t = some ([], chkT t)) := by
  unfold f45
  rw [f49_eq hs (by omega)]
  simp only [Option.bind_some]
  by_cases e : chkT t = 0
  · left
    have h := chkT_good.1 e
    refine ⟨h, ?_⟩
    simp only [e, not_true, decide_false, cond_false, joinK]
    have h10 := h.hi
    obtain ⟨l, h1, h2, h3⟩ := f45_out h (N := N) (by omega) (k0 := f45_i101_c20 N) N 0 [] (by omega) (by omega) bld_nil (by simp)
    rw [show (0 : Int) = ((0 : Nat) : Int) from rfl, h3]
    unfold f45_i101_c20
    have hw : Wk .u64 ((l.length : Nat) : Int) = (l.length : Int) := by
      have := wrap_u64 (q := l.length) (by omega)
      unfold Wk
      cases inB .u64 ((l.length : Nat) : Int) with
      | true => rfl
      | false => exact this
    rw [hw]
    obtain ⟨p, hp, _⟩ := f96_eq (N := N) (m := l.length) (by omega)
    rw [hp]
    simp only [Option.bind_some]
    obtain ⟨l', g1, g2, g3⟩ := f95_eq (N := N) (lim := p) (l := l) (by omega) (by omega)
    rw [g3]
    simp only [Option.bind_some, keep_ok g1.length_eq]
    exact ⟨l', sort_of h1 g1 g2, rfl⟩
  · right
    refine ⟨e, ?_⟩
    simp only [e, not_false_eq_true, decide_true, cond_true]
theorem SpotsOf.few {q : Bool} {t : List (List Int)} (ht : t.length ≤ 10) {l : List Spot} (h : SpotsOf q t l) : l.length ≤ 1000 := by
  have hsub : l ⊆ (List.range 10).flatMap fun (s : Nat) => (List.range 10).flatMap fun (a : Nat) => (List.range 10).map fun (b : Nat) => (⟨(s : Int), (a : Int), (b : Int)⟩ : Spot) := by
    intro x hx
    obtain ⟨⟨h1, h2⟩, ⟨h3, h4, h5⟩, _⟩ := (h.2 x).1 hx
    simp only [List.mem_flatMap, List.mem_map, List.mem_range]
    exact ⟨x.State.toNat, by omega, x.A.toNat, by omega, x.B.toNat, by omega, (spot_eq (by omega) (by omega) (by omega)).symm⟩
  have := (ltS_nodup h.1).length_le_of_subset hsub
  have e : ((List.range 10).flatMap fun (s : Nat) => (List.range 10).flatMap fun (a : Nat) => (List.range 10).map fun (b : Nat) => (⟨(s : Int), (a : Int), (b : Int)⟩ : Spot)).length = 1000 := by kernel_rfl
  omega
end Go.Vc
namespace Go.Vc
open Go.Proofs
set_option linter.unusedVariables false
set_option linter.unnecessarySimpa false
set_option linter.unusedSimpArgs false
def f75_c3 (a0' : Int) : Option (Int) :=
 some (a0')
def f75_1b (r1 : Int → Int → Option (Int)) (k0 : Int → Option (Int)) (a0' : Int) (b1 : Int) : Option (Int) :=
 bif decide ((0 : Int) < b1) then ((chk (decide (b1 ≠ 0))).bind fun _ =>
 r1 b1 (Int.tmod (a0') b1))
 else (k0 (a0'))
def f75_1 (k0 : Int → Option (Int)) : Nat → Int → Int → Option (Int)
  | 0, _, _ => none
  | n + 1, a0', b1 => f75_1b (f75_1 k0 n) k0 a0' b1
def f75 (N : Nat) (a0 : Int) (a1 : Int) : Option (Int) :=
 joinK f75_c3 fun k0 =>
 f75_1 k0 N a0 a1
end Go.Vc
namespace Go.Vc
open Go.Proofs
set_option linter.unusedVariables false
set_option linter.unnecessarySimpa false
set_option linter.unusedSimpArgs false
def f42_c15 (out6 : List (List Int)) : Option ((List (List Int)) × Int) :=
 some (out6, (0 : Int))
def f42_c8 (a0 : Int) (a1 : Int) (s7 : Int) (r7 : (List (List Int)) → Int → Option ((List (List Int)) × Int)) (out6' : List (List Int)) : Option ((List (List Int)) × Int) :=
 r7 (out6') (W (s7 + (1 : Int)))
def f42_c14 (a0 : Int) (a1 : Int) (out6 : List (List Int)) (s7 : Int) (k1 : (List (List Int)) → Option ((List (List Int)) × Int)) (row8 : List Int) : Option ((List (List Int)) × Int) :=
 (app 24 out6 [row8]).bind fun x4 =>
 k1 x4
def f42_11b (r11 : (List Int) → Int → Option ((List (List Int)) × Int)) (a0 : Int) (a1 : Int) (out6 : List (List Int)) (s7 : Int) (k2 : (List Int) → Option ((List (List Int)) × Int)) (row8 : List Int) (d9 : Int) : Option ((List (List Int)) × Int) :=
 bif decide (d9 < a0) then ((chk (decide (a0 ≠ 0))).bind fun _ =>
 (app 8 row8 [Int.tmod (W ((W (a1 * s7)) + d9)) a0]).bind fun x5 =>
 r11 x5 (W (d9 + (1 : Int))))
 else (k2 row8)
def f42_11 (a0 : Int) (a1 : Int) (out6 : List (List Int)) (s7 : Int) (k2 : (List Int) → Option ((List (List Int)) × Int)) : Nat → (List Int) → Int → Option ((List (List Int)) × Int)
  | 0, _, _ => none
  | n + 1, row8, d9 => f42_11b (f42_11 a0 a1 out6 s7 k2 n) a0 a1 out6 s7 k2 row8 d9
def f42_7b (r7 : (List (List Int)) → Int → Option ((List (List Int)) × Int)) (a0 : Int) (a1 : Int) (N : Nat) (k0 : (List (List Int)) → Option ((List (List Int)) × Int)) (out6 : List (List Int)) (s7 : Int) : Option ((List (List Int)) × Int) :=
 bif decide (s7 < a0) then (joinK (f42_c8 a0 a1 s7 r7) fun k1 =>
 joinK (f42_c14 a0 a1 out6 s7 k1) fun k2 =>
 f42_11 a0 a1 out6 s7 k2 N [] (0 : Int))
 else (k0 out6)
def f42_7 (a0 : Int) (a1 : Int) (N : Nat) (k0 : (List (List Int)) → Option ((List (List Int)) × Int)) : Nat → (List (List Int)) → Int → Option ((List (List Int)) × Int)
  | 0, _, _ => none
  | n + 1, out6, s7 => f42_7b (f42_7 a0 a1 N k0 n) a0 a1 N k0 out6 s7
def f42 (N : Nat) (a0 : Int) (a1 : Int) : Option ((List (List Int)) × Int) :=
 (f57 N a0 (2 : Int) (10 : Int)).bind fun x1 =>
 bif !x1 then (some ([], (4 : Int)))
 else ((f57 N a1 (1 : Int) (W (a0 - (1 : Int)))).bind fun x2 =>
 bif !x2 then (some ([], (4 : Int)))
 else ((f75 N a0 a1).bind fun x3 =>
 bif decide ((1 : Int) < x3) then (some ([], (12 : Int)))
 else (joinK f42_c15 fun k0 =>
 f42_7 a0 a1 N k0 N [] (0 : Int))))
end Go.Vc
namespace Go.Vc
open Go.Proofs
set_option linter.unusedVariables false
set_option linter.unnecessarySimpa false
set_option linter.unusedSimpArgs false
end Go.Vc
namespace Go.Vc
open Go.Proofs
set_option linter.unusedVariables false
set_option linter.unnecessarySimpa false
set_option linter.unusedSimpArgs false
end Go.Vc
namespace Go.Vc
set_option linter.unusedVariables false
set_option linter.unnecessarySimpa false
set_option linter.unusedSimpArgs false
set_option linter.unusedSimpArgs false
set_option maxRecDepth 100000
def lineT (n k : Nat) : List (List Int) := (List.range n).map fun s => (List.range n).map fun d => (((k * s + d) % n : Nat) : Int)
def okLine (N n k : Nat) : Bool := match f41 (N + 60) (n : Int) (k : Int), f42 (N + 60) (n : Int) (k : Int) with
  | some (t, e), some (u, f) => (bif Nat.blt 1 (Nat.gcd n k) then decide (t = []) && decide (e = 12) else decide (t = lineT n k) && decide (e = 0)) && (decide (u = t) && decide (f = e))
  | _, _ => false
theorem okLine_all (N : Nat) : ((List.range 11).all fun n => (List.range 10).all fun k => (Nat.blt n 2 || (Nat.blt k 1 || Nat.ble n k)) || okLine N n k) = true := by kernel_rfl
theorem all_at {n : Nat} {p : Nat → Bool} (h : (List.range n).all p = true) {i : Nat} (hi : i < n) : p i = true := by
  rw [List.all_eq_true] at h; exact h i (List.mem_range.2 hi)
theorem line_eq {N n k : Nat} (hn : 2 ≤ n ∧ n ≤ 10) (hk : 1 ≤ k ∧ k < n) : (1 < Nat.gcd n k ∧ f41 (N + 60) (n : Int) (k : Int) = some ([], 12) ∧ f42 (N + 60) (n : Int) (k : Int) = some ([], 12)) ∨
    (¬ 1 < Nat.gcd n k ∧ f41 (N + 60) (n : Int) (k : Int) = some (lineT n k, 0) ∧ f42 (N + 60) (n : Int) (k : Int) = some (lineT n k, 0)) := by
  have h := all_at (all_at (okLine_all N) (show n < 11 by omega)) (show k < 10 by omega)
  have e1 : Nat.blt n 2 = false := by rw [← Bool.not_eq_true, Nat.blt_eq]; omega
  have e2 : Nat.blt k 1 = false := by rw [← Bool.not_eq_true, Nat.blt_eq]; omega
  have e3 : Nat.ble n k = false := by rw [← Bool.not_eq_true, Nat.ble_eq]; omega
  simp only [e1, e2, e3, Bool.false_or] at h
  unfold okLine at h
  split at h
  · rename_i t e u f h1 h2
    rw [h1, h2]
    simp only [Bool.and_eq_true, decide_eq_true_eq] at h
    obtain ⟨h3, rfl, rfl⟩ := h
    by_cases hg : 1 < Nat.gcd n k
    · have : Nat.blt 1 (Nat.gcd n k) = true := by rw [Nat.blt_eq]; exact hg
      simp only [this, cond_true, Bool.and_eq_true, decide_eq_true_eq] at h3
      obtain ⟨rfl, rfl⟩ := h3
      exact .inl ⟨hg, rfl, rfl⟩
    · have : Nat.blt 1 (Nat.gcd n k) = false := by rw [← Bool.not_eq_true, Nat.blt_eq]; exact hg
      simp only [this, cond_false, Bool.and_eq_true, decide_eq_true_eq] at h3
      obtain ⟨rfl, rfl⟩ := h3
      exact .inr ⟨hg, rfl, rfl⟩
  · cases h
end Go.Vc
namespace Go.Vc
open Go.Proofs
set_option linter.unusedVariables false
set_option linter.unnecessarySimpa false
set_option linter.unusedSimpArgs false
end Go.Vc
namespace Go.Vc
open Go.Proofs
set_option linter.unusedVariables false
set_option linter.unnecessarySimpa false
set_option linter.unusedSimpArgs false
end Go.Vc
namespace Go.Vc
open Go.Proofs
set_option linter.unusedVariables false
set_option linter.unnecessarySimpa false
set_option linter.unusedSimpArgs false
end Go.Vc
namespace Go.Vc
set_option linter.unusedVariables false
set_option linter.unnecessarySimpa false
set_option linter.unusedSimpArgs false
set_option linter.unusedSimpArgs false
def B5 (a : A5u8N) : Prop := (0 ≤ a.e0 ∧ a.e0 ≤ 255) ∧ (0 ≤ a.e1 ∧ a.e1 ≤ 255) ∧ (0 ≤ a.e2 ∧ a.e2 ≤ 255) ∧ (0 ≤ a.e3 ∧ a.e3 ≤ 255) ∧ (0 ≤ a.e4 ∧ a.e4 ≤ 255)
theorem B5.get {a : A5u8N} (h : B5 a) {k : Nat} (hk : k < 5) : ∃ x : Nat, ixN [a.e0, a.e1, a.e2, a.e3, a.e4] k = some (x : Int) := by
  obtain ⟨h0, h1, h2, h3, h4⟩ := h
  match k, hk with
  | 0, _ => exact ⟨a.e0.toNat, by simp [ixN]; omega⟩
  | 1, _ => exact ⟨a.e1.toNat, by simp [ixN]; omega⟩
  | 2, _ => exact ⟨a.e2.toNat, by simp [ixN]; omega⟩
  | 3, _ => exact ⟨a.e3.toNat, by simp [ixN]; omega⟩
  | 4, _ => exact ⟨a.e4.toNat, by simp [ixN]; omega⟩
end Go.Vc
namespace Go.Vc
open Go.Proofs
set_option linter.unusedVariables false
set_option linter.unnecessarySimpa false
set_option linter.unusedSimpArgs false
end Go.Vc
namespace Go.Vc
set_option linter.unusedVariables false
set_option linter.unnecessarySimpa false
set_option linter.unusedSimpArgs false
set_option linter.unusedSimpArgs false
theorem at_mem {l : List Spot} {i : Nat} (h : i < l.length) : at' l i ∈ l := by rw [show at' l i = l[i] by simp [at', h]]; exact List.getElem_mem h
theorem blind_of {N : Nat} {t : List (List Int)} (h : Lat t) (hs : Small t) (hN : 1200 ≤ N) : ∃ l, SpotsOf false t l ∧ l.length ≤ 1000 ∧ f43 N t = some (l, 0) := by
  rcases f43_eq hs hN with ⟨_, l, h1, h2⟩ | ⟨h1, _⟩
  · exact ⟨l, h1, h1.few h.hi, h2⟩
  · exact absurd (chkT_good.2 h) h1
theorem twins_of {N : Nat} {t : List (List Int)} (h : Lat t) (hs : Small t) (hN : 1200 ≤ N) : ∃ l, SpotsOf true t l ∧ l.length ≤ 1000 ∧ f45 N t = some (l, 0) := by
  rcases f45_eq hs hN with ⟨_, l, h1, h2⟩ | ⟨h1, _⟩
  · exact ⟨l, h1, h1.few h.hi, h2⟩
  · exact absurd (chkT_good.2 h) h1
end Go.Vc
namespace Go.Vc
set_option linter.unusedVariables false
set_option linter.unnecessarySimpa false
set_option linter.unusedSimpArgs false
set_option linter.unusedSimpArgs false
set_option maxRecDepth 100000
def cmB (n m : Nat) : Bool := (List.range (n + 1)).any fun j => Nat.ble 2 j && (Nat.beq (n % j) 0 && Nat.beq (m % j) 0)
theorem cmB_iff {n m : Nat} : cmB n m = true ↔ ∃ j, 2 ≤ j ∧ j ≤ n ∧ n % j = 0 ∧ m % j = 0 := by
  unfold cmB
  rw [List.any_eq_true]
  constructor
  · rintro ⟨j, h1, h2⟩
    simp only [Bool.and_eq_true, Nat.ble_eq, Nat.beq_eq] at h2
    exact ⟨j, h2.1, by have := List.mem_range.1 h1; omega, h2.2.1, h2.2.2⟩
  · rintro ⟨j, h1, h2, h3, h4⟩
    refine ⟨j, List.mem_range.2 (by omega), ?_⟩
    simp only [Bool.and_eq_true, Nat.ble_eq, Nat.beq_eq]
    exact ⟨h1, h3, h4⟩
theorem com_loop {β : Type} {F : Nat → Int → Option β} {e k0 : Option β} {n m : Nat} (hn : n ≤ 1000) (hs : ∀ (fu d : Nat), F (fu + 1) (d : Int) = bif decide ((d : Int) ≤ (n : Int)) then ((chk (decide ((d : Int) ≠ 0))).bind fun _ =>
     bif decide ((Int.tmod (n : Int) (d : Int)) = (0 : Int)) then ((chk (decide ((d : Int) ≠ 0))).bind fun _ =>
     bif decide ((Int.tmod (m : Int) (d : Int)) = (0 : Int)) then e
     else (F fu (W ((d : Int) + (1 : Int)))))
     else (F fu (W ((d : Int) + (1 : Int)))))
     else k0) : ∀ fu d, n + 1 - d < fu → 1 ≤ d → d ≤ n + 1 → ((∃ j, d ≤ j ∧ j ≤ n ∧ n % j = 0 ∧ m % j = 0) → F fu (d : Int) = e) ∧ ((¬ ∃ j, d ≤ j ∧ j ≤ n ∧ n % j = 0 ∧ m % j = 0) → F fu (d : Int) = k0) := by
  intro fu
  induction fu with
  | zero => intro d h; omega
  | succ fu ih =>
    intro d hf h1 h2
    rw [hs]
    by_cases c : d ≤ n
    · obtain ⟨i1, i2⟩ := ih (d + 1) (by omega) (by omega) (by omega)
      rw [show decide ((d : Int) ≤ (n : Int)) = true by simp; omega, chk_pos (by omega), W_nat (by omega), tmod_nat, tmod_nat]
      simp only [cond_true, Option.bind_some]
      by_cases c1 : n % d = 0
      · rw [show decide (((n % d : Nat) : Int) = 0) = true by simp; omega]
        simp only [cond_true]
        by_cases c2 : m % d = 0
        · rw [show decide (((m % d : Nat) : Int) = 0) = true by simp; omega]
          refine ⟨fun _ => rfl, fun hx => absurd ⟨d, Nat.le_refl _, c, c1, c2⟩ hx⟩
        · rw [show decide (((m % d : Nat) : Int) = 0) = false by simp; omega]
          refine ⟨fun hx => i1 ?_, fun hx => i2 ?_⟩
          · obtain ⟨j, g1, g2, g3, g4⟩ := hx
            by_cases e : j = d
            · subst e; exact absurd g4 c2
            · exact ⟨j, by omega, g2, g3, g4⟩
          · rintro ⟨j, g1, g2, g3, g4⟩
            exact hx ⟨j, by omega, g2, g3, g4⟩
      · rw [show decide (((n % d : Nat) : Int) = 0) = false by simp; omega]
        refine ⟨fun hx => i1 ?_, fun hx => i2 ?_⟩
        · obtain ⟨j, g1, g2, g3, g4⟩ := hx
          by_cases e : j = d
          · subst e; exact absurd g3 c1
          · exact ⟨j, by omega, g2, g3, g4⟩
        · rintro ⟨j, g1, g2, g3, g4⟩
          exact hx ⟨j, by omega, g2, g3, g4⟩
    · rw [show decide ((d : Int) ≤ (n : Int)) = false by simp; omega]
      exact ⟨fun ⟨j, g1, g2, _⟩ => by omega, fun _ => rfl⟩
theorem com_eq {β : Type} {F : Nat → Int → Option β} {e k0 : Option β} {n m : Nat} (hn : 1 ≤ n ∧ n ≤ 1000) (hs : ∀ (fu d : Nat), F (fu + 1) (d : Int) = bif decide ((d : Int) ≤ (n : Int)) then ((chk (decide ((d : Int) ≠ 0))).bind fun _ =>
     bif decide ((Int.tmod (n : Int) (d : Int)) = (0 : Int)) then ((chk (decide ((d : Int) ≠ 0))).bind fun _ =>
     bif decide ((Int.tmod (m : Int) (d : Int)) = (0 : Int)) then e
     else (F fu (W ((d : Int) + (1 : Int)))))
     else (F fu (W ((d : Int) + (1 : Int)))))
     else k0) {fu : Nat} (hf : n + 2 < fu) : F fu (2 : Int) = bif cmB n m then e else k0 := by
  have h := com_loop hn.2 hs fu 2 (by omega) (by omega) (by omega)
  by_cases c : cmB n m = true
  · rw [c]; exact h.1 (cmB_iff.1 c)
  · rw [Bool.not_eq_true] at c
    rw [c]
    exact h.2 (fun hx => by rw [cmB_iff.2 hx] at c; cases c)
def exV (q : Bool) (t : List (List Int)) (n : Nat) : Bool := (List.range n).any fun s => (List.range n).any fun b => (List.range b).any fun a => Nat.beq (dl t s (bif q then [(a : Int), (a : Int)] else [(a : Int), (b : Int)])) (dl t s (bif q then [(b : Int), (b : Int)] else [(b : Int), (a : Int)]))
theorem exV_iff {q : Bool} {t : List (List Int)} : exV q t t.length = true ↔ ∃ x, V q t x := by
  unfold exV
  simp only [List.any_eq_true, List.mem_range, Nat.beq_eq]
  constructor
  · rintro ⟨s, h1, b, h2, a, h3, h4⟩
    exact ⟨⟨s, a, b⟩, (v_mk h1 h2 h3).2 h4⟩
  · rintro ⟨x, h1, h2, h3⟩
    exact ⟨x.State.toNat, by omega, x.B.toNat, by omega, x.A.toNat, by omega, h3⟩
theorem exV_len {q : Bool} {t : List (List Int)} {l : List Spot} (h : SpotsOf q t l) : decide ((0 : Int) < (l.length : Int)) = exV q t t.length := by
  rw [Bool.eq_iff_iff, exV_iff, decide_eq_true_eq]
  constructor
  · intro h1
    exact ⟨at' l 0, (h.2 _).1 (at_mem (by omega))⟩
  · rintro ⟨x, hx⟩
    have := List.length_pos_of_mem ((h.2 x).2 hx)
    omega
def lineOK (n k : Nat) : Bool := (Nat.blt 1 (Nat.gcd n k) == cmB n k) && (cmB n k || ((match f49 500 (lineT n k) with | some e => decide (e = 0) | none => false) && (exV false (lineT n k) n == cmB n (k - 1) && exV true (lineT n k) n == cmB n (k + 1))))
theorem lineOK_all : ((List.range 11).all fun n => (List.range 10).all fun k => (Nat.blt n 2 || (Nat.blt k 1 || Nat.ble n k)) || lineOK n k) = true := by kernel_rfl
theorem lineT_len {n k : Nat} : (lineT n k).length = n := by simp [lineT]
theorem lineT_small {n k : Nat} (hn : n ≤ 10) : Small (lineT n k) := by
  refine ⟨by rw [lineT_len]; omega, fun r hr => ?_⟩
  simp only [lineT, List.mem_map] at hr
  obtain ⟨s, _, rfl⟩ := hr
  simp; omega
theorem lineT_facts {n k : Nat} (hn : 2 ≤ n ∧ n ≤ 10) (hk : 1 ≤ k ∧ k < n) : (1 < Nat.gcd n k ↔ cmB n k = true) ∧ (cmB n k = false → Lat (lineT n k) ∧ exV false (lineT n k) n = cmB n (k - 1) ∧ exV true (lineT n k) n = cmB n (k + 1)) := by
  have h := all_at (all_at lineOK_all (show n < 11 by omega)) (show k < 10 by omega)
  have e1 : Nat.blt n 2 = false := by rw [← Bool.not_eq_true, Nat.blt_eq]; omega
  have e2 : Nat.blt k 1 = false := by rw [← Bool.not_eq_true, Nat.blt_eq]; omega
  have e3 : Nat.ble n k = false := by rw [← Bool.not_eq_true, Nat.ble_eq]; omega
  simp only [e1, e2, e3, Bool.false_or] at h
  unfold lineOK at h
  simp only [Bool.and_eq_true, Bool.or_eq_true, beq_iff_eq] at h
  obtain ⟨h1, h2⟩ := h
  refine ⟨by rw [← h1, Nat.blt_eq], fun hc => ?_⟩
  rcases h2 with h2 | ⟨h2, h3, h4⟩
  · rw [hc] at h2; cases h2
  · refine ⟨?_, h3, h4⟩
    rw [f49_eq (lineT_small hn.2) (Nat.le_refl _)] at h2
    simp only [decide_eq_true_eq] at h2
    exact chkT_good.1 h2
theorem lineT_row {n k s : Nat} (hs : s < n) : ix (lineT n k) (s : Int) = some ((List.range n).map fun d => (((k * s + d) % n : Nat) : Int)) := by
  rw [ix_nat]; simp [lineT, hs]
theorem lineT_at {n k s d : Nat} (hd : d < n) : ix ((List.range n).map fun d => (((k * s + d) % n : Nat) : Int)) (d : Int) = some (((k * s + d) % n : Nat) : Int) := by
  rw [ix_nat]; simp [hd]
section
variable {N n k : Nat} {a0 a1 : Int} (hn : W ((2 : Int) + Int.tmod a0 9) = (n : Int)) (hk : W ((1 : Int) + Int.tmod a1 (W ((n : Int) - 1))) = (k : Int))
include hn hk
theorem f12_row {x1 : List (List Int) × Int} {s : Nat} (hs : s < n) (h10 : n ≤ 10) (hkn : k < n) {k4 : Option Bool} : ∀ (fu d : Nat), n - d < fu → d ≤ n →
    f12_15 a0 a1 x1 (s : Int) k4 ((List.range n).map fun d => (((k * s + d) % n : Nat) : Int)) fu (d : Int) = k4 := by
  intro fu
  induction fu with
  | zero => intro d h; omega
  | succ fu ih =>
    intro d hf hd
    unfold f12_15 f12_15b
    rw [show (((List.range n).map fun d => (((k * s + d) % n : Nat) : Int)).length : Int) = (n : Int) by simp]
    simp only [hn, hk]
    by_cases e : d = n
    · rw [show decide ((d : Int) < (n : Int)) = false by simp; omega]; rfl
    · have hks : k * s ≤ 100 := by
        have := Nat.mul_le_mul (show k ≤ 10 by omega) (show s ≤ 10 by omega)
        omega
      rw [show decide ((d : Int) < (n : Int)) = true by simp; omega, lineT_at (by omega), chk_pos (by omega)]
      simp only [cond_true, Option.bind_some]
      have w1 : W ((k : Int) * (s : Int)) = ((k * s : Nat) : Int) := by rw [← Int.natCast_mul]; exact W_of (by omega) (by omega)
      have w2 : W (((k * s : Nat) : Int) + (d : Int)) = ((k * s + d : Nat) : Int) := by rw [← Int.natCast_add]; exact W_of (by omega) (by omega)
      rw [w1, w2, tmod_nat, W_nat (by omega)]
      simp only [not_true, decide_false, cond_false]
      exact ih (d + 1) (by omega) (by omega)
theorem f12_rows {e : Int} (h10 : n ≤ 10) (hkn : k < n) (hN : 30 ≤ N) {k3 : Option Bool} : ∀ (fu s : Nat), n - s < fu → s ≤ n → f12_10 a0 a1 N (lineT n k, e) k3 fu (s : Int) = k3 := by
  intro fu
  induction fu with
  | zero => intro d h; omega
  | succ fu ih =>
    intro s hf hs
    unfold f12_10 f12_10b
    simp only [lineT_len, hn, joinK]
    by_cases c : s = n
    · rw [show decide ((s : Int) < (n : Int)) = false by simp; omega]; rfl
    · rw [show decide ((s : Int) < (n : Int)) = true by simp; omega, lineT_row (by omega)]
      simp only [cond_true, Option.bind_some, List.length_map, List.length_range, not_true, decide_false, cond_false]
      have := f12_row hn hk (x1 := (lineT n k, e)) (s := s) (by omega) h10 hkn (k4 := f12_c20 a0 a1 (lineT n k, e) (s : Int) (f12_10 a0 a1 N (lineT n k, e) k3 fu)) N 0 (by omega) (by omega)
      rw [show (0 : Int) = ((0 : Nat) : Int) from rfl, this]
      unfold f12_c20
      rw [W_nat (by omega)]
      exact ih (s + 1) (by omega) (by omega)
theorem f12_go (h2 : 2 ≤ n) (h10 : n ≤ 10) (h1 : 1 ≤ k) (hkn : k < n) (hN : 2000 ≤ N) : f12 N a0 a1 = some true := by
  have h15 : f15 N = some true := by
    obtain ⟨m, rfl⟩ : ∃ m, N = m + 60 := ⟨N - 60, by omega⟩
    exact f15_any m
  obtain ⟨g1, g2⟩ := lineT_facts (k := k) ⟨h2, h10⟩ ⟨h1, hkn⟩
  unfold f12
  simp only [hn, hk, joinK]
  have hw : W ((n : Int) - 1) = ((n - 1 : Nat) : Int) := by rw [Wi (by omega) (by omega)]; omega
  rw [hw, chk_pos (by omega)]
  simp only [Option.bind_some]
  have main : ∀ x1 : List (List Int) × Int, f12_i502_2 a0 a1 N x1 (f12_i502_c6 a0 a1 N x1) N 2 = bif cmB n k then (bif decide (x1.2 = (12 : Int)) then (bif decide ((List.length x1.1 : Int) = (0 : Int)) then ((f15 N ).bind fun x11 => some (x11)) else (some (false))) else (some (false))) else f12_i502_c6 a0 a1 N x1 := by
    intro x1
    refine com_eq (F := f12_i502_2 a0 a1 N x1 (f12_i502_c6 a0 a1 N x1)) (n := n) (m := k) ⟨by omega, by omega⟩ (fun fu d => ?_) (by omega)
    conv => lhs; unfold f12_i502_2 f12_i502_2b
    simp only [hn, hk]
  obtain ⟨M, hM⟩ : ∃ M, N = M + 60 := ⟨N - 60, by omega⟩
  rcases line_eq (N := M) (n := n) (k := k) ⟨h2, h10⟩ ⟨h1, hkn⟩ with ⟨c1, c2, _⟩ | ⟨c1, c2, _⟩
  · rw [← hM] at c2
    rw [c2]
    simp only [Option.bind_some]
    rw [main, g1.1 c1]
    simp [h15]
  · rw [← hM] at c2
    rw [c2]
    simp only [Option.bind_some]
    have hc : cmB n k = false := by rw [← Bool.not_eq_true]; exact fun h => c1 (g1.2 h)
    obtain ⟨hL, e1, e2⟩ := g2 hc
    have hS := lineT_small (k := k) h10
    rw [main, hc]
    simp only [cond_false]
    unfold f12_i502_c6
    simp only [not_true, decide_false, cond_false, lineT_len, hn, joinK]
    rw [show (0 : Int) = ((0 : Nat) : Int) from rfl, f12_rows hn hk h10 hkn (by omega) N 0 (by omega) (by omega)]
    unfold f12_c21
    obtain ⟨l, b1, b2, b3⟩ := blind_of (N := N) hL hS (by omega)
    obtain ⟨l', t1, t2, t3⟩ := twins_of (N := N) hL hS (by omega)
    simp only [b3, t3, Option.bind_some, f49_eq hS (show 500 ≤ N by omega), chkT_good.2 hL, joinK, decide_true, cond_true]
    have v1 := exV_len b1
    have v2 := exV_len t1
    rw [lineT_len] at v1 v2
    rw [e1] at v1
    rw [e2] at v2
    have hk1 : W ((k : Int) - 1) = ((k - 1 : Nat) : Int) := W_dec h1 (by omega)
    have hk2 : W ((k : Int) + 1) = ((k + 1 : Nat) : Int) := W_nat (by omega)
    have sec : ∀ {F : Nat → Int → Option Bool}, (∀ (fu d : Nat), F (fu + 1) (d : Int) = bif decide ((d : Int) ≤ (n : Int)) then ((chk (decide ((d : Int) ≠ 0))).bind fun _ =>
        bif decide ((Int.tmod (n : Int) (d : Int)) = (0 : Int)) then ((chk (decide ((d : Int) ≠ 0))).bind fun _ =>
        bif decide ((Int.tmod ((k + 1 : Nat) : Int) (d : Int)) = (0 : Int)) then (bif ((decide ((0 : Int) < (List.length l' : Int))) == true) then ((f15 N ).bind fun x6 => some (x6)) else (some (false)))
        else (F fu (W ((d : Int) + (1 : Int)))))
        else (F fu (W ((d : Int) + (1 : Int)))))
        else (bif ((decide ((0 : Int) < (List.length l' : Int))) == false) then ((f15 N ).bind fun x5 => some (x5)) else (some (false)))) → F N 2 = some true := by
      intro F hF
      rw [com_eq ⟨by omega, by omega⟩ hF (by omega)]
      rw [v2]
      cases cmB n (k + 1) <;> simp [h15]
    have fst := com_eq (F := f12_i2318_2 a0 a1 N (l, 0) (l', 0) (f12_i2318_c6 a0 a1 N (l, 0) (l', 0))) (n := n) (m := k - 1) (e := bif ((decide ((0 : Int) < (List.length l : Int))) == true) then (f12_i2328_2_1 a0 a1 N (l', 0) (f12_i2328_c6_1 a0 N (l', 0)) N (2 : Int)) else (some (false))) (k0 := f12_i2318_c6 a0 a1 N (l, 0) (l', 0)) ⟨by omega, by omega⟩ (fun fu d => by
      conv => lhs; unfold f12_i2318_2 f12_i2318_2b
      simp only [hn, hk, hk1, joinK]) (fu := N) (by omega)
    rw [fst]
    have s1 := sec (F := f12_i2328_2_1 a0 a1 N (l', 0) (f12_i2328_c6_1 a0 N (l', 0))) (fun fu d => by
      conv => lhs; unfold f12_i2328_2_1 f12_i2328_2_1b
      simp only [hn, hk, hk2]
      unfold f12_i2328_c6_1
      rfl)
    have s2 := sec (F := f12_i2328_2 a0 a1 N (l', 0) (f12_i2328_c6 a0 N (l', 0))) (fun fu d => by
      conv => lhs; unfold f12_i2328_2 f12_i2328_2b
      simp only [hn, hk, hk2]
      unfold f12_i2328_c6
      rfl)
    unfold f12_i2318_c6
    simp only [joinK]
    rw [v1, s1, s2]
    cases cmB n (k - 1) <;> rfl
end
theorem f12_true {N : Nat} {a0 a1 : Int} (h0 : 0 ≤ a0 ∧ a0 ≤ 255) (h1 : 0 ≤ a1 ∧ a1 ≤ 255) : f12 (N + 2000) a0 a1 = some true := by
  obtain ⟨a, rfl⟩ : ∃ n : Nat, a0 = (n : Int) := ⟨a0.toNat, by omega⟩
  obtain ⟨b, rfl⟩ : ∃ n : Nat, a1 = (n : Int) := ⟨a1.toNat, by omega⟩
  have hn : W ((2 : Int) + Int.tmod (a : Int) 9) = ((2 + a % 9 : Nat) : Int) := by
    have := tmod_nat a 9
    rw [show ((9 : Nat) : Int) = 9 from rfl] at this
    rw [this, Wi (by omega) (by omega)]; omega
  have hw : W (((2 + a % 9 : Nat) : Int) - 1) = ((1 + a % 9 : Nat) : Int) := by rw [Wi (by omega) (by omega)]; omega
  have hm : b % (1 + a % 9) < 1 + a % 9 := Nat.mod_lt _ (by omega)
  have hk : W ((1 : Int) + Int.tmod (b : Int) (W (((2 + a % 9 : Nat) : Int) - 1))) = ((1 + b % (1 + a % 9) : Nat) : Int) := by
    rw [hw, tmod_nat, Wi (by omega) (by omega)]; omega
  exact f12_go hn hk (by omega) (by omega) (by omega) (by omega) (by omega)
end Go.Vc
namespace Go.Vc
set_option linter.unusedVariables false
set_option linter.unnecessarySimpa false
set_option linter.unusedSimpArgs false
abbrev tB : Ty := .int .u8
def u8In (n : Int) : Prop := 0 ≤ n ∧ n ≤ 255
theorem tB_of {ds : List D} (h : tB.has ds) : ∃ n, ds = [u8N n] ∧ u8In n := by
  simp only [tB, Ty.has] at h
  obtain ⟨n, rfl, h⟩ := h
  exact ⟨n, rfl, by simpa [IntKind.min, IntKind.max, IntKind.signed, IntKind.bits, u8In] using h⟩
theorem tB_ofD {x : D} (h : tB.hasD x) : ∃ n, x = u8N n ∧ u8In n := by
  obtain ⟨n, h1, h2⟩ := tB_of (ds := [x]) h
  exact ⟨n, List.singleton_inj.1 h1, h2⟩
end Go.Vc
