/-
  A library for proofs about Go functions by symbolic evaluation, and plain Lean functions that the walked Go functions compute (written by a program of this claim).
-/
import Derived.Test.YtifcnocpjdmaiaaMostF3
import Derived.Test.YtifcnocpjdmaiaaMostF1
import Derived.Test.YtifcnocpjdmaiaaMostF2
/-
  PLAIN LAWS OF CUT, 18: the statement CutLess: labels left out, made smaller, mirrored, turned.
-/
namespace Go.Vc
set_option linter.unusedVariables false
set_option linter.unnecessarySimpa false
set_option linter.unusedSimpArgs false
set_option linter.unusedSimpArgs false

/-- what separates some labels separates others that lie to each line as they do -/
theorem Sep.rel {ι : Type} {u v : ι → Label} {P : ι → Prop} (hg : ∀ c : Cut, ∃ (c' : Cut) (f : Bool), ∀ i, P i → (before c (u i) || behind c (u i)) = true → (before c' (v i) || behind c' (v i)) = true ∧ before c' (v i) = (f != before c (u i))) :
    ∀ {L : List Label}, Sep L → ∀ {l : List ι}, L = l.map u → (∀ i, i ∈ l → P i) → Sep (l.map v) := by
  intro L h
  induction h with
  | @few L h => intro l e _; subst e; exact .few (by simpa using h)
  | @cut L c h _ _ ih1 ih2 =>
    intro l e hP
    subst e
    obtain ⟨c', f, hc⟩ := hg c
    have hc := fun i (hi : i ∈ l) => hc i (hP i hi) (h _ (List.mem_map.2 ⟨i, hi, rfl⟩))
    have j1 := @ih1 (l.filter fun i => before c (u i)) (by rw [List.filter_map]; rfl) (fun i hi => hP i (List.mem_filter.1 hi).1)
    have j2 := @ih2 (l.filter fun i => !before c (u i)) (by rw [List.filter_map]; rfl) (fun i hi => hP i (List.mem_filter.1 hi).1)
    refine .cut c' (fun x hx => by obtain ⟨i, hi, rfl⟩ := List.mem_map.1 hx; exact (hc i hi).1) ?_ ?_
    · rw [List.filter_map]
      cases f with
      | false =>
        rw [show (l.filter ((before c') ∘ v)) = l.filter fun i => before c (u i) from List.filter_congr fun i hi => by
          show before c' (v i) = _
          rw [(hc i hi).2]; cases before c (u i) <;> rfl]
        exact j1
      | true =>
        rw [show (l.filter ((before c') ∘ v)) = l.filter fun i => !before c (u i) from List.filter_congr fun i hi => by
          show before c' (v i) = _
          rw [(hc i hi).2]; cases before c (u i) <;> rfl]
        exact j2
    · rw [List.filter_map]
      cases f with
      | false =>
        rw [show (l.filter ((fun x => !before c' x) ∘ v)) = l.filter fun i => !before c (u i) from List.filter_congr fun i hi => by
          show (!before c' (v i)) = _
          rw [(hc i hi).2]; cases before c (u i) <;> rfl]
        exact j2
      | true =>
        rw [show (l.filter ((fun x => !before c' x) ∘ v)) = l.filter fun i => before c (u i) from List.filter_congr fun i hi => by
          show (!before c' (v i)) = _
          rw [(hc i hi).2]; cases before c (u i) <;> rfl]
        exact j1
theorem Sep.sub {l l' : List Label} (h : Sep l) (hs : l'.Sublist l) : Sep l' := by
  induction h generalizing l' with
  | few h => exact .few (Nat.le_trans hs.length_le h)
  | cut c h _ _ ih1 ih2 => exact .cut c (fun x hx => h x (hs.subset hx)) (ih1 (hs.filter _)) (ih2 (hs.filter _))
theorem bb_iff {c : Cut} {x : Label} : (before c x || behind c x) = true ↔ (hi c x ≤ c.At ∨ c.At ≤ lo c x) := by rw [Bool.or_eq_true, before_iff, behind_iff]
theorem bef_eq {b : Bool} {c : Cut} {x : Label} (h : b = true ↔ hi c x ≤ c.At) : before c x = b := by
  rw [Bool.eq_iff_iff, before_iff]; exact h.symm
theorem bnot {b c : Bool} (h : b = true ↔ c = false) : b = (true != c) := by
  cases b <;> cases c <;> simp_all
theorem bsame {b c : Bool} (h : b = true ↔ c = true) : b = (false != c) := by
  cases b <;> cases c <;> simp_all
/-- made smaller -/
theorem Sep.less {l : List Label} (g : Label → Label) (h : Sep l) (hx : ∀ x, x ∈ l → 1 ≤ (g x).W ∧ 1 ≤ (g x).H ∧ x.X ≤ (g x).X ∧ x.Y ≤ (g x).Y ∧ (g x).X + (g x).W ≤ x.X + x.W ∧ (g x).Y + (g x).H ≤ x.Y + x.H) : Sep (l.map g) := by
  refine Sep.rel (u := id) (v := g) (P := fun x => 1 ≤ (g x).W ∧ 1 ≤ (g x).H ∧ x.X ≤ (g x).X ∧ x.Y ≤ (g x).Y ∧ (g x).X + (g x).W ≤ x.X + x.W ∧ (g x).Y + (g x).H ≤ x.Y + x.H) (fun c => ⟨c, false, fun x hP hb => ?_⟩) h (by simp) hx
  rw [bb_iff] at hb ⊢
  obtain ⟨p1, p2, p3, p4, p5, p6⟩ := hP
  obtain ⟨up, a⟩ := c
  cases up with
  | true =>
    have hb : x.X + x.W ≤ a ∨ a ≤ x.X := hb
    refine ⟨?_, bsame ?_⟩
    · show (g x).X + (g x).W ≤ a ∨ a ≤ (g x).X
      omega
    · rw [before_iff, before_iff]
      show (g x).X + (g x).W ≤ a ↔ x.X + x.W ≤ a
      omega
  | false =>
    have hb : x.Y + x.H ≤ a ∨ a ≤ x.Y := hb
    refine ⟨?_, bsame ?_⟩
    · show (g x).Y + (g x).H ≤ a ∨ a ≤ (g x).Y
      omega
    · rw [before_iff, before_iff]
      show (g x).Y + (g x).H ≤ a ↔ x.Y + x.H ≤ a
      omega
def mir (w : Int) (x : Label) : Label := ⟨w - x.X - x.W, x.Y, x.W, x.H⟩
def trn (h : Int) (x : Label) : Label := ⟨h - x.Y - x.H, x.X, x.H, x.W⟩
theorem Sep.mir_iff {w : Int} {l : List Label} (hx : ∀ x, x ∈ l → 1 ≤ x.W ∧ 1 ≤ x.H) : Sep (l.map (mir w)) ↔ Sep l := by
  constructor
  · intro h
    have := Sep.rel (u := mir w) (v := id) (P := fun x => 1 ≤ x.W ∧ 1 ≤ x.H) (fun c => ⟨⟨c.Up, bif c.Up then w - c.At else c.At⟩, c.Up, fun x hP hb => ?_⟩) h rfl hx
    · simpa using this
    · rw [bb_iff] at hb ⊢
      obtain ⟨up, a⟩ := c
      cases up with
      | true =>
        have hb : w - x.X - x.W + x.W ≤ a ∨ a ≤ w - x.X - x.W := hb
        refine ⟨?_, bnot ?_⟩
        · show x.X + x.W ≤ w - a ∨ w - a ≤ x.X
          omega
        · rw [before_iff, ← Bool.not_eq_true, before_iff]
          show x.X + x.W ≤ w - a ↔ ¬ w - x.X - x.W + x.W ≤ a
          omega
      | false =>
        have hb : x.Y + x.H ≤ a ∨ a ≤ x.Y := hb
        refine ⟨?_, bsame ?_⟩
        · show x.Y + x.H ≤ a ∨ a ≤ x.Y
          omega
        · rw [before_iff, before_iff]
          show x.Y + x.H ≤ a ↔ x.Y + x.H ≤ a
          omega
  · intro h
    refine Sep.rel (u := id) (v := mir w) (P := fun x => 1 ≤ x.W ∧ 1 ≤ x.H) (fun c => ⟨⟨c.Up, bif c.Up then w - c.At else c.At⟩, c.Up, fun x hP hb => ?_⟩) h (by simp) hx
    rw [bb_iff] at hb ⊢
    obtain ⟨up, a⟩ := c
    cases up with
    | true =>
      have hb : x.X + x.W ≤ a ∨ a ≤ x.X := hb
      refine ⟨?_, bnot ?_⟩
      · show w - x.X - x.W + x.W ≤ w - a ∨ w - a ≤ w - x.X - x.W
        omega
      · rw [before_iff, ← Bool.not_eq_true, before_iff]
        show w - x.X - x.W + x.W ≤ w - a ↔ ¬ x.X + x.W ≤ a
        omega
    | false =>
      have hb : x.Y + x.H ≤ a ∨ a ≤ x.Y := hb
      refine ⟨?_, bsame ?_⟩
      · show x.Y + x.H ≤ a ∨ a ≤ x.Y
        omega
      · rw [before_iff, before_iff]
        show x.Y + x.H ≤ a ↔ x.Y + x.H ≤ a
        omega
theorem Sep.trn_iff {h : Int} {l : List Label} (hx : ∀ x, x ∈ l → 1 ≤ x.W ∧ 1 ≤ x.H) : Sep (l.map (trn h)) ↔ Sep l := by
  constructor
  · intro hs
    have := Sep.rel (u := trn h) (v := id) (P := fun x => 1 ≤ x.W ∧ 1 ≤ x.H) (fun c => ⟨⟨!c.Up, bif c.Up then h - c.At else c.At⟩, c.Up, fun x hP hb => ?_⟩) hs rfl hx
    · simpa using this
    · rw [bb_iff] at hb ⊢
      obtain ⟨up, a⟩ := c
      cases up with
      | true =>
        have hb : h - x.Y - x.H + x.H ≤ a ∨ a ≤ h - x.Y - x.H := hb
        refine ⟨?_, bnot ?_⟩
        · show x.Y + x.H ≤ h - a ∨ h - a ≤ x.Y
          omega
        · rw [before_iff, ← Bool.not_eq_true, before_iff]
          show x.Y + x.H ≤ h - a ↔ ¬ h - x.Y - x.H + x.H ≤ a
          omega
      | false =>
        have hb : x.X + x.W ≤ a ∨ a ≤ x.X := hb
        refine ⟨?_, bsame ?_⟩
        · show x.X + x.W ≤ a ∨ a ≤ x.X
          omega
        · rw [before_iff, before_iff]
          show x.X + x.W ≤ a ↔ x.X + x.W ≤ a
          omega
  · intro hs
    refine Sep.rel (u := id) (v := trn h) (P := fun x => 1 ≤ x.W ∧ 1 ≤ x.H) (fun c => ⟨⟨!c.Up, bif c.Up then c.At else h - c.At⟩, !c.Up, fun x hP hb => ?_⟩) hs (by simp) hx
    rw [bb_iff] at hb ⊢
    obtain ⟨up, a⟩ := c
    cases up with
    | true =>
      have hb : x.X + x.W ≤ a ∨ a ≤ x.X := hb
      refine ⟨?_, bsame ?_⟩
      · show x.X + x.W ≤ a ∨ a ≤ x.X
        omega
      · rw [before_iff, before_iff]
        show x.X + x.W ≤ a ↔ x.X + x.W ≤ a
        omega
    | false =>
      have hb : x.Y + x.H ≤ a ∨ a ≤ x.Y := hb
      refine ⟨?_, bnot ?_⟩
      · show h - x.Y - x.H + x.H ≤ h - a ∨ h - a ≤ h - x.Y - x.H
        omega
      · rw [before_iff, ← Bool.not_eq_true, before_iff]
        show h - x.Y - x.H + x.H ≤ h - a ↔ ¬ x.Y + x.H ≤ a
        omega
def shr (less : A4u8N) (x : Label) : Label :=
  ⟨x.X + less.e0.tmod x.W, x.Y + less.e1.tmod x.H, (x.W - less.e0.tmod x.W) - less.e2.tmod (x.W - less.e0.tmod x.W), (x.H - less.e1.tmod x.H) - less.e3.tmod (x.H - less.e1.tmod x.H)⟩
theorem shr_in {less : A4u8N} (hl : less.ok) {x : Label} (hw : 1 ≤ x.W) (hh : 1 ≤ x.H) : 1 ≤ (shr less x).W ∧ 1 ≤ (shr less x).H ∧ x.X ≤ (shr less x).X ∧ x.Y ≤ (shr less x).Y ∧ (shr less x).X + (shr less x).W ≤ x.X + x.W ∧ (shr less x).Y + (shr less x).H ≤ x.Y + x.H := by
  obtain ⟨o0, o1, o2, o3⟩ := hl
  have m0 := tmod_in0 (n := less.e0) (m := x.W) o0.1 hw
  have m1 := tmod_in0 (n := less.e1) (m := x.H) o1.1 hh
  have m2 := tmod_in0 (n := less.e2) (m := x.W - less.e0.tmod x.W) o2.1 (by omega)
  have m3 := tmod_in0 (n := less.e3) (m := x.H - less.e1.tmod x.H) o3.1 (by omega)
  simp only [shr]
  omega
theorem planA_two {L : Layout} (h : MadeOK L) : (planA L).2 = 0 ∨ (planA L).2 = 14 := by
  unfold planA
  rw [if_pos h.check]
  cases (planS L).2 with
  | none => exact .inl rfl
  | some q => exact .inr rfl
theorem pairwise_map' {l : List Label} {g : Label → Label} (h : l.Pairwise Apart2) (hg : ∀ x y, x ∈ l → y ∈ l → Apart2 x y → Apart2 (g x) (g y)) : (l.map g).Pairwise Apart2 := by
  rw [List.pairwise_map]
  exact h.imp_of_mem fun ha hb hab => hg _ _ ha hb hab
theorem f9_true (p : Page) (hp : p.ok) (out : Int) (less : A4u8N) (hl : less.ok) (N : Nat) (hN : 100 + p.Labels.length < N) (hw : f13 N = some true) : f9 N p out less = some true := by
  obtain ⟨L, hL, hm⟩ := f32_made hp (N := N) (by omega)
  have h7 := hm.len
  have hwd := hm.w; have hht := hm.h
  have hf := hm.fits
  have hff : ∀ x, x ∈ L.Labels → 1 ≤ x.W ∧ 1 ≤ x.H ∧ 0 ≤ x.X ∧ 0 ≤ x.Y ∧ x.X + x.W ≤ L.W ∧ x.Y + x.H ≤ L.H := fun x hx => by
    have t := hf x hx
    have t1 := t.w; have t2 := t.h
    have t3 : 0 ≤ x.X := t.x0
    have t4 : 0 ≤ x.Y := t.y0
    have t5 : x.X + x.W ≤ 0 + L.W := t.x1
    have t6 : x.Y + x.H ≤ 0 + L.H := t.y1
    omega
  unfold f9
  rw [hL]
  simp only [Option.bind_some, joinK, f22_eq (N := N) (show L.Labels.length ≤ 30 by omega) (by omega)]
  have := loopI (F := fun n (s : List Label × List Label × List Label × List Label) j => f9_6 out less L (planA L) (f9_c18 N L (planA L)) n j s.1 s.2.1 s.2.2.1 s.2.2.2) L.Labels.length
    (fun i s => s.1.Sublist (L.Labels.take i) ∧ s.2.1 = (L.Labels.take i).map (shr less) ∧ s.2.2.1 = (L.Labels.take i).map (trn L.H) ∧ s.2.2.2 = ((L.Labels.take i).map (mir L.W)).reverse) (fun r => r = true)
    (fun n s i hI hi => by
      right
      obtain ⟨i1, i2, i3, i4⟩ := hI
      obtain ⟨a1, a2, a3, a4⟩ := s
      simp only at i1 i2 i3 i4
      subst i2 i3 i4
      have hx : L.Labels[i]? = some L.Labels[i] := by simp [hi]
      have fx := hff L.Labels[i] (List.getElem_mem hi)
      generalize L.Labels[i] = x at hx fx
      obtain ⟨t1, t2, t3, t4, t5, t6⟩ := fx
      have ht : L.Labels.take (i + 1) = L.Labels.take i ++ [x] := by rw [List.take_add_one, hx]; rfl
      have la : a1.length ≤ 7 := Nat.le_trans i1.length_le (by simp; omega)
      have lt : (L.Labels.take i).length ≤ 7 := by simp; omega
      obtain ⟨o0, o1, o2, o3⟩ := hl
      have m0 := tmod_in0 (n := less.e0) (m := x.W) o0.1 t1
      have m1 := tmod_in0 (n := less.e1) (m := x.H) o1.1 t2
      have m2 := tmod_in0 (n := less.e2) (m := x.W - less.e0.tmod x.W) o2.1 (by omega)
      have m3 := tmod_in0 (n := less.e3) (m := x.H - less.e1.tmod x.H) o3.1 (by omega)
      have e1 : W (L.W - x.X) = L.W - x.X := W_in (by omega) (by omega)
      have e2 : W (L.W - x.X - x.W) = L.W - x.X - x.W := W_in (by omega) (by omega)
      have e3 : W (L.H - x.Y) = L.H - x.Y := W_in (by omega) (by omega)
      have e4 : W (L.H - x.Y - x.H) = L.H - x.Y - x.H := W_in (by omega) (by omega)
      have e5 : W (x.W - less.e0.tmod x.W) = x.W - less.e0.tmod x.W := W_in (by omega) (by omega)
      have e6 : W (x.H - less.e1.tmod x.H) = x.H - less.e1.tmod x.H := W_in (by omega) (by omega)
      have e7 : W (x.X + less.e0.tmod x.W) = x.X + less.e0.tmod x.W := W_in (by omega) (by omega)
      have e8 : W (x.Y + less.e1.tmod x.H) = x.Y + less.e1.tmod x.H := W_in (by omega) (by omega)
      have e9 : W (x.W - less.e0.tmod x.W - less.e2.tmod (x.W - less.e0.tmod x.W)) = x.W - less.e0.tmod x.W - less.e2.tmod (x.W - less.e0.tmod x.W) := W_in (by omega) (by omega)
      have e10 : W (x.H - less.e1.tmod x.H - less.e3.tmod (x.H - less.e1.tmod x.H)) = x.H - less.e1.tmod x.H - less.e3.tmod (x.H - less.e1.tmod x.H) := W_in (by omega) (by omega)
      have c0 : chk (decide (x.W ≠ 0)) = some () := by rw [decide_eq_true (show x.W ≠ 0 by omega)]; rfl
      have c1 : chk (decide (x.H ≠ 0)) = some () := by rw [decide_eq_true (show x.H ≠ 0 by omega)]; rfl
      have c2 : chk (decide (x.W - less.e0.tmod x.W ≠ 0)) = some () := by rw [decide_eq_true (show x.W - less.e0.tmod x.W ≠ 0 by omega)]; rfl
      have c3 : chk (decide (x.H - less.e1.tmod x.H ≠ 0)) = some () := by rw [decide_eq_true (show x.H - less.e1.tmod x.H ≠ 0 by omega)]; rfl
      have key : ∀ b : List Label, f9_c10 out less L (planA L) (i : Int) ((L.Labels.take i).map (shr less)) ((L.Labels.take i).map (trn L.H)) ((L.Labels.take i).map (mir L.W)).reverse (f9_6 out less L (planA L) (f9_c18 N L (planA L)) n) x b = f9_6 out less L (planA L) (f9_c18 N L (planA L)) n ((i + 1 : Nat) : Int) b ((L.Labels.take (i + 1)).map (shr less)) ((L.Labels.take (i + 1)).map (trn L.H)) ((L.Labels.take (i + 1)).map (mir L.W)).reverse := by
        intro b
        unfold f9_c10
        simp only [e1, e2, e3, e4, e5, e6, e7, e8, e9, e10, c0, c1, c2, c3, Option.bind_some]
        rw [app_ok (by simp only [List.length_reverse, List.length_map, List.length_cons, List.length_nil]; omega) (by simp only [List.length_reverse, List.length_map, List.length_cons, List.length_nil]; omega), app_ok (by simp only [List.length_reverse, List.length_map, List.length_cons, List.length_nil]; omega) (by simp only [List.length_reverse, List.length_map, List.length_cons, List.length_nil]; omega)]
        simp only [Option.bind_some]
        rw [app_ok (by simp only [List.length_reverse, List.length_map, List.length_cons, List.length_nil]; omega) (by simp only [List.length_reverse, List.length_map, List.length_cons, List.length_nil]; omega)]
        simp only [Option.bind_some, W_nat (show i < 9223372036854775807 by omega), ht, List.map_append, List.reverse_append]
        rfl
      have step : ∀ b : List Label, b.Sublist (L.Labels.take (i + 1)) → ∃ s' : List Label × List Label × List Label × List Label, (s'.1.Sublist (L.Labels.take (i + 1)) ∧ s'.2.1 = (L.Labels.take (i + 1)).map (shr less) ∧ s'.2.2.1 = (L.Labels.take (i + 1)).map (trn L.H) ∧ s'.2.2.2 = ((L.Labels.take (i + 1)).map (mir L.W)).reverse) ∧ f9_6 out less L (planA L) (f9_c18 N L (planA L)) n ((i + 1 : Nat) : Int) b ((L.Labels.take (i + 1)).map (shr less)) ((L.Labels.take (i + 1)).map (trn L.H)) ((L.Labels.take (i + 1)).map (mir L.W)).reverse = f9_6 out less L (planA L) (f9_c18 N L (planA L)) n ((i + 1 : Nat) : Int) s'.1 s'.2.1 s'.2.2.1 s'.2.2.2 :=
        fun b hb => ⟨(b, _, _, _), ⟨hb, rfl, rfl, rfl⟩, rfl⟩
      have red : f9_6 out less L (planA L) (f9_c18 N L (planA L)) (n + 1) (i : Int) a1 ((L.Labels.take i).map (shr less)) ((L.Labels.take i).map (trn L.H)) ((L.Labels.take i).map (mir L.W)).reverse = bif decide ((bitsI .and .u8 (Int.fdiv out (2 ^ (min (Int.toNat (i : Int)) 8))) (1 : Int)) = (0 : Int)) then ((app 32 a1 [x]).bind fun x13 => f9_c10 out less L (planA L) (i : Int) ((L.Labels.take i).map (shr less)) ((L.Labels.take i).map (trn L.H)) ((L.Labels.take i).map (mir L.W)).reverse (f9_6 out less L (planA L) (f9_c18 N L (planA L)) n) x x13) else f9_c10 out less L (planA L) (i : Int) ((L.Labels.take i).map (shr less)) ((L.Labels.take i).map (trn L.H)) ((L.Labels.take i).map (mir L.W)).reverse (f9_6 out less L (planA L) (f9_c18 N L (planA L)) n) x a1 := by
        simp only [f9_6, f9_6b, decide_eq_true (show (i : Int) < (L.Labels.length : Int) by omega), cond_true, ix_nat, hx, Option.bind_some, joinK, decide_eq_true (show (0 : Int) ≤ (i : Int) by omega), chk]
      simp only
      rw [red]
      cases decide ((bitsI .and .u8 (Int.fdiv out (2 ^ (min (Int.toNat (i : Int)) 8))) (1 : Int)) = (0 : Int)) with
      | true =>
        rw [cond_true, app_ok (by simp only [List.length_cons, List.length_nil]; omega) (by simp only [List.length_cons, List.length_nil]; omega), Option.bind_some, key]
        exact step _ (by rw [ht]; exact i1.append (List.Sublist.refl _))
      | false =>
        rw [cond_false, key]
        exact step _ (i1.trans (by rw [ht]; exact List.sublist_append_left _ _)))
    (fun n s hI => by
      obtain ⟨i1, i2, i3, i4⟩ := hI
      obtain ⟨a1, a2, a3, a4⟩ := s
      simp only at i1 i2 i3 i4
      rw [List.take_length] at i1 i2 i3 i4
      subst i2 i3 i4
      refine ⟨true, ?_, rfl⟩
      have red : f9_6 out less L (planA L) (f9_c18 N L (planA L)) (n + 1) (L.Labels.length : Int) a1 (L.Labels.map (shr less)) (L.Labels.map (trn L.H)) (L.Labels.map (mir L.W)).reverse = f9_c18 N L (planA L) a1 (L.Labels.map (shr less)) (L.Labels.map (trn L.H)) (L.Labels.map (mir L.W)).reverse := by
        simp only [f9_6, f9_6b, decide_eq_false (show ¬ (L.Labels.length : Int) < (L.Labels.length : Int) by omega), cond_false]
      refine red.trans ?_
      have k1 : MadeOK ⟨L.W, L.H, a1⟩ := ⟨hwd, hht, Nat.le_trans i1.length_le h7, fun x hx => hf x (i1.subset hx), hm.apart.sublist i1⟩
      have k2 : MadeOK ⟨L.W, L.H, L.Labels.map (shr less)⟩ := ⟨hwd, hht, by simpa using h7, fun x hx => by
          obtain ⟨y, hy, rfl⟩ := List.mem_map.1 hx
          have t := hff y hy
          have u := shr_in hl t.1 t.2.1
          exact ⟨u.1, u.2.1, by show 0 ≤ _; omega, by show 0 ≤ _; omega, by show _ ≤ 0 + L.W; omega, by show _ ≤ 0 + L.H; omega⟩, pairwise_map' hm.apart fun x y hx hy ha => by
          have t := hff x hx; have t' := hff y hy
          have u := shr_in hl t.1 t.2.1; have u' := shr_in hl t'.1 t'.2.1
          unfold Apart2 at ha ⊢
          omega⟩
      have k3 : MadeOK ⟨L.H, L.W, L.Labels.map (trn L.H)⟩ := ⟨hht, hwd, by simpa using h7, fun x hx => by
          obtain ⟨y, hy, rfl⟩ := List.mem_map.1 hx
          have t := hff y hy
          exact ⟨by show 1 ≤ y.H; omega, by show 1 ≤ y.W; omega, by show 0 ≤ L.H - y.Y - y.H; omega, by show 0 ≤ y.X; omega, by show L.H - y.Y - y.H + y.H ≤ 0 + L.H; omega, by show y.X + y.W ≤ 0 + L.W; omega⟩, pairwise_map' hm.apart fun x y hx hy ha => by
          unfold Apart2 at ha ⊢
          simp only [trn]
          omega⟩
      have k4 : MadeOK ⟨L.W, L.H, (L.Labels.map (mir L.W)).reverse⟩ := ⟨hwd, hht, by simpa using h7, fun x hx => by
          obtain ⟨y, hy, rfl⟩ := List.mem_map.1 (List.mem_reverse.1 hx)
          have t := hff y hy
          exact ⟨by show 1 ≤ y.W; omega, by show 1 ≤ y.H; omega, by show 0 ≤ L.W - y.X - y.W; omega, by show 0 ≤ y.Y; omega, by show L.W - y.X - y.W + y.W ≤ 0 + L.W; omega, by show y.Y + y.H ≤ 0 + L.H; omega⟩, by
          rw [List.pairwise_reverse]
          exact (pairwise_map' hm.apart fun x y hx hy ha => by
            unfold Apart2 at ha ⊢
            simp only [mir]
            omega).imp Apart2.symm⟩
      have pos : ∀ x, x ∈ L.Labels → 1 ≤ x.W ∧ 1 ≤ x.H := fun x hx => ⟨(hff x hx).1, (hff x hx).2.1⟩
      have z0 := plan_zero hm
      have z1 : (planA L).2 = 0 → (planA ⟨L.W, L.H, a1⟩).2 = 0 := fun h => (plan_zero k1).2 ((z0.1 h).sub i1)
      have z2 : (planA L).2 = 0 → (planA ⟨L.W, L.H, L.Labels.map (shr less)⟩).2 = 0 := fun h => (plan_zero k2).2 ((z0.1 h).less _ fun x hx => shr_in hl (pos x hx).1 (pos x hx).2)
      have z3 : (planA ⟨L.H, L.W, L.Labels.map (trn L.H)⟩).2 = 0 ↔ (planA L).2 = 0 := (plan_zero k3).trans ((Sep.trn_iff pos).trans z0.symm)
      have z4 : (planA ⟨L.W, L.H, (L.Labels.map (mir L.W)).reverse⟩).2 = 0 ↔ (planA L).2 = 0 := (plan_zero k4).trans ((show Sep (L.Labels.map (mir L.W)).reverse ↔ Sep (L.Labels.map (mir L.W)) from ⟨fun h => h.perm (List.reverse_perm _), fun h => h.perm (List.reverse_perm _).symm⟩).trans ((Sep.mir_iff pos).trans z0.symm))
      unfold f9_c18
      simp only [f22_eq (N := N) (L := ⟨L.W, L.H, a1⟩) (Nat.le_trans k1.len (by omega)) (by omega), f22_eq (N := N) (L := ⟨L.W, L.H, L.Labels.map (shr less)⟩) (Nat.le_trans k2.len (by omega)) (by omega), f22_eq (N := N) (L := ⟨L.H, L.W, L.Labels.map (trn L.H)⟩) (Nat.le_trans k3.len (by omega)) (by omega), f22_eq (N := N) (L := ⟨L.W, L.H, (L.Labels.map (mir L.W)).reverse⟩) (Nat.le_trans k4.len (by omega)) (by omega), Option.bind_some, joinK]
      have y0 := planA_two hm; have y1 := planA_two k1; have y2 := planA_two k2; have y3 := planA_two k3; have y4 := planA_two k4
      generalize planA ⟨L.W, L.H, a1⟩ = q1 at *
      generalize planA ⟨L.W, L.H, L.Labels.map (shr less)⟩ = q2 at *
      generalize planA ⟨L.H, L.W, L.Labels.map (trn L.H)⟩ = q3 at *
      generalize planA ⟨L.W, L.H, (L.Labels.map (mir L.W)).reverse⟩ = q4 at *
      generalize planA L = q0 at *
      clear red
      obtain ⟨u0, v0⟩ := q0; obtain ⟨u1, v1⟩ := q1; obtain ⟨u2, v2⟩ := q2; obtain ⟨u3, v3⟩ := q3; obtain ⟨u4, v4⟩ := q4
      simp only at y0 y1 y2 y3 y4 z1 z2 z3 z4 ⊢
      have e3 : v3 = v0 := by omega
      have e4 : v4 = v0 := by omega
      subst e3 e4
      unfold f9_c24
      rcases y0 with rfl | rfl
      · rw [z1 rfl, z2 rfl]; simp [hw]
      · rcases y1 with rfl | rfl <;> rcases y2 with rfl | rfl <;> simp [hw])
    N ([], [], [], []) 0 ⟨List.Sublist.refl _, rfl, rfl, rfl⟩ (Nat.zero_le _) (by omega)
  obtain ⟨r, h1, h2⟩ := this
  subst h2
  exact h1
end Go.Vc
namespace Go.Vc
open Go.Proofs
set_option linter.unusedVariables false
set_option linter.unnecessarySimpa false
set_option linter.unusedSimpArgs false
def f11_c35 (N : Nat) : Option (Bool) :=
 (f13 N ).bind fun x11 =>
 some (x11)
def f11_c34 (a2 : A2u8N) (x1 : List Kind) (x4 : Int × Int) (v232 : Int) (r24 : Int → Option (Bool)) : Option (Bool) :=
 r24 (W (v232 + (1 : Int)))
def f11_c32 (a2 : A2u8N) (x1 : List Kind) (x4 : Int × Int) (v232 : Int) (k1 : Option (Bool)) (x12 : Kind) (v31 : Bool) : Option (Bool) :=
 bif v31 then (bif decide ((W ((W (x12.Value * (W ((2 : Int) + (Int.tmod a2.e0 (7 : Int)))))) * (W ((1 : Int) + (Int.tmod a2.e1 (8 : Int)))))) < (W ((W (x4.1 * x12.W)) * x12.H))) then (some (false))
 else k1)
 else k1
def f11_28b (r28 : Bool → Int → Option (Bool)) (a2 : A2u8N) (x1 : List Kind) (x4 : Int × Int) (v232 : Int) (x12 : Kind) (k2 : Bool → Option (Bool)) (v31 : Bool) (v238 : Int) : Option (Bool) :=
 bif decide (v238 < (List.length x1 : Int)) then ((ix x1 v238).bind fun x13 =>
 bif v31 then (r28 (decide ((W ((W (x13.Value * x12.W)) * x12.H)) ≤ (W ((W (x12.Value * x13.W)) * x13.H)))) (W (v238 + (1 : Int))))
 else (r28 false (W (v238 + (1 : Int)))))
 else (k2 v31)
def f11_28 (a2 : A2u8N) (x1 : List Kind) (x4 : Int × Int) (v232 : Int) (x12 : Kind) (k2 : Bool → Option (Bool)) : Nat → Bool → Int → Option (Bool)
  | 0, _, _ => none
  | n + 1, v31, v238 => f11_28b (f11_28 a2 x1 x4 v232 x12 k2 n) a2 x1 x4 v232 x12 k2 v31 v238
def f11_24b (r24 : Int → Option (Bool)) (a2 : A2u8N) (N : Nat) (x1 : List Kind) (x4 : Int × Int) (k0 : Option (Bool)) (v232 : Int) : Option (Bool) :=
 bif decide (v232 < (List.length x1 : Int)) then (joinK (f11_c34 a2 x1 x4 v232 r24) fun k1 =>
 (ix x1 v232).bind fun x12 =>
 joinK (f11_c32 a2 x1 x4 v232 k1 x12) fun k2 =>
 f11_28 a2 x1 x4 v232 x12 k2 N true (0 : Int))
 else k0
def f11_24 (a2 : A2u8N) (N : Nat) (x1 : List Kind) (x4 : Int × Int) (k0 : Option (Bool)) : Nat → Int → Option (Bool)
  | 0, _ => none
  | n + 1, v232 => f11_24b (f11_24 a2 N x1 x4 k0 n) a2 N x1 x4 k0 v232
def f11_c11 (a1 : A3u8N) (a2 : A2u8N) (a3 : Int) (N : Nat) (x1 : List Kind) (v13 : List Kind) (v14 : List Kind) : Option (Bool) :=
 (app 24 [] x1).bind fun x2 =>
 (app 24 x2 [(Kind.mk (W ((1 : Int) + (Int.tmod a1.e0 (5 : Int)))) (W ((1 : Int) + (Int.tmod a1.e1 (5 : Int)))) a1.e2)]).bind fun x3 =>
 (f29 N (W ((2 : Int) + (Int.tmod a2.e0 (7 : Int)))) (W ((1 : Int) + (Int.tmod a2.e1 (8 : Int)))) x1).bind fun x4 =>
 (f29 N (W ((W ((2 : Int) + (Int.tmod a2.e0 (7 : Int)))) + (1 : Int))) (W ((1 : Int) + (Int.tmod a2.e1 (8 : Int)))) x1).bind fun x5 =>
 (f29 N (W ((2 : Int) + (Int.tmod a2.e0 (7 : Int)))) (W ((1 : Int) + (Int.tmod a2.e1 (8 : Int)))) v13).bind fun x6 =>
 (f29 N (W ((2 : Int) + (Int.tmod a2.e0 (7 : Int)))) (W ((1 : Int) + (Int.tmod a2.e1 (8 : Int)))) x3).bind fun x7 =>
 bif decide (¬ x4.2 = (0 : Int)) then (some (false))
 else (bif decide (¬ x5.2 = (0 : Int)) then (some (false))
 else (bif decide (¬ x6.2 = (0 : Int)) then (some (false))
 else (bif decide (¬ x7.2 = (0 : Int)) then (some (false))
 else (bif decide (x5.1 < x4.1) then (some (false))
 else (bif decide (x6.1 < x4.1) then (some (false))
 else (bif decide (x7.1 < x4.1) then (some (false))
 else (bif decide (x4.1 < (0 : Int)) then (some (false))
 else (bif decide ((5000 : Int) < x4.1) then (some (false))
 else ((f29 N (W ((1 : Int) + (Int.tmod a3 (W ((W ((2 : Int) + (Int.tmod a2.e0 (7 : Int)))) - (1 : Int)))))) (W ((1 : Int) + (Int.tmod a2.e1 (8 : Int)))) x1).bind fun x8 =>
 (f29 N (W ((W ((2 : Int) + (Int.tmod a2.e0 (7 : Int)))) - (W ((1 : Int) + (Int.tmod a3 (W ((W ((2 : Int) + (Int.tmod a2.e0 (7 : Int)))) - (1 : Int)))))))) (W ((1 : Int) + (Int.tmod a2.e1 (8 : Int)))) x1).bind fun x9 =>
 (f29 N (W ((1 : Int) + (Int.tmod a2.e1 (8 : Int)))) (W ((2 : Int) + (Int.tmod a2.e0 (7 : Int)))) v14).bind fun x10 =>
 bif decide (¬ x8.2 = (0 : Int)) then (some (false))
 else (bif decide (¬ x9.2 = (0 : Int)) then (some (false))
 else (bif decide (¬ x10.2 = (0 : Int)) then (some (false))
 else (bif decide (x8.1 < (0 : Int)) then (some (false))
 else (bif decide ((5000 : Int) < x8.1) then (some (false))
 else (bif decide (x9.1 < (0 : Int)) then (some (false))
 else (bif decide ((5000 : Int) < x9.1) then (some (false))
 else (bif decide (x4.1 < (W (x8.1 + x9.1))) then (some (false))
 else (bif decide (¬ x10.1 = x4.1) then (some (false))
 else (joinK (f11_c35 N) fun k0 =>
 f11_24 a2 N x1 x4 k0 N (0 : Int)))))))))))))))))))
def f11_6b (r6 : (List Kind) → (List Kind) → Int → Option (Bool)) (a1 : A3u8N) (a2 : A2u8N) (a3 : Int) (x1 : List Kind) (k3 : (List Kind) → (List Kind) → Option (Bool)) (v13 : List Kind) (v14 : List Kind) (v54 : Int) : Option (Bool) :=
 bif decide (v54 < (List.length x1 : Int)) then ((ix x1 v54).bind fun x14 =>
 (app 24 v13 [(Kind.mk x14.W x14.H (W (x14.Value + (Int.tmod a1.e2 (5 : Int)))))]).bind fun x15 =>
 (app 24 v14 [(Kind.mk x14.H x14.W x14.Value)]).bind fun x16 =>
 r6 x15 x16 (W (v54 + (1 : Int))))
 else (k3 v13 v14)
def f11_6 (a1 : A3u8N) (a2 : A2u8N) (a3 : Int) (x1 : List Kind) (k3 : (List Kind) → (List Kind) → Option (Bool)) : Nat → (List Kind) → (List Kind) → Int → Option (Bool)
  | 0, _, _, _ => none
  | n + 1, v13, v14, v54 => f11_6b (f11_6 a1 a2 a3 x1 k3 n) a1 a2 a3 x1 k3 v13 v14 v54
def f11 (N : Nat) (a0 : List A3u8N) (a1 : A3u8N) (a2 : A2u8N) (a3 : Int) : Option (Bool) :=
 (f37 N a0).bind fun x1 =>
 (chk (decide ((W ((W ((2 : Int) + (Int.tmod a2.e0 (7 : Int)))) - (1 : Int))) ≠ 0))).bind fun _ =>
 joinK (f11_c11 a1 a2 a3 N x1) fun k3 =>
 f11_6 a1 a2 a3 x1 k3 N [] [] (0 : Int)
end Go.Vc
/-
  PLAIN LAWS OF CUT, 19: the best worth: greater sheets, greater values, more kinds, turned kinds, the area.
-/
namespace Go.Vc
set_option linter.unusedVariables false
set_option linter.unnecessarySimpa false
set_option linter.unusedSimpArgs false
set_option linter.unusedSimpArgs false

theorem bestV_le' {w h : Int} : ∀ (l : List Kind) (o : Int), o ≤ bestV w h l o
  | [], o => Int.le_refl _
  | k :: r, o => by
    simp only [bestV]
    split
    · have := bestV_le' (w := w) (h := h) r (max o k.Value); omega
    · exact bestV_le' r o
theorem bestV_mem {w h : Int} : ∀ (l : List Kind) (o : Int), bestV w h l o = o ∨ ∃ k, k ∈ l ∧ k.W = w ∧ k.H = h ∧ bestV w h l o = k.Value
  | [], o => .inl rfl
  | k :: r, o => by
    simp only [bestV]
    by_cases c : k.W = w ∧ k.H = h
    · rw [if_pos c]
      rcases bestV_mem (w := w) (h := h) r (max o k.Value) with e | ⟨k', h1, h2, h3, h4⟩
      · by_cases d : k.Value ≤ o
        · exact .inl (by rw [e]; omega)
        · exact .inr ⟨k, List.mem_cons_self, c.1, c.2, by rw [e]; omega⟩
      · exact .inr ⟨k', List.mem_cons_of_mem _ h1, h2, h3, h4⟩
    · rw [if_neg c]
      rcases bestV_mem (w := w) (h := h) r o with e | ⟨k', h1, h2, h3, h4⟩
      · exact .inl e
      · exact .inr ⟨k', List.mem_cons_of_mem _ h1, h2, h3, h4⟩
theorem bestV_ge {w h : Int} {k : Kind} (h1 : k.W = w) (h2 : k.H = h) : ∀ (l : List Kind) (o : Int), k ∈ l → k.Value ≤ bestV w h l o
  | [], _, hm => by cases hm
  | x :: r, o, hm => by
    simp only [bestV]
    rcases List.mem_cons.1 hm with rfl | hm
    · rw [if_pos ⟨h1, h2⟩]
      have := bestV_le' (w := w) (h := h) r (max o k.Value); omega
    · split
      · exact bestV_ge h1 h2 r _ hm
      · exact bestV_ge h1 h2 r _ hm
theorem try_ge {x y : Choice} {c : Cut} {s : Choice} : s.worth ≤ (tryC x y c s).worth ∧ W (x.worth + y.worth) ≤ (tryC x y c s).worth := by
  unfold tryC
  cases hb : betterB (joinC x y c) s with
  | true =>
    rw [cond_true]
    unfold betterB at hb
    rw [Bool.or_eq_true, Bool.and_eq_true, decide_eq_true_iff, decide_eq_true_iff] at hb
    refine ⟨?_, Int.le_refl _⟩
    rcases hb with hb | ⟨hb, _⟩ <;> omega
  | false =>
    rw [cond_false]
    unfold betterB at hb
    rw [Bool.or_eq_false_iff, decide_eq_false_iff_not] at hb
    have : (joinC x y c).worth = W (x.worth + y.worth) := rfl
    omega
theorem iter_ge {f : Nat → Choice → Choice} {g : Nat → Int} : ∀ (m : Nat) (s : Choice), (∀ i s, 1 ≤ i → i < m → s.worth ≤ (f i s).worth ∧ g i ≤ (f i s).worth) → s.worth ≤ (iter f m s).worth ∧ ∀ i, 1 ≤ i → i < m → g i ≤ (iter f m s).worth
  | 0, s, _ => ⟨Int.le_refl _, fun i _ h => by omega⟩
  | 1, s, _ => ⟨Int.le_refl _, fun i _ h => by omega⟩
  | m + 2, s, hf => by
    rw [iter_succ f (m + 1) s (by omega)]
    obtain ⟨h1, h2⟩ := iter_ge (g := g) (m + 1) s fun i s a b => hf i s a (by omega)
    obtain ⟨h3, h4⟩ := hf (m + 1) (iter f (m + 1) s) (by omega) (by omega)
    refine ⟨by omega, fun i a b => ?_⟩
    by_cases e : i = m + 1
    · subst e; exact h4
    · have := h2 i a (by omega); omega
def V (ks : List Kind) (a b : Nat) : Int := (best ks a b).worth
theorem V_bd {ks : List Kind} (hok : kindsS ks = 0) {a b : Nat} (ha : 1 ≤ a) (hb : 1 ≤ b) (ha2 : a ≤ 12) (hb2 : b ≤ 12) : 0 ≤ V ks a b ∧ V ks a b ≤ 144000 := by
  have h := (best_props hok (a + b) a b (Nat.le_refl _) ha hb ha2 hb2).1
  have har := area ha2 hb2
  have h0 := h.w0; have h1 := h.w1
  exact ⟨h0, by show (best ks a b).worth ≤ _; omega⟩
theorem V_lo {ks : List Kind} (hok : kindsS ks = 0) {a b : Nat} (ha : 1 ≤ a) (hb : 1 ≤ b) (ha2 : a ≤ 12) (hb2 : b ≤ 12) :
    bestV a b ks 0 ≤ V ks a b ∧ (∀ i, 1 ≤ i → i < a → V ks i b + V ks (a - i) b ≤ V ks a b) ∧ (∀ i, 1 ≤ i → i < b → V ks a i + V ks a (b - i) ≤ V ks a b) := by
  have e : V ks a b = (iter (stepY (best ks) a b) b (iter (stepX (best ks) a b) a (startC ks a b))).worth := by
    unfold V
    rw [best_eq ha hb]; rfl
  obtain ⟨y1, y2⟩ := iter_ge (f := stepY (best ks) a b) (g := fun i => W (V ks a i + V ks a (b - i))) b (iter (stepX (best ks) a b) a (startC ks a b)) fun i s _ _ => try_ge
  obtain ⟨x1, x2⟩ := iter_ge (f := stepX (best ks) a b) (g := fun i => W (V ks i b + V ks (a - i) b)) a (startC ks a b) fun i s _ _ => try_ge
  rw [← e] at y1 y2
  refine ⟨?_, fun i h1 h2 => ?_, fun i h1 h2 => ?_⟩
  · have : bestV a b ks 0 ≤ (startC ks a b).worth := by
      unfold startC
      cases hd : decide (0 < bestV (a : Int) (b : Int) ks 0) with
      | true => exact Int.le_refl _
      | false =>
        rw [decide_eq_false_iff_not] at hd
        show _ ≤ (0 : Int)
        omega
    omega
  · have hx := x2 i h1 h2
    have v1 := V_bd hok h1 hb (show i ≤ 12 by omega) hb2
    have v2 := V_bd hok (show 1 ≤ a - i by omega) hb (show a - i ≤ 12 by omega) hb2
    have : W (V ks i b + V ks (a - i) b) = V ks i b + V ks (a - i) b := W_in (by omega) (by omega)
    simp only [this] at hx
    omega
  · have hy := y2 i h1 h2
    have v1 := V_bd hok ha h1 ha2 (show i ≤ 12 by omega)
    have v2 := V_bd hok ha (show 1 ≤ b - i by omega) ha2 (show b - i ≤ 12 by omega)
    have : W (V ks a i + V ks a (b - i)) = V ks a i + V ks a (b - i) := W_in (by omega) (by omega)
    simp only [this] at hy
    omega
/-- an upper bound of the best worth by its recursion -/
theorem V_le {ks : List Kind} (hok : kindsS ks = 0) {U : Nat → Nat → Int} (h0 : ∀ a b, 0 ≤ U a b) (hk : ∀ (a b : Nat) k, k ∈ ks → k.W = (a : Int) → k.H = (b : Int) → k.Value ≤ U a b)
    (hx : ∀ i j b, 1 ≤ i → 1 ≤ j → 1 ≤ b → i + j ≤ 12 → b ≤ 12 → U i b + U j b ≤ U (i + j) b) (hy : ∀ a i j, 1 ≤ a → 1 ≤ i → 1 ≤ j → a ≤ 12 → i + j ≤ 12 → U a i + U a j ≤ U a (i + j)) :
    ∀ (n a b : Nat), a + b ≤ n → 1 ≤ a → 1 ≤ b → a ≤ 12 → b ≤ 12 → V ks a b ≤ U a b := by
  intro n
  induction n with
  | zero => intro a b h ha; omega
  | succ n ih =>
    intro a b hn ha hb ha2 hb2
    unfold V
    cases (best_props hok (a + b) a b (Nat.le_refl _) ha hb ha2 hb2).2 with
    | sold h h1 h2 h3 =>
      rw [h1]
      rcases bestV_mem (w := (a : Int)) (h := (b : Int)) ks 0 with e | ⟨k, g1, g2, g3, g4⟩
      · rw [e]; exact h0 a b
      · rw [g4]; exact hk a b k g1 g2 g3
    | up h i h1 h2 h3 h4 h5 =>
      rw [h4]
      have a1 := ih i b (by omega) h1 hb (by omega) hb2
      have a2 := ih (a - i) b (by omega) (by omega) hb (by omega) hb2
      have a3 := hx i (a - i) b h1 (by omega) hb (by omega) hb2
      rw [show i + (a - i) = a by omega] at a3
      unfold V at a1 a2
      omega
    | lie h i h1 h2 h3 h4 h5 =>
      rw [h4]
      have a1 := ih a i (by omega) ha h1 ha2 (by omega)
      have a2 := ih a (b - i) (by omega) ha (by omega) ha2 (by omega)
      have a3 := hy a i (b - i) ha h1 (by omega) ha2 (by omega)
      rw [show i + (b - i) = b by omega] at a3
      unfold V at a1 a2
      omega
    | none h => rw [h]; exact h0 a b
/-- greater values, more kinds -/
theorem V_mono {ks ks' : List Kind} (hok : kindsS ks = 0) (hok' : kindsS ks' = 0) (h : ∀ k, k ∈ ks → ∃ k', k' ∈ ks' ∧ k'.W = k.W ∧ k'.H = k.H ∧ k.Value ≤ k'.Value) {a b : Nat} (ha : 1 ≤ a) (hb : 1 ≤ b) (ha2 : a ≤ 12) (hb2 : b ≤ 12) : V ks a b ≤ V ks' a b := by
  have := V_le hok (U := fun a b => if 1 ≤ a ∧ 1 ≤ b ∧ a ≤ 12 ∧ b ≤ 12 then V ks' a b else 1000)
    (fun a b => by
      split
      · rename_i c; exact (V_bd hok' c.1 c.2.1 c.2.2.1 c.2.2.2).1
      · omega)
    (fun a b k hk h1 h2 => by
      have hkk := kindsS_ok hok k hk
      unfold okKind at hkk
      simp only [Bool.and_eq_true, decide_eq_true_iff] at hkk
      rw [if_pos (by omega)]
      obtain ⟨k', g1, g2, g3, g4⟩ := h k hk
      have := bestV_ge (w := (a : Int)) (h := (b : Int)) (k := k') (by omega) (by omega) ks' 0 g1
      have := (V_lo hok' (a := a) (b := b) (by omega) (by omega) (by omega) (by omega)).1
      omega)
    (fun i j b hi hj hb h1 h2 => by
      rw [if_pos (by omega), if_pos (by omega), if_pos (by omega)]
      have := (V_lo hok' (a := i + j) (b := b) (by omega) (by omega) (by omega) (by omega)).2.1 i hi (by omega)
      rw [show i + j - i = j by omega] at this
      exact this)
    (fun a i j ha hi hj h1 h2 => by
      rw [if_pos (by omega), if_pos (by omega), if_pos (by omega)]
      have := (V_lo hok' (a := a) (b := i + j) (by omega) (by omega) (by omega) (by omega)).2.2 i hi (by omega)
      rw [show i + j - i = j by omega] at this
      exact this)
    (a + b) a b (Nat.le_refl _) ha hb ha2 hb2
  rw [if_pos ⟨ha, hb, ha2, hb2⟩] at this
  exact this
/-- turned kinds -/
theorem V_turn {ks ks' : List Kind} (hok : kindsS ks = 0) (hok' : kindsS ks' = 0) (h : ∀ k, k ∈ ks → ∃ k', k' ∈ ks' ∧ k'.W = k.H ∧ k'.H = k.W ∧ k.Value ≤ k'.Value) {a b : Nat} (ha : 1 ≤ a) (hb : 1 ≤ b) (ha2 : a ≤ 12) (hb2 : b ≤ 12) : V ks a b ≤ V ks' b a := by
  have := V_le hok (U := fun a b => if 1 ≤ a ∧ 1 ≤ b ∧ a ≤ 12 ∧ b ≤ 12 then V ks' b a else 1000)
    (fun a b => by
      split
      · rename_i c; exact (V_bd hok' c.2.1 c.1 c.2.2.2 c.2.2.1).1
      · omega)
    (fun a b k hk h1 h2 => by
      have hkk := kindsS_ok hok k hk
      unfold okKind at hkk
      simp only [Bool.and_eq_true, decide_eq_true_iff] at hkk
      rw [if_pos (by omega)]
      obtain ⟨k', g1, g2, g3, g4⟩ := h k hk
      have := bestV_ge (w := (b : Int)) (h := (a : Int)) (k := k') (by omega) (by omega) ks' 0 g1
      have := (V_lo hok' (a := b) (b := a) (by omega) (by omega) (by omega) (by omega)).1
      omega)
    (fun i j b hi hj hb h1 h2 => by
      rw [if_pos (by omega), if_pos (by omega), if_pos (by omega)]
      have := (V_lo hok' (a := b) (b := i + j) (by omega) (by omega) (by omega) (by omega)).2.2 i hi (by omega)
      rw [show i + j - i = j by omega] at this
      exact this)
    (fun a i j ha hi hj h1 h2 => by
      rw [if_pos (by omega), if_pos (by omega), if_pos (by omega)]
      have := (V_lo hok' (a := i + j) (b := a) (by omega) (by omega) (by omega) (by omega)).2.1 i hi (by omega)
      rw [show i + j - i = j by omega] at this
      exact this)
    (a + b) a b (Nat.le_refl _) ha hb ha2 hb2
  rw [if_pos ⟨ha, hb, ha2, hb2⟩] at this
  exact this
/-- the area -/
theorem V_area {ks : List Kind} (hok : kindsS ks = 0) {A B : Int} (hA : 1 ≤ A) (hB : 0 ≤ B) (h : ∀ k, k ∈ ks → k.Value * A ≤ B * (k.W * k.H)) {a b : Nat} (ha : 1 ≤ a) (hb : 1 ≤ b) (ha2 : a ≤ 12) (hb2 : b ≤ 12) : V ks a b * A ≤ B * ((a : Int) * (b : Int)) := by
  have := V_le hok (U := fun a b => (B * ((a : Int) * (b : Int))) / A)
    (fun a b => Int.ediv_nonneg (Int.mul_nonneg hB (Int.mul_nonneg (by omega) (by omega))) (by omega))
    (fun a b k hk h1 h2 => by
      rw [Int.le_ediv_iff_mul_le (by omega)]
      have := h k hk
      rw [h1, h2] at this
      exact this)
    (fun i j b hi hj hb h1 h2 => by
      rw [Int.le_ediv_iff_mul_le (by omega), Int.add_mul, Int.natCast_add, Int.add_mul, Int.mul_add]
      have := Int.ediv_mul_le (B * ((i : Int) * (b : Int))) (show A ≠ 0 by omega)
      have := Int.ediv_mul_le (B * ((j : Int) * (b : Int))) (show A ≠ 0 by omega)
      omega)
    (fun a i j ha hi hj h1 h2 => by
      rw [Int.le_ediv_iff_mul_le (by omega), Int.add_mul, Int.natCast_add, Int.mul_add, Int.mul_add]
      have := Int.ediv_mul_le (B * ((a : Int) * (i : Int))) (show A ≠ 0 by omega)
      have := Int.ediv_mul_le (B * ((a : Int) * (j : Int))) (show A ≠ 0 by omega)
      omega)
    (a + b) a b (Nat.le_refl _) ha hb ha2 hb2
  rw [Int.le_ediv_iff_mul_le (by omega)] at this
  exact this
theorem V_wide {ks : List Kind} (hok : kindsS ks = 0) {a b : Nat} (ha : 1 ≤ a) (hb : 1 ≤ b) (ha2 : a + 1 ≤ 12) (hb2 : b ≤ 12) : V ks a b ≤ V ks (a + 1) b := by
  have h1 := (V_lo hok (a := a + 1) (b := b) (by omega) hb ha2 hb2).2.1 a ha (by omega)
  have h2 := V_bd hok (a := a + 1 - a) (b := b) (by omega) hb (by omega) hb2
  omega
/-! shops -/
structure Shop (ks : List Kind) : Prop where
  pos : 1 ≤ ks.length
  len : ks.length ≤ 4
  ok : ∀ k, k ∈ ks → 1 ≤ k.W ∧ k.W ≤ 4 ∧ 1 ≤ k.H ∧ k.H ≤ 4 ∧ 0 ≤ k.Value ∧ k.Value ≤ 30
theorem kinds_ok {ks : List Kind} (h1 : 1 ≤ ks.length) (h2 : ks.length ≤ 6) (h : ∀ k, k ∈ ks → 1 ≤ k.W ∧ k.W ≤ 12 ∧ 1 ≤ k.H ∧ k.H ≤ 12 ∧ 0 ≤ k.Value ∧ k.Value ≤ 1000) : kindsS ks = 0 := by
  unfold kindsS
  rw [if_neg (by omega), if_neg (by omega)]
  have : ks.any (fun k => !okKind k) = false := by
    rw [List.any_eq_false]
    intro k hk
    have := h k hk
    unfold okKind
    simp only [Bool.not_eq_true, Bool.not_eq_false', Bool.and_eq_true, decide_eq_true_iff]
    omega
  rw [this]; rfl
theorem Shop.kinds {ks : List Kind} (h : Shop ks) : kindsS ks = 0 := kinds_ok h.pos (by have := h.len; omega) fun k hk => by have := h.ok k hk; omega
theorem f37_eq {N : Nat} {s : List A3u8N} (hs : ∀ x, x ∈ s → x.ok) (hN : 100 < N) : ∃ ks, f37 N s = some ks ∧ Shop ks := by
  have fin : ∀ ks : List Kind, ks.length ≤ 4 → (∀ k, k ∈ ks → 1 ≤ k.W ∧ k.W ≤ 4 ∧ 1 ≤ k.H ∧ k.H ≤ 4 ∧ 0 ≤ k.Value ∧ k.Value ≤ 30) → ∃ r, f37_c6 N ks = some r ∧ Shop r := by
    intro ks h1 h2
    unfold f37_c6
    by_cases c : ks.length = 0
    · rw [decide_eq_true (show (ks.length : Int) = 0 by omega), cond_true]
      obtain ⟨n, rfl⟩ : ∃ n, N = n + 30 := ⟨N - 30, by omega⟩
      exact ⟨[⟨2, 1, 3⟩], rfl, ⟨by decide, by decide, fun k hk => by simp at hk; subst hk; decide⟩⟩
    · rw [decide_eq_false (show ¬ (ks.length : Int) = 0 by omega), cond_false]
      exact ⟨ks, rfl, ⟨by omega, h1, h2⟩⟩
  have go : ∀ (m n : Nat) (i : Nat) (out : List Kind), m + i = 4 → out.length = i → (∀ k, k ∈ out → 1 ≤ k.W ∧ k.W ≤ 4 ∧ 1 ≤ k.H ∧ k.H ≤ 4 ∧ 0 ≤ k.Value ∧ k.Value ≤ 30) → m < n → ∃ r, f37_3 s (f37_c6 N) n out (i : Int) = some r ∧ Shop r := by
    intro m
    induction m with
    | zero =>
      intro n i out hm hl ho hn
      obtain ⟨n, rfl⟩ : ∃ k, n = k + 1 := ⟨n - 1, by omega⟩
      simp only [f37_3, f37_3b]
      rw [decide_eq_false (show ¬ (i : Int) < 4 by omega), cond_false]
      cases decide ((i : Int) < (s.length : Int)) <;> exact fin out (by omega) ho
    | succ m ih =>
      intro n i out hm hl ho hn
      obtain ⟨n, rfl⟩ : ∃ k, n = k + 1 := ⟨n - 1, by omega⟩
      simp only [f37_3, f37_3b]
      rw [decide_eq_true (show (i : Int) < 4 by omega), cond_true]
      by_cases c : i < s.length
      · rw [decide_eq_true (show (i : Int) < (s.length : Int) by omega), cond_true]
        have hx : s[i]? = some s[i] := by simp [c]
        have hok := hs s[i] (List.getElem_mem c)
        generalize s[i] = x at hx hok
        obtain ⟨o0, o1, o2⟩ := hok
        have m0 := tmod_in0 (n := x.e0) (m := 4) o0.1 (by omega)
        have m1 := tmod_in0 (n := x.e1) (m := 4) o1.1 (by omega)
        have m2 := tmod_in0 (n := x.e2) (m := 31) o2.1 (by omega)
        rw [ix_nat, hx]
        simp only [Option.bind_some]
        rw [app_ok (by simp only [List.length_cons, List.length_nil]; omega) (by simp only [List.length_cons, List.length_nil]; omega), Option.bind_some, W_nat (show i < 9223372036854775807 by omega), show W ((1 : Int) + x.e0.tmod 4) = 1 + x.e0.tmod 4 from W_in (by omega) (by omega), show W ((1 : Int) + x.e1.tmod 4) = 1 + x.e1.tmod 4 from W_in (by omega) (by omega)]
        refine ih n (i + 1) _ (by omega) (by simp [hl]) (fun k hk => ?_) (by omega)
        rcases List.mem_append.1 hk with hk | hk
        · exact ho k hk
        · simp at hk; subst hk
          exact ⟨by show 1 ≤ 1 + _; omega, by show 1 + _ ≤ 4; omega, by show 1 ≤ 1 + _; omega, by show 1 + _ ≤ 4; omega, m2.1, by show x.e2.tmod 31 ≤ 30; omega⟩
      · rw [decide_eq_false (show ¬ (i : Int) < (s.length : Int) by omega), cond_false]
        exact fin out (by omega) ho
  exact go 4 N 0 [] rfl rfl (fun k hk => by cases hk) (by omega)
theorem bestS_ok {ks : List Kind} (hok : kindsS ks = 0) {a b : Nat} (ha : 1 ≤ a) (hb : 1 ≤ b) (ha2 : a ≤ 12) (hb2 : b ≤ 12) : bestS (a : Int) (b : Int) ks = (V ks a b, 0) := by
  unfold bestS
  have : askedS (a : Int) (b : Int) ks = 0 := by
    unfold askedS
    rw [if_neg (by omega), if_neg (by omega)]
    exact hok
  rw [if_pos this]; rfl
end Go.Vc
/-
  PLAIN LAWS OF CUT, 21: the statement CutMost: all cuts are tried.
-/
namespace Go.Vc
set_option linter.unusedVariables false
set_option linter.unnecessarySimpa false
set_option linter.unusedSimpArgs false
set_option linter.unusedSimpArgs false

theorem look_mem {κ ν : Type} [DecidableEq κ] {z : ν} {k : κ} : ∀ {m : List (κ × ν)} {v : ν}, lookK z k m = (v, true) → (k, v) ∈ m
  | [], v, h => by simp [lookK] at h
  | p :: r, v, h => by
    unfold lookK at h
    by_cases c : p.1 = k
    · rw [if_pos c] at h
      simp at h
      subst c h
      simp
    · rw [if_neg c] at h
      exact List.mem_cons_of_mem _ (look_mem h)
theorem set_mem {κ ν : Type} [DecidableEq κ] {k : κ} {v : ν} {q : κ × ν} : ∀ {m : List (κ × ν)}, q ∈ setK k v m → q = (k, v) ∨ q ∈ m
  | [], h => by simp [setK] at h; exact .inl h
  | p :: r, h => by
    unfold setK at h
    by_cases c : p.1 = k
    · rw [if_pos c] at h
      rcases List.mem_cons.1 h with h | h
      · exact .inl h
      · exact .inr (List.mem_cons_of_mem _ h)
    · rw [if_neg c] at h
      rcases List.mem_cons.1 h with h | h
      · exact .inr (by rw [h]; simp)
      · rcases set_mem h with h | h
        · exact .inl h
        · exact .inr (List.mem_cons_of_mem _ h)
/-- what is known is right -/
def Known (ks : List Kind) (m : List (A2iN × Int)) : Prop := ∀ p, p ∈ m → ∃ i j : Nat, p.1 = ⟨(i : Int), (j : Int)⟩ ∧ p.2 = V ks i j
theorem bestV_app {w h : Int} : ∀ (l r : List Kind) (o : Int), bestV w h (l ++ r) o = bestV w h r (bestV w h l o)
  | [], r, o => rfl
  | k :: l, r, o => by
    simp only [List.cons_append, bestV]
    split <;> exact bestV_app l r _
theorem bestV_snoc {w h : Int} {l : List Kind} {k : Kind} {o : Int} : bestV w h (l ++ [k]) o = if k.W = w ∧ k.H = h then max (bestV w h l o) k.Value else bestV w h l o := by
  rw [bestV_app]
  simp only [bestV]
theorem V_up {ks : List Kind} (hok : kindsS ks = 0) {a b : Nat} (ha : 1 ≤ a) (hb : 1 ≤ b) (ha2 : a ≤ 12) (hb2 : b ≤ 12) : V ks a b = 0 ∨ V ks a b = bestV a b ks 0 ∨ (∃ i, 1 ≤ i ∧ i < a ∧ V ks a b = V ks i b + V ks (a - i) b) ∨ ∃ i, 1 ≤ i ∧ i < b ∧ V ks a b = V ks a i + V ks a (b - i) := by
  cases (best_props hok (a + b) a b (Nat.le_refl _) ha hb ha2 hb2).2 with
  | sold h h1 h2 h3 => exact .inr (.inl h1)
  | up h i h1 h2 h3 h4 h5 => exact .inr (.inr (.inl ⟨i, h1, h2, h4⟩))
  | lie h i h1 h2 h3 h4 h5 => exact .inr (.inr (.inr ⟨i, h1, h2, h4⟩))
  | none h => exact .inl (by unfold V; rw [h]; rfl)
theorem f38_eq {ks : List Kind} (hok : kindsS ks = 0) (hlen : ks.length ≤ 10) : ∀ (k w h N : Nat) (m : List (A2iN × Int)), w + h ≤ k → 1 ≤ w → 1 ≤ h → w ≤ 12 → h ≤ 12 → 30 + k < N → Known ks m →
    ∃ m', f38 N (w : Int) (h : Int) ks m = some (V ks w h, m') ∧ Known ks m' := by
  intro k
  induction k with
  | zero => intro w h N m hk hw; omega
  | succ k ih =>
    intro w h N m hk hw hh hw2 hh2 hN hm
    obtain ⟨N, rfl⟩ : ∃ n, N = n + 1 := ⟨N - 1, by omega⟩
    obtain ⟨v0, v1⟩ := V_bd hok hw hh hw2 hh2
    obtain ⟨lo1, lo2, lo3⟩ := V_lo hok hw hh hw2 hh2
    have e1 : f38 (N + 1) (w : Int) (h : Int) ks m = f38b (f38 N) N (w : Int) (h : Int) ks m := rfl
    rw [e1]
    unfold f38b
    simp only [Option.bind_some]
    cases hl : lookK (0 : Int) (A2iN.mk (w : Int) (h : Int)) m with
    | mk v is =>
      cases is with
      | true =>
        obtain ⟨i, j, h1, h2⟩ := hm _ (look_mem hl)
        simp only [A2iN.mk.injEq] at h1
        have hi : i = w := by omega
        have hj : j = h := by omega
        subst hi hj
        simp only at h2
        exact ⟨m, by rw [h2]; rfl, hm⟩
      | false =>
        simp only [cond_false, joinK]
        -- the kinds
        obtain ⟨b1, g1, g2⟩ := loopE (F := fun n (v : Int) j => f38_6 (w : Int) (h : Int) ks m (f38_c11 (w : Int) (h : Int) ks m N (f38 N)) n v j) (k := fun v => f38_c11 (w : Int) (h : Int) ks m N (f38 N) v) 0 ks.length (fun j v => v = bestV w h (ks.take j) 0)
          (fun n v j _ hj hI => by
            have hx : ks[j]? = some ks[j] := by simp [hj]
            generalize ks[j] = x at hx
            have ht : ks.take (j + 1) = ks.take j ++ [x] := by rw [List.take_add_one, hx]; rfl
            refine ⟨_, rfl, ?_⟩
            rw [ht, bestV_snoc, ← hI]
            simp only [f38_6, f38_6b, decide_eq_true (show (j : Int) < (ks.length : Int) by omega), cond_true, ix_nat, hx, Option.bind_some, W_nat (show j < 9223372036854775807 by omega)]
            by_cases c1 : x.W = (w : Int)
            · by_cases c2 : x.H = (h : Int)
              · rw [decide_eq_true c1, decide_eq_true c2, if_pos ⟨c1, c2⟩]; rfl
              · rw [decide_eq_true c1, decide_eq_false c2, if_neg (fun h => c2 h.2)]; rfl
            · rw [decide_eq_false c1, if_neg (fun h => c1 h.1)]; rfl)
          (fun n v => by simp only [f38_6, f38_6b, decide_eq_false (show ¬ (ks.length : Int) < (ks.length : Int) by omega), cond_false]) N 0 rfl (Nat.zero_le _) (by omega)
        rw [List.take_length] at g1
        have g2' : f38_6 (w : Int) (h : Int) ks m (f38_c11 (w : Int) (h : Int) ks m N (f38 N)) N 0 (0 : Int) = f38_c11 (w : Int) (h : Int) ks m N (f38 N) b1 := g2
        rw [g2']
        unfold f38_c11
        simp only [joinK]
        -- the cuts up
        obtain ⟨s2, ⟨p1, p2, p3, p4⟩, p5⟩ := loopE (F := fun n (s : Int × List (A2iN × Int)) j => f38_12 (w : Int) (h : Int) ks (f38 N) (f38_c15 (w : Int) (h : Int) ks N (f38 N)) n s.1 j s.2) (k := fun s => f38_c15 (w : Int) (h : Int) ks N (f38 N) s.1 s.2) 1 w
          (fun j s => Known ks s.2 ∧ b1 ≤ s.1 ∧ s.1 ≤ V ks w h ∧ ∀ i, 1 ≤ i → i < j → V ks i h + V ks (w - i) h ≤ s.1)
          (fun n s j hj1 hj hI => by
            obtain ⟨v, m1⟩ := s
            obtain ⟨i1, i2, i3, i4⟩ := hI
            simp only at i1 i2 i3 i4
            obtain ⟨m2, q1, q2⟩ := ih j h N m1 (by omega) hj1 hh (by omega) hh2 (by omega) i1
            obtain ⟨m3, q3, q4⟩ := ih (w - j) h N m2 (by omega) (by omega) hh (by omega) hh2 (by omega) q2
            have u1 := V_bd hok hj1 hh (show j ≤ 12 by omega) hh2
            have u2 := V_bd hok (show 1 ≤ w - j by omega) hh (show w - j ≤ 12 by omega) hh2
            have u3 := lo2 j hj1 hj
            refine ⟨(max v (V ks j h + V ks (w - j) h), m3), ⟨q4, by simp only; omega, by simp only; omega, fun i a b => ?_⟩, ?_⟩
            · simp only
              by_cases e : i = j
              · subst e; omega
              · have := i4 i a (by omega); omega
            · simp only [f38_12, f38_12b, decide_eq_true (show (j : Int) < (w : Int) by omega), cond_true, q1, Option.bind_some]
              rw [show W ((w : Int) - (j : Int)) = ((w - j : Nat) : Int) by rw [W_in (by omega) (by omega)]; omega, q3]
              simp only [Option.bind_some, W_nat (show j < 9223372036854775807 by omega), W_in (n := V ks j h + V ks (w - j) h) (by omega) (by omega)])
          (fun n s => by simp only [f38_12, f38_12b, decide_eq_false (show ¬ (w : Int) < (w : Int) by omega), cond_false]) N (b1, m) ⟨hm, Int.le_refl _, by simp only; omega, fun i a b => by omega⟩ hw (by omega)
        have p5' : f38_12 (w : Int) (h : Int) ks (f38 N) (f38_c15 (w : Int) (h : Int) ks N (f38 N)) N b1 (1 : Int) m = f38_c15 (w : Int) (h : Int) ks N (f38 N) s2.1 s2.2 := p5
        rw [p5']
        unfold f38_c15
        simp only [joinK]
        -- the others
        obtain ⟨s3, ⟨r1, r2, r3, r4⟩, r5⟩ := loopE (F := fun n (s : Int × List (A2iN × Int)) j => f38_16 (w : Int) (h : Int) ks (f38 N) (f38_c19 (w : Int) (h : Int)) n s.1 j s.2) (k := fun s => f38_c19 (w : Int) (h : Int) s.1 s.2) 1 h
          (fun j s => Known ks s.2 ∧ s2.1 ≤ s.1 ∧ s.1 ≤ V ks w h ∧ ∀ i, 1 ≤ i → i < j → V ks w i + V ks w (h - i) ≤ s.1)
          (fun n s j hj1 hj hI => by
            obtain ⟨v, m1⟩ := s
            obtain ⟨i1, i2, i3, i4⟩ := hI
            simp only at i1 i2 i3 i4
            obtain ⟨m2, q1, q2⟩ := ih w j N m1 (by omega) hw hj1 hw2 (by omega) (by omega) i1
            obtain ⟨m3, q3, q4⟩ := ih w (h - j) N m2 (by omega) hw (by omega) hw2 (by omega) (by omega) q2
            have u1 := V_bd hok hw hj1 hw2 (show j ≤ 12 by omega)
            have u2 := V_bd hok hw (show 1 ≤ h - j by omega) hw2 (show h - j ≤ 12 by omega)
            have u3 := lo3 j hj1 hj
            refine ⟨(max v (V ks w j + V ks w (h - j)), m3), ⟨q4, by simp only; omega, by simp only; omega, fun i a b => ?_⟩, ?_⟩
            · simp only
              by_cases e : i = j
              · subst e; omega
              · have := i4 i a (by omega); omega
            · simp only [f38_16, f38_16b, decide_eq_true (show (j : Int) < (h : Int) by omega), cond_true, q1, Option.bind_some]
              rw [show W ((h : Int) - (j : Int)) = ((h - j : Nat) : Int) by rw [W_in (by omega) (by omega)]; omega, q3]
              simp only [Option.bind_some, W_nat (show j < 9223372036854775807 by omega), W_in (n := V ks w j + V ks w (h - j)) (by omega) (by omega)])
          (fun n s => by simp only [f38_16, f38_16b, decide_eq_false (show ¬ (h : Int) < (h : Int) by omega), cond_false]) N s2 ⟨p1, Int.le_refl _, p3, fun i a b => by omega⟩ hh (by omega)
        have r5' : f38_16 (w : Int) (h : Int) ks (f38 N) (f38_c19 (w : Int) (h : Int)) N s2.1 (1 : Int) s2.2 = f38_c19 (w : Int) (h : Int) s3.1 s3.2 := r5
        rw [r5']
        have hv : s3.1 = V ks w h := by
          have n0 : 0 ≤ b1 := by rw [g1]; exact bestV_le' ks 0
          rcases V_up hok hw hh hw2 hh2 with e | e | ⟨i, a, b, e⟩ | ⟨i, a, b, e⟩
          · omega
          · omega
          · have := p4 i a b; omega
          · have := r4 i a b; omega
        unfold f38_c19
        simp only [Option.bind_some]
        refine ⟨_, by rw [hv], fun p hp => ?_⟩
        rcases set_mem hp with rfl | hp
        · exact ⟨w, h, rfl, rfl⟩
        · exact r1 p hp
theorem f10_true (s : List A3u8N) (hs : ∀ x, x ∈ s → x.ok) (size : A2u8N) (hz : size.ok) (N : Nat) (hN : 100 < N) (hw : f13 N = some true) : f10 N s size = some true := by
  obtain ⟨ks, hk, sh⟩ := f37_eq hs hN
  obtain ⟨z0, z1⟩ := hz
  have hl := sh.len
  have k0 := sh.kinds
  have d0 := tmod_in0 (n := size.e0) (m := 8) z0.1 (by omega)
  have d1 := tmod_in0 (n := size.e1) (m := 8) z1.1 (by omega)
  have ew : W ((1 : Int) + size.e0.tmod 8) = 1 + size.e0.tmod 8 := W_in (by omega) (by omega)
  have eh : W ((1 : Int) + size.e1.tmod 8) = 1 + size.e1.tmod 8 := W_in (by omega) (by omega)
  obtain ⟨w, hw'⟩ : ∃ w : Nat, 1 + size.e0.tmod 8 = (w : Int) := ⟨(1 + size.e0.tmod 8).toNat, by omega⟩
  obtain ⟨h, hh'⟩ : ∃ h : Nat, 1 + size.e1.tmod 8 = (h : Int) := ⟨(1 + size.e1.tmod 8).toNat, by omega⟩
  replace ew := ew.trans hw'
  replace eh := eh.trans hh'
  have bw : 1 ≤ w ∧ w ≤ 8 := by omega
  have bh : 1 ≤ h ∧ h ≤ 8 := by omega
  obtain ⟨v0, v1⟩ := V_bd k0 bw.1 bh.1 (show w ≤ 12 by omega) (show h ≤ 12 by omega)
  obtain ⟨m, e38, _⟩ := f38_eq k0 (by omega) (w + h) w h N [] (Nat.le_refl _) bw.1 bh.1 (by omega) (by omega) (by omega) (fun p hp => by cases hp)
  have hb := bestS_ok k0 bw.1 bh.1 (show w ≤ 12 by omega) (show h ≤ 12 by omega)
  have hask : askedS (w : Int) (h : Int) ks = 0 := by
    unfold askedS
    rw [if_neg (by omega), if_neg (by omega)]; exact k0
  unfold f10
  rw [hk]
  simp only [Option.bind_some, ew, eh, e38, f29_eq (N := N) (ks := ks) (by omega) (by omega), f31_eq (N := N) (ks := ks) (by omega) (by omega), hb, not_true_eq_false, decide_false, cond_false]
  by_cases c10 : 10 < (best ks w h).labels
  · have e3 : layS (w : Int) (h : Int) ks = (⟨0, 0, []⟩, 16) := by unfold layS; rw [if_pos hask]; exact if_pos c10
    rw [e3]
    simp [hw]
  · have e3 : layS (w : Int) (h : Int) ks = (⟨(w : Int), (h : Int), layR ks 24 ⟨0, 0, (w : Int), (h : Int)⟩⟩, 0) := by unfold layS; rw [if_pos hask]; exact if_neg c10
    have lk := lay_ok k0 24 w h ⟨0, 0, (w : Int), (h : Int)⟩ (by omega) bw.1 bh.1 (by omega) (by omega) rfl rfl (Int.le_refl _) (Int.le_refl _)
    rw [e3]
    generalize layR ks 24 ⟨0, 0, (w : Int), (h : Int)⟩ = l at lk
    have hlen : l.length ≤ 10 := by have := lk.len; omega
    have hsm : Small (⟨0, 0, (w : Int), (h : Int)⟩ : Label) := ⟨Int.le_refl _, Int.le_refl _, by show 0 + (w : Int) ≤ 12; omega, by show 0 + (h : Int) ≤ 12; omega, by show 0 ≤ (w : Int); omega, by show 0 ≤ (h : Int); omega⟩
    have hlaid : Laid l := fun x hx => ⟨_, hsm, lk.fits x hx⟩
    have hworth : worthL ks l 0 = some (V ks w h) := by
      have := lk.worth 0 (Int.le_refl _) (by show 0 + V ks w h ≤ _; omega)
      rw [this, Int.zero_add]; rfl
    simp only [not_true_eq_false, decide_false, cond_false, decide_eq_false (show ¬ (10 : Int) < (l.length : Int) by omega), joinK]
    have hvalid : checkS ⟨(w : Int), (h : Int), l⟩ = 0 := check_valid ⟨by show (1 : Int) ≤ w; omega, by show (w : Int) ≤ 12; omega⟩ ⟨by show (1 : Int) ≤ h; omega, by show (h : Int) ≤ 12; omega⟩ hlen lk.fits lk.apart
    have fin : f10_c33 N ks (V ks w h, m) (⟨(w : Int), (h : Int), l⟩, 0) (V ks w h) = some true := by
      obtain ⟨b, q1, q2⟩ := f33_eq _ N l hlaid (Nat.le_refl _) (by omega) (by omega)
      have hb : b = true := q2.2 lk.sep
      subst hb
      have hws : worthS ⟨(w : Int), (h : Int), l⟩ ks = (V ks w h, 0) := by
        unfold worthS
        rw [if_pos hvalid, if_pos k0, hworth]; rfl
      unfold f10_c33
      simp only [f17_eq (N := N) (a := ⟨(w : Int), (h : Int), l⟩) (ks := ks) (by show l.length ≤ 30; omega) (by omega) (by omega), hws, Option.bind_some, decide_true, cond_true, q1, hw]
    have := loopI (F := fun n (v : Int) j => f10_14 size N ks (V ks w h, m) (⟨(w : Int), (h : Int), l⟩, 0) (f10_c33 N ks (V ks w h, m) (⟨(w : Int), (h : Int), l⟩, 0)) n v j) l.length (fun i v => worthL ks (l.drop i) v = some (V ks w h)) (fun r => r = true)
      (fun n v i hI hi => by
        right
        have hx : l[i]? = some l[i] := by simp [hi]
        have hxm := List.getElem_mem hi
        have hdr : l.drop i = l[i] :: l.drop (i + 1) := List.drop_eq_getElem_cons hi
        have hsep : ∀ y, y ∈ l.take i → Apart2 l[i] y := by
          intro y hy
          obtain ⟨j, hj⟩ := List.mem_iff_getElem?.1 hy
          have hji : j < i := by
            have := (List.getElem?_eq_some_iff.1 hj).1
            simp at this; omega
          have hyl : l[j]? = some y := by
            rw [List.getElem?_take, if_pos hji] at hj; exact hj
          have hjl := (List.getElem?_eq_some_iff.1 hyl).1
          have ej := (List.getElem?_eq_some_iff.1 hyl).2
          have := List.pairwise_iff_getElem.1 lk.apart j i hjl hi hji
          rw [ej] at this
          exact this.symm
        rw [hdr] at hI
        generalize l[i] = x at hx hxm hI hsep
        have fx := lk.fits x hxm
        have x1 := fx.w; have x2 := fx.h
        have x3 : 0 ≤ x.X := fx.x0
        have x4 : 0 ≤ x.Y := fx.y0
        have x5 : x.X + x.W ≤ 0 + (w : Int) := fx.x1
        have x6 : x.Y + x.H ≤ 0 + (h : Int) := fx.y1
        simp only [worthL] at hI
        cases hv : hasV x.W x.H ks with
        | false => rw [hv] at hI; cases hI
        | true =>
          rw [hv, cond_true] at hI
          refine ⟨W (v + bestV x.W x.H ks 0), hI, ?_⟩
          have hbv : bestV x.W x.H ks (-1) = bestV x.W x.H ks 0 := by
            rw [bestV_neg ks (kindsS_ok k0), hv]; rfl
          have hb0 : 0 ≤ bestV x.W x.H ks 0 := bestV_le' ks 0
          -- the kinds of its size
          have inn : ∀ k3 : Int → Option Bool, f10_18 size ks (V ks w h, m) (⟨(w : Int), (h : Int), l⟩, 0) v (i : Int) x k3 N (-1 : Int) (0 : Int) = k3 (bestV x.W x.H ks 0) := by
            intro k3
            obtain ⟨b, g1, g2⟩ := loopE (F := fun n (u : Int) j => f10_18 size ks (V ks w h, m) (⟨(w : Int), (h : Int), l⟩, 0) v (i : Int) x k3 n u j) (k := k3) 0 ks.length (fun j u => u = bestV x.W x.H (ks.take j) (-1))
              (fun n u j _ hj hI => by
                have hy : ks[j]? = some ks[j] := by simp [hj]
                generalize ks[j] = y at hy
                have ht : ks.take (j + 1) = ks.take j ++ [y] := by rw [List.take_add_one, hy]; rfl
                refine ⟨_, rfl, ?_⟩
                rw [ht, bestV_snoc, ← hI]
                simp only [f10_18, f10_18b, decide_eq_true (show (j : Int) < (ks.length : Int) by omega), cond_true, ix_nat, hy, Option.bind_some, W_nat (show j < 9223372036854775807 by omega)]
                by_cases c1 : y.W = x.W
                · by_cases c2 : y.H = x.H
                  · rw [decide_eq_true c1, decide_eq_true c2, if_pos ⟨c1, c2⟩]; rfl
                  · rw [decide_eq_true c1, decide_eq_false c2, if_neg (fun h => c2 h.2)]; rfl
                · rw [decide_eq_false c1, if_neg (fun h => c1 h.1)]; rfl)
              (fun n u => by simp only [f10_18, f10_18b, decide_eq_false (show ¬ (ks.length : Int) < (ks.length : Int) by omega), cond_false]) N (-1) rfl (Nat.zero_le _) (by omega)
            rw [List.take_length, hbv] at g1
            rw [← g1]; exact g2
          -- the labels before it
          have inn2 : ∀ k2 : Option Bool, f10_26 size N ks (V ks w h, m) (⟨(w : Int), (h : Int), l⟩, 0) v (i : Int) x (bestV x.W x.H ks 0) k2 (l.take i) N (0 : Int) = k2 := by
            intro k2
            obtain ⟨b, _, g2⟩ := loopE (F := fun n (_ : Unit) j => f10_26 size N ks (V ks w h, m) (⟨(w : Int), (h : Int), l⟩, 0) v (i : Int) x (bestV x.W x.H ks 0) k2 (l.take i) n j) (k := fun _ => k2) 0 (l.take i).length (fun _ _ => True)
              (fun n _ j _ hj _ => by
                have hy : (l.take i)[j]? = some (l.take i)[j] := List.getElem?_eq_getElem hj
                have hym := List.getElem_mem hj
                generalize (l.take i)[j] = y at hy hym
                have hyl : y ∈ l := List.mem_of_mem_take hym
                have fy := lk.fits y hyl
                have y1 := fy.w; have y2 := fy.h
                have y3 : 0 ≤ y.X := fy.x0
                have y4 : 0 ≤ y.Y := fy.y0
                have y5 : y.X + y.W ≤ 0 + (w : Int) := fy.x1
                have y6 : y.Y + y.H ≤ 0 + (h : Int) := fy.y1
                obtain ⟨b', r1, r2⟩ := f35_eq (N := N) (x := x) (y := y) ⟨_, hsm, fx⟩ ⟨y3, y4, by omega, by omega, y1, y2⟩ (by omega)
                have hb' : b' = false := by
                  cases b' with
                  | false => rfl
                  | true => exact absurd (hsep y hym) (r2.1 rfl)
                refine ⟨(), trivial, ?_⟩
                have hji : j < i := by simp at hj; omega
                simp only [f10_26, f10_26b, decide_eq_true (show (j : Int) < ((l.take i).length : Int) by omega), cond_true, ix_nat, hy, Option.bind_some, r1, hb', cond_false, W_nat (show j < 9223372036854775807 by omega)])
              (fun n _ => by simp only [f10_26, f10_26b, decide_eq_false (show ¬ ((l.take i).length : Int) < ((l.take i).length : Int) by omega), cond_false]) N () trivial (Nat.zero_le _) (by simp; omega)
            exact g2
          have hsub : sub l 0 (i : Int) = some (l.take i) := (sub_nat (a := 0) (by omega) (by omega)).trans (by simp)
          simp only [f10_14, f10_14b, decide_eq_true (show (i : Int) < (l.length : Int) by omega), cond_true, joinK, ix_nat, hx, Option.bind_some, inn, f10_c23, decide_eq_false (show ¬ bestV x.W x.H ks 0 < 0 by omega), cond_false, decide_eq_false (show ¬ x.X < 0 by omega), decide_eq_false (show ¬ x.Y < 0 by omega), ew, eh, W_in (n := x.X + x.W) (by omega) (by omega), W_in (n := x.Y + x.H) (by omega) (by omega), decide_eq_false (show ¬ (w : Int) < x.X + x.W by omega), decide_eq_false (show ¬ (h : Int) < x.Y + x.H by omega), hsub, inn2, f10_c31, f10_c32, W_nat (show i < 9223372036854775807 by omega)])
      (fun n v hI => by
        rw [List.drop_length] at hI
        simp only [worthL, Option.some.injEq] at hI
        subst hI
        refine ⟨true, ?_, rfl⟩
        simp only [f10_14, f10_14b, decide_eq_false (show ¬ (l.length : Int) < (l.length : Int) by omega), cond_false]
        exact fin)
      N 0 0 (by rw [List.drop_zero]; exact hworth) (Nat.zero_le _) (by omega)
    obtain ⟨r, h1, h2⟩ := this
    subst h2
    exact h1
end Go.Vc
