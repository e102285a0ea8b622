/-
  A library for proofs about Go functions by symbolic evaluation, and plain Lean functions that the walked Go functions compute (written by a program of this claim).
-/
import Derived.Test.YtifcnocpjdmaiaaPlansF3
import Derived.Test.YtifcnocpjdmaiaaPlansF1
import Derived.Test.YtifcnocpjdmaiaaVc2
/-
  PLAIN LAWS OF CUT, 4: all cuts of a piece; the statement CutLayouts.
-/
namespace Go.Vc
set_option linter.unusedVariables false
set_option linter.unnecessarySimpa false
set_option linter.unusedSimpArgs false
set_option linter.unusedSimpArgs false

def lineCuts (up : Bool) (p : Label) (l : List Label) : List Cut := ((List.range' 0 12).filter fun i : Nat => isCut p l ⟨up, (i : Int)⟩).map fun i : Nat => ⟨up, (i : Int)⟩
def cutsL (p : Label) (l : List Label) : List Cut := lineCuts true p l ++ lineCuts false p l
theorem forK_filter {ρ : Type} {f : Nat → Bool} {g : Nat → Cut} {k : List Cut → Option ρ} : ∀ (m i : Nat) (s : List Cut), s.length + m ≤ 1000 →
    forK (fun i (s : List Cut) c => bif f i then (app 16 s [g i]).bind c else c s) k i m s = k (s ++ ((List.range' i m).filter f).map g)
  | 0, i, s, _ => by simp [forK]
  | m + 1, i, s, h => by
    simp only [forK, List.range'_succ, List.filter_cons]
    cases f i with
    | true =>
      rw [cond_true, app_ok (by simp; omega) (by simp; omega)]
      simp only [Option.bind_some]
      rw [forK_filter m (i + 1) _ (by simp; omega)]
      simp
    | false => rw [cond_false, forK_filter m (i + 1) s (by omega)]; simp
theorem f45_eq {N : Nat} {p : Label} {l : List Label} (hs : Small p) (hf : ∀ x, x ∈ l → Fits p x) (hl : l.length ≤ 30) (hN : 30 < N) : f45 N ⟨p, l⟩ = some (cutsL p l) := by
  have h6 : ∀ (v : Nat) (up : Bool) (k1 : List Cut → Option (List Cut)) (s : List Cut), s.length ≤ 100 → f45_6 ⟨p, l⟩ N (v : Int) k1 up N s (0 : Int) = k1 (s ++ lineCuts up p l) := by
    intro v up k1 s hsl
    have := loopN (F := fun n (s : List Cut) j => f45_6 ⟨p, l⟩ N (v : Int) k1 up n s j) (g := fun i (s : List Cut) c => bif isCut p l ⟨up, (i : Int)⟩ then (app 16 s [⟨up, (i : Int)⟩]).bind c else c s) (k := k1) 0 12 (by omega)
      (fun n s i _ hi => by
        obtain ⟨r, h1, h2⟩ := f69_ok (c := ⟨up, (i : Int)⟩) hs hf hl hN
        simp only [f45_6, f45_6b, decide_eq_true (show (i : Int) < 12 by omega), cond_true, h1, Option.bind_some, h2.is, W_nat (show i < 9223372036854775807 by omega)])
      (fun n s => rfl) N s (by omega)
    refine this.trans ?_
    rw [forK_filter _ _ _ (by omega)]
    rfl
  show f45_3 ⟨p, l⟩ N f45_c13 N [] (0 : Int) = _
  have := loopL (l := [true, false]) (F := fun n (s : List Cut) j => f45_3 ⟨p, l⟩ N f45_c13 n s j) (g := fun i up (s : List Cut) c => f45_6 ⟨p, l⟩ N (i : Int) c up N s (0 : Int)) (k := f45_c13)
    (fun n s i x hx => by
      have hi := (List.getElem?_eq_some_iff.1 hx).1
      simp only [f45_3, f45_3b, joinK, ix_nat, hx, Option.bind_some, decide_eq_true (show (i : Int) < (([true, false] : List Bool).length : Int) by simp at hi ⊢; omega), cond_true]
      congr 1
      funext s'
      simp only [f45_c12, W_nat (show i < 9223372036854775807 by simp at hi; omega)])
    (fun n s => rfl) N [] (by simp; omega)
  refine this.trans ?_
  simp only [foldK]
  have hlc : (lineCuts true p l).length ≤ 12 := by
    unfold lineCuts
    rw [List.length_map]
    exact Nat.le_trans (List.length_filter_le _ _) (by simp)
  rw [h6 0 true _ [] (by simp), h6 1 false _ _ (by simp; omega)]
  rfl

/-! The document's way: labels that lie inside. -/
def insideB (p x : Label) : Bool := decide (p.X ≤ x.X) && (decide (p.Y ≤ x.Y) && (decide (W (x.X + x.W) ≤ W (p.X + p.W)) && decide (W (x.Y + x.H) ≤ W (p.Y + p.H))))
theorem filter_fold {k : List Label → Option (List Label)} {f : Label → Bool} : ∀ (l : List Label) (i : Nat) (s : List Label), s.length + l.length ≤ 1000 →
    foldK (fun _ x (s : List Label) c => bif f x then (app 32 s [x]).bind c else c s) k i l s = k (s ++ l.filter f)
  | [], i, s, _ => by simp [foldK]
  | x :: r, i, s, h => by
    simp only [List.length_cons] at h
    simp only [foldK, List.filter_cons]
    cases f x with
    | true =>
      rw [cond_true, app_ok (by simp; omega) (by simp; omega)]
      simp only [Option.bind_some]
      rw [filter_fold r (i + 1) _ (by simp; omega)]
      simp
    | false => rw [cond_false, filter_fold r (i + 1) s (by omega)]; simp
theorem f62_eq {N : Nat} {p : Label} {l : List Label} (hl : l.length ≤ 30) (hN : 30 < N) : f62 N l p = some (l.filter (insideB p)) := by
  show f62_3 l p f62_c7 N [] (0 : Int) = _
  have := loopL (l := l) (F := fun n (s : List Label) j => f62_3 l p f62_c7 n s j) (g := fun _ x (s : List Label) c => bif insideB p x then (app 32 s [x]).bind c else c s) (k := f62_c7)
    (fun n s i x hx => by
      have hi := (List.getElem?_eq_some_iff.1 hx).1
      simp only [f62_3, f62_3b, ix_nat, hx, Option.bind_some, decide_eq_true (show (i : Int) < (l.length : Int) by omega), cond_true, W_nat (show i < 9223372036854775807 by omega), insideB]
      cases decide (p.X ≤ x.X) <;> cases decide (p.Y ≤ x.Y) <;> cases decide (W (x.X + x.W) ≤ W (p.X + p.W)) <;> cases decide (W (x.Y + x.H) ≤ W (p.Y + p.H)) <;> rfl)
    (fun n s => by simp [f62_3, f62_3b]) N [] (by omega)
  refine this.trans ?_
  rw [filter_fold _ _ _ (by simp; omega)]
  simp [f62_c7]
theorem insideB_iff {p x : Label} (hp : -1000 ≤ p.X + p.W ∧ p.X + p.W ≤ 1000 ∧ -1000 ≤ p.Y + p.H ∧ p.Y + p.H ≤ 1000) (hx : -1000 ≤ x.X + x.W ∧ x.X + x.W ≤ 1000 ∧ -1000 ≤ x.Y + x.H ∧ x.Y + x.H ≤ 1000) :
    insideB p x = true ↔ p.X ≤ x.X ∧ p.Y ≤ x.Y ∧ x.X + x.W ≤ p.X + p.W ∧ x.Y + x.H ≤ p.Y + p.H := by
  unfold insideB
  rw [W_in (n := x.X + x.W) (by omega) (by omega), W_in (n := p.X + p.W) (by omega) (by omega), W_in (n := x.Y + x.H) (by omega) (by omega), W_in (n := p.Y + p.H) (by omega) (by omega)]
  simp only [Bool.and_eq_true, decide_eq_true_eq]
/-- the halves of a cut, by the labels in them -/
theorem inside_half1 {p x : Label} {c : Cut} (hs : Small p) (hx : Fits p x) (hc : inner c p = true) : insideB (half1 p c) x = before c x := by
  have s1 := hs.x0; have s2 := hs.y0; have s3 := hs.x1; have s4 := hs.y1; have s5 := hs.w; have s6 := hs.h
  have t1 := hx.w; have t2 := hx.h; have t3 := hx.x0; have t4 := hx.y0; have t5 := hx.x1; have t6 := hx.y1
  obtain ⟨up, a⟩ := c
  unfold inner at hc
  rw [Bool.and_eq_true, decide_eq_true_iff, decide_eq_true_iff] at hc
  rw [Bool.eq_iff_iff, before_iff]
  cases up with
  | true =>
    have hc : p.X + 1 ≤ a ∧ a ≤ p.X + p.W - 1 := hc
    rw [insideB_iff (p := half1 p ⟨true, a⟩) (x := x) (by show -1000 ≤ p.X + (a - p.X) ∧ p.X + (a - p.X) ≤ 1000 ∧ -1000 ≤ p.Y + p.H ∧ p.Y + p.H ≤ 1000; omega) (by omega)]
    show (p.X ≤ x.X ∧ p.Y ≤ x.Y ∧ x.X + x.W ≤ p.X + (a - p.X) ∧ x.Y + x.H ≤ p.Y + p.H) ↔ x.X + x.W ≤ a; omega
  | false =>
    have hc : p.Y + 1 ≤ a ∧ a ≤ p.Y + p.H - 1 := hc
    rw [insideB_iff (p := half1 p ⟨false, a⟩) (x := x) (by show -1000 ≤ p.X + p.W ∧ p.X + p.W ≤ 1000 ∧ -1000 ≤ p.Y + (a - p.Y) ∧ p.Y + (a - p.Y) ≤ 1000; omega) (by omega)]
    show (p.X ≤ x.X ∧ p.Y ≤ x.Y ∧ x.X + x.W ≤ p.X + p.W ∧ x.Y + x.H ≤ p.Y + (a - p.Y)) ↔ x.Y + x.H ≤ a; omega
theorem inside_half2 {p x : Label} {c : Cut} (hs : Small p) (hx : Fits p x) (hc : inner c p = true) : insideB (half2 p c) x = behind c x := by
  have s1 := hs.x0; have s2 := hs.y0; have s3 := hs.x1; have s4 := hs.y1; have s5 := hs.w; have s6 := hs.h
  have t1 := hx.w; have t2 := hx.h; have t3 := hx.x0; have t4 := hx.y0; have t5 := hx.x1; have t6 := hx.y1
  obtain ⟨up, a⟩ := c
  unfold inner at hc
  rw [Bool.and_eq_true, decide_eq_true_iff, decide_eq_true_iff] at hc
  rw [Bool.eq_iff_iff, behind_iff]
  cases up with
  | true =>
    have hc : p.X + 1 ≤ a ∧ a ≤ p.X + p.W - 1 := hc
    rw [insideB_iff (p := half2 p ⟨true, a⟩) (x := x) (by show -1000 ≤ a + (p.X + p.W - a) ∧ a + (p.X + p.W - a) ≤ 1000 ∧ -1000 ≤ p.Y + p.H ∧ p.Y + p.H ≤ 1000; omega) (by omega)]
    show (a ≤ x.X ∧ p.Y ≤ x.Y ∧ x.X + x.W ≤ a + (p.X + p.W - a) ∧ x.Y + x.H ≤ p.Y + p.H) ↔ a ≤ x.X; omega
  | false =>
    have hc : p.Y + 1 ≤ a ∧ a ≤ p.Y + p.H - 1 := hc
    rw [insideB_iff (p := half2 p ⟨false, a⟩) (x := x) (by show -1000 ≤ p.X + p.W ∧ p.X + p.W ≤ 1000 ∧ -1000 ≤ a + (p.Y + p.H - a) ∧ a + (p.Y + p.H - a) ≤ 1000; omega) (by omega)]
    show (p.X ≤ x.X ∧ a ≤ x.Y ∧ x.X + x.W ≤ p.X + p.W ∧ x.Y + x.H ≤ a + (p.Y + p.H - a)) ↔ a ≤ x.Y; omega
theorem f64_in {N : Nat} {p : Label} {c : Cut} (hs : Small p) (hc : inner c p = true) : f64 N p c = some (half1 p c, half2 p c, true) := by
  have s1 := hs.x0; have s2 := hs.y0; have s3 := hs.x1; have s4 := hs.y1; have s5 := hs.w; have s6 := hs.h
  obtain ⟨up, a⟩ := c
  unfold inner at hc
  have hc2 := hc
  rw [Bool.and_eq_true, decide_eq_true_iff, decide_eq_true_iff] at hc2
  unfold f64
  cases up with
  | true =>
    have hc2 : p.X + 1 ≤ a ∧ a ≤ p.X + p.W - 1 := hc2
    simp only [cond_true, f56_eq, Option.bind_some]
    rw [W_in (n := p.X + p.W) (by omega) (by omega), W_in (n := p.X + 1) (by omega) (by omega), W_in (n := p.X + p.W - 1) (by omega) (by omega), W_in (n := a - p.X) (by omega) (by omega), W_in (n := p.X + p.W - a) (by omega) (by omega), decide_eq_true hc2.1, decide_eq_true hc2.2]
    rfl
  | false =>
    have hc2 : p.Y + 1 ≤ a ∧ a ≤ p.Y + p.H - 1 := hc2
    simp only [cond_false, f56_eq, Option.bind_some]
    rw [W_in (n := p.Y + p.H) (by omega) (by omega), W_in (n := p.Y + 1) (by omega) (by omega), W_in (n := p.Y + p.H - 1) (by omega) (by omega), W_in (n := a - p.Y) (by omega) (by omega), W_in (n := p.Y + p.H - a) (by omega) (by omega), decide_eq_true hc2.1, decide_eq_true hc2.2]
    rfl
theorem f64_out {N : Nat} {p : Label} {c : Cut} (hs : Small p) (hc : inner c p = false) : ∃ a b, f64 N p c = some (a, b, false) := by
  have s1 := hs.x0; have s2 := hs.y0; have s3 := hs.x1; have s4 := hs.y1; have s5 := hs.w; have s6 := hs.h
  obtain ⟨up, a⟩ := c
  unfold f64
  cases up with
  | true =>
    have hc : (decide (p.X + 1 ≤ a) && decide (a ≤ p.X + p.W - 1)) = false := hc
    simp only [cond_true, f56_eq, Option.bind_some]
    rw [W_in (n := p.X + p.W) (by omega) (by omega), W_in (n := p.X + 1) (by omega) (by omega), W_in (n := p.X + p.W - 1) (by omega) (by omega)]
    exact ⟨_, _, by rw [hc]⟩
  | false =>
    have hc : (decide (p.Y + 1 ≤ a) && decide (a ≤ p.Y + p.H - 1)) = false := hc
    simp only [cond_false, f56_eq, Option.bind_some]
    rw [W_in (n := p.Y + p.H) (by omega) (by omega), W_in (n := p.Y + 1) (by omega) (by omega), W_in (n := p.Y + p.H - 1) (by omega) (by omega)]
    exact ⟨_, _, by rw [hc]⟩
theorem count_split {f g : Label → Bool} : ∀ (l : List Label), (∀ x, x ∈ l → f x = true → g x = false) → (l.filter f).length + (l.filter g).length ≤ l.length ∧ (((l.filter f).length + (l.filter g).length = l.length) ↔ l.all (fun x => f x || g x) = true)
  | [], _ => by simp
  | x :: r, h => by
    obtain ⟨h1, h2⟩ := count_split r fun y hy => h y (by simp [hy])
    have hx := h x (by simp)
    simp only [List.filter_cons, List.all_cons, Bool.and_eq_true]
    cases hf : f x with
    | true =>
      rw [hx hf]
      simp only [Bool.false_eq_true, if_false, if_true, List.length_cons, Bool.true_or, true_and]
      exact ⟨by omega, by rw [← h2]; omega⟩
    | false =>
      cases hg : g x with
      | true =>
        simp only [Bool.false_eq_true, if_false, if_true, List.length_cons, Bool.false_or, true_and]
        exact ⟨by omega, by rw [← h2]; omega⟩
      | false =>
        simp only [Bool.false_eq_true, if_false, List.length_cons, Bool.or_self, false_and, iff_false]
        exact ⟨by omega, by omega⟩
theorem any_filter {f : Label → Bool} {l : List Label} : l.any f = decide (0 < (l.filter f).length) := by
  rw [Bool.eq_iff_iff, List.any_eq_true, decide_eq_true_eq]
  constructor
  · rintro ⟨x, hx, hf⟩; exact List.length_pos_of_mem (List.mem_filter.2 ⟨hx, hf⟩)
  · intro h
    obtain ⟨x, hx⟩ := List.exists_mem_of_length_pos h
    exact ⟨x, (List.mem_filter.1 hx).1, (List.mem_filter.1 hx).2⟩
theorem filter_congr' {f g : Label → Bool} {l : List Label} (h : ∀ x, x ∈ l → f x = g x) : l.filter f = l.filter g := List.filter_congr h
theorem f63_eq {N : Nat} {p : Label} {l : List Label} {c : Cut} (hs : Small p) (hf : ∀ x, x ∈ l → Fits p x) (hl : l.length ≤ 30) (hN : 30 < N) : f63 N l p c = some (isCut p l c) := by
  unfold f63
  cases hin : inner c p with
  | false =>
    obtain ⟨a, b, h⟩ := f64_out (N := N) hs hin
    simp only [h, Option.bind_some]
    simp [isCut, hin]
  | true =>
    simp only [f64_in hs hin, Option.bind_some, f62_eq hl hN]
    have e1 : l.filter (insideB (half1 p c)) = l.filter (before c) := filter_congr' fun x hx => inside_half1 hs (hf x hx) hin
    have e2 : l.filter (insideB (half2 p c)) = l.filter (behind c) := filter_congr' fun x hx => inside_half2 hs (hf x hx) hin
    have hcs := count_split (f := before c) (g := behind c) l fun x hx hb => not_both (hf x hx) hb
    rw [e1, e2]
    simp only [Bool.not_true, cond_false, isCut, hin, Bool.true_and]
    have hle := hcs.1
    rw [W_in (by omega) (by omega)]
    have hall : l.all (fun x => before c x || behind c x) = decide (((l.filter (before c)).length : Int) + ((l.filter (behind c)).length : Int) = (l.length : Int)) := by
      rw [Bool.eq_iff_iff, ← hcs.2, decide_eq_true_eq]; omega
    have hany : l.any (before c) = decide (0 < ((l.filter (before c)).length : Int)) := by
      rw [any_filter, Bool.eq_iff_iff, decide_eq_true_eq, decide_eq_true_eq]; omega
    cases ha : l.all (fun x => before c x || behind c x) with
    | false =>
      rw [ha] at hall
      rw [← hall]
      cases decide (0 < ((l.filter (before c)).length : Int)) <;> cases decide (0 < ((l.filter (behind c)).length : Int)) <;> rfl
    | true =>
      rw [ha] at hall
      rw [← hall, ← hany]
      have hb : l.any (fun x => !before c x) = decide (0 < ((l.filter (behind c)).length : Int)) := by
        rw [any_filter, Bool.eq_iff_iff, decide_eq_true_eq, decide_eq_true_eq]
        have : l.filter (fun x => !before c x) = l.filter (behind c) := filter_congr' fun x hx => by
          have := List.all_eq_true.1 ha x hx
          cases hbx : before c x with
          | true => rw [not_both (hf x hx) hbx]; rfl
          | false => rw [hbx] at this; simpa using this.symm
        rw [this]; omega
      rw [hb]
      cases l.any (before c) <;> cases decide (0 < ((l.filter (behind c)).length : Int)) <;> rfl
theorem isCut_12 {p : Label} {l : List Label} {up : Bool} (hs : Small p) : isCut p l ⟨up, ((12 : Nat) : Int)⟩ = false := by
  have s3 := hs.x1; have s4 := hs.y1
  have : inner ⟨up, ((12 : Nat) : Int)⟩ p = false := by
    unfold inner
    rw [Bool.and_eq_false_iff]
    right
    rw [decide_eq_false_iff_not]
    cases up <;> simp only [hi, cond_true, cond_false] <;> omega
  unfold isCut; rw [this]; rfl
theorem f46_eq {N : Nat} {p : Label} {l : List Label} (hs : Small p) (hf : ∀ x, x ∈ l → Fits p x) (hl : l.length ≤ 30) (hN : 30 < N) : f46 N l p = some (cutsL p l) := by
  have h13 : ∀ up, ((List.range' 0 13).filter fun i : Nat => isCut p l ⟨up, (i : Int)⟩).map (fun i : Nat => (⟨up, (i : Int)⟩ : Cut)) = lineCuts up p l := by
    intro up
    unfold lineCuts
    rw [show List.range' 0 13 = List.range' 0 12 ++ [12] from rfl, List.filter_append, List.map_append]
    rw [List.filter_cons, isCut_12 hs]
    simp
  have h8 : ∀ (s : List Cut), s.length ≤ 100 → f46_c7 l p N s = some (s ++ lineCuts false p l) := by
    intro s hsl
    have := loopN (F := fun n (s : List Cut) j => f46_8 l p N f46_c12 n s j) (g := fun i (s : List Cut) c => bif isCut p l ⟨false, (i : Int)⟩ then (app 16 s [⟨false, (i : Int)⟩]).bind c else c s) (k := f46_c12) 0 13 (by omega)
      (fun n s i _ hi => by
        simp only [f46_8, f46_8b, decide_eq_true (show (i : Int) ≤ 12 by omega), cond_true, f63_eq (c := ⟨false, (i : Int)⟩) hs hf hl hN, Option.bind_some, W_nat (show i < 9223372036854775807 by omega)])
      (fun n s => rfl) N s (by omega)
    refine this.trans ?_
    rw [forK_filter _ _ _ (by omega), h13]
    rfl
  show f46_3 l p N (f46_c7 l p N) N [] (0 : Int) = _
  have := loopN (F := fun n (s : List Cut) j => f46_3 l p N (f46_c7 l p N) n s j) (g := fun i (s : List Cut) c => bif isCut p l ⟨true, (i : Int)⟩ then (app 16 s [⟨true, (i : Int)⟩]).bind c else c s) (k := f46_c7 l p N) 0 13 (by omega)
    (fun n s i _ hi => by
      simp only [f46_3, f46_3b, decide_eq_true (show (i : Int) ≤ 12 by omega), cond_true, f63_eq (c := ⟨true, (i : Int)⟩) hs hf hl hN, Option.bind_some, W_nat (show i < 9223372036854775807 by omega)])
    (fun n s => rfl) N [] (by omega)
  refine this.trans ?_
  rw [forK_filter _ _ _ (by simp), h13, h8 _ (by
    have : (lineCuts true p l).length ≤ 12 := by
      unfold lineCuts; rw [List.length_map]; exact Nat.le_trans (List.length_filter_le _ _) (by simp)
    simpa using Nat.le_trans this (by omega))]
  rfl

/-! Valid layouts. -/
def sheetOf (L : Layout) : Label := ⟨0, 0, L.W, L.H⟩
structure Valid (L : Layout) : Prop where
  small : Small (sheetOf L)
  w : 1 ≤ L.W
  h : 1 ≤ L.H
  len : L.Labels.length ≤ 10
  fits : ∀ x, x ∈ L.Labels → Fits (sheetOf L) x
  clash : clashes [] L.Labels = false
theorem okLabel_fits {L : Layout} {x : Label} (hw : 1 ≤ L.W ∧ L.W ≤ 12) (hh : 1 ≤ L.H ∧ L.H ≤ 12) (h : okLabel L x = none) : Fits (sheetOf L) x := by
  unfold okLabel at h
  split at h; · cases h
  split at h; · cases h
  split at h; · cases h
  split at h; · cases h
  rename_i h1 h2 h3 h4
  rw [W_in (by omega) (by omega), W_in (by omega) (by omega)] at h
  split at h; · cases h
  split at h; · cases h
  rename_i h5 h6
  exact ⟨by omega, by omega, by simp only [sheetOf]; omega, by simp only [sheetOf]; omega, by simp only [sheetOf]; omega, by simp only [sheetOf]; omega⟩
theorem valid_of {L : Layout} (h : checkS L = 0) : Valid L := by
  unfold checkS at h
  split at h; · cases h
  split at h; · cases h
  split at h; · cases h
  rename_i h1 h2 h3
  have hw : 1 ≤ L.W ∧ L.W ≤ 12 := Classical.not_not.1 h1
  have hh : 1 ≤ L.H ∧ L.H ≤ 12 := Classical.not_not.1 h2
  cases hfs : L.Labels.findSome? (okLabel L) with
  | some e =>
    rw [hfs] at h
    exfalso
    obtain ⟨x, hx, he⟩ := List.exists_of_findSome?_eq_some hfs
    simp only [Option.getD_some] at h
    subst h
    unfold okLabel at he
    repeat' (split at he)
    all_goals cases he
  | none =>
    rw [hfs] at h
    have hall := List.findSome?_eq_none_iff.1 hfs
    refine ⟨⟨by simp [sheetOf], by simp [sheetOf], by simp only [sheetOf]; omega, by simp only [sheetOf]; omega, by simp only [sheetOf]; omega, by simp only [sheetOf]; omega⟩, hw.1, hh.1, by omega, fun x hx => okLabel_fits hw hh (hall x hx), ?_⟩
    cases hc : clashes [] L.Labels with
    | false => rfl
    | true => rw [hc] at h; cases h
def cutsS (L : Layout) : List Cut × Int := if checkS L = 0 then (cutsL (sheetOf L) L.Labels, 0) else ([], checkS L)
theorem f15_eq {N : Nat} {L : Layout} (h : L.Labels.length ≤ 30) (hN : 30 < N) : f15 N L = some (cutsS L) := by
  unfold f15 cutsS
  simp only [f20_eq h hN, Option.bind_some]
  by_cases c : checkS L = 0
  · have hv := valid_of c
    simp only [c, not_true_eq_false, decide_false, cond_false, if_true, f44, Option.bind_some]
    have := f45_eq (p := sheetOf L) hv.small hv.fits h hN
    simp only [sheetOf] at this ⊢
    rw [this]; rfl
  · simp [c]
theorem f16_eq {N : Nat} {L : Layout} (h : L.Labels.length ≤ 30) (hN : 30 < N) : f16 N L = some (cutsS L) := by
  unfold f16 cutsS
  simp only [f21_eq h hN, Option.bind_some]
  by_cases c : checkS L = 0
  · have hv := valid_of c
    simp only [c, not_true_eq_false, decide_false, cond_false, if_true, f47, Option.bind_some]
    have := f46_eq (p := sheetOf L) hv.small hv.fits h hN
    simp only [sheetOf] at this ⊢
    rw [this]; rfl
  · simp [c]

theorem fold_skip {α ρ : Type} {k : Option ρ} : ∀ (l : List α) (i : Nat), foldK (fun _ (x : α) (_ : Unit) c => c ()) (fun _ => k) i l () = k
  | [], _ => rfl
  | x :: r, i => by simp only [foldK]; exact fold_skip r (i + 1)
theorem f3_true (a : Layout) (ks : List Kind) (hw : f13 40 = some true) : f3 40 a ks = some true := by
  unfold f3
  by_cases c1 : 30 < (a.Labels.length : Int)
  · simp [c1, hw]
  by_cases c2 : 30 < (ks.length : Int)
  · simp [c1, c2, hw]
  have h1 : a.Labels.length ≤ 30 := by omega
  have h2 : ks.length ≤ 30 := by omega
  simp only [c1, c2, decide_false, cond_false, f14_eq (N := 40) h1 (by omega), f19_eq (N := 40) h2 (by omega), f15_eq h1 (show 30 < 40 by omega), f16_eq h1 (show 30 < 40 by omega), f17_eq h1 h2 (show 30 < 40 by omega), f18_eq h1 h2 (show 30 < 40 by omega), Option.bind_some, not_true_eq_false, joinK]
  have hlen : (cutsS a).1.length ≤ 24 := by
    unfold cutsS
    split
    · have : ∀ up, (lineCuts up (sheetOf a) a.Labels).length ≤ 12 := by
        intro up; unfold lineCuts; rw [List.length_map]; exact Nat.le_trans (List.length_filter_le _ _) (by simp)
      simp only [cutsL, List.length_append]
      have h1 := this true; have h2 := this false; omega
    · simp
  have := loopL (l := (cutsS a).1) (F := fun n (_ : Unit) j => f3_11 a a (cutsS a) (cutsS a) (f3_c15 a 40 a) n j) (g := fun _ x (_ : Unit) c => c ()) (k := fun _ => f3_c15 a 40 a)
    (fun n s j x hx => by
      have hi := (List.getElem?_eq_some_iff.1 hx).1
      simp only [f3_11, f3_11b, ix_nat, hx, Option.bind_some, decide_eq_true (show (j : Int) < ((cutsS a).1.length : Int) by omega), cond_true, W_nat (show j < 9223372036854775807 by omega), beq_self_eq_true, decide_true, Bool.and_self, Bool.not_true, cond_false])
    (fun n s => by simp [f3_11, f3_11b]) 40 () (by omega)
  refine this.trans ?_
  rw [fold_skip]
  unfold f3_c15
  simp [f20_eq h1 (show 30 < 40 by omega), f21_eq h1 (show 30 < 40 by omega), hw]
end Go.Vc
/-
  PLAIN LAWS OF CUT, 5: plans, as a recursion over pieces.
-/
namespace Go.Vc
set_option linter.unusedVariables false
set_option linter.unnecessarySimpa false
set_option linter.unusedSimpArgs false
set_option linter.unusedSimpArgs false

/-! Pieces of a cut. -/
theorem isCut_parts {p : Label} {l : List Label} {c : Cut} (h : isCut p l c = true) : inner c p = true ∧ (∀ x, x ∈ l → (before c x || behind c x) = true) ∧ (∃ x, x ∈ l ∧ before c x = true) ∧ ∃ x, x ∈ l ∧ before c x = false := by
  unfold isCut at h
  simp only [Bool.and_eq_true] at h
  obtain ⟨h1, h2, h3, h4⟩ := h
  refine ⟨h1, fun x hx => List.all_eq_true.1 h2 x hx, ?_, ?_⟩
  · obtain ⟨x, hx, hb⟩ := List.any_eq_true.1 h3; exact ⟨x, hx, hb⟩
  · obtain ⟨x, hx, hb⟩ := List.any_eq_true.1 h4; exact ⟨x, hx, by simpa using hb⟩
theorem small_half1 {p : Label} {c : Cut} (hs : Small p) (hc : inner c p = true) : Small (half1 p c) := by
  have s1 := hs.x0; have s2 := hs.y0; have s3 := hs.x1; have s4 := hs.y1; have s5 := hs.w; have s6 := hs.h
  obtain ⟨up, a⟩ := c
  unfold inner at hc
  rw [Bool.and_eq_true, decide_eq_true_iff, decide_eq_true_iff] at hc
  cases up with
  | true =>
    have hc : p.X + 1 ≤ a ∧ a ≤ p.X + p.W - 1 := hc
    exact ⟨s1, s2, by show p.X + (a - p.X) ≤ 12; omega, s4, by show 0 ≤ a - p.X; omega, s6⟩
  | false =>
    have hc : p.Y + 1 ≤ a ∧ a ≤ p.Y + p.H - 1 := hc
    exact ⟨s1, s2, s3, by show p.Y + (a - p.Y) ≤ 12; omega, s5, by show 0 ≤ a - p.Y; omega⟩
theorem small_half2 {p : Label} {c : Cut} (hs : Small p) (hc : inner c p = true) : Small (half2 p c) := by
  have s1 := hs.x0; have s2 := hs.y0; have s3 := hs.x1; have s4 := hs.y1; have s5 := hs.w; have s6 := hs.h
  obtain ⟨up, a⟩ := c
  unfold inner at hc
  rw [Bool.and_eq_true, decide_eq_true_iff, decide_eq_true_iff] at hc
  cases up with
  | true =>
    have hc : p.X + 1 ≤ a ∧ a ≤ p.X + p.W - 1 := hc
    exact ⟨by show 0 ≤ a; omega, s2, by show a + (p.X + p.W - a) ≤ 12; omega, s4, by show 0 ≤ p.X + p.W - a; omega, s6⟩
  | false =>
    have hc : p.Y + 1 ≤ a ∧ a ≤ p.Y + p.H - 1 := hc
    exact ⟨s1, by show 0 ≤ a; omega, s3, by show a + (p.Y + p.H - a) ≤ 12; omega, s5, by show 0 ≤ p.Y + p.H - a; omega⟩
theorem fits_half1 {p x : Label} {c : Cut} (hx : Fits p x) (hb : before c x = true) : Fits (half1 p c) x := by
  have t1 := hx.w; have t2 := hx.h; have t3 := hx.x0; have t4 := hx.y0; have t5 := hx.x1; have t6 := hx.y1
  obtain ⟨up, a⟩ := c
  rw [before_iff] at hb
  cases up with
  | true =>
    have hb : x.X + x.W ≤ a := hb
    exact ⟨t1, t2, t3, t4, by show x.X + x.W ≤ p.X + (a - p.X); omega, t6⟩
  | false =>
    have hb : x.Y + x.H ≤ a := hb
    exact ⟨t1, t2, t3, t4, t5, by show x.Y + x.H ≤ p.Y + (a - p.Y); omega⟩
theorem fits_half2 {p x : Label} {c : Cut} (hx : Fits p x) (hb : behind c x = true) : Fits (half2 p c) x := by
  have t1 := hx.w; have t2 := hx.h; have t3 := hx.x0; have t4 := hx.y0; have t5 := hx.x1; have t6 := hx.y1
  obtain ⟨up, a⟩ := c
  rw [behind_iff] at hb
  cases up with
  | true =>
    have hb : a ≤ x.X := hb
    exact ⟨t1, t2, hb, t4, by show x.X + x.W ≤ a + (p.X + p.W - a); omega, t6⟩
  | false =>
    have hb : a ≤ x.Y := hb
    exact ⟨t1, t2, t3, hb, t5, by show x.Y + x.H ≤ a + (p.Y + p.H - a); omega⟩
/-- a piece with its labels -/
structure Pc (p : Label) (l : List Label) : Prop where
  small : Small p
  fits : ∀ x, x ∈ l → Fits p x
theorem Pc.half1 {p : Label} {l : List Label} {c : Cut} (h : Pc p l) (hc : isCut p l c = true) : Pc (half1 p c) (l.filter (before c)) :=
  ⟨small_half1 h.small (isCut_parts hc).1, fun x hx => fits_half1 (h.fits x (List.mem_filter.1 hx).1) (List.mem_filter.1 hx).2⟩
theorem behind_of {p : Label} {l : List Label} {c : Cut} (hc : isCut p l c = true) {x : Label} (hx : x ∈ l) (hb : before c x = false) : behind c x = true := by
  have := (isCut_parts hc).2.1 x hx
  rw [hb] at this; simpa using this
theorem Pc.half2 {p : Label} {l : List Label} {c : Cut} (h : Pc p l) (hc : isCut p l c = true) : Pc (half2 p c) (l.filter fun x => !before c x) :=
  ⟨small_half2 h.small (isCut_parts hc).1, fun x hx => fits_half2 (h.fits x (List.mem_filter.1 hx).1) (behind_of hc (List.mem_filter.1 hx).1 (by simpa using (List.mem_filter.1 hx).2))⟩
theorem Pc.perm {p : Label} {l l' : List Label} (h : Pc p l) (hp : l'.Perm l) : Pc p l' := ⟨h.small, fun x hx => h.fits x (hp.mem_iff.1 hx)⟩
theorem split_len {l : List Label} (f : Label → Bool) : (l.filter f).length + (l.filter fun x => !f x).length = l.length := by
  induction l with
  | nil => rfl
  | cons x r ih => simp only [List.filter_cons]; cases f x <;> simp <;> omega
theorem cut_lens {p : Label} {l : List Label} {c : Cut} (hc : isCut p l c = true) : 1 ≤ (l.filter (before c)).length ∧ 1 ≤ (l.filter fun x => !before c x).length := by
  obtain ⟨_, _, ⟨x, hx, hb⟩, ⟨y, hy, hb'⟩⟩ := isCut_parts hc
  exact ⟨List.length_pos_of_mem (List.mem_filter.2 ⟨hx, hb⟩), List.length_pos_of_mem (List.mem_filter.2 ⟨hy, by rw [hb']; rfl⟩)⟩
theorem mem_cutsL {p : Label} {l : List Label} {c : Cut} (h : c ∈ cutsL p l) : isCut p l c = true := by
  unfold cutsL lineCuts at h
  rw [List.mem_append] at h
  rcases h with h | h <;> (obtain ⟨i, hi, rfl⟩ := List.mem_map.1 h; exact (List.mem_filter.1 hi).2)
theorem cutsL_perm {p : Label} {l l' : List Label} (h : l.Perm l') : cutsL p l = cutsL p l' := by
  unfold cutsL lineCuts
  simp only [isCut_perm h]
theorem cutsL_len {p : Label} {l : List Label} : (cutsL p l).length ≤ 24 := by
  have : ∀ up, (lineCuts up p l).length ≤ 12 := by
    intro up; unfold lineCuts; rw [List.length_map]; exact Nat.le_trans (List.length_filter_le _ _) (by simp)
  simp only [cutsL, List.length_append]
  have h1 := this true; have h2 := this false; omega

/-- the plan: the first cut, then the pieces; and the piece that is blocked -/
def planR : Nat → Label → List Label → List Cut × Option Label
  | 0, _, _ => ([], none)
  | m + 1, p, l => if l.length < 2 then ([], none) else match cutsL p l with
    | [] => ([], some p)
    | c :: _ => match planR m (half1 p c) (l.filter (before c)) with
      | (cs, some q) => (c :: cs, some q)
      | (cs, none) => (c :: (cs ++ (planR m (half2 p c) (l.filter fun x => !before c x)).1), (planR m (half2 p c) (l.filter fun x => !before c x)).2)
theorem planR_perm : ∀ (m : Nat) {p : Label} {l l' : List Label}, l.Perm l' → planR m p l = planR m p l'
  | 0, _, _, _, _ => rfl
  | m + 1, p, l, l', h => by
    simp only [planR, h.length_eq, cutsL_perm h]
    split
    · rfl
    · cases cutsL p l' with
      | nil => rfl
      | cons c r => simp only [planR_perm m (h.filter (before c)), planR_perm m (h.filter fun x => !before c x)]

/-! Stacks. -/
theorem stk {α : Type} {r : List α} {x : α} (h : r.length ≤ 1000) : decide ((0 : Int) < ((r ++ [x]).length : Int)) = true ∧ W (((r ++ [x]).length : Int) - (1 : Int)) = (r.length : Int) ∧ ix (r ++ [x]) (r.length : Int) = some x ∧ sub (r ++ [x]) 0 (r.length : Int) = some r := by
  refine ⟨by simp, ?_, by simp [ix_nat], ?_⟩
  · rw [W_in (by simp only [List.length_append, List.length_singleton]; omega) (by simp only [List.length_append, List.length_singleton]; omega)]
    simp only [List.length_append, List.length_singleton]; omega
  · exact (sub_nat (a := 0) (by omega) (by simp)).trans (by simp)
def blank : Piece := ⟨⟨0, 0, 0, 0⟩, []⟩
theorem f58_stack {N : Nat} {a : Layout} {k0 : List Cut → Option (List Cut × Piece × Bool)} (hN : 30 < N) : ∀ (m : Nat) (p : Label) (l l' : List Label), l'.Perm l → Pc p l → 1 ≤ l.length → l.length ≤ m → l.length ≤ 30 → ∀ (rest : List Piece) (pl : List Cut) (n j : Nat), rest.length + l.length ≤ 100 → pl.length + l.length ≤ 100 →
    2 * l.length - 1 + j ≤ n → (match (planR m p l).2 with
      | none => ∃ n', j ≤ n' ∧ f58_i102_2 a N k0 n (rest ++ [⟨p, l'⟩]) pl = f58_i102_2 a N k0 n' rest (pl ++ (planR m p l).1) ∧ (planR m p l).1.length + 1 = l.length
      | some q => ∃ l2, f58_i102_2 a N k0 n (rest ++ [⟨p, l'⟩]) pl = some (pl ++ (planR m p l).1, ⟨q, l2⟩, false)) := by
  intro m
  induction m with
  | zero => intro p l l' _ _ h1 h2; omega
  | succ m ih =>
    intro p l l' hp hpc h1 hm h30 rest pl n j hr hpl hn
    obtain ⟨n, rfl⟩ : ∃ k, n = k + 1 := ⟨n - 1, by omega⟩
    obtain ⟨e1, e2, e3, e4⟩ := stk (r := rest) (x := (⟨p, l'⟩ : Piece)) (by omega)
    have hlen := hp.length_eq
    simp only [planR]
    by_cases h2 : l.length < 2
    · rw [if_pos h2]
      refine ⟨n, by omega, ?_, by simp only [List.length_nil]; omega⟩
      simp only [f58_i102_2, f58_i102_2b, e1, cond_true, e2, e3, e4, Option.bind_some, decide_eq_true (show (l'.length : Int) < 2 by omega), List.append_nil]
    · rw [if_neg h2]
      have hpc' := hpc.perm hp
      have hcut : f45 N ⟨p, l'⟩ = some (cutsL p l) := by rw [f45_eq hpc'.small hpc'.fits (by omega) hN, cutsL_perm hp]
      cases hcs : cutsL p l with
      | nil =>
        obtain ⟨r, hr1, hr2⟩ := f69_ok (N := N) (p := p) (l := l') (c := ⟨false, 0⟩) hpc'.small hpc'.fits (by omega) hN
        refine ⟨l', ?_⟩
        simp only [f58_i102_2, f58_i102_2b, e1, cond_true, e2, e3, e4, Option.bind_some, decide_eq_false (show ¬ (l'.length : Int) < 2 by omega), cond_false, joinK, hcut, hcs, List.length_nil]
        simp only [Int.ofNat_eq_natCast, Int.natCast_zero, decide_true, cond_true, f58_i102_c7, hr1, Option.bind_some, Bool.not_false, List.append_nil]
      | cons c cr =>
        have hc : isCut p l c = true := mem_cutsL (by rw [hcs]; simp)
        have hc' : isCut p l' c = true := by rw [isCut_perm hp]; exact hc
        obtain ⟨r, hr1, hr2⟩ := f69_ok (N := N) (c := c) hpc'.small hpc'.fits (by omega) hN
        have g1 := hr2.is; have g2 := hr2.l1 hc'; have g3 := hr2.l2 hc'; have g4 := hr2.p1 hc'; have g5 := hr2.p2 hc'
        rw [hc'] at g1
        have q1 := g4.trans (hp.filter (before c))
        have q2 := g5.trans (hp.filter fun x => !before c x)
        have hsplit := split_len (l := l) (before c)
        obtain ⟨w1, w2⟩ := cut_lens hc
        have step : f58_i102_2 a N k0 (n + 1) (rest ++ [⟨p, l'⟩]) pl = f58_i102_2 a N k0 n (rest ++ [r.2.1] ++ [r.1]) (pl ++ [c]) := by
          simp only [f58_i102_2, f58_i102_2b, e1, cond_true, e2, e3, e4, Option.bind_some, decide_eq_false (show ¬ (l'.length : Int) < 2 by omega), cond_false, joinK, hcut, hcs]
          rw [decide_eq_false (show ¬ ((c :: cr).length : Int) = 0 by simp only [List.length_cons]; omega), cond_false]
          rw [show ix (c :: cr) (0 : Int) = some c from rfl]
          simp only [Option.bind_some]
          rw [app_ok (by simp; omega) (by simp; omega)]
          simp only [Option.bind_some, f58_i102_c7, hr1, Bool.not_true, cond_false, g1]
          rw [app_ok (by simp; omega) (by simp; omega)]
          simp only [Option.bind_some, List.append_assoc, List.singleton_append, List.cons_append, List.nil_append]
        have hr1e : r.1 = ⟨half1 p c, r.1.labels⟩ := by rw [← g2]
        have hr2e : r.2.1 = ⟨half2 p c, r.2.1.labels⟩ := by rw [← g3]
        have ih1 := ih (half1 p c) (l.filter (before c)) r.1.labels q1 (hpc.half1 hc) w1 (by omega) (by omega) (rest ++ [r.2.1]) (pl ++ [c]) n (2 * (l.filter fun x => !before c x).length - 1 + j) (by simp; omega) (by simp; omega) (by omega)
        rw [← hr1e] at ih1
        simp only
        cases hA : planR m (half1 p c) (l.filter (before c)) with
        | mk cs1 o1 =>
          rw [hA] at ih1
          cases o1 with
          | some q =>
            simp only at ih1 ⊢
            obtain ⟨l2, ih1⟩ := ih1
            exact ⟨l2, by rw [step, ih1]; simp⟩
          | none =>
            simp only at ih1 ⊢
            obtain ⟨n1, hn1, ih1, hl1⟩ := ih1
            have ih2 := ih (half2 p c) (l.filter fun x => !before c x) r.2.1.labels q2 (hpc.half2 hc) w2 (by omega) (by omega) rest (pl ++ [c] ++ cs1) n1 j (by omega) (by simp; omega) hn1
            rw [← hr2e] at ih2
            cases hB : planR m (half2 p c) (l.filter fun x => !before c x) with
            | mk cs2 o2 =>
              rw [hB] at ih2
              cases o2 with
              | some q =>
                simp only at ih2 ⊢
                obtain ⟨l2, ih2⟩ := ih2
                exact ⟨l2, by rw [step, ih1, ih2]; simp⟩
              | none =>
                simp only at ih2 ⊢
                obtain ⟨n2, hn2, ih2, hl2⟩ := ih2
                exact ⟨n2, hn2, by rw [step, ih1, ih2]; simp, by simp; omega⟩
def planS (L : Layout) : List Cut × Option Label := planR L.Labels.length (sheetOf L) L.Labels
theorem f58_eq {N : Nat} {L : Layout} (hv : Valid L) (hN : 30 < N) : match (planS L).2 with
    | none => f58 N L = some ((planS L).1, blank, true) ∧ (planS L).1.length + 1 = max 1 L.Labels.length
    | some q => ∃ l2, f58 N L = some ((planS L).1, ⟨q, l2⟩, false) := by
  have hlen := hv.len
  have fin : ∀ n pl, f58_i102_2 L N (f58_i102_c11 L) (n + 1) [] pl = some (pl, blank, true) := fun n pl => rfl
  have h0 : f58 N L = f58_i102_2 L N (f58_i102_c11 L) N ([] ++ [⟨sheetOf L, L.Labels⟩]) [] := rfl
  rw [h0]
  by_cases hz : L.Labels.length = 0
  · have hnil : L.Labels = [] := List.length_eq_zero_iff.1 hz
    obtain ⟨n, rfl⟩ : ∃ n, N = n + 2 := ⟨N - 2, by omega⟩
    have : planS L = ([], none) := by unfold planS; rw [hz]; rfl
    rw [this]
    refine ⟨?_, by rw [hz]; rfl⟩
    rw [hnil]; rfl
  · have := f58_stack (a := L) (k0 := f58_i102_c11 L) hN L.Labels.length (sheetOf L) L.Labels L.Labels (.refl _) ⟨hv.small, hv.fits⟩ (by omega) (Nat.le_refl _) (by omega) [] [] N 1 (by simp; omega) (by simp; omega) (by omega)
    revert this
    show (match (planS L).2 with | none => _ | some q => _) → _
    cases hq : (planS L).2 with
    | none =>
      rintro ⟨n', hn', h1, h2⟩
      obtain ⟨n', rfl⟩ : ∃ k, n' = k + 1 := ⟨n' - 1, by omega⟩
      refine ⟨?_, by show (planR _ _ _).1.length + 1 = _; omega⟩
      rw [h1, fin]; rfl
    | some q =>
      rintro ⟨l2, h1⟩
      exact ⟨l2, by rw [h1]; rfl⟩
end Go.Vc
/-
  PLAIN LAWS OF CUT, 6: plans are accepted alike; blocked pieces; the statement CutPlans.
-/
namespace Go.Vc
set_option linter.unusedVariables false
set_option linter.unnecessarySimpa false
set_option linter.unusedSimpArgs false
set_option linter.unusedSimpArgs false

def planA (L : Layout) : List Cut × Int := if checkS L = 0 then (match (planS L).2 with | none => ((planS L).1, 0) | some _ => ([], 14)) else ([], checkS L)
def blockA (L : Layout) : Label × Int := if checkS L = 0 then (match (planS L).2 with | none => (⟨0, 0, 0, 0⟩, 14) | some q => (q, 0)) else (⟨0, 0, 0, 0⟩, checkS L)
theorem f22_eq {N : Nat} {L : Layout} (h : L.Labels.length ≤ 30) (hN : 30 < N) : f22 N L = some (planA L) := by
  unfold f22 planA
  simp only [f20_eq h hN, Option.bind_some]
  by_cases c : checkS L = 0
  · have hp := f58_eq (valid_of c) hN
    rw [if_pos c, decide_eq_false (Classical.not_not.2 c), cond_false]
    cases hq : (planS L).2 with
    | none => rw [hq] at hp; rw [hp.1]; rfl
    | some q => rw [hq] at hp; obtain ⟨l2, hp⟩ := hp; rw [hp]; rfl
  · rw [if_neg c, decide_eq_true c]; rfl
theorem f24_eq {N : Nat} {L : Layout} (h : L.Labels.length ≤ 30) (hN : 30 < N) : f24 N L = some (blockA L) := by
  unfold f24 blockA
  simp only [f20_eq h hN, Option.bind_some]
  by_cases c : checkS L = 0
  · have hp := f58_eq (valid_of c) hN
    rw [if_pos c, decide_eq_false (Classical.not_not.2 c), cond_false]
    cases hq : (planS L).2 with
    | none => rw [hq] at hp; rw [hp.1]; rfl
    | some q => rw [hq] at hp; obtain ⟨l2, hp⟩ := hp; rw [hp]; rfl
  · rw [if_neg c, decide_eq_true c]; rfl

/-! The document's apart. -/
theorem filter_in1 {p : Label} {l : List Label} {c : Cut} (h : Pc p l) (hc : isCut p l c = true) : l.filter (insideB (half1 p c)) = l.filter (before c) :=
  filter_congr' fun x hx => inside_half1 h.small (h.fits x hx) (isCut_parts hc).1
theorem filter_in2 {p : Label} {l : List Label} {c : Cut} (h : Pc p l) (hc : isCut p l c = true) : l.filter (insideB (half2 p c)) = l.filter fun x => !before c x :=
  filter_congr' fun x hx => by
    rw [inside_half2 h.small (h.fits x hx) (isCut_parts hc).1]
    cases hb : before c x with
    | true => rw [not_both (h.fits x hx) hb]; rfl
    | false => rw [behind_of hc hx hb]; rfl
theorem f59_eq : ∀ (m n : Nat) (p : Label) (l : List Label), Pc p l → l.length ≤ m → l.length ≤ 30 → 30 + l.length < n → f59 n l p = some (planR m p l).2.isNone := by
  intro m
  induction m with
  | zero =>
    intro n p l hp hm _ hn
    obtain ⟨n, rfl⟩ : ∃ k, n = k + 1 := ⟨n - 1, by omega⟩
    have : l = [] := List.length_eq_zero_iff.1 (by omega)
    subst this; rfl
  | succ m ih =>
    intro n p l hp hm h30 hn
    obtain ⟨n, rfl⟩ : ∃ k, n = k + 1 := ⟨n - 1, by omega⟩
    simp only [f59, f59b, planR]
    by_cases h2 : l.length < 2
    · rw [if_pos h2, decide_eq_true (show (l.length : Int) < 2 by omega)]; rfl
    · rw [if_neg h2, decide_eq_false (show ¬ (l.length : Int) < 2 by omega), cond_false, f46_eq hp.small hp.fits h30 (by omega)]
      simp only [Option.bind_some]
      cases hcs : cutsL p l with
      | nil => rfl
      | cons c cr =>
        have hc : isCut p l c = true := mem_cutsL (by rw [hcs]; simp)
        obtain ⟨w1, w2⟩ := cut_lens hc
        have hsplit := split_len (l := l) (before c)
        rw [decide_eq_false (show ¬ ((c :: cr).length : Int) = 0 by simp only [List.length_cons]; omega), cond_false, show ix (c :: cr) (0 : Int) = some c from rfl]
        simp only [Option.bind_some, f64_in hp.small (isCut_parts hc).1, f62_eq h30 (show 30 < n by omega), filter_in1 hp hc, filter_in2 hp hc]
        rw [ih n _ _ (hp.half1 hc) (by omega) (by omega) (by omega)]
        simp only [Option.bind_some]
        cases hA : planR m (half1 p c) (l.filter (before c)) with
        | mk cs1 o1 =>
          cases o1 with
          | some q => rfl
          | none =>
            simp only [Option.isNone_none, cond_true]
            rw [ih n _ _ (hp.half2 hc) (by omega) (by omega) (by omega)]
            rfl
def possS (L : Layout) : Int := if checkS L = 0 then (if (planS L).2 = none then 0 else 14) else checkS L
theorem f23_eq {N : Nat} {L : Layout} (h : L.Labels.length ≤ 30) (hN : 60 < N) : f23 N L = some (possS L) := by
  unfold f23 possS
  simp only [f21_eq h (show 30 < N by omega), Option.bind_some]
  by_cases c : checkS L = 0
  · have hv := valid_of c
    rw [if_pos c, decide_eq_true c, cond_true]
    simp only [f47, Option.bind_some]
    have := f59_eq L.Labels.length N (sheetOf L) L.Labels ⟨hv.small, hv.fits⟩ (Nat.le_refl _) h (by omega)
    simp only [sheetOf] at this
    rw [this]
    show ((some (planS L).2.isNone).bind _) = _
    cases hq : (planS L).2 with
    | none => simp [c]
    | some q => simp
  · rw [if_neg c, decide_eq_false c]; rfl

/-! Plans that are given. -/
inductive Ver where
  | err (e : Int)
  | left (r : List Cut)
def verR : Nat → Label → List Label → List Cut → Ver
  | 0, _, _, pl => .left pl
  | m + 1, p, l, pl => if l.length < 2 then .left pl else match pl with
    | [] => .err 22
    | c :: r => bif isCut p l c then (match verR m (half1 p c) (l.filter (before c)) r with
        | .err e => .err e
        | .left r' => verR m (half2 p c) (l.filter fun x => !before c x) r') else .err 13
theorem verR_perm : ∀ (m : Nat) {p : Label} {l l' : List Label} {pl : List Cut}, l.Perm l' → verR m p l pl = verR m p l' pl
  | 0, _, _, _, _, _ => rfl
  | m + 1, p, l, l', pl, h => by
    simp only [verR, h.length_eq]
    split
    · rfl
    · cases pl with
      | nil => rfl
      | cons c r => simp only [isCut_perm h, verR_perm m (h.filter (before c)), verR_perm m (h.filter fun x => !before c x)]
theorem f25_stack {N : Nat} {a : Layout} {pl : List Cut} {k1 : Int → Bool → Option Int} (hN : 30 < N) (hpl : pl.length ≤ 30) : ∀ (m : Nat) (p : Label) (l l' : List Label), l'.Perm l → Pc p l → 1 ≤ l.length → l.length ≤ m → l.length ≤ 30 → ∀ (rest : List Piece) (i n j : Nat), rest.length + l.length ≤ 100 → i ≤ pl.length →
    2 * l.length - 1 + j ≤ n → (match verR m p l (pl.drop i) with
      | .left r => ∃ n' i', j ≤ n' ∧ i' ≤ pl.length ∧ r = pl.drop i' ∧ f25_i502_2 a pl N (f25_c6 pl) k1 n (rest ++ [⟨p, l'⟩]) (i : Int) false = f25_i502_2 a pl N (f25_c6 pl) k1 n' rest (i' : Int) false
      | .err e => f25_i502_2 a pl N (f25_c6 pl) k1 n (rest ++ [⟨p, l'⟩]) (i : Int) false = some e) := by
  intro m
  induction m with
  | zero => intro p l l' _ _ h1 h2; omega
  | succ m ih =>
    intro p l l' hp hpc h1 hm h30 rest i n j hr hi hn
    obtain ⟨n, rfl⟩ : ∃ k, n = k + 1 := ⟨n - 1, by omega⟩
    obtain ⟨e1, e2, e3, e4⟩ := stk (r := rest) (x := (⟨p, l'⟩ : Piece)) (by omega)
    have hlen := hp.length_eq
    simp only [verR]
    by_cases h2 : l.length < 2
    · rw [if_pos h2]
      refine ⟨n, i, by omega, hi, rfl, ?_⟩
      simp only [f25_i502_2, f25_i502_2b, e1, cond_true, e2, e3, e4, Option.bind_some, decide_eq_true (show (l'.length : Int) < 2 by omega)]
    · rw [if_neg h2]
      have hpc' := hpc.perm hp
      by_cases hil : i = pl.length
      · subst hil
        rw [List.drop_length]
        obtain ⟨r, hr1, hr2⟩ := f69_ok (N := N) (p := p) (l := l') (c := ⟨false, 0⟩) hpc'.small hpc'.fits (by omega) hN
        simp only [f25_i502_2, f25_i502_2b, e1, cond_true, e2, e3, e4, Option.bind_some, decide_eq_false (show ¬ (l'.length : Int) < 2 by omega), cond_false, joinK, decide_true, f25_i502_c7, hr1, Bool.not_false, f25_c6]
      · have hil : i < pl.length := by omega
        have hd : pl.drop i = pl[i] :: pl.drop (i + 1) := (List.getElem_cons_drop hil).symm
        have hx : pl[i]? = some pl[i] := by simp [hil]
        rw [hd]
        generalize pl[i] = c at hx
        obtain ⟨r, hr1, hr2⟩ := f69_ok (N := N) (c := c) hpc'.small hpc'.fits (by omega) hN
        have step0 : f25_i502_2 a pl N (f25_c6 pl) k1 (n + 1) (rest ++ [⟨p, l'⟩]) (i : Int) false = f25_i502_c7 a pl N (f25_c6 pl) (f25_i502_2 a pl N (f25_c6 pl) k1 n) ⟨p, l'⟩ rest true c.Up c.At ((i + 1 : Nat) : Int) false := by
          simp only [f25_i502_2, f25_i502_2b, e1, cond_true, e2, e3, e4, Option.bind_some, decide_eq_false (show ¬ (l'.length : Int) < 2 by omega), cond_false, joinK, decide_eq_false (show ¬ (i : Int) = (pl.length : Int) by omega)]
          rw [W_nat (show i < 9223372036854775807 by omega), show W (((i + 1 : Nat) : Int) - 1) = (i : Int) from by rw [W_in (by omega) (by omega)]; omega, ix_nat, hx]
          rfl
        have g1 := hr2.is
        rw [isCut_perm hp] at g1
        simp only
        cases hc : isCut p l c with
        | false =>
          rw [hc] at g1
          rw [cond_false]
          simp only [step0, f25_i502_c7, hr1, Option.bind_some, Bool.not_true, cond_false, g1, Bool.not_false, cond_true, f25_c6]
        | true =>
          have hc' : isCut p l' c = true := by rw [isCut_perm hp]; exact hc
          have g2 := hr2.l1 hc'; have g3 := hr2.l2 hc'; have g4 := hr2.p1 hc'; have g5 := hr2.p2 hc'
          rw [hc] at g1
          have q1 := g4.trans (hp.filter (before c))
          have q2 := g5.trans (hp.filter fun x => !before c x)
          have hsplit := split_len (l := l) (before c)
          obtain ⟨w1, w2⟩ := cut_lens hc
          have step : f25_i502_2 a pl N (f25_c6 pl) k1 (n + 1) (rest ++ [⟨p, l'⟩]) (i : Int) false = f25_i502_2 a pl N (f25_c6 pl) k1 n (rest ++ [r.2.1] ++ [r.1]) ((i + 1 : Nat) : Int) false := by
            rw [step0]
            simp only [f25_i502_c7, hr1, Option.bind_some, Bool.not_true, cond_false, g1]
            rw [app_ok (by simp; omega) (by simp; omega)]
            simp only [Option.bind_some, List.append_assoc, List.singleton_append, List.cons_append, List.nil_append]
          have hr1e : r.1 = ⟨half1 p c, r.1.labels⟩ := by rw [← g2]
          have hr2e : r.2.1 = ⟨half2 p c, r.2.1.labels⟩ := by rw [← g3]
          have ih1 := ih (half1 p c) (l.filter (before c)) r.1.labels q1 (hpc.half1 hc) w1 (by omega) (by omega) (rest ++ [r.2.1]) (i + 1) n (2 * (l.filter fun x => !before c x).length - 1 + j) (by simp; omega) (by omega) (by omega)
          rw [← hr1e] at ih1
          rw [cond_true]
          cases hA : verR m (half1 p c) (l.filter (before c)) (pl.drop (i + 1)) with
          | err e =>
            rw [hA] at ih1
            simp only at ih1 ⊢
            rw [step, ih1]
          | left r' =>
            rw [hA] at ih1
            simp only at ih1 ⊢
            obtain ⟨n1, i1, hn1, hi1, rfl, ih1⟩ := ih1
            have ih2 := ih (half2 p c) (l.filter fun x => !before c x) r.2.1.labels q2 (hpc.half2 hc) w2 (by omega) (by omega) rest i1 n1 j (by omega) hi1 hn1
            rw [← hr2e] at ih2
            cases hB : verR m (half2 p c) (l.filter fun x => !before c x) (pl.drop i1) with
            | err e =>
              rw [hB] at ih2
              simp only at ih2 ⊢
              rw [step, ih1, ih2]
            | left r2 =>
              rw [hB] at ih2
              simp only at ih2 ⊢
              obtain ⟨n2, i2, hn2, hi2, he, ih2⟩ := ih2
              exact ⟨n2, i2, hn2, hi2, he, by rw [step, ih1, ih2]⟩
def verE : Ver → Int
  | .err e => e
  | .left [] => 0
  | .left (_ :: _) => 21
def verS (L : Layout) (pl : List Cut) : Int := if checkS L = 0 then verE (verR L.Labels.length (sheetOf L) L.Labels pl) else checkS L
theorem left_len {pl : List Cut} {i : Nat} (h : i ≤ pl.length) : verE (.left (pl.drop i)) = if (i : Int) < (pl.length : Int) then 21 else 0 := by
  by_cases hi : i < pl.length
  · rw [(List.getElem_cons_drop hi).symm, if_pos (by omega)]; rfl
  · have : i = pl.length := by omega
    subst this
    rw [List.drop_length, if_neg (by omega)]; rfl
theorem f25_eq {N : Nat} {L : Layout} {pl : List Cut} (h : L.Labels.length ≤ 30) (hpl : pl.length ≤ 30) (hN : 30 < N) : f25 N L pl = some (verS L pl) := by
  unfold f25 verS
  simp only [f20_eq h hN, Option.bind_some]
  by_cases c : checkS L = 0
  · have hv := valid_of c
    have hlen := hv.len
    rw [if_pos c, decide_eq_false (Classical.not_not.2 c), cond_false]
    simp only [joinK, f44, Option.bind_some]
    have fin : ∀ n (i : Nat), f25_i502_2 L pl N (f25_c6 pl) (f25_i502_c11 L pl (f25_c6 pl)) (n + 1) [] (i : Int) false = some (if (i : Int) < (pl.length : Int) then 21 else 0) := by
      intro n i
      simp only [f25_i502_2, f25_i502_2b, List.length_nil, Int.ofNat_eq_natCast, Int.natCast_zero, Int.lt_irrefl, decide_false, cond_false, f25_i502_c11, f25_c6, Bool.not_true]
      by_cases hi : (i : Int) < (pl.length : Int)
      · rw [decide_eq_true hi, if_pos hi]; rfl
      · rw [decide_eq_false hi, if_neg hi]; rfl
    show f25_i502_2 L pl N (f25_c6 pl) (f25_i502_c11 L pl (f25_c6 pl)) N ([] ++ [⟨sheetOf L, L.Labels⟩]) ((0 : Nat) : Int) false = _
    by_cases hz : L.Labels.length = 0
    · have hnil : L.Labels = [] := List.length_eq_zero_iff.1 hz
      obtain ⟨n, rfl⟩ : ∃ n, N = n + 2 := ⟨N - 2, by omega⟩
      rw [hz]
      simp only [verR]
      have := left_len (pl := pl) (i := 0) (by omega)
      rw [List.drop_zero] at this
      rw [this, ← fin n 0, hnil]
      rfl
    · have := f25_stack (a := L) (k1 := f25_i502_c11 L pl (f25_c6 pl)) hN hpl L.Labels.length (sheetOf L) L.Labels L.Labels (.refl _) ⟨hv.small, hv.fits⟩ (by omega) (Nat.le_refl _) (by omega) [] 0 N 1 (by simp; omega) (by omega) (by omega)
      rw [List.drop_zero] at this
      cases hq : verR L.Labels.length (sheetOf L) L.Labels pl with
      | err e => rw [hq] at this; exact this
      | left r =>
        rw [hq] at this
        obtain ⟨n', i', hn', hi', rfl, h1⟩ := this
        obtain ⟨n', rfl⟩ : ∃ k, n' = k + 1 := ⟨n' - 1, by omega⟩
        rw [h1, fin, left_len hi']
  · rw [if_neg c, decide_eq_true c]; rfl

/-! The document's Verify: pieces by their labels inside. -/
theorem inside_sub1 {p x : Label} {c : Cut} (hs : Small p) (hc : inner c p = true) (hx : ∃ q, Small q ∧ Fits q x) (h : insideB (half1 p c) x = true) : insideB p x = true := by
  have s1 := hs.x0; have s2 := hs.y0; have s3 := hs.x1; have s4 := hs.y1; have s5 := hs.w; have s6 := hs.h
  obtain ⟨q, hq, hf⟩ := hx
  have u1 := hq.x0; have u2 := hq.y0; have u3 := hq.x1; have u4 := hq.y1
  have t1 := hf.w; have t2 := hf.h; have t3 := hf.x0; have t4 := hf.y0; have t5 := hf.x1; have t6 := hf.y1
  obtain ⟨up, a⟩ := c
  unfold inner at hc
  rw [Bool.and_eq_true, decide_eq_true_iff, decide_eq_true_iff] at hc
  rw [insideB_iff (by omega) (by omega)]
  cases up with
  | true =>
    have hc : p.X + 1 ≤ a ∧ a ≤ p.X + p.W - 1 := hc
    rw [insideB_iff (p := half1 p ⟨true, a⟩) (x := x) (by show -1000 ≤ p.X + (a - p.X) ∧ p.X + (a - p.X) ≤ 1000 ∧ -1000 ≤ p.Y + p.H ∧ p.Y + p.H ≤ 1000; omega) (by omega)] at h
    have h : p.X ≤ x.X ∧ p.Y ≤ x.Y ∧ x.X + x.W ≤ p.X + (a - p.X) ∧ x.Y + x.H ≤ p.Y + p.H := h
    omega
  | false =>
    have hc : p.Y + 1 ≤ a ∧ a ≤ p.Y + p.H - 1 := hc
    rw [insideB_iff (p := half1 p ⟨false, a⟩) (x := x) (by show -1000 ≤ p.X + p.W ∧ p.X + p.W ≤ 1000 ∧ -1000 ≤ p.Y + (a - p.Y) ∧ p.Y + (a - p.Y) ≤ 1000; omega) (by omega)] at h
    have h : p.X ≤ x.X ∧ p.Y ≤ x.Y ∧ x.X + x.W ≤ p.X + p.W ∧ x.Y + x.H ≤ p.Y + (a - p.Y) := h
    omega
theorem inside_sub2 {p x : Label} {c : Cut} (hs : Small p) (hc : inner c p = true) (hx : ∃ q, Small q ∧ Fits q x) (h : insideB (half2 p c) x = true) : insideB p x = true := by
  have s1 := hs.x0; have s2 := hs.y0; have s3 := hs.x1; have s4 := hs.y1; have s5 := hs.w; have s6 := hs.h
  obtain ⟨q, hq, hf⟩ := hx
  have u1 := hq.x0; have u2 := hq.y0; have u3 := hq.x1; have u4 := hq.y1
  have t1 := hf.w; have t2 := hf.h; have t3 := hf.x0; have t4 := hf.y0; have t5 := hf.x1; have t6 := hf.y1
  obtain ⟨up, a⟩ := c
  unfold inner at hc
  rw [Bool.and_eq_true, decide_eq_true_iff, decide_eq_true_iff] at hc
  rw [insideB_iff (by omega) (by omega)]
  cases up with
  | true =>
    have hc : p.X + 1 ≤ a ∧ a ≤ p.X + p.W - 1 := hc
    rw [insideB_iff (p := half2 p ⟨true, a⟩) (x := x) (by show -1000 ≤ a + (p.X + p.W - a) ∧ a + (p.X + p.W - a) ≤ 1000 ∧ -1000 ≤ p.Y + p.H ∧ p.Y + p.H ≤ 1000; omega) (by omega)] at h
    have h : a ≤ x.X ∧ p.Y ≤ x.Y ∧ x.X + x.W ≤ a + (p.X + p.W - a) ∧ x.Y + x.H ≤ p.Y + p.H := h
    omega
  | false =>
    have hc : p.Y + 1 ≤ a ∧ a ≤ p.Y + p.H - 1 := hc
    rw [insideB_iff (p := half2 p ⟨false, a⟩) (x := x) (by show -1000 ≤ p.X + p.W ∧ p.X + p.W ≤ 1000 ∧ -1000 ≤ a + (p.Y + p.H - a) ∧ a + (p.Y + p.H - a) ≤ 1000; omega) (by omega)] at h
    have h : p.X ≤ x.X ∧ a ≤ x.Y ∧ x.X + x.W ≤ p.X + p.W ∧ x.Y + x.H ≤ a + (p.Y + p.H - a) := h
    omega
theorem inside_fits {p x : Label} (hs : Small p) (hx : ∃ q, Small q ∧ Fits q x) (h : insideB p x = true) : Fits p x := by
  have s1 := hs.x0; have s2 := hs.y0; have s3 := hs.x1; have s4 := hs.y1; have s5 := hs.w; have s6 := hs.h
  obtain ⟨q, hq, hf⟩ := hx
  have u1 := hq.x0; have u2 := hq.y0; have u3 := hq.x1; have u4 := hq.y1
  have t1 := hf.w; have t2 := hf.h; have t3 := hf.x0; have t4 := hf.y0; have t5 := hf.x1; have t6 := hf.y1
  rw [insideB_iff (by omega) (by omega)] at h
  exact ⟨t1, t2, by omega, by omega, by omega, by omega⟩
/-- labels that lie in a sheet -/
def Laid (S : List Label) : Prop := ∀ x, x ∈ S → ∃ q, Small q ∧ Fits q x
theorem inside_half1_all {S : List Label} {p : Label} {c : Cut} (hS : Laid S) (hs : Small p) (hc : inner c p = true) : S.filter (insideB (half1 p c)) = (S.filter (insideB p)).filter (before c) := by
  rw [List.filter_filter]
  refine List.filter_congr fun x hx => ?_
  cases hp : insideB p x with
  | true =>
    have hf := inside_fits hs (hS x hx) hp
    rw [inside_half1 hs hf hc, Bool.and_true]
  | false =>
    rw [Bool.and_false]
    cases hh : insideB (half1 p c) x with
    | false => rfl
    | true => rw [inside_sub1 hs hc (hS x hx) hh] at hp; cases hp
theorem inside_half2_all {S : List Label} {p : Label} {c : Cut} (hS : Laid S) (hs : Small p) (hc : isCut p (S.filter (insideB p)) c = true) : S.filter (insideB (half2 p c)) = (S.filter (insideB p)).filter fun x => !before c x := by
  rw [List.filter_filter]
  refine List.filter_congr fun x hx => ?_
  have hin := (isCut_parts hc).1
  cases hp : insideB p x with
  | true =>
    have hf := inside_fits hs (hS x hx) hp
    rw [inside_half2 hs hf hin, Bool.and_true]
    cases hb : before c x with
    | true => rw [not_both hf hb]; rfl
    | false => rw [behind_of hc (List.mem_filter.2 ⟨hx, hp⟩) hb]; rfl
  | false =>
    rw [Bool.and_false]
    cases hh : insideB (half2 p c) x with
    | false => rfl
    | true => rw [inside_sub2 hs hin (hS x hx) hh] at hp; cases hp
theorem pc_inside {S : List Label} {p : Label} (hS : Laid S) (hs : Small p) : Pc p (S.filter (insideB p)) := ⟨hs, fun x hx => inside_fits hs (hS x (List.mem_filter.1 hx).1) (List.mem_filter.1 hx).2⟩
theorem f26_stack {N : Nat} {a : Layout} {pl : List Cut} (hS : Laid a.Labels) (ha : a.Labels.length ≤ 30) (hN : 30 < N) (hpl : pl.length ≤ 30) : ∀ (m : Nat) (p : Label) (l : List Label), l = a.Labels.filter (insideB p) → Small p → 1 ≤ l.length → l.length ≤ m → l.length ≤ 30 → ∀ (rest : List Label) (i n j : Nat), rest.length + l.length ≤ 100 → i ≤ pl.length →
    2 * l.length - 1 + j ≤ n → (match verR m p l (pl.drop i) with
      | .left r => ∃ n' i', j ≤ n' ∧ i' ≤ pl.length ∧ r = pl.drop i' ∧ f26_6 a pl N (f26_c18 pl) n (rest ++ [p]) (i : Int) = f26_6 a pl N (f26_c18 pl) n' rest (i' : Int)
      | .err e => f26_6 a pl N (f26_c18 pl) n (rest ++ [p]) (i : Int) = some e) := by
  intro m
  induction m with
  | zero => intro p l _ _ h1 h2; omega
  | succ m ih =>
    intro p l hl hs h1 hm h30 rest i n j hr hi hn
    obtain ⟨n, rfl⟩ : ∃ k, n = k + 1 := ⟨n - 1, by omega⟩
    obtain ⟨e1, e2, e3, e4⟩ := stk (r := rest) (x := p) (by omega)
    have hpc : Pc p l := by rw [hl]; exact pc_inside hS hs
    simp only [verR]
    by_cases h2 : l.length < 2
    · rw [if_pos h2]
      refine ⟨n, i, by omega, hi, rfl, ?_⟩
      simp only [f26_6, f26_6b, e1, cond_true, e2, e3, e4, Option.bind_some, f62_eq ha hN, ← hl, decide_eq_true (show (l.length : Int) < 2 by omega)]
    · rw [if_neg h2]
      by_cases hil : i = pl.length
      · subst hil
        rw [List.drop_length]
        simp only [f26_6, f26_6b, e1, cond_true, e2, e3, e4, Option.bind_some, f62_eq ha hN, ← hl, decide_eq_false (show ¬ (l.length : Int) < 2 by omega), cond_false, decide_true]
      · have hil : i < pl.length := by omega
        have hd : pl.drop i = pl[i] :: pl.drop (i + 1) := (List.getElem_cons_drop hil).symm
        have hx : pl[i]? = some pl[i] := by simp [hil]
        rw [hd]
        generalize pl[i] = c at hx
        simp only
        cases hc : isCut p l c with
        | false =>
          rw [cond_false]
          simp only [f26_6, f26_6b, e1, cond_true, e2, e3, e4, Option.bind_some, f62_eq ha hN, ← hl, decide_eq_false (show ¬ (l.length : Int) < 2 by omega), cond_false, decide_eq_false (show ¬ (i : Int) = (pl.length : Int) by omega), ix_nat, hx, f63_eq hpc.small hpc.fits h30 hN, hc, Bool.not_false]
        | true =>
          have hin := (isCut_parts hc).1
          have hsplit := split_len (l := l) (before c)
          obtain ⟨w1, w2⟩ := cut_lens hc
          have step : f26_6 a pl N (f26_c18 pl) (n + 1) (rest ++ [p]) (i : Int) = f26_6 a pl N (f26_c18 pl) n (rest ++ [half2 p c] ++ [half1 p c]) ((i + 1 : Nat) : Int) := by
            simp only [f26_6, f26_6b, e1, cond_true, e2, e3, e4, Option.bind_some, f62_eq ha hN, ← hl, decide_eq_false (show ¬ (l.length : Int) < 2 by omega), cond_false, decide_eq_false (show ¬ (i : Int) = (pl.length : Int) by omega), ix_nat, hx, f63_eq hpc.small hpc.fits h30 hN, hc, Bool.not_true, f64_in hs hin]
            rw [app_ok (by simp; omega) (by simp; omega), W_nat (show i < 9223372036854775807 by omega)]
            simp only [Option.bind_some, List.append_assoc, List.singleton_append, List.cons_append, List.nil_append]
          have ih1 := ih (half1 p c) (l.filter (before c)) (by rw [inside_half1_all hS hs hin, ← hl]) (small_half1 hs hin) w1 (by omega) (by omega) (rest ++ [half2 p c]) (i + 1) n (2 * (l.filter fun x => !before c x).length - 1 + j) (by simp; omega) (by omega) (by omega)
          rw [cond_true]
          cases hA : verR m (half1 p c) (l.filter (before c)) (pl.drop (i + 1)) with
          | err e =>
            rw [hA] at ih1
            simp only at ih1 ⊢
            rw [step, ih1]
          | left r' =>
            rw [hA] at ih1
            simp only at ih1 ⊢
            obtain ⟨n1, i1, hn1, hi1, rfl, ih1⟩ := ih1
            have ih2 := ih (half2 p c) (l.filter fun x => !before c x) (by rw [inside_half2_all hS hs (by rw [← hl]; exact hc), ← hl]) (small_half2 hs hin) w2 (by omega) (by omega) rest i1 n1 j (by omega) hi1 hn1
            cases hB : verR m (half2 p c) (l.filter fun x => !before c x) (pl.drop i1) with
            | err e =>
              rw [hB] at ih2
              simp only at ih2 ⊢
              rw [step, ih1, ih2]
            | left r2 =>
              rw [hB] at ih2
              simp only at ih2 ⊢
              obtain ⟨n2, i2, hn2, hi2, he, ih2⟩ := ih2
              exact ⟨n2, i2, hn2, hi2, he, by rw [step, ih1, ih2]⟩
theorem inside_sheet {L : Layout} (hv : Valid L) : L.Labels.filter (insideB (sheetOf L)) = L.Labels := by
  rw [List.filter_eq_self]
  intro x hx
  have s := hv.small
  have s1 := s.x0; have s2 := s.y0; have s3 := s.x1; have s4 := s.y1; have s5 := s.w; have s6 := s.h
  have hf := hv.fits x hx
  have t1 := hf.w; have t2 := hf.h; have t3 := hf.x0; have t4 := hf.y0; have t5 := hf.x1; have t6 := hf.y1
  rw [insideB_iff (by omega) (by omega)]
  exact ⟨t3, t4, t5, t6⟩
theorem Valid.laid {L : Layout} (hv : Valid L) : Laid L.Labels := fun x hx => ⟨_, hv.small, hv.fits x hx⟩
theorem f26_eq {N : Nat} {L : Layout} {pl : List Cut} (h : L.Labels.length ≤ 30) (hpl : pl.length ≤ 30) (hN : 30 < N) : f26 N L pl = some (verS L pl) := by
  unfold f26 verS
  simp only [f21_eq h hN, Option.bind_some]
  by_cases c : checkS L = 0
  · have hv := valid_of c
    have hlen := hv.len
    rw [if_pos c, decide_eq_false (Classical.not_not.2 c), cond_false]
    simp only [joinK, f47, Option.bind_some]
    have fin : ∀ n (i : Nat), f26_6 L pl N (f26_c18 pl) (n + 1) [] (i : Int) = some (if (i : Int) < (pl.length : Int) then 21 else 0) := by
      intro n i
      simp only [f26_6, f26_6b, List.length_nil, Int.ofNat_eq_natCast, Int.natCast_zero, Int.lt_irrefl, decide_false, cond_false, f26_c18]
      by_cases hi : (i : Int) < (pl.length : Int)
      · rw [decide_eq_true hi, if_pos hi]; rfl
      · rw [decide_eq_false hi, if_neg hi]; rfl
    show f26_6 L pl N (f26_c18 pl) N ([] ++ [sheetOf L]) ((0 : Nat) : Int) = _
    by_cases hz : L.Labels.length = 0
    · have hnil : L.Labels = [] := List.length_eq_zero_iff.1 hz
      obtain ⟨n, rfl⟩ : ∃ n, N = n + 2 := ⟨N - 2, by omega⟩
      rw [hz]
      simp only [verR]
      have := left_len (pl := pl) (i := 0) (by omega)
      rw [List.drop_zero] at this
      rw [this, ← fin n 0]
      have hf62 : f62 (n + 2) L.Labels (sheetOf L) = some [] := by rw [f62_eq h (by omega), hnil]; rfl
      show f26_6b _ L pl (n + 2) (f26_c18 pl) [sheetOf L] ((0 : Nat) : Int) = _
      unfold f26_6b
      rw [show decide ((0 : Int) < (List.length [sheetOf L] : Int)) = true from rfl, cond_true, show ix [sheetOf L] (W ((List.length [sheetOf L] : Int) - (1 : Int))) = some (sheetOf L) from rfl, show sub [sheetOf L] 0 (W ((List.length [sheetOf L] : Int) - (1 : Int))) = some [] from rfl]
      simp only [Option.bind_some, hf62]
      rfl
    · have := f26_stack (a := L) hv.laid h hN hpl L.Labels.length (sheetOf L) L.Labels (inside_sheet hv).symm hv.small (by omega) (Nat.le_refl _) (by omega) [] 0 N 1 (by simp; omega) (by omega) (by omega)
      rw [List.drop_zero] at this
      cases hq : verR L.Labels.length (sheetOf L) L.Labels pl with
      | err e => rw [hq] at this; exact this
      | left r =>
        rw [hq] at this
        obtain ⟨n', i', hn', hi', rfl, h1⟩ := this
        obtain ⟨n', rfl⟩ : ∃ k, n' = k + 1 := ⟨n' - 1, by omega⟩
        rw [h1, fin, left_len hi']
  · rw [if_neg c, decide_eq_true c]; rfl
end Go.Vc
/-
  PLAIN LAWS OF CUT, 7: the plan is accepted; the blocked piece is reached; the statement CutPlans.
-/
namespace Go.Vc
set_option linter.unusedVariables false
set_option linter.unnecessarySimpa false
set_option linter.unusedSimpArgs false
set_option linter.unusedSimpArgs false

theorem f27_eq {N : Nat} {a : List Cut} (h : a.length ≤ 30) (hN : 30 < N) : f27 N a = some a := by
  show f27_3 a f27_c6 N [] (0 : Int) = _
  have := loopL (l := a) (F := fun n s i => f27_3 a f27_c6 n s i) (g := fun _ x (o : List Cut) c => (app 16 o [x]).bind c) (k := f27_c6)
    (fun n s i x hx => by
      have hi := (List.getElem?_eq_some_iff.1 hx).1
      simp only [f27_3, f27_3b, ix_nat, hx, Option.bind_some, decide_eq_true (show (i : Int) < (a.length : Int) by omega), cond_true, W_nat (show i < 9223372036854775807 by omega)])
    (fun n s => by simp [f27_3, f27_3b]) N [] (by omega)
  refine this.trans ?_
  rw [foldK_copy _ _ _ (by simp; omega) (by simp; omega)]
  simp [f27_c6]
/-- the plan is accepted, and nothing of what follows it is used -/
theorem plan_ver : ∀ (m : Nat) (p : Label) (l : List Label) (r : List Cut), l.length ≤ m → (planR m p l).2 = none → verR m p l ((planR m p l).1 ++ r) = .left r
  | 0, _, _, _, _, _ => rfl
  | m + 1, p, l, r, hm, h => by
    simp only [planR, verR] at *
    by_cases h2 : l.length < 2
    · rw [if_pos h2] at *; rw [if_pos h2]; rfl
    · rw [if_neg h2] at *
      rw [if_neg h2]
      cases hcs : cutsL p l with
      | nil => rw [hcs] at h; cases h
      | cons c cr =>
        have hc : isCut p l c = true := mem_cutsL (by rw [hcs]; simp)
        obtain ⟨w1, w2⟩ := cut_lens hc
        have hsplit := split_len (l := l) (before c)
        rw [hcs] at h
        simp only at h ⊢
        have i1 := fun r' => plan_ver m (half1 p c) (l.filter (before c)) r' (by omega)
        have i2 := fun r' => plan_ver m (half2 p c) (l.filter fun x => !before c x) r' (by omega)
        cases hA : planR m (half1 p c) (l.filter (before c)) with
        | mk cs1 o1 =>
          rw [hA] at h i1
          cases o1 with
          | some q => cases h
          | none =>
            simp only at h ⊢
            cases hB : planR m (half2 p c) (l.filter fun x => !before c x) with
            | mk cs2 o2 =>
              rw [hB] at h i2
              simp only at h
              subst h
              simp only [List.cons_append, hc, cond_true, List.append_assoc]
              have := i1 (cs2 ++ r) rfl
              simp only at this
              rw [this]
              exact i2 r rfl
/-- the piece that is blocked can't be cut, holds labels, and is reached by cuts -/
inductive Reach (S : List Label) : Label → Label → Prop where
  | here (p : Label) : Reach S p p
  | one {p q : Label} {c : Cut} (hc : c ∈ cutsL p (S.filter (insideB p))) (h : Reach S (half1 p c) q) : Reach S p q
  | two {p q : Label} {c : Cut} (hc : c ∈ cutsL p (S.filter (insideB p))) (h : Reach S (half2 p c) q) : Reach S p q
theorem plan_block {S : List Label} (hS : Laid S) : ∀ (m : Nat) (p q : Label), Small p → (S.filter (insideB p)).length ≤ m → (planR m p (S.filter (insideB p))).2 = some q →
    Reach S p q ∧ Small q ∧ 2 ≤ (S.filter (insideB q)).length ∧ cutsL q (S.filter (insideB q)) = []
  | 0, p, q, _, _, h => by cases h
  | m + 1, p, q, hs, hm, h => by
    simp only [planR] at h
    by_cases h2 : (S.filter (insideB p)).length < 2
    · rw [if_pos h2] at h; cases h
    · rw [if_neg h2] at h
      cases hcs : cutsL p (S.filter (insideB p)) with
      | nil =>
        rw [hcs] at h
        simp only [Option.some.injEq] at h
        subst h
        exact ⟨.here _, hs, by omega, hcs⟩
      | cons c cr =>
        have hmem : c ∈ cutsL p (S.filter (insideB p)) := by rw [hcs]; simp
        have hc := mem_cutsL hmem
        have hin := (isCut_parts hc).1
        obtain ⟨w1, w2⟩ := cut_lens hc
        have hsplit := split_len (l := S.filter (insideB p)) (before c)
        rw [hcs] at h
        simp only at h
        rw [← inside_half1_all hS hs hin, ← inside_half2_all hS hs hc] at h
        have e1 := inside_half1_all hS hs hin
        have e2 := inside_half2_all hS hs hc
        cases hA : planR m (half1 p c) (S.filter (insideB (half1 p c))) with
        | mk cs1 o1 =>
          rw [hA] at h
          cases o1 with
          | some q' =>
            simp only [Option.some.injEq] at h
            subst h
            obtain ⟨a1, a2, a3, a4⟩ := plan_block hS m (half1 p c) q' (small_half1 hs hin) (by rw [e1]; omega) (by rw [hA])
            exact ⟨.one hmem a1, a2, a3, a4⟩
          | none =>
            simp only at h
            obtain ⟨a1, a2, a3, a4⟩ := plan_block hS m (half2 p c) q (small_half2 hs hin) (by rw [e2]; omega) h
            exact ⟨.two hmem a1, a2, a3, a4⟩
/-! reached: all ways are tried -/
theorem label_eqB {x y : Label} : (decide (x.X = y.X) && (decide (x.Y = y.Y) && (decide (x.W = y.W) && (decide (x.H = y.H) && true)))) = decide (x = y) := by
  obtain ⟨a, b, c, d⟩ := x
  obtain ⟨a', b', c', d'⟩ := y
  rw [Bool.eq_iff_iff]
  simp
def reachB (S : List Label) (q : Label) : Nat → Label → Bool
  | 0, _ => false
  | m + 1, p => decide (p = q) || (cutsL p (S.filter (insideB p))).any fun c => reachB S q m (half1 p c) || reachB S q m (half2 p c)
theorem reachB_of {S : List Label} (hS : Laid S) : ∀ (m : Nat) (p q : Label), Small p → (S.filter (insideB p)).length < m → Reach S p q → reachB S q m p = true := by
  intro m p q hs hm h
  induction h generalizing m with
  | here p => obtain ⟨m, rfl⟩ : ∃ k, m = k + 1 := ⟨m - 1, by omega⟩; simp [reachB]
  | @one p q c hc h ih =>
    obtain ⟨m, rfl⟩ : ∃ k, m = k + 1 := ⟨m - 1, by omega⟩
    have hc' := mem_cutsL hc
    have hin := (isCut_parts hc').1
    obtain ⟨w1, w2⟩ := cut_lens hc'
    have hsplit := split_len (l := S.filter (insideB p)) (before c)
    have := ih m (small_half1 hs hin) (by rw [inside_half1_all hS hs hin]; omega)
    simp only [reachB, Bool.or_eq_true]
    right
    exact List.any_eq_true.2 ⟨c, hc, by rw [this]; rfl⟩
  | @two p q c hc h ih =>
    obtain ⟨m, rfl⟩ : ∃ k, m = k + 1 := ⟨m - 1, by omega⟩
    have hc' := mem_cutsL hc
    have hin := (isCut_parts hc').1
    obtain ⟨w1, w2⟩ := cut_lens hc'
    have hsplit := split_len (l := S.filter (insideB p)) (before c)
    have := ih m (small_half2 hs hin) (by rw [inside_half2_all hS hs hc']; omega)
    simp only [reachB, Bool.or_eq_true]
    right
    exact List.any_eq_true.2 ⟨c, hc, by rw [this]; simp⟩
theorem filter_twice1 {S : List Label} {p : Label} {c : Cut} (hS : Laid S) (hs : Small p) (hc : inner c p = true) : (S.filter (insideB p)).filter (insideB (half1 p c)) = S.filter (insideB (half1 p c)) := by
  rw [inside_half1_all hS hs hc]
  exact filter_congr' fun x hx => inside_half1 hs (inside_fits hs (hS x (List.mem_filter.1 hx).1) (List.mem_filter.1 hx).2) hc
theorem filter_twice2 {S : List Label} {p : Label} {c : Cut} (hS : Laid S) (hs : Small p) (hc : isCut p (S.filter (insideB p)) c = true) : (S.filter (insideB p)).filter (insideB (half2 p c)) = S.filter (insideB (half2 p c)) := by
  rw [inside_half2_all hS hs hc]
  exact filter_in2 (pc_inside hS hs) hc
theorem anyE_fold {α : Type} {f : α → Bool} {k : Option Bool} : ∀ (l : List α) (i : Nat), foldK (fun _ x (_ : Unit) c => bif f x then some true else c ()) (fun _ => k) i l () = bif l.any f then some true else k
  | [], i => rfl
  | x :: r, i => by
    simp only [foldK, List.any_cons]
    cases f x with
    | true => rfl
    | false => simpa using anyE_fold r (i + 1)
theorem f65_eq {S : List Label} {q : Label} (hS : Laid S) : ∀ (m n : Nat) (p : Label), Small p → (S.filter (insideB p)).length < m → m ≤ 12 → 40 + m < n → f65 n (S.filter (insideB p)) p q = some (reachB S q m p) := by
  intro m
  induction m with
  | zero => intro n p _ h; omega
  | succ m ih =>
    intro n p hs hm hm12 hn
    obtain ⟨n, rfl⟩ : ∃ k, n = k + 1 := ⟨n - 1, by omega⟩
    have hpc := pc_inside hS hs
    simp only [f65, f65b, reachB, label_eqB]
    cases hpq : decide (p = q) with
    | true => rfl
    | false =>
      rw [cond_false, f46_eq hpc.small hpc.fits (by omega) (by omega)]
      simp only [Option.bind_some, joinK, Bool.false_or]
      have hlen : (cutsL p (S.filter (insideB p))).length ≤ 24 := cutsL_len
      have := loopL (l := cutsL p (S.filter (insideB p))) (F := fun k (_ : Unit) j => f65_5 (S.filter (insideB p)) p q n (f65 n) (cutsL p (S.filter (insideB p))) f65_c10 k j) (g := fun _ c (_ : Unit) k => bif reachB S q m (half1 p c) || reachB S q m (half2 p c) then some true else k ()) (k := fun _ => f65_c10)
        (fun k s j c hx => by
          have hi := (List.getElem?_eq_some_iff.1 hx).1
          have hc := mem_cutsL (List.mem_of_getElem? hx)
          have hin := (isCut_parts hc).1
          obtain ⟨w1, w2⟩ := cut_lens hc
          have hsplit := split_len (l := S.filter (insideB p)) (before c)
          have r1 := ih n (half1 p c) (small_half1 hs hin) (by rw [inside_half1_all hS hs hin]; omega) (by omega) (by omega)
          have r2 := ih n (half2 p c) (small_half2 hs hin) (by rw [inside_half2_all hS hs hc]; omega) (by omega) (by omega)
          simp only [f65_5, f65_5b, decide_eq_true (show (j : Int) < ((cutsL p (S.filter (insideB p))).length : Int) by omega), cond_true, ix_nat, hx, Option.bind_some, f64_in hs hin, f62_eq (N := n) (show (S.filter (insideB p)).length ≤ 30 by omega) (by omega), filter_twice1 hS hs hin, filter_twice2 hS hs hc, r1, r2, W_nat (show j < 9223372036854775807 by omega)]
          cases reachB S q m (half1 p c) <;> cases reachB S q m (half2 p c) <;> rfl)
        (fun k s => by simp [f65_5, f65_5b]) n () (by omega)
      refine this.trans ?_
      rw [anyE_fold]
      cases (cutsL p (S.filter (insideB p))).any fun c => reachB S q m (half1 p c) || reachB S q m (half2 p c) <;> rfl
theorem f28_true {N : Nat} {L : Layout} {q : Label} (hv : Valid L) (hq : (planS L).2 = some q) (hN : 60 < N) : f28 N L q = some true := by
  have hlen := hv.len
  have hS := hv.laid
  have hsh := inside_sheet hv
  unfold planS at hq
  rw [show planR L.Labels.length (sheetOf L) L.Labels = planR L.Labels.length (sheetOf L) (L.Labels.filter (insideB (sheetOf L))) by rw [hsh]] at hq
  obtain ⟨a1, a2, a3, a4⟩ := plan_block hS L.Labels.length (sheetOf L) q hv.small (by rw [hsh]; exact Nat.le_refl _) hq
  have hle : (L.Labels.filter (insideB q)).length ≤ 10 := Nat.le_trans (List.length_filter_le _ _) hlen
  have hpc := pc_inside hS a2
  unfold f28
  rw [f62_eq (by omega) (by omega)]
  simp only [Option.bind_some, decide_eq_true (show (1 : Int) < ((L.Labels.filter (insideB q)).length : Int) by omega), cond_true]
  rw [f46_eq hpc.small hpc.fits (by omega) (by omega), a4]
  simp only [Option.bind_some, List.length_nil, Int.ofNat_eq_natCast, Int.natCast_zero, decide_true, cond_true, f47]
  have hb := reachB_of hS 11 (sheetOf L) q hv.small (by rw [hsh]; omega) a1
  have := f65_eq (q := q) hS 11 N (sheetOf L) hv.small (by rw [hsh]; omega) (by omega) (by omega)
  rw [hsh, hb] at this
  simp only [sheetOf] at this
  rw [this]; rfl
theorem works60 (h : f13 60 = some true) : f13 60 = some true := h
theorem f4_true (a : Layout) (pl : List Cut) (hw : f13 61 = some true) : f4 61 a pl = some true := by
  unfold f4
  by_cases c1 : 30 < (a.Labels.length : Int)
  · simp [c1, hw]
  by_cases c2 : 30 < (pl.length : Int)
  · simp [c1, c2, hw]
  have h1 : a.Labels.length ≤ 30 := by omega
  have h2 : pl.length ≤ 30 := by omega
  simp only [c1, c2, decide_false, cond_false, f14_eq (N := 61) h1 (by omega), f22_eq h1 (show 30 < 61 by omega), f23_eq h1 (show 60 < 61 by omega), f24_eq h1 (show 30 < 61 by omega), f25_eq h1 h2 (show 30 < 61 by omega), f27_eq h2 (show 30 < 61 by omega), f26_eq h1 h2 (show 30 < 61 by omega), Option.bind_some, not_true_eq_false]
  by_cases c : checkS a = 0
  · have hv := valid_of c
    have hp := f58_eq (N := 61) hv (by omega)
    have hlen := hv.len
    cases hq : (planS a).2 with
    | none =>
      rw [hq] at hp
      have hpl : (planS a).1.length ≤ 30 := by have := hp.2; omega
      have hver : verS a (planS a).1 = 0 := by
        unfold verS
        rw [if_pos c]
        have := plan_ver a.Labels.length (sheetOf a) a.Labels [] (Nat.le_refl _) hq
        rw [List.append_nil] at this
        show verE (verR _ _ _ (planS a).1) = 0
        rw [show (planS a).1 = (planR a.Labels.length (sheetOf a) a.Labels).1 from rfl, this]; rfl
      have e1 : planA a = ((planS a).1, 0) := by unfold planA; rw [if_pos c, hq]
      have e2 : possS a = 0 := by unfold possS; rw [if_pos c, if_pos hq]
      have e3 : blockA a = (⟨0, 0, 0, 0⟩, 14) := by unfold blockA; rw [if_pos c, hq]
      rw [e1, e2, e3]
      simp [f27_eq hpl (show 30 < 61 by omega), f26_eq h1 hpl (show 30 < 61 by omega), hver, hw]
    | some q =>
      have e1 : planA a = ([], 14) := by unfold planA; rw [if_pos c, hq]
      have e2 : possS a = 14 := by unfold possS; rw [if_pos c, if_neg (by rw [hq]; simp)]
      have e3 : blockA a = (q, 0) := by unfold blockA; rw [if_pos c, hq]
      rw [e1, e2, e3]
      simp [f28_true hv hq (show 60 < 61 by omega), hw]
  · have e1 : planA a = ([], checkS a) := by unfold planA; rw [if_neg c]
    have e2 : possS a = checkS a := by unfold possS; rw [if_neg c]
    have e3 : blockA a = (⟨0, 0, 0, 0⟩, checkS a) := by unfold blockA; rw [if_neg c]
    have hne : checkS a ≠ 14 := by
      unfold checkS
      split; · omega
      split; · omega
      split; · omega
      cases hfs : a.Labels.findSome? (okLabel a) with
      | some e =>
        obtain ⟨x, hx, he⟩ := List.exists_of_findSome?_eq_some hfs
        simp only [Option.getD_some]
        rintro rfl
        unfold okLabel at he
        repeat' (split at he)
        all_goals cases he
      | none =>
        simp only [Option.getD_none]
        cases clashes [] a.Labels <;> simp
    rw [e1, e2, e3]
    simp [c, hne, hw]
end Go.Vc
/-
  The arguments of the laws of Cut, as data.
-/
namespace Go.Vc
set_option linter.unusedVariables false
set_option linter.unnecessarySimpa false
set_option linter.unusedSimpArgs false
abbrev tI : Ty := .int .i64
abbrev tB : Ty := .int .u8
def i64In (n : Int) : Prop := -9223372036854775808 ≤ n ∧ n ≤ 9223372036854775807
def u8In (n : Int) : Prop := 0 ≤ n ∧ n ≤ 255
theorem tI_of {ds : List D} (h : tI.has ds) : ∃ n, ds = [iN n] ∧ i64In n := by
  simp only [tI, Ty.has] at h
  obtain ⟨n, rfl, h⟩ := h
  exact ⟨n, rfl, by simpa [IntKind.min, IntKind.max, IntKind.signed, IntKind.bits, i64In] using h⟩
theorem tB_of {ds : List D} (h : tB.has ds) : ∃ n, ds = [u8N n] ∧ u8In n := by
  simp only [tB, Ty.has] at h
  obtain ⟨n, rfl, h⟩ := h
  exact ⟨n, rfl, by simpa [IntKind.min, IntKind.max, IntKind.signed, IntKind.bits, u8In] using h⟩
theorem bool_of {ds : List D} (h : Ty.bool.has ds) : ∃ b, ds = [bN b] := by
  simp only [Ty.has] at h; exact h
abbrev tLabel : Ty := .comp [tI, tI, tI, tI]
theorem Label.of {ds : List D} (h : tLabel.has ds) : ∃ x : Label, D.agg ds = x.d ∧ i64In x.X ∧ i64In x.Y ∧ i64In x.W ∧ i64In x.H := by
  simp only [tLabel, Ty.has, Ty.hasL] at h
  obtain ⟨a, b, rfl, h1, c, d, rfl, h2, e, f, rfl, h3, g, k, rfl, h4, rfl⟩ := h
  obtain ⟨x, rfl, p1⟩ := tI_of (by simpa only [tI, Ty.has] using h1)
  obtain ⟨y, rfl, p2⟩ := tI_of (by simpa only [tI, Ty.has] using h2)
  obtain ⟨z, rfl, p3⟩ := tI_of (by simpa only [tI, Ty.has] using h3)
  obtain ⟨w, rfl, p4⟩ := tI_of (by simpa only [tI, Ty.has] using h4)
  exact ⟨⟨x, y, z, w⟩, rfl, p1, p2, p3, p4⟩
abbrev tLabels : Ty := .slice tLabel true 4
theorem labels_of {ds : List D} (h : tLabels.has ds) : ∃ l, ds = [sl_Label l] := by
  obtain ⟨l, h, _, _⟩ := slice_of (fun cs hc => Label.of hc) h
  exact ⟨l, h⟩
abbrev tLayout : Ty := .comp [tI, tI, tLabels]
theorem Layout.of {x : D} (h : tLayout.hasD x) : ∃ a : Layout, x = a.d := by
  obtain ⟨cs, rfl, h⟩ := h
  simp only [Ty.hasL] at h
  obtain ⟨a, b, rfl, h1, c, d, rfl, h2, e, f, rfl, h3, rfl⟩ := h
  obtain ⟨x, rfl, p1⟩ := tI_of h1
  obtain ⟨y, rfl, p2⟩ := tI_of h2
  obtain ⟨l, rfl⟩ := labels_of h3
  exact ⟨⟨x, y, l⟩, rfl⟩
abbrev tKind : Ty := .comp [tI, tI, tI]
theorem Kind.of {ds : List D} (h : tKind.has ds) : ∃ x : Kind, D.agg ds = x.d ∧ True := by
  simp only [tKind, Ty.has, Ty.hasL] at h
  obtain ⟨a, b, rfl, h1, c, d, rfl, h2, e, f, rfl, h3, rfl⟩ := h
  obtain ⟨x, rfl, p1⟩ := tI_of (by simpa only [tI, Ty.has] using h1)
  obtain ⟨y, rfl, p2⟩ := tI_of (by simpa only [tI, Ty.has] using h2)
  obtain ⟨z, rfl, p3⟩ := tI_of (by simpa only [tI, Ty.has] using h3)
  exact ⟨⟨x, y, z⟩, rfl, trivial⟩
abbrev tKinds : Ty := .slice tKind true 3
theorem kinds_of {x : D} (h : tKinds.hasD x) : ∃ l, x = sl_Kind l := by
  obtain ⟨l, h, _, _⟩ := slice_of (fun cs hc => Kind.of hc) (hasD_slice h)
  exact ⟨l, List.head_eq_of_cons_eq h⟩
abbrev tCut : Ty := .comp [.bool, tI]
theorem Cut.of {ds : List D} (h : tCut.has ds) : ∃ x : Cut, D.agg ds = x.d ∧ True := by
  simp only [tCut, Ty.has, Ty.hasL] at h
  obtain ⟨a, b, rfl, h1, c, d, rfl, h2, rfl⟩ := h
  obtain ⟨x, rfl⟩ := h1
  obtain ⟨y, rfl, p2⟩ := tI_of (by simpa only [tI, Ty.has] using h2)
  exact ⟨⟨x, y⟩, rfl, trivial⟩
abbrev tCuts : Ty := .slice tCut true 2
theorem cuts_of {x : D} (h : tCuts.hasD x) : ∃ l, x = sl_Cut l := by
  obtain ⟨l, h, _, _⟩ := slice_of (fun cs hc => Cut.of hc) (hasD_slice h)
  exact ⟨l, List.head_eq_of_cons_eq h⟩
theorem int_of {x : D} (h : tI.hasD x) : ∃ n, x = iN n ∧ i64In n := by
  obtain ⟨n, h, p⟩ := tI_of h
  exact ⟨n, List.head_eq_of_cons_eq h, p⟩
theorem byte_of {x : D} (h : tB.hasD x) : ∃ n, x = u8N n ∧ u8In n := by
  obtain ⟨n, h, p⟩ := tB_of h
  exact ⟨n, List.head_eq_of_cons_eq h, p⟩
abbrev t4 : Ty := .comp [tB, tB, tB, tB]
def A4u8N.ok (x : A4u8N) : Prop := u8In x.e0 ∧ u8In x.e1 ∧ u8In x.e2 ∧ u8In x.e3
theorem A4.of {ds : List D} (h : t4.has ds) : ∃ x : A4u8N, D.agg ds = x.d ∧ x.ok := by
  simp only [t4, Ty.has, Ty.hasL] at h
  obtain ⟨a, b, rfl, h1, c, d, rfl, h2, e, f, rfl, h3, g, k, rfl, h4, rfl⟩ := h
  obtain ⟨x, rfl, p1⟩ := tB_of (by simpa only [tB, Ty.has] using h1)
  obtain ⟨y, rfl, p2⟩ := tB_of (by simpa only [tB, Ty.has] using h2)
  obtain ⟨z, rfl, p3⟩ := tB_of (by simpa only [tB, Ty.has] using h3)
  obtain ⟨w, rfl, p4⟩ := tB_of (by simpa only [tB, Ty.has] using h4)
  exact ⟨⟨x, y, z, w⟩, rfl, p1, p2, p3, p4⟩
theorem A4.ofD {x : D} (h : t4.hasD x) : ∃ a : A4u8N, x = a.d ∧ a.ok := by
  obtain ⟨cs, rfl, h⟩ := h
  exact A4.of (by simpa only [Ty.has] using h)
abbrev tPage : Ty := .comp [tB, tB, .slice t4 true 4]
def Page.ok (p : Page) : Prop := u8In p.W ∧ u8In p.H ∧ ∀ x, x ∈ p.Labels → x.ok
theorem Page.of {x : D} (h : tPage.hasD x) : ∃ a : Page, x = a.d ∧ a.ok := by
  obtain ⟨cs, rfl, h⟩ := h
  simp only [Ty.hasL] at h
  obtain ⟨a, b, rfl, h1, c, d, rfl, h2, e, f, rfl, h3, rfl⟩ := h
  obtain ⟨x, rfl, p1⟩ := tB_of h1
  obtain ⟨y, rfl, p2⟩ := tB_of h2
  obtain ⟨l, rfl, _, p3⟩ := slice_of (fun cs hc => A4.of hc) h3
  exact ⟨⟨x, y, l⟩, rfl, p1, p2, p3⟩
abbrev t2 : Ty := .comp [tB, tB]
def A2u8N.ok (x : A2u8N) : Prop := u8In x.e0 ∧ u8In x.e1
theorem A2.of {ds : List D} (h : t2.has ds) : ∃ x : A2u8N, D.agg ds = x.d ∧ x.ok := by
  simp only [t2, Ty.has, Ty.hasL] at h
  obtain ⟨a, b, rfl, h1, c, d, rfl, h2, rfl⟩ := h
  obtain ⟨x, rfl, p1⟩ := tB_of (by simpa only [tB, Ty.has] using h1)
  obtain ⟨y, rfl, p2⟩ := tB_of (by simpa only [tB, Ty.has] using h2)
  exact ⟨⟨x, y⟩, rfl, p1, p2⟩
theorem A2.ofD {x : D} (h : t2.hasD x) : ∃ a : A2u8N, x = a.d ∧ a.ok := by
  obtain ⟨cs, rfl, h⟩ := h
  exact A2.of (by simpa only [Ty.has] using h)
theorem A2.list {x : D} (h : (Ty.slice t2 true 2).hasD x) : ∃ l, x = sl_A2u8N l ∧ ∀ y, y ∈ l → y.ok := by
  obtain ⟨l, h, _, p⟩ := slice_of (fun cs hc => A2.of hc) (hasD_slice h)
  exact ⟨l, List.head_eq_of_cons_eq h, p⟩
abbrev t3 : Ty := .comp [tB, tB, tB]
def A3u8N.ok (x : A3u8N) : Prop := u8In x.e0 ∧ u8In x.e1 ∧ u8In x.e2
theorem A3.of {ds : List D} (h : t3.has ds) : ∃ x : A3u8N, D.agg ds = x.d ∧ x.ok := by
  simp only [t3, Ty.has, Ty.hasL] at h
  obtain ⟨a, b, rfl, h1, c, d, rfl, h2, e, f, rfl, h3, rfl⟩ := h
  obtain ⟨x, rfl, p1⟩ := tB_of (by simpa only [tB, Ty.has] using h1)
  obtain ⟨y, rfl, p2⟩ := tB_of (by simpa only [tB, Ty.has] using h2)
  obtain ⟨z, rfl, p3⟩ := tB_of (by simpa only [tB, Ty.has] using h3)
  exact ⟨⟨x, y, z⟩, rfl, p1, p2, p3⟩
theorem A3.ofD {x : D} (h : t3.hasD x) : ∃ a : A3u8N, x = a.d ∧ a.ok := by
  obtain ⟨cs, rfl, h⟩ := h
  exact A3.of (by simpa only [Ty.has] using h)
theorem A3.list {x : D} (h : (Ty.slice t3 true 3).hasD x) : ∃ l, x = sl_A3u8N l ∧ ∀ y, y ∈ l → y.ok := by
  obtain ⟨l, h, _, p⟩ := slice_of (fun cs hc => A3.of hc) (hasD_slice h)
  exact ⟨l, List.head_eq_of_cons_eq h, p⟩
end Go.Vc
