/-
  A library for proofs about Go functions by symbolic evaluation,and plain Lean functions that the walked Go functions compute (written by a program of this claim).
-/
import Derived.Test.YtlngljdmmlbhgaaGreatDoorTTF4
import Derived.RangeFuncNested
set_option linter.unusedVariables false
set_option linter.unnecessarySimpa false
set_option linter.unusedSimpArgs false
namespace Go.Proofs
open Go.RowKit Go.Shelf
attribute [local go_sem] Oper.semAt_some
theorem zbn (w:World):w.grownBy w.drew none:=⟨rfl,rfl,rfl,Nat.le_refl _,λ _ _ _=>rfl⟩
abbrev PerI (s:ByteArray):={ x:Int // 1<=x/\x<=s.size }
theorem Tryz.per_stopsI (n:Nat)(hn:1<=n)(b n₀:Nat)(hb:b<n₀)(s:ByteArray)(hs:s.size<=1000)(w:World)(hn₀:n₀<=w.heap.size)(hc:w.cell? ⟨b,0,none⟩=some (.string s)) :
  SeqStopsK Fence.wide n Tryz.prog 110 #[.pointer (some ⟨b,0,none⟩)] (λ x:PerI s=>#[Value.int .i64 x.1]) (Below n₀) (λ ys=>ys.map (·.1)=perL s) (λ pre=>pre.map (·.1) <+: perL s) s.size w:=λ l J Jx W hW hJ _ hY h0 =>
 (Tryz.per1_in n hn l b n₀ hb s hs (λ pre W=>∃ p:List (PerI s),p.map (·.1)=pre/\J p W) (λ pre W=>∃ p:List (PerI s),p.map (·.1)=pre/\Jx p W)
  (λ pre x W ⟨p,hp,hJp⟩ hl h1 h2=>by
   subst hp;obtain⟨fn,tmps,assign,body,hy,hR⟩:=hY p ⟨x,h1,h2⟩ W hJp (by simpa using hl);refine⟨fn,tmps,assign,body,hy,hR.mono ?_⟩;rintro e W' (⟨rfl,h3,h4⟩|⟨rfl,h3⟩)
   .exact .inl ⟨rfl,⟨_,by simp,h3⟩,h4⟩
   .exact .inr ⟨rfl,_,by simp,h3⟩)
  W (λ pre W1 ⟨p,hp,h⟩=>⟨p,hp,hJ _ _ _ none h (zbn W1) (by intro r e;cases e)⟩) ((hW.cell (p:=⟨b,0,none⟩) (by show b<_;omega)).trans hc) ⟨[],rfl,h0⟩).mono (by
   rintro e W' ⟨hv,⟨ys,rfl,p,hp,h⟩|⟨pre,hpre,p,rfl,h⟩⟩
   .exact ⟨hv, .inl ⟨p,hp,h⟩⟩
   .exact ⟨hv, .inr ⟨p,hpre,h⟩⟩)
theorem Tryz.periods_in (n:Nat)(hn:1<=n)(s:ByteArray)(w:World) :
  CallsIn Fence.wide n Tryz.prog 62 #[.string s] w λ e w' => e = .returned (.func (.func 110) #[] #[.pointer (some ⟨w.heap.size,0,none⟩)])/\w'=w.alloc (.cells #[.string s] 9):=by
 refine callsIn_of_wp Tryz.func62 rfl trivial ?_ rfl;simp only[Tryz.ntmps62,List.size_toArray,List.length_cons,List.length_nil,Nat.reduceAdd,Nat.reduceSub,Array.replicate_succ,Array.replicate_zero,List.push_toArray,List.append_toArray,List.nil_append,List.cons_append]
 gi_wp2
 go_ret
 exact⟨rfl,rfl⟩
theorem zc2 {F:Fence}{n:Nat}{P:Program}{md:Region.Mode}{ops:Array Oper}{Q:Exit->Act->World->Prop}(hro:F.round=none)(l:Nat)(hd:(ops.toList.all λ o=>match o.op with | .defer _=>false|_=>true)=true) :
  ∀ (fuel:Nat) (listed:Array Bool) (a:Act) (w:World),wpAnyIn F n P md ops Q fuel listed a w->wpAnyIn (F.inRound l) n P md ops Q fuel listed a w
 | 0,_,_,_,h=>h
 | fuel+1,listed,a,w,⟨h1,h2⟩=>⟨h1,λ i hi=>by
  have h:=h2 i hi;have ih:=λ a w=>zc2 (F:=F) (n:=n) (P:=P) (md:=md) (Q:=Q) hro l hd fuel (listed.setIfInBounds i true) a w;unfold wpOpIn at h ⊢
  cases ho:ops[i]? with
  | none=>simp only[ho] at h ⊢;exact ih _ _ h
  | some o =>
   simp only[ho] at h ⊢
   have hno:∀ c,o.op ≠ .defer c:=by
    intro c hc
    have:=List.all_eq_true.1 hd o (by
     obtain⟨hlt,rfl⟩:=Array.getElem?_eq_some_iff.1 ho
     exact Array.mem_toList_iff.2 (Array.getElem_mem hlt))
    rw[hc] at this;cases this
   split at h
   .rename_i hw
    rw[if_pos hw];refine Oper.wpIn_mono (λ a w=>ih a w) ?_;unfold Oper.wpIn at h ⊢;rw[hro,Oper.semAt_none] at h;rw[Fence.inRound_round,Oper.semAt_some l _ _ hno];exact h
   .rename_i hw
    rw[if_neg hw]
    exact⟨h.1,ih _ _ h.2⟩⟩
def zbq (s:ByteArray):List Int->ByteArray×Int
 | []=>(s,1)
 | p::l=>if (s.size:Int) % p=0 then (s.extract 0 p.toNat,(s.size:Int) / p) else zbq s l
theorem zfH {s:ByteArray}{pre:List Int}{x:Int}{l:List Int}(h:∀ y,y∈pre->¬ (s.size:Int) % y=0)(hx:(s.size:Int) % x=0):zbq s (pre++x::l)=(s.extract 0 x.toNat,(s.size:Int) / x):=by
 induction pre with
 | nil=>simp[zbq,hx]
 | cons y pre ih=>simp[zbq,h y (by simp),ih λ z hz=>h z (by simp[hz])]
theorem zlH {s:ByteArray}{l:List Int}(h:∀ y,y∈l->¬ (s.size:Int) % y=0):zbq s l=(s,1):=by
 induction l with
 | nil=>rfl
 | cons y pre ih=>simp[zbq,h y (by simp),ih λ z hz=>h z (by simp[hz])]
def zo0 (s:ByteArray)(w:World)(c:Code)(pre:List (PerI s))(W:World):Prop :=
 ((((c = .ret/\∃ (p:List Int) (x:Int),pre.map (·.1)=p++[x]/\(∀ y∈p,¬ (s.size:Int) % y=0)/\(s.size:Int) % x=0)/\Boxed W (w.heap.size+1) 9 (.string (zbq s (pre.map (·.1))).1))/\Boxed W (w.heap.size+1+1) 3 (.int .i64 (zbq s (pre.map (·.1))).2))/\Boxed W (w.heap.size+1+1+1) 25 (.int .i64 0))/\Below w.heap.size w W
set_option maxRecDepth 100000 in
set_option maxHeartbeats 2000000 in
theorem Tryz.root_in (s : ByteArray)(hs : s.size ≤ 1000)(c : Int)(w : World)(hC : ∀ w1, Below w.heap.size w w1 → Calls Tryz.prog 60 #[.string s] w1 fun e w' => e = .returned (.int .i64 c) ∧ Below w1.heap.size w1 w') :
    Calls Tryz.prog 18 #[.string s] w fun e W' => (e = .returned (if c = 0 then .tuple #[.string (zbq s (perL s)).1, .int .i64 (zbq s (perL s)).2, .int .i64 0] else .tuple #[.string ⟨#[]⟩, .int .i64 0, .int .i64 c])) ∧ Below w.heap.size w W' := by
  refine (callsIn_wide (n := 6)).1 (callsIn_of_wp_marks Tryz.func18 rfl trivial ?_ rfl);have hro : Fence.wide.round = none := rfl;simp only [Tryz.ntmps18, List.size_toArray, List.length_cons, List.length_nil, Nat.reduceAdd, Nat.reduceSub, Array.replicate_succ, Array.replicate_zero, List.push_toArray, List.append_toArray, List.nil_append, List.cons_append];have hf23 : Fence.wide.fn 60 := trivial;have hf48 : Fence.wide.fn 62 := trivial;have b1 := (((Boxed.new w 9 (.string s)).alloc (.cells #[.string ⟨#[]⟩] 9)).alloc (.cells #[.int .i64 0] 3)).alloc (.cells #[.int .i64 0] 25);have b2 := ((Boxed.new (w.alloc (.cells #[.string s] 9)) 9 (.string ⟨#[]⟩)).alloc (.cells #[.int .i64 0] 3)).alloc (.cells #[.int .i64 0] 25);have b3 := (Boxed.new ((w.alloc (.cells #[.string s] 9)).alloc (.cells #[.string ⟨#[]⟩] 9)) 3 (.int .i64 0)).alloc (.cells #[.int .i64 0] 25);have b4 := Boxed.new (((w.alloc (.cells #[.string s] 9)).alloc (.cells #[.string ⟨#[]⟩] 9)).alloc (.cells #[.int .i64 0] 3)) 25 (.int .i64 0);simp only [World.size_alloc] at b2 b3 b4;have hB0 : Below w.heap.size w ((((w.alloc (.cells #[.string s] 9)).alloc (.cells #[.string ⟨#[]⟩] 9)).alloc (.cells #[.int .i64 0] 3)).alloc (.cells #[.int .i64 0] 25)) := ((((Below.refl _ w).alloc (Nat.le_refl _) _).alloc (by simp) _).alloc (by simp; omega) _).alloc (by simp; omega) _
  have hsz : ((((w.alloc (.cells #[.string s] 9)).alloc (.cells #[.string ⟨#[]⟩] 9)).alloc (.cells #[.int .i64 0] 3)).alloc (.cells #[.int .i64 0] 25)).heap.size = w.heap.size + 4 := by simp
  have key : ∀ {W0 : World}, Below ((((w.alloc (.cells #[.string s] 9)).alloc (.cells #[.string ⟨#[]⟩] 9)).alloc (.cells #[.int .i64 0] 3)).alloc (.cells #[.int .i64 0] 25)).heap.size ((((w.alloc (.cells #[.string s] 9)).alloc (.cells #[.string ⟨#[]⟩] 9)).alloc (.cells #[.int .i64 0] 3)).alloc (.cells #[.int .i64 0] 25)) W0 →
      Boxed W0 w.heap.size 9 (.string s) ∧ Boxed W0 (w.heap.size + 1) 9 (.string ⟨#[]⟩) ∧ Boxed W0 (w.heap.size + 1 + 1) 3 (.int .i64 0) ∧ Boxed W0 (w.heap.size + 1 + 1 + 1) 25 (.int .i64 0) ∧ Below w.heap.size w W0 ∧ w.heap.size + 4 ≤ W0.heap.size := by
    intro W0 h;exact ⟨(h.block _ (by rw [hsz]; omega)).trans b1, (h.block _ (by rw [hsz]; omega)).trans b2, (h.block _ (by rw [hsz]; omega)).trans b3, (h.block _ (by rw [hsz]; omega)).trans b4, hB0.trans (h.mono (by rw [hsz]; omega)), by have := h.size; rw [hsz] at this; exact this⟩
  by_cases hc0 : c = 0
  · subst hc0
    gi_wp2_with (first | (gi_at_call 60; refine (callsIn_wide.2 (hC _ hB0)).mono ?_; rintro e W0 ⟨rfl, hBW⟩; obtain ⟨d1, d2, d3, d4, hB, hsW⟩ := key hBW; have dc1 := d1.cell) | (gi_at_call 62; refine (Tryz.periods_in _ (by omega) _ _).mono ?_; rintro e w' ⟨rfl, rfl⟩))
    have hB1 : Below W0.heap.size W0 (W0.alloc (.cells #[.string s] 9)) := (Below.refl _ _).alloc (Nat.le_refl _) _;have bN := Boxed.new W0 9 (.string s)
    have hsz1 : (W0.alloc (.cells #[.string s] 9)).heap.size = W0.heap.size + 1 := by simp
    have f1 := d1.alloc (.cells #[.string s] 9);have f2 := d2.alloc (.cells #[.string s] 9);have f3 := d3.alloc (.cells #[.string s] 9);have f4 := d4.alloc (.cells #[.string s] 9);have hBw : Below w.heap.size w (W0.alloc (.cells #[.string s] 9)) := hB.trans (hB1.mono (by omega));obtain ⟨W1, hW1⟩ : ∃ W1, W0.alloc (.cells #[.string s] 9) = W1 := ⟨_, rfl⟩;rw [hW1] at hB1 bN hsz1 f1 f2 f3 f4 hBw ⊢;clear hW1
    refine wpIn_rangeFunc_ownG hro (by omega) (gf := 110) (lb := #[.pointer (some ⟨W0.heap.size, 0, none⟩)]) rfl trivial (enters_of Tryz.func110 (by kernel_rfl) rfl)
      (Tryz.per_stopsI (6 - 1) (by omega) W0.heap.size W1.heap.size (by omega) s hs W1 (Nat.le_refl _) bN.cell) belowK_t (belowK_b (Nat.le_refl _)) (Below.refl _ _) (fun _ => rfl)
      (fun pre W => (∀ x ∈ pre.map (·.1), ¬ (s.size : Int) % x = 0) ∧ Below W1.heap.size W1 W)
      (zo0 s w)
      (OwnFrom.and (ownFrom_pure _ (fun pre : List (PerI s) => ∀ x ∈ pre.map (·.1), ¬ (s.size : Int) % x = 0)) (ownFrom_below (Nat.le_refl _) (Nat.le_refl _)))
      (fun c => OwnFrom.and (OwnFrom.and (OwnFrom.and (OwnFrom.and (ownFrom_pure _ (fun pre : List (PerI s) => c = .ret ∧ ∃ (p : List Int) (x : Int), pre.map (·.1) = p ++ [x] ∧ (∀ y ∈ p, ¬ (s.size : Int) % y = 0) ∧ (s.size : Int) % x = 0)) (Own.from (boxed_own _ _ (fun pre : List (PerI s) => Value.string (zbq s (pre.map (·.1))).1)) _)) (Own.from (boxed_own _ _ (fun pre : List (PerI s) => Value.int .i64 (zbq s (pre.map (·.1))).2)) _)) (Own.from (boxed_own _ _ (fun _ : List (PerI s) => Value.int .i64 0)) _)) (ownFrom_below (Nat.le_refl _) (by omega)))
      ⟨by simp, Below.refl _ _⟩
      (fun x => { tmps := #[.string s, .pointer (some ⟨w.heap.size, 0, none⟩), .pointer (some ⟨w.heap.size + 1, 0, none⟩), .pointer (some ⟨w.heap.size + 1 + 1, 0, none⟩), .pointer (some ⟨w.heap.size + 1 + 1 + 1, 0, none⟩), .int .i64 0, .int .i64 x.1, .string s, .int .i64 0, .int .i64 0, .bool false, undef, .string s,
        .func (.func 110) #[] #[.pointer (some ⟨W0.heap.size, 0, none⟩)], .int .i64 x.1, undef, undef, undef, undef, undef, undef, undef, undef, undef, undef, undef, undef, undef], defers := [] }) ?assign ?body ?done ?stop
    case assign =>
      intro l x W K hK
      gi_wp2
      exact hK
    case body =>
      rintro l pre ⟨x, hx1, hx2⟩ W ⟨hp, hBW1⟩ hlt;have g1 : Boxed W w.heap.size 9 (.string s) := (hBW1.block _ (by omega)).trans f1;have g2 : Boxed W (w.heap.size + 1) 9 (.string ⟨#[]⟩) := (hBW1.block _ (by omega)).trans f2;have g3 : Boxed W (w.heap.size + 1 + 1) 3 (.int .i64 0) := (hBW1.block _ (by omega)).trans f3;have g4 : Boxed W (w.heap.size + 1 + 1 + 1) 25 (.int .i64 0) := (hBW1.block _ (by omega)).trans f4;have gc1 := g1.cell
      have hx0 : x ≠ 0 := by omega
      by_cases hm : (s.size : Int) % x = 0
      · have gc2 := g2.cell
        have gf2 := g2.frozen;have gc3 := g3.cell;have gf3 := g3.frozen;have gc4 := g4.cell;have gf4 := g4.frozen
        have hmx : Tryz.prog.follows .mixedOrders = true := by kernel_rfl
        have hwr : IntKind.i64.wrap ((s.size : Int) / x) = (s.size : Int) / x := by
          have h1 : 0 ≤ (s.size : Int) / x := Int.ediv_nonneg (by omega) (by omega);have h2 : (s.size : Int) / x ≤ s.size := Int.ediv_le_self _ (by omega);generalize (s.size : Int) / x = q at h1 h2 ⊢;simp [IntKind.wrap, IntKind.signed, IntKind.bits];omega
        have hr : zbq s ((pre ++ [(⟨x, hx1, hx2⟩ : PerI s)]).map (·.1)) = (s.extract 0 x.toNat, (s.size : Int) / x) := by
          rw [List.map_append]; exact zfH hp hm
        have hfin : KeepsFrom W1.heap.size W (((W.setCell ⟨w.heap.size + 1, 0, none⟩ (.string (s.extract 0 x.toNat))).setCell ⟨w.heap.size + 1 + 1, 0, none⟩ (.int .i64 ((s.size : Int) / x))).setCell ⟨w.heap.size + 1 + 1 + 1, 0, none⟩ (.int .i64 0)).drew ∧
            zo0 s w .ret (pre ++ [(⟨x, hx1, hx2⟩ : PerI s)]) (((W.setCell ⟨w.heap.size + 1, 0, none⟩ (.string (s.extract 0 x.toNat))).setCell ⟨w.heap.size + 1 + 1, 0, none⟩ (.int .i64 ((s.size : Int) / x))).setCell ⟨w.heap.size + 1 + 1 + 1, 0, none⟩ (.int .i64 0)).drew := by
          refine ⟨((((KeepsOthers.setCell _ _ _).trans (KeepsOthers.setCell _ _ _)).trans (KeepsOthers.setCell _ _ _)).trans (KeepsOthers.of_grownBy (zbn _) (by intro j o e; cases e))).from _, ⟨⟨⟨⟨rfl, pre.map (·.1), x, by simp, hp, hm⟩, ?_⟩, ?_⟩, ?_⟩, ?_⟩
          · rw [hr]; exact (((g2.set _).other (by omega) _).other (by omega) _).kept (zbn _) (by simp)
          · rw [hr]; exact (((g3.other (by omega) _).set _).other (by omega) _).kept (zbn _) (by simp)
          · exact (((g4.other (by omega) _).other (by omega) _).set _).kept (zbn _) (by simp)
          · exact ((((hBw.trans (hBW1.mono (by omega))).setCell (p := ⟨w.heap.size + 1, 0, none⟩) (by simp) _).setCell (p := ⟨w.heap.size + 1 + 1, 0, none⟩) (by simp; omega) _).setCell (p := ⟨w.heap.size + 1 + 1 + 1, 0, none⟩) (by simp; omega) _).grown (zbn _) (by have := hBw.size; have := hBW1.size; simp; omega) (by intro k e; cases e)
        gi_wp2
        clear b1 b2 b3 b4 hB0 hsz key hC hBW d1 d2 d3 d4 hB f1 f2 f3 f4 bN hB1;refine wpIn_region_any hmx ?_;refine zc2 rfl l (by rfl) _ _ _ _ ?_
        change wpAnyIn _ _ _ _ _ _ _ _ _ (World.drew _)
        refine wpAnyIn_take (i := 1) (v := .int .i64 x) rfl rfl (by kernel_rfl) (by kernel_rfl) (by kernel_rfl) (fun _ _ _ h => h) ⟨Or.inl ⟨by rfl, fun w => ?_⟩, fun _ => rfl⟩ ?_
        · go_simp
        refine wpAnyIn_take (i := 5) (v := .int .i64 x) rfl rfl (by kernel_rfl) (by kernel_rfl) (by kernel_rfl) (fun _ _ _ h => h) ⟨Or.inl ⟨by rfl, fun w => ?_⟩, fun _ => rfl⟩ ?_
        · go_simp
        refine wpAnyIn_ready (rs := [0, 3]) (by kernel_rfl) (by simp) ?_;refine AllReadyIn.cons rfl (fun K hK => ?_) (AllReadyIn.cons rfl (fun K hK => ?_) AllReadyIn.nil)
        · go_simp
          refine hK _ _ ?_;clear hK K;refine wpAnyIn_take (i := 2) (v := .string (s.extract 0 x.toNat)) rfl rfl (by kernel_rfl) (by kernel_rfl) (by kernel_rfl) (fun _ _ _ h => h) ⟨Or.inl ⟨by rfl, fun w => ?_⟩, fun _ => rfl⟩ ?_
          · go_simp
            exact fun h => absurd h (by omega)
          refine wpAnyIn_ready (rs := [3, 7]) (by kernel_rfl) (by simp) ?_;refine AllReadyIn.cons rfl (fun K hK => ?_) (AllReadyIn.cons rfl (fun K hK => ?_) AllReadyIn.nil)
          · go_simp
            refine hK _ _ ?_;clear hK K;refine wpAnyIn_take (i := 4) (v := .int .i64 s.size) rfl rfl (by kernel_rfl) (by kernel_rfl) (by kernel_rfl) (fun _ _ _ h => h) ⟨Or.inl ⟨by rfl, fun w => ?_⟩, fun _ => rfl⟩ ?_
            · go_simp
            refine wpAnyIn_take (i := 6) (v := .int .i64 ((s.size : Int) / x)) rfl rfl (by kernel_rfl) (by kernel_rfl) (by kernel_rfl) (fun _ _ _ h => h) ⟨Or.inl ⟨by rfl, fun w => ?_⟩, fun _ => rfl⟩ ?_
            · go_simp
            refine wpAnyIn_ready (rs := [7]) (by kernel_rfl) (by simp) ?_;refine AllReadyIn.cons rfl (fun K hK => ?_) AllReadyIn.nil
            go_simp
            refine hK _ _ ?_;clear hK K;refine wpAnyIn_ready (rs := [8]) (by kernel_rfl) (by simp) ?_;refine AllReadyIn.cons rfl (fun K hK => ?_) AllReadyIn.nil
            go_simp
            refine hK _ _ ?_;clear hK K;refine wpAnyIn_ready (rs := [9]) (by kernel_rfl) (by simp) ?_;refine AllReadyIn.cons rfl (fun K hK => ?_) AllReadyIn.nil
            go_simp
            refine hK _ _ ?_;clear hK K;refine wpAnyIn_done (by kernel_rfl) ?_ _
            gi_wp2
            exact hfin
          · go_simp
            refine hK _ _ ?_;clear hK K;refine wpAnyIn_ready (rs := [3]) (by kernel_rfl) (by simp) ?_;refine AllReadyIn.cons rfl (fun K hK => ?_) AllReadyIn.nil
            go_simp
            refine hK _ _ ?_;clear hK K;refine wpAnyIn_take (i := 4) (v := .int .i64 s.size) rfl rfl (by kernel_rfl) (by kernel_rfl) (by kernel_rfl) (fun _ _ _ h => h) ⟨Or.inl ⟨by rfl, fun w => ?_⟩, fun _ => rfl⟩ ?_
            · go_simp
            refine wpAnyIn_take (i := 6) (v := .int .i64 ((s.size : Int) / x)) rfl rfl (by kernel_rfl) (by kernel_rfl) (by kernel_rfl) (fun _ _ _ h => h) ⟨Or.inl ⟨by rfl, fun w => ?_⟩, fun _ => rfl⟩ ?_
            · go_simp
            refine wpAnyIn_ready (rs := [8]) (by kernel_rfl) (by simp) ?_;refine AllReadyIn.cons rfl (fun K hK => ?_) AllReadyIn.nil
            go_simp
            refine hK _ _ ?_;clear hK K;refine wpAnyIn_ready (rs := [9]) (by kernel_rfl) (by simp) ?_;refine AllReadyIn.cons rfl (fun K hK => ?_) AllReadyIn.nil
            go_simp
            refine hK _ _ ?_;clear hK K;refine wpAnyIn_done (by kernel_rfl) ?_ _
            gi_wp2
            exact hfin
        · go_simp
          refine hK _ _ ?_;clear hK K;refine wpAnyIn_take (i := 4) (v := .int .i64 s.size) rfl rfl (by kernel_rfl) (by kernel_rfl) (by kernel_rfl) (fun _ _ _ h => h) ⟨Or.inl ⟨by rfl, fun w => ?_⟩, fun _ => rfl⟩ ?_
          · go_simp
          refine wpAnyIn_take (i := 6) (v := .int .i64 ((s.size : Int) / x)) rfl rfl (by kernel_rfl) (by kernel_rfl) (by kernel_rfl) (fun _ _ _ h => h) ⟨Or.inl ⟨by rfl, fun w => ?_⟩, fun _ => rfl⟩ ?_
          · go_simp
          refine wpAnyIn_ready (rs := [0]) (by kernel_rfl) (by simp) ?_;refine AllReadyIn.cons rfl (fun K hK => ?_) AllReadyIn.nil
          go_simp
          refine hK _ _ ?_;clear hK K;refine wpAnyIn_take (i := 2) (v := .string (s.extract 0 x.toNat)) rfl rfl (by kernel_rfl) (by kernel_rfl) (by kernel_rfl) (fun _ _ _ h => h) ⟨Or.inl ⟨by rfl, fun w => ?_⟩, fun _ => rfl⟩ ?_
          · go_simp
            exact fun h => absurd h (by omega)
          refine wpAnyIn_ready (rs := [7]) (by kernel_rfl) (by simp) ?_;refine AllReadyIn.cons rfl (fun K hK => ?_) AllReadyIn.nil
          go_simp
          refine hK _ _ ?_;clear hK K;refine wpAnyIn_ready (rs := [8]) (by kernel_rfl) (by simp) ?_;refine AllReadyIn.cons rfl (fun K hK => ?_) AllReadyIn.nil
          go_simp
          refine hK _ _ ?_;clear hK K;refine wpAnyIn_ready (rs := [9]) (by kernel_rfl) (by simp) ?_;refine AllReadyIn.cons rfl (fun K hK => ?_) AllReadyIn.nil
          go_simp
          refine hK _ _ ?_;clear hK K;refine wpAnyIn_done (by kernel_rfl) ?_ _
          gi_wp2
          exact hfin
      · gi_wp2
        refine ⟨KeepsFrom.refl _ _, Below.refl _ _, fun y hy => ?_, hBW1⟩;rw [List.map_append] at hy
        rcases List.mem_append.1 hy with hy | hy
        · exact hp y hy
        · simp at hy; subst hy; exact hm
    case done =>
      rintro D ys W hD hys ⟨hp, hBW1⟩ hK;have g1 : Boxed W w.heap.size 9 (.string s) := (hBW1.block _ (by omega)).trans f1;have g2 : Boxed W (w.heap.size + 1) 9 (.string ⟨#[]⟩) := (hBW1.block _ (by omega)).trans f2;have g3 : Boxed W (w.heap.size + 1 + 1) 3 (.int .i64 0) := (hBW1.block _ (by omega)).trans f3;have g4 : Boxed W (w.heap.size + 1 + 1 + 1) 25 (.int .i64 0) := (hBW1.block _ (by omega)).trans f4;have gc1 := g1.cell;have gc2 := g2.cell;have gf2 := g2.frozen;have gc3 := g3.cell;have gf3 := g3.frozen;have gc4 := g4.cell;have gf4 := g4.frozen
      gi_wp2
      have hK' := (((KeepsOthers.setCell W ⟨w.heap.size + 1, 0, none⟩ (.string s)).trans (KeepsOthers.setCell _ ⟨w.heap.size + 1 + 1, 0, none⟩ (.int .i64 1))).trans (KeepsOthers.setCell _ ⟨w.heap.size + 1 + 1 + 1, 0, none⟩ (.int .i64 0))).same D _ hK rfl;refine ⟨by simp, .inl ⟨_, _, rfl, run_takeDeferred hK', ?_⟩⟩;have hc2 := cell_kept (((g2.set (.string s)).other (B' := w.heap.size + 1 + 1) (by omega) (.int .i64 1)).other (B' := w.heap.size + 1 + 1 + 1) (by omega) (.int .i64 0)).cell (grownBy_putObj' _ D (.deferred none)) (fun r e => by cases e; exact ⟨_, hK', rfl⟩);have hc3 := cell_kept (((g3.other (B' := w.heap.size + 1) (by omega) (.string s)).set (.int .i64 1)).other (B' := w.heap.size + 1 + 1 + 1) (by omega) (.int .i64 0)).cell (grownBy_putObj' _ D (.deferred none)) (fun r e => by cases e; exact ⟨_, hK', rfl⟩);have hc4 := cell_kept (((g4.other (B' := w.heap.size + 1) (by omega) (.string s)).other (B' := w.heap.size + 1 + 1) (by omega) (.int .i64 1)).set (.int .i64 0)).cell (grownBy_putObj' _ D (.deferred none)) (fun r e => by cases e; exact ⟨_, hK', rfl⟩);have hr : zbq s (perL s) = (s, 1) := zlH (by rw [← hys]; exact hp);refine ⟨.tuple #[.string s, .int .i64 1, .int .i64 0], by simp [results, Tryz.f18, go_sem, hc2, hc3, hc4], by simp [hr], ?_⟩;exact ((((hBw.trans (hBW1.mono (by omega))).setCell (p := ⟨w.heap.size + 1, 0, none⟩) (by simp) _).setCell (p := ⟨w.heap.size + 1 + 1, 0, none⟩) (by simp; omega) _).setCell (p := ⟨w.heap.size + 1 + 1 + 1, 0, none⟩) (by simp; omega) _).trans (belowK_b (w := w) (Nat.le_refl _) _ D _ _ (by omega) hK' rfl rfl)
    case stop =>
      rintro D c pre W hD hpre ⟨⟨⟨⟨⟨rfl, p, x, hpx, hp, hx⟩, g2⟩, g3⟩, g4⟩, hBW⟩ hK
      gi_wp2
      refine ⟨by simp, .inl ⟨_, _, rfl, run_takeDeferred hK, ?_⟩⟩
      have hr : zbq s (perL s) = zbq s (pre.map (·.1)) := by
        obtain ⟨t, ht⟩ := hpre;rw [hpx] at ht;rw [hpx, ← ht, List.append_assoc, List.singleton_append, zfH hp hx, zfH hp hx]
      have hc2 := cell_kept g2.cell (grownBy_putObj' _ D (.deferred none)) (fun r e => by cases e; exact ⟨_, hK, rfl⟩);have hc3 := cell_kept g3.cell (grownBy_putObj' _ D (.deferred none)) (fun r e => by cases e; exact ⟨_, hK, rfl⟩);have hc4 := cell_kept g4.cell (grownBy_putObj' _ D (.deferred none)) (fun r e => by cases e; exact ⟨_, hK, rfl⟩);rw [← hr] at hc2 hc3;refine ⟨.tuple #[.string (zbq s (perL s)).1, .int .i64 (zbq s (perL s)).2, .int .i64 0], by simp [results, Tryz.f18, go_sem, hc2, hc3, hc4], by simp, ?_⟩;exact hBW.trans (belowK_b (w := w) (Nat.le_refl _) W D _ _ (by omega) hK rfl rfl)
  · gi_wp2_with (gi_at_call 60; refine (callsIn_wide.2 (hC _ hB0)).mono ?_; rintro e W0 ⟨rfl, hBW⟩; obtain ⟨d1, d2, d3, d4, hB, hsW⟩ := key hBW; have dc2 := d2.cell; have dc3 := d3.cell; have dc4 := d4.cell; have df2 := d2.frozen; have df3 := d3.frozen; have df4 := d4.frozen)
    have e2 := (((d2.set (.string ⟨#[]⟩)).other (B' := w.heap.size + 1 + 1) (by omega) (.int .i64 0)).other (B' := w.heap.size + 1 + 1 + 1) (by omega) (.int .i64 c)).cell;have e3 := (((d3.other (B' := w.heap.size + 1) (by omega) (.string ⟨#[]⟩)).set (.int .i64 0)).other (B' := w.heap.size + 1 + 1 + 1) (by omega) (.int .i64 c)).cell;have e4 := (((d4.other (B' := w.heap.size + 1) (by omega) (.string ⟨#[]⟩)).other (B' := w.heap.size + 1 + 1) (by omega) (.int .i64 0)).set (.int .i64 c)).cell;refine ⟨.tuple #[.string ⟨#[]⟩, .int .i64 0, .int .i64 c], by simp [results, Tryz.f18, go_sem, e2, e3, e4], by simp [hc0], ?_⟩;exact ((hB.setCell (p := ⟨w.heap.size + 1, 0, none⟩) (by simp) _).setCell (p := ⟨w.heap.size + 1 + 1, 0, none⟩) (by simp; omega) _).setCell (p := ⟨w.heap.size + 1 + 1 + 1, 0, none⟩) (by simp; omega) _
end Go.Proofs
