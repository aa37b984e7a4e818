-- Made by wip/tools/ext.py (this project's) over the kit's print, with external functions' contracts by hand. Not trusted: Lean checks it.
import Derived.Test.YtcmaifjmnpfmbaaCx0
import Derived.Test.YtcmaifjmnpfmbaaCx2
namespace Go.Proofs.Ytcmaifjmnpfmbaa.C
open Go.RowKit Go.Proofs.YtcmaifjmnpfmbaaW.PrintWords Go.Proofs.YtcmaifjmnpfmbaaW.PrintLast Go.Proofs.YtcmaifjmnpfmbaaW.PrintMore
attribute [local go_sem] max2_int min2_int max_two min_two max_three min_three max_four min_four   -- for this text's walks alone
set_option linter.unusedVariables false
set_option linter.unusedSimpArgs false

-- EXT: chart_Order (this project's own)
/-! ### chart_Order: function 41 -/
mutual
/-- chart.walk: from element i on, with the Ids that were collected before. -/
def chart_walk.l0 : Nat → List (S62) → Int → List Int → Int → Option (List Int)
  | 0, _, _, _, _ => none
  | k + 1, x0, x1, x2, x7 => if x7 < (x0.length : Int) then ((chart_Find.f k (x0.take x7.toNat) ((rd_T62 x0 x7).f0)).bind fun t => (if ((rd_T62 x0 x7).f1) = x1 then (if t.2.2.2.2 = true then (chart_walk.l0 k x0 x1 x2 (x7 + 1)) else (if x2.length < 17592186044416 then (if ((rd_T62 x0 x7).f0) = 0 then (chart_walk.l0 k x0 x1 (x2 ++ [(rd_T62 x0 x7).f0]) (x7 + 1)) else ((chart_walk.f k x0 ((rd_T62 x0 x7).f0) (x2 ++ [(rd_T62 x0 x7).f0])).bind fun t1 => (chart_walk.l0 k x0 x1 t1 (x7 + 1)))) else none)) else (chart_walk.l0 k x0 x1 x2 (x7 + 1)))) else (some x2)
def chart_walk.f : Nat → List (S62) → Int → List Int → Option (List Int)
  | 0, _, _, _ => none
  | k + 1, l0, a1, l2 => chart_walk.l0 k l0 a1 l2 0
end
def chart_Order.f (k : Nat) (l0 : List (S62)) : Option (List Int) := chart_walk.f k l0 0 []
theorem chart_walk.mono_l : ∀ k, (∀ y0 y1 y2 y3, LeO (chart_walk.l0 k y0 y1 y2 y3) (chart_walk.l0 (k + 1) y0 y1 y2 y3)) ∧ (∀ y0 y1 y2, LeO (chart_walk.f k y0 y1 y2) (chart_walk.f (k + 1) y0 y1 y2))
  | 0 => ⟨fun _ _ _ _ r h => by simp [chart_walk.l0] at h, fun _ _ _ r h => by simp [chart_walk.f] at h⟩
  | k + 1 => by
    obtain ⟨ih0, ih1⟩ := chart_walk.mono_l k
    refine ⟨?_, ?_⟩
    · intro y0 y1 y2 y3
      unfold chart_walk.l0
      repeat' first
      | (with_reducible exact ih0 _ _ _ _)
      | (with_reducible exact ih1 _ _ _)
      | (with_reducible exact chart_Find.mono _ _ _)
      | (with_reducible exact LeO.refl _)
      | (with_reducible exact LeO.none _)
      | (with_reducible refine LeO.ite ?_ ?_)
      | (with_reducible refine LeO.bind ?_ (fun _ => ?_))
    · intro y0 y1 y2
      unfold chart_walk.f
      exact ih0 _ _ _ _
theorem chart_Order.mono : ∀ a0 k, LeO (chart_Order.f k a0) (chart_Order.f (k + 1) a0) := fun a0 k => (chart_walk.mono_l k).2 a0 0 []
set_option maxHeartbeats 2000000 in
set_option maxRecDepth 100000 in
theorem chart_walk.add (g : Nat) (v : Value) (xs : List Int) (x : Int) (w0 w : World) (hB : Below w0.heap.size w0 w) (hg0 : w0.heap.size ≤ g) (hh : w.heap[g]? = some (.cells #[v] 114 (0, 0))) (hR : Kd.R (Kd.int .i64) 3 w w0.heap.size (fun _ => True) v xs) (hl : xs.length < 17592186044416) (ys : List Int) (hy : xs ++ [x] = ys) :
    Calls Try.prog 72 #[.pointer (some ⟨g, 0, none⟩), .int .i64 x] w fun e w' => e = .returned (.tuple #[]) ∧ ∃ v' : Value, w'.heap[g]? = some (.cells #[v'] 114 (0, 0)) ∧ Kd.R (Kd.int .i64) 3 w' w0.heap.size (fun _ => True) v' ys ∧ Below w0.heap.size w0 w' ∧ ∀ (b : Nat) (cs : Array Value), w.heap[b]? = some (.cells cs 62 (0, 0)) → w'.heap[b]? = some (.cells cs 62 (0, 0)) := by
  obtain ⟨A, c, rfl⟩ := Kd.R_slice hR
  have HY := Aside0.mk hy
  clear hy
  have HB := Aside0.mk hB
  have HR := Aside0.mk hR
  have HH := Aside0.mk hh
  have hcell : w.cell? ⟨g, 0, none⟩ = some (.slice A xs.length c) := (blk_cell hh 0).trans rfl
  have hu := Try.underlying114
  clear hB hR hh
  go_enter Try.func72, Try.ntmps72
  go_wp2_with (at_builtin; refine Kd.R_append (Kd.int .i64) (w0 := w0) w0.heap.size rfl (.tmp 8) (.tmp 10) 46 3 (.int .i64 0) 8 rfl Try.underlying46 info3 rfl (by decide) (by omega) _ xs x [.int .i64 x] (fun _ => True) (fun _ => False) rfl rfl rfl (fun _ hk => hk.elim) (fun _ _ => trivial) HR.out HB.out HB.out.size (by omega) ?_; intro v1 w1 ho hb hgr hat; rw [HY.out] at ho; have HB1 := Aside0.mk hb; have HO1 := Aside0.mk ho; have HH1 := Aside0.mk (blk_grown HH.out hgr (Kd.R_ne HR.out HH.out (by decide))); have HX1 := Aside0.mk (fun (b : Nat) (cs : Array Value) (hx : w.heap[b]? = some (.cells cs 62 (0, 0))) => blk_grown hx hgr (Kd.R_ne HR.out hx (by decide))); clear hb ho hgr hat hcell; have hcell : w1.cell? ⟨g, 0, none⟩ = some (.slice A xs.length c) := (blk_cell HH1.out 0).trans rfl; have hfz := blk_frozen HH1.out 0; obtain ⟨A1, c1, eo⟩ := Kd.R_slice HO1.out; subst eo)
  go_end0
  refine ⟨rfl, _, blk_put (cs := #[.slice A xs.length c]) HH1.out 0 _ rfl, Kd.R_set HO1.out HH1.out (by decide) 0 _, below_set HB1.out hg0, fun b cs hx => blk_far (HX1.out b cs hx) (p := ⟨g, 0, none⟩) (blk_ne (HX1.out b cs hx) HH1.out (by decide)) _⟩
/-- What is carried through a round of the walk: the collector's block, its row, the element's box. -/
structure WkF (w0 : World) (g : Nat) (u : Value) (acc : List Int) (b : Nat) (x : S62) (w : World) : Prop where
  hh : w.heap[g]? = some (.cells #[u] 114 (0, 0))
  hr : Kd.R (Kd.int .i64) 3 w w0.heap.size (fun _ => True) u acc
  hx : w.heap[b]? = some (.cells #[.int .i64 x.f0, .int .i64 x.f1, .int .i64 x.f2, .string x.f3] 62 (0, 0))
  hb : Below w0.heap.size w0 w
theorem WkF.below {w0 w w' : World} {g b : Nat} {u : Value} {acc : List Int} {x : S62} (h : WkF w0 g u acc b x w) (hb : Below w.heap.size w w') : WkF w0 g u acc b x w' :=
  ⟨blk_below h.hh hb, Kd.R_below h.hr hb, blk_below h.hx hb, below_step h.hb hb⟩
theorem WkF.drew {w0 w : World} {g b : Nat} {u : Value} {acc : List Int} {x : S62} (h : WkF w0 g u acc b x w) : WkF w0 g u acc b x w.drew := h.below (below_drew (Below.refl _ _))
theorem WkF.far {w0 w : World} {g b s : Nat} {u : Value} {acc : List Int} {x : S62} (h : WkF w0 g u acc b x w) {cs : Array Value} (hs : w.heap[s]? = some (.cells cs 62 (0, 0))) (hn : b ≠ s) (hs0 : w0.heap.size ≤ s) (j : Nat) (y : Value) : WkF w0 g u acc b x (w.setCell ⟨s, j, none⟩ y) :=
  ⟨blk_far h.hh (p := ⟨s, j, none⟩) (blk_ne h.hh hs (by decide)) y, Kd.R_set h.hr hs (by decide) j y, blk_far h.hx (p := ⟨s, j, none⟩) hn y, below_set h.hb hs0⟩
def chart_walk.T3 : Bool × List (List Nat × List Nat) := (true, [([], []), ([], []), ([0, 1], [0, 1]), ([], []), ([3], [3]), ([2, 4], [2, 4]), ([5], [5]), ([6], [6]), ([6], [6]), ([], []), ([9, 7, 5, 0, 1, 2, 3, 4, 5, 6, 7, 9], [7, 9]), ([8, 10, 0, 1, 2, 3, 4, 5, 6, 7, 8, 9, 10], [8])])
def chart_walk.B3 : List Nat := [0, 0, 3, 0, 8, 31, 63, 127, 127, 0, 767, 2047]
theorem chart_walk.tab3 : rtab .any (opsOf Try.f71 3) = chart_walk.T3 := by kernel_rfl
theorem chart_walk.bits3 : waitsOk chart_walk.T3.2 chart_walk.B3 = true := by kernel_rfl
set_option maxHeartbeats 4000000 in
set_option maxRecDepth 100000 in
theorem chart_walk.calls (k : Nat) : ∀ (A0 : Option Addr) (c0 : Nat) (l0 : List (S62)) (a1 : Int) (l2 : List Int) (r : List Int) (g : Nat) (v : Value) (w0 w : World) (hr0 : Kd.C k62 w0 A0 l0.length l0) (hc0 : l0.length ≤ c0) (hB : Below w0.heap.size w0 w) (hg0 : w0.heap.size ≤ g) (hh : w.heap[g]? = some (.cells #[v] 114 (0, 0)))
    (hR : Kd.R (Kd.int .i64) 3 w w0.heap.size (fun _ => True) v l2) (h : chart_walk.f k l0 a1 l2 = some r),
    Calls Try.prog 71 #[.slice A0 l0.length c0, .int .i64 a1, .func (.func 72) #[.pointer (some ⟨g, 0, none⟩)] #[]] w fun e w' => e = .returned (.tuple #[]) ∧ ∃ v' : Value, w'.heap[g]? = some (.cells #[v'] 114 (0, 0)) ∧ Kd.R (Kd.int .i64) 3 w' w0.heap.size (fun _ => True) v' r ∧ Below w0.heap.size w0 w' := by
  induction k using Nat.strongRecOn with
  | _ k ih =>
  intro A0 c0 l0 a1 l2 r g v w0 w hr0 hc0 hB hg0 hh hR h
  cases k with
  | zero => exact absurd h (by simp [chart_walk.f])
  | succ k =>
  simp only [chart_walk.f] at h
  have hu62 := Try.underlying62
  have HR0 := Aside0.mk hr0
  have hmax := hr0.2.1
  have HB := Aside0.mk hB
  have HR := Aside0.mk hR
  have HH := Aside0.mk hh
  have HA := Aside0.mk h
  have IH := Aside0.mk ih
  clear hr0 hB hR hh h ih
  have eg : ∀ args w, (callFunc 72 args).run Try.prog w = .ok (.enter 72 args) w := enters_of Try.func72 (by kernel_rfl) rfl
  go_enter Try.func71, Try.ntmps71
  go_wp2
  go_loopg [12] k (fun kq v12 w' => ∃ (i : Nat) (acc : List Int) (u : Value), v12 = .int .i64 i ∧ Aside0 (chart_walk.l0 kq l0 a1 acc i = some r) ∧ Aside0 (kq ≤ k) ∧ Aside0 (w'.heap[g]? = some (.cells #[u] 114 (0, 0))) ∧ Aside0 (Kd.R (Kd.int .i64) 3 w' w0.heap.size (fun _ => True) u acc) ∧ Aside0 (Below w0.heap.size w0 w'))
  case atStart => exact ⟨0, l2, v, rfl, HA, ⟨Nat.le_refl _⟩, HH, HR, HB⟩
  case round =>
    obtain ⟨i, acc, u, rfl, HA, HK1, HH, HR, HB⟩ := hrel
    cases gk with
    | zero => exact absurd HA.out (by simp [chart_walk.l0])
    | succ k1 =>
      have H := HA.out
      clear HA
      rw [chart_walk.l0] at H
      by_cases hlt : i < l0.length
      case neg =>
        rw [if_neg (by omega)] at H
        obtain rfl := Option.some.inj H
        clear H
        have hltz : decide ((i : Int) < (l0.length : Int)) = false := decide_eq_false (by omega)
        go_wp2
        go_end0
        exact ⟨rfl, u, HH.out, HR.out, HB.out⟩
      case pos =>
        rw [if_pos (by omega)] at H
        obtain ⟨⟨t1, t2, t3, t4, t5⟩, hF, H⟩ := Option.bind_eq_some_iff.mp H
        have HF := Aside0.mk hF
        have HA := Aside0.mk H
        clear hF H
        have hltz : decide ((i : Int) < (l0.length : Int)) = true := decide_eq_true (by omega)
        obtain ⟨ad, e1, hx0, hx1, hx2, hx3⟩ := at_T62 HR0.out (i : Int) (by omega) (by omega)
        cases e1
        simp only [Int.toNat_natCast] at hx0 hx1 hx2 hx3
        replace hx0 := (HB.out.cell (World.block_lt_of_cell? w0 _ hx0)).trans hx0
        replace hx1 := (HB.out.cell (World.block_lt_of_cell? w0 _ hx1)).trans hx1
        replace hx2 := (HB.out.cell (World.block_lt_of_cell? w0 _ hx2)).trans hx2
        replace hx3 := (HB.out.cell (World.block_lt_of_cell? w0 _ hx3)).trans hx3
        have p1 : (0 ≤ (i : Int)) = True := eq_true (by omega)
        have q1 : ((i : Int) < (l0.length : Int)) = True := eq_true (by omega)
        go_wp2_with fail
        have HS : Aside0 (WkF w0 g u acc wr.heap.size (rd_T62 l0 (i : Int)) (wr.alloc (.cells #[.int .i64 (rd_T62 l0 (i : Int)).f0, .int .i64 (rd_T62 l0 (i : Int)).f1, .int .i64 (rd_T62 l0 (i : Int)).f2, .string (rd_T62 l0 (i : Int)).f3] 62))) := ⟨⟨blk_alloc HH.out _, Kd.R_alloc HR.out _, blk_new _ _, below_alloc HB.out _⟩⟩
        have HG : Aside0 (w0.heap.size ≤ wr.heap.size) := ⟨HB.out.size⟩
        have hcut := cut_to (P := Try.prog) 24 62 .i64 Try.underlying24 (info_parts info62).choose_spec.1 (some ad) l0.length c0 (i : Int) (by omega) (by omega) hc0
        have hry := Kd.C_take (m := (i : Int).toNat) HR0.out (by omega)
        have hyl : (l0.take (i : Int).toNat).length = (i : Int).toNat := by rw [List.length_take]; omega
        generalize l0.take (i : Int).toNat = y at hry hyl HF
        rw [← hyl] at hcut
        have HRY := Aside0.mk hry
        have HCY := Aside0.mk (show y.length ≤ c0 by rw [hyl]; omega)
        clear hry hyl hx0 hx1 hx2 hx3 HH HR HB
        generalize wr.alloc (.cells #[.int .i64 (rd_T62 l0 (i : Int)).f0, .int .i64 (rd_T62 l0 (i : Int)).f1, .int .i64 (rd_T62 l0 (i : Int)).f2, .string (rd_T62 l0 (i : Int)).f3] 62) = W1 at HS ⊢
        generalize wr.heap.size = gb at HS HG ⊢
        refine start_ (n := 12) (S := WkF w0 g u acc gb (rd_T62 l0 (i : Int))) (ds := []) #[false, false, false, false, false, false, false, false, false, false, false, false] (by kernel_rfl) rfl rfl HS.out.drew (fun hHeld => ?_); refine with_tabW chart_walk.tab3 chart_walk.bits3 (fun HT_ HW_ => ?_)
        generalize W1.drew = W2 at hHeld ⊢
        clear HS
        refine pure_ (i := 0) (N := some 18) (v := ?_) (a' := ?_) #[true, false, false, false, false, false, false, false, false, false, false, false] rfl rfl (any_of HT_.out (by kernel_rfl)) (fun _ _ _ h => h) (Or.inl ⟨by rfl, ?_⟩) ?_ ?_
        rotate_left
        · intro w'
          go_simp
          with_reducible rfl
        rotate_left
        · simp only [Act.put, List.setIfInBounds_toArray, List.set_cons_zero, List.set_cons_succ, i64_w, i32_w]
          rfl
        refine pure_ (i := 1) (N := some 19) (v := ?_) (a' := ?_) #[true, true, false, false, false, false, false, false, false, false, false, false] rfl rfl (any_of HT_.out (by kernel_rfl)) (fun _ _ _ h => h) (Or.inl ⟨by rfl, ?_⟩) ?_ ?_
        rotate_left
        · intro w'
          go_simp
          with_reducible rfl
        rotate_left
        · simp only [Act.put, List.setIfInBounds_toArray, List.set_cons_zero, List.set_cons_succ, i64_w, i32_w]
          rfl
        refine pure_ (i := 2) (N := some 20) (v := ?_) (a' := ?_) #[true, true, true, false, false, false, false, false, false, false, false, false] rfl rfl (any_of HT_.out (by kernel_rfl)) (fun _ _ _ h => h) (Or.inl ⟨by rfl, ?_⟩) ?_ ?_
        rotate_left
        · intro w'
          go_simp
          with_reducible rfl
        rotate_left
        · simp only [Act.put, List.setIfInBounds_toArray, List.set_cons_zero, List.set_cons_succ, i64_w, i32_w]
          rfl
        refine pure_ (i := 3) (N := some 21) (v := ?_) (a' := ?_) #[true, true, true, true, false, false, false, false, false, false, false, false] rfl rfl (any_of HT_.out (by kernel_rfl)) (fun _ _ _ h => h) (Or.inl ⟨by rfl, ?_⟩) ?_ ?_
        rotate_left
        · intro w'
          go_simp
          with_reducible rfl
        rotate_left
        · simp only [Act.put, List.setIfInBounds_toArray, List.set_cons_zero, List.set_cons_succ, i64_w, i32_w]
          rfl
        refine take_ (i := 4) (N := some 22) (v := ?_) (a' := ?_) #[true, true, true, true, true, false, false, false, false, false, false, false] rfl rfl (take_ofW HT_.out HW_.out (by kernel_rfl)) (fun _ _ _ h => h) (Or.inl ⟨by rfl, ?_⟩) hHeld ?_ ?_
        rotate_left
        · intro w' hs
          have s0 : w'.cell? ⟨gb, 0, none⟩ = some (.int .i64 (rd_T62 l0 (i : Int)).f0) := (blk_cell hs.hx 0).trans rfl
          go_simp
          with_reducible rfl
        rotate_left
        · simp only [Act.put, List.setIfInBounds_toArray, List.set_cons_zero, List.set_cons_succ, i64_w, i32_w]
          rfl
        refine join_ (σ := Nat) 2 #[true, true, true, true, true, true, true, true, true, true, false, false] (fun s_ => [(23, .tuple #[.agg #[.int .i64 t1, .int .i64 t2, .int .i64 t3, .string t4], .bool t5]), (8, .pointer (some ⟨s_, 0, none⟩)), (17, .tuple #[.agg #[.int .i64 t1, .int .i64 t2, .int .i64 t3, .string t4], .bool t5]), (24, .agg #[.int .i64 t1, .int .i64 t2, .int .i64 t3, .string t4]), (25, .bool t5)]) (fun s_ w' => WkF w0 g u acc gb (rd_T62 l0 (i : Int)) w' ∧ (w'.heap[s_]? = some (.cells #[.int .i64 0, .int .i64 0, .int .i64 0, .string (⟨#[]⟩ : ByteArray)] 62 (0, 0))) ∧ (w0.heap.size ≤ s_) ∧ (gb ≠ s_)) ?_ ?_
        rotate_left
        · intro hCont
          refine two_ (i := 5) (j := 9) (Ni := some 23) (Nj := some 8) #[true, true, true, true, true, true, false, false, false, false, false, false] #[true, true, true, true, true, false, false, false, false, true, false, false] rfl rfl rfl rfl (two_of HT_.out (by kernel_rfl)) (by decide) (by decide) (fun K hK => ?_) (fun K hK => ?_)
          · skip
            refine goes_ Try.func32 (by kernel_rfl) rfl #[.slice (some ad) y.length c0, .int .i64 (rd_T62 l0 (i : Int)).f0] (by rfl) rfl rfl (by (try simp only [List.map_toArray, List.map_cons, List.map_nil]); first | done | rfl | (simp only [List.length_drop, List.length_take]; rfl)) ?_
            with_reducible refine (chart_Find.calls k1 _ _ y (rd_T62 l0 (i : Int)).f0 t1 t2 t3 t4 t5 _ (Kd.C_below HRY.out hHeld.hb) HCY.out HF.out).mono ?_
            rintro e w5 ⟨rfl, hb⟩
            refine ⟨_, rfl, ?_⟩
            refine hK.out _ _ (hHeld.below hb) (fun hHeld => ?_)
            clear hK K
            refine norm_ (a' := ?_) ?_ ?_
            rotate_left
            · show Act.put _ (some 23) _ = _
              simp only [Act.put, List.setIfInBounds_toArray, List.set_cons_zero, List.set_cons_succ, i64_w, i32_w]
              rfl
            refine pure_ (i := 6) (N := some 17) (v := ?_) (a' := ?_) #[true, true, true, true, true, true, true, false, false, false, false, false] rfl rfl (any_of HT_.out (by kernel_rfl)) (fun _ _ _ h => h) (Or.inl ⟨by rfl, ?_⟩) ?_ ?_
            rotate_left
            · intro w'
              go_simp
              with_reducible rfl
            rotate_left
            · simp only [Act.put, List.setIfInBounds_toArray, List.set_cons_zero, List.set_cons_succ, i64_w, i32_w]
              rfl
            refine pure_ (i := 7) (N := some 24) (v := ?_) (a' := ?_) #[true, true, true, true, true, true, true, true, false, false, false, false] rfl rfl (any_of HT_.out (by kernel_rfl)) (fun _ _ _ h => h) (Or.inl ⟨by rfl, ?_⟩) ?_ ?_
            rotate_left
            · intro w'
              go_simp
              with_reducible rfl
            rotate_left
            · simp only [Act.put, List.setIfInBounds_toArray, List.set_cons_zero, List.set_cons_succ, i64_w, i32_w]
              rfl
            refine pure_ (i := 8) (N := some 25) (v := ?_) (a' := ?_) #[true, true, true, true, true, true, true, true, true, false, false, false] rfl rfl (any_of HT_.out (by kernel_rfl)) (fun _ _ _ h => h) (Or.inl ⟨by rfl, ?_⟩) ?_ ?_
            rotate_left
            · intro w'
              go_simp
              with_reducible rfl
            rotate_left
            · simp only [Act.put, List.setIfInBounds_toArray, List.set_cons_zero, List.set_cons_succ, i64_w, i32_w]
              rfl
            refine one_ (i := 9) (N := some 8) #[true, true, true, true, true, true, true, true, true, true, false, false] rfl rfl (one_of HT_.out (by kernel_rfl)) (by decide) (fun K hK => ?_)
            refine box_step ?hg (N := 8) ?hd (cs := #[.int .i64 0, .int .i64 0, .int .i64 0, .string (⟨#[]⟩ : ByteArray)]) (t := 62) ?hr ?_; (case hd => rfl); (case hg => rfl); (case hr => first | (go_simp; done) | (go_simp; rfl))
            intro gs hgs w6 hbox hb
            have BKS := Aside0.mk hbox
            have GES := Aside0.mk (show w0.heap.size ≤ gs by rw [hgs]; exact hHeld.hb.size)
            have NES := Aside0.mk (show gb ≠ gs by rw [hgs]; exact Nat.ne_of_lt (blk_lt hHeld.hx))
            refine hK.out _ _ (hHeld.below hb) (fun hHeld => ?_)
            clear hK K hgs hbox
            refine norm_ (a' := ?_) ?_ ?_
            rotate_left
            · show Act.put _ (some 8) _ = _
              simp only [Act.put, List.setIfInBounds_toArray, List.set_cons_zero, List.set_cons_succ, i64_w, i32_w]
              rfl
            exact norm_ (by simp only [putAll, Act.put, List.setIfInBounds_toArray, List.set_cons_zero, List.set_cons_succ]) (hCont gs _ ⟨hHeld, BKS.out, GES.out, NES.out⟩)
          · skip
            refine box_step ?hg (N := 8) ?hd (cs := #[.int .i64 0, .int .i64 0, .int .i64 0, .string (⟨#[]⟩ : ByteArray)]) (t := 62) ?hr ?_; (case hd => rfl); (case hg => rfl); (case hr => first | (go_simp; done) | (go_simp; rfl))
            intro gs hgs w6 hbox hb
            have BKS := Aside0.mk hbox
            have GES := Aside0.mk (show w0.heap.size ≤ gs by rw [hgs]; exact hHeld.hb.size)
            have NES := Aside0.mk (show gb ≠ gs by rw [hgs]; exact Nat.ne_of_lt (blk_lt hHeld.hx))
            refine hK.out _ _ (hHeld.below hb) (fun hHeld => ?_)
            clear hK K hgs hbox hb
            refine norm_ (a' := ?_) ?_ ?_
            rotate_left
            · show Act.put _ (some 8) _ = _
              simp only [Act.put, List.setIfInBounds_toArray, List.set_cons_zero, List.set_cons_succ, i64_w, i32_w]
              rfl
            refine one_ (i := 5) (N := some 23) #[true, true, true, true, true, true, false, false, false, true, false, false] rfl rfl (one_of HT_.out (by kernel_rfl)) (by decide) (fun K hK => ?_)
            refine goes_ Try.func32 (by kernel_rfl) rfl #[.slice (some ad) y.length c0, .int .i64 (rd_T62 l0 (i : Int)).f0] (by rfl) rfl rfl (by (try simp only [List.map_toArray, List.map_cons, List.map_nil]); first | done | rfl | (simp only [List.length_drop, List.length_take]; rfl)) ?_
            with_reducible refine (chart_Find.calls k1 _ _ y (rd_T62 l0 (i : Int)).f0 t1 t2 t3 t4 t5 _ (Kd.C_below HRY.out hHeld.hb) HCY.out HF.out).mono ?_
            rintro e w5 ⟨rfl, hb⟩
            refine ⟨_, rfl, ?_⟩
            replace BKS := Aside0.mk (blk_below BKS.out hb)
            refine hK.out _ _ (hHeld.below hb) (fun hHeld => ?_)
            clear hK K
            refine norm_ (a' := ?_) ?_ ?_
            rotate_left
            · show Act.put _ (some 23) _ = _
              simp only [Act.put, List.setIfInBounds_toArray, List.set_cons_zero, List.set_cons_succ, i64_w, i32_w]
              rfl
            refine pure_ (i := 6) (N := some 17) (v := ?_) (a' := ?_) #[true, true, true, true, true, true, true, false, false, true, false, false] rfl rfl (any_of HT_.out (by kernel_rfl)) (fun _ _ _ h => h) (Or.inl ⟨by rfl, ?_⟩) ?_ ?_
            rotate_left
            · intro w'
              go_simp
              with_reducible rfl
            rotate_left
            · simp only [Act.put, List.setIfInBounds_toArray, List.set_cons_zero, List.set_cons_succ, i64_w, i32_w]
              rfl
            refine pure_ (i := 7) (N := some 24) (v := ?_) (a' := ?_) #[true, true, true, true, true, true, true, true, false, true, false, false] rfl rfl (any_of HT_.out (by kernel_rfl)) (fun _ _ _ h => h) (Or.inl ⟨by rfl, ?_⟩) ?_ ?_
            rotate_left
            · intro w'
              go_simp
              with_reducible rfl
            rotate_left
            · simp only [Act.put, List.setIfInBounds_toArray, List.set_cons_zero, List.set_cons_succ, i64_w, i32_w]
              rfl
            refine pure_ (i := 8) (N := some 25) (v := ?_) (a' := ?_) #[true, true, true, true, true, true, true, true, true, true, false, false] rfl rfl (any_of HT_.out (by kernel_rfl)) (fun _ _ _ h => h) (Or.inl ⟨by rfl, ?_⟩) ?_ ?_
            rotate_left
            · intro w'
              go_simp
              with_reducible rfl
            rotate_left
            · simp only [Act.put, List.setIfInBounds_toArray, List.set_cons_zero, List.set_cons_succ, i64_w, i32_w]
              rfl
            exact norm_ (by simp only [putAll, Act.put, List.setIfInBounds_toArray, List.set_cons_zero, List.set_cons_succ]) (hCont gs _ ⟨hHeld, BKS.out, GES.out, NES.out⟩)
        rintro gs w7 ⟨hHeld, hbs, hgs, hns⟩
        refine norm_ (a' := ?_) ?_ ?_
        rotate_left
        · simp only [putAll, Act.put, List.setIfInBounds_toArray, List.set_cons_zero, List.set_cons_succ]
          rfl
        refine one_ (i := 10) (N := none) #[true, true, true, true, true, true, true, true, true, true, true, false] rfl rfl (one_of HT_.out (by kernel_rfl)) (by decide) (fun K hK => ?_)
        have hs0 : w7.cell? ⟨gs, 0, none⟩ = some (.int .i64 0) := (blk_cell hbs 0).trans rfl
        have hs1 : w7.cell? ⟨gs, 1, none⟩ = some (.int .i64 0) := (blk_cell hbs 1).trans rfl
        have hs2 : w7.cell? ⟨gs, 2, none⟩ = some (.int .i64 0) := (blk_cell hbs 2).trans rfl
        have hs3 : w7.cell? ⟨gs, 3, none⟩ = some (.string (⟨#[]⟩ : ByteArray)) := (blk_cell hbs 3).trans rfl
        have hfs0 := blk_frozen hbs 0
        have hfs1 := blk_frozen hbs 1
        have hfs2 := blk_frozen hbs 2
        have hfs3 := blk_frozen hbs 3
        have BKS := Aside0.mk hbs
        clear hbs
        refine skip_ (w1 := ?_) (by rfl) rfl ?_ ?_
        rotate_left
        · go_simp
          rfl
        have b1 := blk_put (cs := #[.int .i64 0, .int .i64 0, .int .i64 0, .string (⟨#[]⟩ : ByteArray)]) BKS.out 0 (.int .i64 t1) rfl
        have b2 := blk_put (cs := #[.int .i64 t1, .int .i64 0, .int .i64 0, .string (⟨#[]⟩ : ByteArray)]) b1 1 (.int .i64 t2) rfl
        have b3 := blk_put (cs := #[.int .i64 t1, .int .i64 t2, .int .i64 0, .string (⟨#[]⟩ : ByteArray)]) b2 2 (.int .i64 t3) rfl
        refine hK.out _ _ ((((hHeld.far BKS.out hns hgs 0 _).far b1 hns hgs 1 _).far b2 hns hgs 2 _).far b3 hns hgs 3 _) (fun hHeld => ?_)
        clear hK K b1 b2 b3 hs0 hs1 hs2 hs3 hfs0 hfs1 hfs2 hfs3
        refine pure_ (i := 11) (N := some 9) (v := ?_) (a' := ?_) #[true, true, true, true, true, true, true, true, true, true, true, true] rfl rfl (any_of HT_.out (by kernel_rfl)) (fun _ _ _ h => h) (Or.inl ⟨by rfl, ?_⟩) ?_ ?_
        rotate_left
        · intro w'
          go_simp
          with_reducible rfl
        rotate_left
        · simp only [Act.put, List.setIfInBounds_toArray, List.set_cons_zero, List.set_cons_succ, i64_w, i32_w]
          rfl
        refine done_ (done_of HT_.out (by kernel_rfl)) ?_
        generalize World.setCell _ _ _ = W8 at hHeld ⊢
        have HS := Aside0.mk hHeld
        have HAx := HA.out
        clear HA hcut HRY HCY HF BKS hHeld HT_ HW_
        have hcy0 : W8.cell? ⟨gb, 0, none⟩ = some (.int .i64 (rd_T62 l0 (i : Int)).f0) := (blk_cell HS.out.hx 0).trans rfl
        have hcy1 : W8.cell? ⟨gb, 1, none⟩ = some (.int .i64 (rd_T62 l0 (i : Int)).f1) := (blk_cell HS.out.hx 1).trans rfl
        by_cases c1 : (rd_T62 l0 (i : Int)).f1 = a1
        case neg =>
          rw [if_neg c1] at HAx
          have b1 : ((rd_T62 l0 (i : Int)).f1 != a1) = true := bne_iff_ne.mpr c1
          have HA := Aside0.mk HAx
          clear HAx c1
          go_wp2
          go_roundg k1
          case measure => have := HK1.out; omega
          case rel => exact ⟨i + 1, acc, u, by go_num, HA, ⟨by have := HK1.out; omega⟩, ⟨HS.out.hh⟩, ⟨HS.out.hr⟩, ⟨HS.out.hb⟩⟩
        rw [if_pos c1] at HAx
        have b1 : ((rd_T62 l0 (i : Int)).f1 != a1) = false := bne_eq_false_iff_eq.mpr c1
        clear c1
        cases t5 with
        | true =>
          have HA : Aside0 (chart_walk.l0 k1 l0 a1 acc ((i : Int) + 1) = some r) := ⟨HAx⟩
          clear HAx
          go_wp2
          go_roundg k1
          case measure => have := HK1.out; omega
          case rel => exact ⟨i + 1, acc, u, by go_num, HA, ⟨by have := HK1.out; omega⟩, ⟨HS.out.hh⟩, ⟨HS.out.hr⟩, ⟨HS.out.hb⟩⟩
        | false =>
          replace HAx : (if acc.length < 17592186044416 then (if ((rd_T62 l0 (i : Int)).f0) = 0 then (chart_walk.l0 k1 l0 a1 (acc ++ [(rd_T62 l0 (i : Int)).f0]) ((i : Int) + 1)) else ((chart_walk.f k1 l0 ((rd_T62 l0 (i : Int)).f0) (acc ++ [(rd_T62 l0 (i : Int)).f0])).bind fun t1 => (chart_walk.l0 k1 l0 a1 t1 ((i : Int) + 1)))) else none) = some r := HAx
          by_cases hlen : acc.length < 17592186044416
          case neg => rw [if_neg hlen] at HAx; cases HAx
          rw [if_pos hlen] at HAx
          generalize hys : acc ++ [(rd_T62 l0 (i : Int)).f0] = ys at HAx
          have hadd := chart_walk.add g u acc (rd_T62 l0 (i : Int)).f0 w0 W8 HS.out.hb hg0 HS.out.hh HS.out.hr hlen ys hys
          clear hys
          by_cases c2 : (rd_T62 l0 (i : Int)).f0 = 0
          · rw [if_pos c2] at HAx
            have b2 : ((rd_T62 l0 (i : Int)).f0 != 0) = false := bne_eq_false_iff_eq.mpr c2
            have HA := Aside0.mk HAx
            clear HAx c2
            go_wp2_with (go_at_fn 72; refine hadd.mono ?_; rintro e w' ⟨rfl, u1, hh1, hr1, hb1, hx1⟩; have HH1 := Aside0.mk hh1; have HR1 := Aside0.mk hr1; have HB1 := Aside0.mk hb1; have hcz0 : w'.cell? ⟨gb, 0, none⟩ = some (.int .i64 (rd_T62 l0 (i : Int)).f0) := (blk_cell (hx1 _ _ HS.out.hx) 0).trans rfl; clear hh1 hr1 hb1 hx1)
            go_roundg k1
            case measure => have := HK1.out; omega
            case rel => exact ⟨i + 1, ys, u1, by go_num, HA, ⟨by have := HK1.out; omega⟩, HH1, HR1, HB1⟩
          · rw [if_neg c2] at HAx
            have b2 : ((rd_T62 l0 (i : Int)).f0 != 0) = true := bne_iff_ne.mpr c2
            obtain ⟨zs, hrec, HAx⟩ := Option.bind_eq_some_iff.mp HAx
            have HA := Aside0.mk HAx
            have HREC := Aside0.mk hrec
            clear HAx c2 hrec
            go_wp2_with (first | (go_at_fn 72; refine hadd.mono ?_; rintro e w' ⟨rfl, u1, hh1, hr1, hb1, hx1⟩; have HH1 := Aside0.mk hh1; have HR1 := Aside0.mk hr1; have HB1 := Aside0.mk hb1; have hcz0 : w'.cell? ⟨gb, 0, none⟩ = some (.int .i64 (rd_T62 l0 (i : Int)).f0) := (blk_cell (hx1 _ _ HS.out.hx) 0).trans rfl; clear hh1 hr1 hb1 hx1) | (go_at_call 71; refine (IH.out k1 (by have := HK1.out; omega) _ c0 l0 (rd_T62 l0 (i : Int)).f0 ys zs g u1 w0 _ HR0.out hc0 HB1.out hg0 HH1.out HR1.out HREC.out).mono ?_; rintro e w'' ⟨rfl, u2, hh2, hr2, hb2⟩; have HH2 := Aside0.mk hh2; have HR2 := Aside0.mk hr2; have HB2 := Aside0.mk hb2; clear hh2 hr2 hb2))
            go_roundg k1
            case measure => have := HK1.out; omega
            case rel => exact ⟨i + 1, zs, u2, by go_num, HA, ⟨by have := HK1.out; omega⟩, HH2, HR2, HB2⟩
set_option maxHeartbeats 4000000 in
set_option maxRecDepth 100000 in
theorem chart_Order.calls (k : Nat) (A0 : Option Addr) (c0 : Nat) (l0 : List (S62)) (r : List Int) (w : World) (hr0 : Kd.C k62 w A0 l0.length l0) (hc0 : l0.length ≤ c0) (h : chart_Order.f k l0 = some r) :
    Calls Try.prog 41 #[.slice A0 l0.length c0] w fun e w' => ∃ v0_ : Value, e = .returned (v0_) ∧ Kd.R (Kd.int .i64) 3 w' w.heap.size (fun _ => True) v0_ r ∧ Below w.heap.size w w' := by
  have HR0 := Aside0.mk hr0
  have HA := Aside0.mk h
  have hu := Try.underlying114
  clear hr0 h
  have hcall := chart_walk.calls k A0 c0 l0 0 [] r w.heap.size (.slice none 0 0) w (w.alloc (.cells #[.slice none 0 0] 114)) HR0.out hc0 (below_alloc (Below.refl _ _) _) (Nat.le_refl _) (blk_new _ _) (Kd.R_nil _ _ _ _ _) HA.out
  go_enter Try.func41, Try.ntmps41
  go_wp2_with (go_at_call 71; refine hcall.mono ?_; rintro e w' ⟨rfl, u, hh, hr, hb⟩; have HR := Aside0.mk hr; have HB := Aside0.mk hb; obtain ⟨A1, c1, eu⟩ := Kd.R_slice HR.out; subst eu; have hcell : w'.cell? ⟨w.heap.size, 0, none⟩ = some (.slice A1 r.length c1) := (blk_cell hh 0).trans rfl; clear hh hr hb)
  go_ret
  exact ⟨_, rfl, HR.out, HB.out⟩

end Go.Proofs.Ytcmaifjmnpfmbaa.C
