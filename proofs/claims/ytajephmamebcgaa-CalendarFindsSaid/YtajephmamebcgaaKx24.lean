-- Made by wip/tools/ext.py (this project's) over the kit's print, with external functions' contracts by hand. Not trusted: Lean checks it.
import Derived.Test.YtajephmamebcgaaKx0
import Derived.Test.YtajephmamebcgaaKx2
namespace Go.Proofs.Ytajephmamebcgaa.K
open Go.RowKit Go.Proofs.YtajephmamebcgaaW.PrintWords Go.Proofs.YtajephmamebcgaaW.PrintLast Go.Proofs.YtajephmamebcgaaW.PrintMore
attribute [local go_sem] max2_int min2_int max_two min_two max_three min_three max_four min_four   -- for this text's walks alone
set_option linter.unusedVariables false
set_option linter.unusedSimpArgs false

-- EXT: calendar_Find (this project's own)
/-! ### calendar_Find: function 31 -/
theorem calendar_Find.clone (A : Option Addr) (c : Nat) (xs : List Int) (w0 w : World) (hB : Below w0.heap.size w0 w) (hr : Kd.C (Kd.int .i64) w A xs.length xs) (hbig : xs.length * 8 ≤ 140737488355328) :
    Calls Try.prog 53 #[.slice A xs.length c] w fun e w' => ∃ v : Value, e = .returned v ∧ Kd.R (Kd.int .i64) 3 w' w.heap.size (fun _ => True) v xs ∧ Below w.heap.size w w' := by
  cases A with
  | none =>
    have h0 : xs.length = 0 := by
      by_cases hp : 0 < xs.length
      · obtain ⟨ad, e, _⟩ := Kd.at_int hr 0 (by omega) (by omega)
        cases e
      · omega
    obtain rfl : xs = [] := List.eq_nil_of_length_eq_zero h0
    refine (Try.slices_Clone_int_nil _ c w).mono ?_
    rintro e w' ⟨rfl, rfl⟩
    exact ⟨_, rfl, Kd.R_nil _ _ _ _ _, Below.refl _ _⟩
  | some a =>
    rcases Nat.eq_zero_or_pos xs.length with h0 | hp
    · obtain rfl : xs = [] := List.eq_nil_of_length_eq_zero h0
      refine (Try.slices_Clone_int_zero a c w).mono ?_
      rintro e w' ⟨v, rfl, ho, _, hb⟩
      exact ⟨v, rfl, Kd.R_of_own (by simpa [encs] using ho) (fun _ _ => trivial), hb⟩
    · have hcell : ∀ j, j < xs.length → w.cell? (a.add j) = some (.int .i64 (xs.getD j 0)) := by
        intro j hj
        obtain ⟨ad, e, hx⟩ := Kd.at_int hr (j : Int) (by omega) (by omega)
        cases e
        simpa [rd] using hx
      have hsp : a.spot = none := by
        have h := hcell 0 hp
        have h' : w.cell? a = some (.int .i64 (xs.getD 0 0)) := by simpa [Addr.add] using h
        unfold World.cell? at h'
        split at h'
        · split at h'
          · cases h'
          · rename_i hn
            simpa using hn
        · cases h'
      obtain ⟨b, off, sp⟩ := a
      simp only at hsp
      subst hsp
      have hcell' : ∀ j, j < xs.length → w.cell? ⟨b, off + j, none⟩ = some (.int .i64 (xs.getD j 0)) := by
        intro j hj
        have h := hcell j hj
        rcases Nat.eq_zero_or_pos j with rfl | hj0
        · simpa [Addr.add] using h
        · have e : (⟨b, off, none⟩ : Addr).add j = ⟨b, off + j, none⟩ := by unfold Addr.add; rw [if_neg (by omega)]
          rw [← e]; exact h
      refine (Try.slices_Clone_int b off xs.length c xs w (Nat.le_refl _) hbig hcell').mono ?_
      rintro e w' ⟨v, rfl, ho, _, hb⟩
      exact ⟨v, rfl, Kd.R_of_own (by simpa [encs, List.take_length] using ho) (fun _ _ => trivial), hb⟩
def calendar_Find.p (a1 : ByteArray) (g : S24) : Bool := g.f0.toList == a1.toList
def calendar_Find.at (x : S24) : Option (ByteArray × List Int × List Int × Bool) :=
  if x.f1.length * 8 ≤ 140737488355328 then (if x.f2.length * 8 ≤ 140737488355328 then some (x.f0, x.f1, x.f2, true) else none) else none
def calendar_Find.f (l0 : List (S24)) (a1 : ByteArray) : Option (ByteArray × List Int × List Int × Bool) :=
  if idxFrom (calendar_Find.p a1) l0 0 < 0 then some ((⟨#[]⟩ : ByteArray), ([] : List Int), ([] : List Int), false) else calendar_Find.at (rd_T24 l0 (idxFrom (calendar_Find.p a1) l0 0))
set_option maxHeartbeats 2000000 in
set_option maxRecDepth 100000 in
theorem calendar_Find.lit (B : Nat) (a1 : ByteArray) (x : S24) (A1 A2 : Option Addr) (c1 c2 : Nat) (w : World) (hB : w.heap[B]? = some (.cells #[.string a1] 9 (0, 0))) :
    Calls Try.prog 52 #[.agg #[.string x.f0, .slice A1 x.f1.length c1, .slice A2 x.f2.length c2], .pointer (some ⟨B, 0, none⟩)] w fun e w' => e = .returned (.bool (calendar_Find.p a1 x)) ∧ Below w.heap.size w w' := by
  have hu24 := Try.underlying24
  have hc : w.cell? ⟨B, 0, none⟩ = some (.string a1) := blk_cell hB 0
  have hlt : B < w.heap.size := blk_lt hB
  clear hB
  go_enter Try.func52, Try.ntmps52
  go_wp2
  go_ret
  exact ⟨rfl, below_alloc (Below.refl _ _) _⟩
set_option maxHeartbeats 2000000 in
set_option maxRecDepth 100000 in
theorem calendar_Find.idx (A0 : Option Addr) (c0 : Nat) (l0 : List (S24)) (a1 : ByteArray) (B : Nat) (w : World) (hr0 : Kd.C k24 w A0 l0.length l0) (hc0 : l0.length ≤ c0) (hB : w.heap[B]? = some (.cells #[.string a1] 9 (0, 0))) :
    Calls Try.prog 51 #[.slice A0 l0.length c0, .func (.func 52) #[] #[.pointer (some ⟨B, 0, none⟩)]] w fun e w' => e = .returned (.int .i64 (idxFrom (calendar_Find.p a1) l0 0)) ∧ Below w.heap.size w w' := by
  have hu24 := Try.underlying24
  have HR0 := Aside0.mk hr0
  have hmax := hr0.2.1
  have HBk := Aside0.mk hB
  clear hr0 hB
  have eg : ∀ args w, (callFunc 52 args).run Try.prog w = .ok (.enter 52 args) w := enters_of Try.func52 (by kernel_rfl) rfl
  go_enter Try.func51, Try.ntmps51
  go_wp2
  go_loopg [5, 8] l0.length (fun gg _ s8 wr => ∃ kk : Nat, s8 = .int .i64 kk ∧ Aside0 (kk ≤ l0.length) ∧ Aside0 (l0.length - kk ≤ gg) ∧ Aside0 (Below w.heap.size w wr) ∧ Aside0 (idxFrom (calendar_Find.p a1) (l0.drop kk) kk = idxFrom (calendar_Find.p a1) l0 0))
  case atStart => exact ⟨0, rfl, ⟨Nat.zero_le _⟩, ⟨Nat.le_refl _⟩, ⟨Below.refl _ w⟩, ⟨rfl⟩⟩
  case round =>
    obtain ⟨kk, rfl, hkk, hg, HB, HI⟩ := hrel
    by_cases hlt : kk < l0.length
    · have hltz : decide ((kk : Int) < (l0.length : Int)) = true := decide_eq_true (by omega)
      obtain ⟨ad, A1, c1, A2, c2, e1, hx0, hx1, hx2, _, _, _, _⟩ := at_T24 HR0.out (kk : Int) (by omega) (by omega)
      cases e1
      simp only [Int.toNat_natCast] at hx0 hx1 hx2
      replace hx0 := (HB.out.cell (World.block_lt_of_cell? w _ hx0)).trans hx0
      replace hx1 := (HB.out.cell (World.block_lt_of_cell? w _ hx1)).trans hx1
      replace hx2 := (HB.out.cell (World.block_lt_of_cell? w _ hx2)).trans hx2
      have p1 : (0 ≤ (kk : Int)) = True := eq_true (by omega)
      have q1 : ((kk : Int) < (l0.length : Int)) = True := eq_true (by omega)
      have hcall := calendar_Find.lit B a1 (rd_T24 l0 (kk : Int)) A1 A2 c1 c2 wr (blk_below HBk.out HB.out)
      have hstep := idxFrom_at (calendar_Find.p a1) l0 kk z24 hlt
      have hrd : l0.getD kk z24 = rd_T24 l0 (kk : Int) := rfl
      rw [hrd] at hstep
      have HS := Aside0.mk hstep
      clear hstep hrd
      cases hq : calendar_Find.p a1 (rd_T24 l0 (kk : Int)) with
      | true =>
        rw [hq] at hcall
        have HQ := Aside0.mk hq
        clear hq
        go_wp2_with (go_at_fn 52; refine hcall.mono ?_; rintro e w' ⟨rfl, hb'⟩)
        go_ret
        refine ⟨?_, below_step HB.out hb'⟩
        rw [← HI.out, HS.out, if_pos HQ.out]; rfl
      | false =>
        rw [hq] at hcall
        have HQ := Aside0.mk hq
        clear hq
        go_wp2_with (go_at_fn 52; refine hcall.mono ?_; rintro e w' ⟨rfl, hb'⟩)
        go_roundg (l0.length - (kk + 1))
        case measure => have := hg.out; omega
        case rel =>
          refine ⟨kk + 1, by go_num, ⟨hlt⟩, ⟨Nat.le_refl _⟩, ⟨below_step HB.out hb'⟩, ⟨?_⟩⟩
          rw [← HI.out, HS.out, HQ.out]; rfl
    · have hltz : decide ((kk : Int) < (l0.length : Int)) = false := decide_eq_false (by omega)
      go_wp2
      go_ret
      exact ⟨by rw [← HI.out, idxFrom_end _ _ _ (by omega)]; rfl, HB.out⟩
theorem calendar_Find.cases {α : Type} (p : α → Bool) : ∀ (l : List α) (i : Nat), idxFrom p l i = -1 ∨ ∃ j : Nat, j < l.length ∧ idxFrom p l i = ((i + j : Nat) : Int)
  | [], _ => .inl rfl
  | x :: xs, i => by
    rw [idxFrom]
    cases p x with
    | true => exact .inr ⟨0, by simp, by simp⟩
    | false =>
      rcases calendar_Find.cases p xs (i + 1) with h | ⟨j, hj, h⟩
      · exact .inl (by simpa using h)
      · exact .inr ⟨j + 1, by simp; omega, by simp [h]; omega⟩
def calendar_Find.T1 : Bool × List (List Nat × List Nat) := (true, [([], []), ([0], [0]), ([1], [1]), ([], []), ([3], [3]), ([4, 2], [4]), ([0, 1, 2, 3, 4], []), ([6, 2, 5, 0, 1, 2, 3, 4], [2, 6]), ([0, 1, 2, 3, 4, 5, 6, 7], []), ([8, 5, 7, 0, 1, 2, 3, 4, 5, 6, 7], [5, 8])])
def calendar_Find.B1 : List Nat := [0, 1, 3, 0, 8, 31, 31, 127, 255, 511]
theorem calendar_Find.tab1 : rtab .any (opsOf Try.f31 5) = calendar_Find.T1 := by kernel_rfl
theorem calendar_Find.bits1 : waitsOk calendar_Find.T1.2 calendar_Find.B1 = true := by kernel_rfl
set_option maxHeartbeats 8000000 in
set_option maxRecDepth 100000 in
theorem calendar_Find.calls (A0 : Option Addr) (c0 : Nat) (l0 : List (S24)) (a1 : ByteArray) (r1 : ByteArray) (r2 : List Int) (r3 : List Int) (r4 : Bool) (w : World) (hr0 : Kd.C k24 w A0 l0.length l0) (hc0 : l0.length ≤ c0) (h : calendar_Find.f l0 a1 = some (r1, r2, r3, r4)) :
    Calls Try.prog 31 #[.slice A0 l0.length c0, .string a1] w fun e w' => ∃ v1_ v2_ : Value, e = .returned (.tuple #[.agg #[.string r1, v1_, v2_], .bool r4]) ∧ Kd.R (Kd.int .i64) 3 w' w.heap.size (fun k_ => some k_ ≠ (v2_ : Value).ownBlock) v1_ r2 ∧ Kd.R (Kd.int .i64) 3 w' w.heap.size (fun k_ => some k_ ≠ (v1_ : Value).ownBlock) v2_ r3 ∧ Below w.heap.size w w' := by
  have hu24 := Try.underlying24
  have HR := Aside0.mk hr0
  have HC := Aside0.mk hc0
  have hmax := hr0.2.1
  have HBw := Aside0.mk (Below.refl w.heap.size w)
  clear hr0 hc0
  unfold calendar_Find.f at h
  rcases calendar_Find.cases (calendar_Find.p a1) l0 0 with hI | ⟨j, hj, hI⟩
  · rw [hI, if_pos (by decide)] at h
    simp only [Option.some.injEq, Prod.mk.injEq] at h
    obtain ⟨rfl, rfl, rfl, rfl⟩ := h
    have HI := Aside0.mk hI
    clear hI
    have cb : decide ((-1 : Int) < 0) = true := by decide
    go_enter Try.func31, Try.ntmps31
    go_wp2_with (first | ((with_reducible refine gate_dst (N := 3) rfl ?_); refine box_event ?hg (N := 3) ?hd (cs := #[.string a1]) (t := 9) ?hr ?_; (case hd => rfl); (case hg => rfl); (case hr => first | (go_simp; done) | (go_simp; rfl)); intro gb hg w8 hbox hb; have HX := Aside0.mk hbox; have HBe := Aside0.mk (below_step HBw.out hb); clear hbox hb hg) | ((with_reducible refine gate_dst (N := 4) rfl ?_); refine box_event ?hg (N := 4) ?hd (cs := #[.string (⟨#[]⟩ : ByteArray), .slice none 0 0, .slice none 0 0]) (t := 24) ?hr ?_; (case hd => rfl); (case hg => rfl); (case hr => first | (go_simp; done) | (go_simp; rfl)); intro gb2 hg w9 hbox hb; have HY := Aside0.mk hbox; have HX2 := Aside0.mk (blk_below HX.out hb); have HBf := Aside0.mk (below_step HBe.out hb); have GE := Aside0.mk ((by rw [hg]; exact below_size HBe.out) : w.heap.size ≤ gb2); clear hbox hb hg) | (go_at_call 51; refine (calendar_Find.idx A0 c0 l0 a1 gb _ ?s1 HC.out ?s2).mono ?_; (case s1 => exact Kd.C_below HR.out HBf.out); (case s2 => exact HX2.out); rw [HI.out]; rintro e w' ⟨rfl, hb'⟩; have HY2 := Aside0.mk (blk_below HY.out hb'); have HBg := Aside0.mk (below_step HBf.out hb'); have hs0 := (blk_cell HY2.out 0); have hfs0 := blk_frozen HY2.out 0; have hs1 := (blk_cell HY2.out 1); have hfs1 := blk_frozen HY2.out 1; have hs2 := (blk_cell HY2.out 2); have hfs2 := blk_frozen HY2.out 2; clear hb'))
    refine bodyPost_ret (results_ct rfl _ _ gb2 24 #[.string (⟨#[]⟩ : ByteArray), .slice none 0 0, .slice none 0 0] (0, 0) _ rfl (by refine blk_put (cs := #[.string (⟨#[]⟩ : ByteArray), .slice none 0 0, .slice none 0 0]) ?_ 2 _ rfl; refine blk_put (cs := #[.string (⟨#[]⟩ : ByteArray), .slice none 0 0, .slice none 0 0]) ?_ 1 _ rfl; refine blk_put (cs := #[.string (⟨#[]⟩ : ByteArray), .slice none 0 0, .slice none 0 0]) ?_ 0 _ rfl; exact HY2.out) Try.underlying24 rfl (by kernel_rfl)) rfl ?_
    exact ⟨_, _, rfl, Kd.R_nil _ _ _ _ _, Kd.R_nil _ _ _ _ _, below_set (below_set (below_set HBg.out GE.out) GE.out) GE.out⟩
  · have hi0 : 0 ≤ idxFrom (calendar_Find.p a1) l0 0 := by rw [hI]; omega
    have hi1 : idxFrom (calendar_Find.p a1) l0 0 < (l0.length : Int) := by rw [hI]; omega
    rw [if_neg (by omega)] at h
    obtain ⟨i, hIi⟩ : ∃ i, idxFrom (calendar_Find.p a1) l0 0 = i := ⟨_, rfl⟩
    rw [hIi] at h hi0 hi1
    have HI := Aside0.mk hIi
    clear hI hIi hj j
    unfold calendar_Find.at at h
    by_cases b1 : (rd_T24 l0 i).f1.length * 8 ≤ 140737488355328
    · rw [if_pos b1] at h
      by_cases b2 : (rd_T24 l0 i).f2.length * 8 ≤ 140737488355328
      · rw [if_pos b2] at h
        simp only [Option.some.injEq, Prod.mk.injEq] at h
        obtain ⟨rfl, rfl, rfl, rfl⟩ := h
        obtain ⟨ad, A1, c1, A2, c2, e1, hx0, hx1, hx2, hl1, hr1, hl2, hr2⟩ := at_T24 HR.out i hi0 hi1
        cases e1
        have p1 : (0 ≤ i) = True := eq_true hi0
        have q1 : (i < (l0.length : Int)) = True := eq_true hi1
        have cb : decide (i < 0) = false := decide_eq_false (by omega)
        have HR1 := Aside0.mk hr1
        have HR2 := Aside0.mk hr2
        have HL1 := Aside0.mk hl1
        have HL2 := Aside0.mk hl2
        have B1 := Aside0.mk b1
        have B2 := Aside0.mk b2
        clear hr1 hr2 hl1 hl2 b1 b2 hi0 hi1
        go_enter Try.func31, Try.ntmps31
        go_wp2_with (first | ((with_reducible refine gate_dst (N := 3) rfl ?_); refine box_event ?hg (N := 3) ?hd (cs := #[.string a1]) (t := 9) ?hr ?_; (case hd => rfl); (case hg => rfl); (case hr => first | (go_simp; done) | (go_simp; rfl)); intro gb hg w8 hbox hb; have HX := Aside0.mk hbox; have HBe := Aside0.mk (below_step HBw.out hb); clear hbox hb hg) | ((with_reducible refine gate_dst (N := 4) rfl ?_); refine box_event ?hg (N := 4) ?hd (cs := #[.string (⟨#[]⟩ : ByteArray), .slice none 0 0, .slice none 0 0]) (t := 24) ?hr ?_; (case hd => rfl); (case hg => rfl); (case hr => first | (go_simp; done) | (go_simp; rfl)); intro gb2 hg w9 hbox hb; have HY := Aside0.mk hbox; have HX2 := Aside0.mk (blk_below HX.out hb); have HBf := Aside0.mk (below_step HBe.out hb); have GE := Aside0.mk ((by rw [hg]; exact below_size HBe.out) : w.heap.size ≤ gb2); clear hbox hb hg) | (go_at_call 51; refine (calendar_Find.idx _ c0 l0 a1 gb _ ?s1 HC.out ?s2).mono ?_; (case s1 => exact Kd.C_below HR.out HBf.out); (case s2 => exact HX2.out); rw [HI.out]; rintro e w' ⟨rfl, hb'⟩; have HY2 := Aside0.mk (blk_below HY.out hb'); have HBg := Aside0.mk (below_step HBf.out hb'); have hc0 := (HBg.out.cell (World.block_lt_of_cell? w _ hx0)).trans hx0; have hc1 := (HBg.out.cell (World.block_lt_of_cell? w _ hx1)).trans hx1; have hc2 := (HBg.out.cell (World.block_lt_of_cell? w _ hx2)).trans hx2; clear hb') | ((with_reducible refine gate_dst (N := 7) rfl ?_); refine box_event ?hg (N := 7) ?hd (cs := #[.string (⟨#[]⟩ : ByteArray), .slice none 0 0, .slice none 0 0]) (t := 24) ?hr ?_; (case hd => rfl); (case hg => rfl); (case hr => first | (go_simp; done) | (go_simp; rfl)); intro gb3 hg w10 hbox hb; have HZ := Aside0.mk hbox; have HY3 := Aside0.mk (blk_below HY2.out hb); have HBh := Aside0.mk (below_step HBg.out hb); have GE3 := Aside0.mk ((by rw [hg]; exact below_size HBg.out) : w.heap.size ≤ gb3); have N23 := Aside0.mk ((by rw [hg]; exact Nat.ne_of_lt (blk_lt HY2.out)) : gb2 ≠ gb3); have hs0 := (blk_cell HZ.out 0); have hfs0 := blk_frozen HZ.out 0; have hs1 := (blk_cell HZ.out 1); have hfs1 := blk_frozen HZ.out 1; have hs2 := (blk_cell HZ.out 2); have hfs2 := blk_frozen HZ.out 2; clear hbox hb hg))
        -- region 5
        obtain ⟨W1, hW1⟩ : ∃ W1, W1 = ((w10.setCell ⟨gb3, 0, none⟩ (.string (rd_T24 l0 i).f0)).setCell ⟨gb3, 1, none⟩ (.slice A1 (rd_T24 l0 i).f1.length c1)).setCell ⟨gb3, 2, none⟩ (.slice A2 (rd_T24 l0 i).f2.length c2) := ⟨_, rfl⟩
        rw [← hW1]
        have BK3 : Aside0 (W1.drew.heap[gb3]? = some (.cells #[.string (rd_T24 l0 i).f0, .slice A1 (rd_T24 l0 i).f1.length c1, .slice A2 (rd_T24 l0 i).f2.length c2] 24 (0, 0))) := ⟨by subst hW1; exact blk_drew (blk_put (blk_put (blk_put HZ.out 0 _ rfl) 1 _ rfl) 2 _ rfl)⟩
        have BY3 : Aside0 (W1.drew.heap[gb2]? = some (.cells #[.string (⟨#[]⟩ : ByteArray), .slice none 0 0, .slice none 0 0] 24 (0, 0))) := ⟨by subst hW1; exact blk_drew (blk_far (p := ⟨gb3, 2, none⟩) (blk_far (p := ⟨gb3, 1, none⟩) (blk_far (p := ⟨gb3, 0, none⟩) HY3.out N23.out _) N23.out _) N23.out _)⟩
        have HB3 : Aside0 (Below w.heap.size w W1.drew) := ⟨by subst hW1; exact below_drew1 (below_set (below_set (below_set HBh.out GE3.out) GE3.out) GE3.out)⟩
        clear hW1 hs0 hs1 hs2 hfs0 hfs1 hfs2 hc0 hc1 hc2
        refine start_ (n := 10) (S := fun w' => w'.cell? ⟨gb3, 1, none⟩ = some (.slice A1 (rd_T24 l0 i).f1.length c1) ∧ w'.cell? ⟨gb3, 2, none⟩ = some (.slice A2 (rd_T24 l0 i).f2.length c2)) (ds := [7, 9]) #[false, false, false, false, false, false, false, false, false, false] (by kernel_rfl) rfl rfl ⟨(blk_cell BK3.out 1).trans rfl, (blk_cell BK3.out 2).trans rfl⟩ (fun hHeld => ?_); refine with_tabW calendar_Find.tab1 calendar_Find.bits1 (fun HT_ HW_ => ?_)
        generalize W1.drew = W2 at BK3 BY3 HB3 hHeld ⊢
        refine pure_ (i := 0) (N := some 18) (v := ?_) (a' := ?_) #[true, false, false, false, false, false, false, false, false, false] rfl rfl (any_of HT_.out (by kernel_rfl)) (fun _ _ _ h => h) (Or.inl ⟨by rfl, ?_⟩) ?_ ?_
        rotate_left
        · intro w'
          go_simp
          with_reducible rfl
        rotate_left
        · simp only [Act.put, List.setIfInBounds_toArray, List.set_cons_zero, List.set_cons_succ, i64_w, i32_w]
          rfl
        refine pure_ (i := 3) (N := some 21) (v := ?_) (a' := ?_) #[true, false, false, true, false, false, false, false, false, false] rfl rfl (any_of HT_.out (by kernel_rfl)) (fun _ _ _ h => h) (Or.inl ⟨by rfl, ?_⟩) ?_ ?_
        rotate_left
        · intro w'
          go_simp
          with_reducible rfl
        rotate_left
        · simp only [Act.put, List.setIfInBounds_toArray, List.set_cons_zero, List.set_cons_succ, i64_w, i32_w]
          rfl
        refine take_ (i := 1) (N := some 19) (v := ?_) (a' := ?_) #[true, true, false, true, false, false, false, false, false, false] rfl rfl (take_ofW HT_.out HW_.out (by kernel_rfl)) (fun _ _ _ h => h) (Or.inl ⟨by rfl, ?_⟩) hHeld ?_ ?_
        rotate_left
        · rintro w' ⟨s0, s1⟩
          go_simp
          with_reducible rfl
        rotate_left
        · simp only [Act.put, List.setIfInBounds_toArray, List.set_cons_zero, List.set_cons_succ, i64_w, i32_w]
          rfl
        refine take_ (i := 4) (N := some 22) (v := ?_) (a' := ?_) #[true, true, false, true, true, false, false, false, false, false] rfl rfl (take_ofW HT_.out HW_.out (by kernel_rfl)) (fun _ _ _ h => h) (Or.inl ⟨by rfl, ?_⟩) hHeld ?_ ?_
        rotate_left
        · rintro w' ⟨s0, s1⟩
          go_simp
          with_reducible rfl
        rotate_left
        · simp only [Act.put, List.setIfInBounds_toArray, List.set_cons_zero, List.set_cons_succ, i64_w, i32_w]
          rfl
        refine one_ (i := 2) (N := some 20) #[true, true, true, true, true, false, false, false, false, false] rfl rfl (one_of HT_.out (by kernel_rfl)) (by decide) (fun K hK => ?_)
        refine goes_ Try.func53 (by kernel_rfl) rfl #[.slice A1 (rd_T24 l0 i).f1.length c1] (by rfl) rfl rfl (by (try simp only [List.map_toArray, List.map_cons, List.map_nil]); first | done | rfl) ?_
        refine (calendar_Find.clone A1 c1 (rd_T24 l0 i).f1 w _ HB3.out (Kd.C_below HR1.out HB3.out) B1.out).mono ?_
        rintro e w11 ⟨v1, rfl, ho0, hb⟩
        refine ⟨_, rfl, ?_⟩
        have HO1 := Aside0.mk (Kd.R_lower ho0 (below_size HB3.out))
        have m1_ := Aside0.mk (blk_below BK3.out hb)
        have m2_ := Aside0.mk (blk_below BY3.out hb)
        have m3_ := Aside0.mk (below_step HB3.out hb)
        clear BK3 BY3 HB3
        have BK3 := m1_
        have BY3 := m2_
        have HB3 := m3_
        clear m1_ m2_ m3_ hb ho0
        refine hK.out _ _ ⟨(blk_cell BK3.out 1).trans rfl, (blk_cell BK3.out 2).trans rfl⟩ (fun hHeld => ?_)
        clear hK K
        refine norm_ (a' := ?_) ?_ ?_
        rotate_left
        · show Act.put _ (some 20) _ = _
          simp only [Act.put, List.setIfInBounds_toArray, List.set_cons_zero, List.set_cons_succ, i64_w, i32_w]
          rfl
        refine pure_ (i := 6) (N := some 24) (v := ?_) (a' := ?_) #[true, true, true, true, true, false, true, false, false, false] rfl rfl (any_of HT_.out (by kernel_rfl)) (fun _ _ _ h => h) (Or.inl ⟨by rfl, ?_⟩) ?_ ?_
        rotate_left
        · intro w'
          go_simp
          with_reducible rfl
        rotate_left
        · simp only [Act.put, List.setIfInBounds_toArray, List.set_cons_zero, List.set_cons_succ, i64_w, i32_w]
          rfl
        refine one_ (i := 5) (N := some 23) #[true, true, true, true, true, true, true, false, false, false] rfl rfl (one_of HT_.out (by kernel_rfl)) (by decide) (fun K hK => ?_)
        refine goes_ Try.func53 (by kernel_rfl) rfl #[.slice A2 (rd_T24 l0 i).f2.length c2] (by rfl) rfl rfl (by (try simp only [List.map_toArray, List.map_cons, List.map_nil]); first | done | rfl) ?_
        refine (calendar_Find.clone A2 c2 (rd_T24 l0 i).f2 w _ HB3.out (Kd.C_below HR2.out HB3.out) B2.out).mono ?_
        rintro e w12 ⟨v2, rfl, ho0, hb⟩
        refine ⟨_, rfl, ?_⟩
        have n1_ := Aside0.mk (Kd.R_elder' HO1.out (Kd.R_base ho0) hb)
        have HO2 := Aside0.mk (Kd.R_lower (Kd.R_new' ho0 (Kd.R_lt HO1.out)) (below_size HB3.out))
        clear HO1
        have HO1 := n1_
        clear n1_
        have m1_ := Aside0.mk (blk_below BK3.out hb)
        have m2_ := Aside0.mk (blk_below BY3.out hb)
        have m3_ := Aside0.mk (below_step HB3.out hb)
        clear BK3 BY3 HB3
        have BK3 := m1_
        have BY3 := m2_
        have HB3 := m3_
        clear m1_ m2_ m3_ hb ho0
        refine hK.out _ _ ⟨(blk_cell BK3.out 1).trans rfl, (blk_cell BK3.out 2).trans rfl⟩ (fun hHeld => ?_)
        clear hK K
        refine norm_ (a' := ?_) ?_ ?_
        rotate_left
        · show Act.put _ (some 23) _ = _
          simp only [Act.put, List.setIfInBounds_toArray, List.set_cons_zero, List.set_cons_succ, i64_w, i32_w]
          rfl
        obtain ⟨Ao1, co1, rfl⟩ := Kd.R_slice HO1.out
        obtain ⟨Ao2, co2, rfl⟩ := Kd.R_slice HO2.out
        refine last_ (i := 7) (N := none) #[true, true, true, true, true, true, true, true, false, false] rfl rfl (one_of HT_.out (by kernel_rfl)) (by decide) (fun K hK => ?_)
        have hs := (blk_cell BK3.out 1)
        have hfs := blk_frozen BK3.out 1
        refine skip_ (w1 := ?_) (by rfl) rfl ?_ ?_
        rotate_left
        · go_simp
          rfl
        refine hK.out _ _ ?_
        clear hK K hs hfs
        have BK4 := Aside0.mk (blk_put BK3.out 1 (.slice Ao1 (rd_T24 l0 i).f1.length co1) rfl)
        refine pure_ (i := 8) (N := some 25) (v := ?_) (a' := ?_) #[true, true, true, true, true, true, true, true, true, false] rfl rfl (any_of HT_.out (by kernel_rfl)) (fun _ _ _ h => h) (Or.inl ⟨by rfl, ?_⟩) ?_ ?_
        rotate_left
        · intro w'
          go_simp
          with_reducible rfl
        rotate_left
        · simp only [Act.put, List.setIfInBounds_toArray, List.set_cons_zero, List.set_cons_succ, i64_w, i32_w]
          rfl
        have BKold := BK3
        clear BK3
        have BK3 := BK4
        clear BK4
        refine last_ (i := 9) (N := none) #[true, true, true, true, true, true, true, true, true, true] rfl rfl (one_of HT_.out (by kernel_rfl)) (by decide) (fun K hK => ?_)
        have hs := (blk_cell BK3.out 2)
        have hfs := blk_frozen BK3.out 2
        refine skip_ (w1 := ?_) (by rfl) rfl ?_ ?_
        rotate_left
        · go_simp
          rfl
        refine hK.out _ _ ?_
        clear hK K hs hfs
        refine done_ (done_of HT_.out (by kernel_rfl)) ?_
        obtain ⟨W3, hW3⟩ : ∃ W3, W3 = (w12.setCell ⟨gb3, 1, none⟩ (.slice Ao1 (rd_T24 l0 i).f1.length co1)).setCell ⟨gb3, 2, none⟩ (.slice Ao2 (rd_T24 l0 i).f2.length co2) := ⟨_, rfl⟩
        rw [← hW3]
        have BK4 : Aside0 (W3.heap[gb3]? = some (.cells #[.string (rd_T24 l0 i).f0, .slice Ao1 (rd_T24 l0 i).f1.length co1, .slice Ao2 (rd_T24 l0 i).f2.length co2] 24 (0, 0))) := ⟨by rw [hW3]; exact blk_put BK3.out 2 _ rfl⟩
        have BY4 : Aside0 (W3.heap[gb2]? = some (.cells #[.string (⟨#[]⟩ : ByteArray), .slice none 0 0, .slice none 0 0] 24 (0, 0))) := ⟨by rw [hW3]; exact blk_far (p := ⟨gb3, 2, none⟩) (blk_far (p := ⟨gb3, 1, none⟩) BY3.out N23.out _) N23.out _⟩
        have HO3 : Aside0 (Kd.R (Kd.int .i64) 3 W3 w.heap.size (fun k => some k ≠ (Value.slice Ao2 (rd_T24 l0 i).f2.length co2).ownBlock) (.slice Ao1 (rd_T24 l0 i).f1.length co1) (rd_T24 l0 i).f1) := ⟨by rw [hW3]; exact Kd.R_mono (Kd.R_far (p := ⟨gb3, 2, none⟩) (Kd.R_far (p := ⟨gb3, 1, none⟩) (Kd.R_types HO1.out BKold.out (by decide)) (fun _ hk => hk.2) _) (fun _ hk => hk.2) _) (fun _ hk => hk.1.2)⟩
        have HO4 : Aside0 (Kd.R (Kd.int .i64) 3 W3 w.heap.size (fun k => some k ≠ (Value.slice Ao1 (rd_T24 l0 i).f1.length co1).ownBlock) (.slice Ao2 (rd_T24 l0 i).f2.length co2) (rd_T24 l0 i).f2) := ⟨by rw [hW3]; exact Kd.R_mono (Kd.R_far (p := ⟨gb3, 2, none⟩) (Kd.R_far (p := ⟨gb3, 1, none⟩) (Kd.R_types HO2.out BKold.out (by decide)) (fun _ hk => hk.2) _) (fun _ hk => hk.2) _) (fun _ hk => hk.1.2)⟩
        have HB4 : Aside0 (Below w.heap.size w W3) := ⟨by rw [hW3]; exact below_set (below_set HB3.out GE3.out) GE3.out⟩
        clear hW3 BK3 BKold HO1 HO2 HB3 BY3
        have hc0 := (blk_cell BK4.out 0)
        have hs0 := (blk_cell BY4.out 0)
        have hfs0 := blk_frozen BY4.out 0
        have hc1 := (blk_cell BK4.out 1)
        have hs1 := (blk_cell BY4.out 1)
        have hfs1 := blk_frozen BY4.out 1
        have hc2 := (blk_cell BK4.out 2)
        have hs2 := (blk_cell BY4.out 2)
        have hfs2 := blk_frozen BY4.out 2
        go_wp2
        refine bodyPost_ret (results_ct rfl _ _ gb2 24 #[.string (rd_T24 l0 i).f0, .slice Ao1 (rd_T24 l0 i).f1.length co1, .slice Ao2 (rd_T24 l0 i).f2.length co2] (0, 0) _ rfl (by refine blk_put (cs := #[.string (rd_T24 l0 i).f0, .slice Ao1 (rd_T24 l0 i).f1.length co1, .slice none 0 0]) ?_ 2 _ rfl; refine blk_put (cs := #[.string (rd_T24 l0 i).f0, .slice none 0 0, .slice none 0 0]) ?_ 1 _ rfl; refine blk_put (cs := #[.string (⟨#[]⟩ : ByteArray), .slice none 0 0, .slice none 0 0]) ?_ 0 _ rfl; exact BY4.out) Try.underlying24 rfl (by kernel_rfl)) rfl ?_
        exact ⟨_, _, rfl, Kd.R_mono (Kd.R_far (p := ⟨gb2, 2, none⟩) (Kd.R_far (p := ⟨gb2, 1, none⟩) (Kd.R_far (p := ⟨gb2, 0, none⟩) (Kd.R_types HO3.out BY4.out (by decide)) (fun _ hk => hk.2) _) (fun _ hk => hk.2) _) (fun _ hk => hk.2) _) (fun _ hk => hk.1), Kd.R_mono (Kd.R_far (p := ⟨gb2, 2, none⟩) (Kd.R_far (p := ⟨gb2, 1, none⟩) (Kd.R_far (p := ⟨gb2, 0, none⟩) (Kd.R_types HO4.out BY4.out (by decide)) (fun _ hk => hk.2) _) (fun _ hk => hk.2) _) (fun _ hk => hk.2) _) (fun _ hk => hk.1), below_set (below_set (below_set HB4.out GE.out) GE.out) GE.out⟩
      · rw [if_neg b2] at h; cases h
    · rw [if_neg b1] at h; cases h

end Go.Proofs.Ytajephmamebcgaa.K
