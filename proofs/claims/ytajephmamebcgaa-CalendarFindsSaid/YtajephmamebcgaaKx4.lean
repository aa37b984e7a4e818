-- Made by wip/tools/ext.py (this project's) over the kit's print, with external functions' contracts by hand. Not trusted: Lean checks it.
import Derived.Test.YtajephmamebcgaaKx0
import Derived.Test.YtajephmamebcgaaKx3
namespace Go.Proofs.Ytajephmamebcgaa.K
open Go.RowKit Go.Proofs.YtajephmamebcgaaW.PrintWords Go.Proofs.YtajephmamebcgaaW.PrintLast Go.Proofs.YtajephmamebcgaaW.PrintMore
attribute [local go_sem] max2_int min2_int max_two min_two max_three min_three max_four min_four   -- for this text's walks alone
set_option linter.unusedVariables false
set_option linter.unusedSimpArgs false

-- EXT: calendar_Next (this project's own)
/-! ### calendar_Next: function 15 -/
/-- The first open day from day d on, by steps of s. -/
def calendar_search.l0 : Nat → Int → ByteArray → List Int → List Int → Int → Option (Int × Int)
  | 0, _, _, _, _, _ => none
  | k + 1, s, x1, x2, x3, d => (date_Valid.f d).bind fun v => if v = true then ((calendar_Open.f k x1 x2 x3 d).bind fun t => if t = true then some (d, 0) else calendar_search.l0 k s x1 x2 x3 (wrap64 (d + s))) else some (0, 11)
theorem calendar_search.mono_l : ∀ (k : Nat) (s : Int) (x1 : ByteArray) (x2 x3 : List Int) (d : Int), LeO (calendar_search.l0 k s x1 x2 x3 d) (calendar_search.l0 (k + 1) s x1 x2 x3 d)
  | 0, _, _, _, _, _ => fun r h => by simp [calendar_search.l0] at h
  | k + 1, s, x1, x2, x3, d => by
    have ih := calendar_search.mono_l k
    unfold calendar_search.l0
    refine LeO.bind (LeO.refl _) (fun v => ?_)
    refine LeO.ite ?_ (LeO.refl _)
    refine LeO.bind (calendar_Open.mono x1 x2 x3 d k) (fun t => ?_)
    refine LeO.ite (LeO.refl _) ?_
    exact ih s x1 x2 x3 _
def calendar_Next.f (k : Nat) (a0_0 : ByteArray) (l0_1 : List Int) (l0_2 : List Int) (a1 : Int) : Option (Int × Int) := (date_Valid.f a1).bind fun v => if v = true then calendar_search.l0 k 1 a0_0 l0_1 l0_2 a1 else some (0, 1)
theorem calendar_Next.mono : ∀ a0 a1 a2 a3 k, LeO (calendar_Next.f k a0 a1 a2 a3) (calendar_Next.f (k + 1) a0 a1 a2 a3) := by
  intro a0 a1 a2 a3 k
  unfold calendar_Next.f
  refine LeO.bind (LeO.refl _) (fun v => ?_)
  refine LeO.ite ?_ (LeO.refl _)
  exact calendar_search.mono_l k _ _ _ _ _
set_option maxHeartbeats 2000000 in
set_option maxRecDepth 100000 in
theorem calendar_Next.lit (k : Nat) (B : Nat) (a0_0 : ByteArray) (A0_1 : Option Addr) (c0_1 : Nat) (l0_1 : List Int) (A0_2 : Option Addr) (c0_2 : Nat) (l0_2 : List Int) (a1 : Int) (r : Bool) (w : World) (hr0_1 : Kd.C (Kd.int .i64) w A0_1 l0_1.length l0_1) (hc0_1 : l0_1.length ≤ c0_1) (hr0_2 : Kd.C (Kd.int .i64) w A0_2 l0_2.length l0_2) (hc0_2 : l0_2.length ≤ c0_2)
    (hB : w.heap[B]? = some (.cells #[.string a0_0, .slice A0_1 l0_1.length c0_1, .slice A0_2 l0_2.length c0_2] 24 (0, 0))) (h : calendar_Open.f k a0_0 l0_1 l0_2 a1 = some r) :
    Calls Try.prog 39 #[.int .i64 a1, .pointer (some ⟨B, 0, none⟩)] w fun e w' => e = .returned (.bool r) ∧ Below w.heap.size w w' := by
  have hu24 := Try.underlying24
  have hcz0 : w.cell? ⟨B, 0, none⟩ = some (.string a0_0) := (blk_cell hB 0).trans rfl
  have hcz1 : w.cell? ⟨B, 1, none⟩ = some (.slice A0_1 l0_1.length c0_1) := (blk_cell hB 1).trans rfl
  have hcz2 : w.cell? ⟨B, 2, none⟩ = some (.slice A0_2 l0_2.length c0_2) := (blk_cell hB 2).trans rfl
  have hfz0 := blk_frozen hB 0
  have hfz1 := blk_frozen hB 1
  have hfz2 := blk_frozen hB 2
  have hlt : B < w.heap.size := blk_lt hB
  have hcall := calendar_Open.calls k a0_0 A0_1 c0_1 l0_1 A0_2 c0_2 l0_2 a1 r w hr0_1 hc0_1 hr0_2 hc0_2 h
  clear hB hr0_1 hr0_2 h
  go_enter Try.func39, Try.ntmps39
  go_wp2_with (go_at_call 19; refine hcall.mono ?_; rintro e w' ⟨rfl, hb'⟩)
  go_ret
  exact ⟨rfl, hb'⟩
set_option maxHeartbeats 4000000 in
set_option maxRecDepth 100000 in
theorem calendar_Next.search (k : Nat) (B : Nat) (a0_0 : ByteArray) (A0_1 : Option Addr) (c0_1 : Nat) (l0_1 : List Int) (A0_2 : Option Addr) (c0_2 : Nat) (l0_2 : List Int) (a1 : Int) (r1 : Int) (r2 : Int) (w : World) (hr0_1 : Kd.C (Kd.int .i64) w A0_1 l0_1.length l0_1) (hc0_1 : l0_1.length ≤ c0_1) (hr0_2 : Kd.C (Kd.int .i64) w A0_2 l0_2.length l0_2) (hc0_2 : l0_2.length ≤ c0_2)
    (hB : w.heap[B]? = some (.cells #[.string a0_0, .slice A0_1 l0_1.length c0_1, .slice A0_2 l0_2.length c0_2] 24 (0, 0))) (h : calendar_Next.f k a0_0 l0_1 l0_2 a1 = some (r1, r2)) :
    Calls Try.prog 38 #[.int .i64 a1, .int .i64 1, .func (.func 39) #[] #[.pointer (some ⟨B, 0, none⟩)]] w fun e w' => e = .returned (.tuple #[.int .i64 r1, .int .i64 r2]) ∧ Below w.heap.size w w' := by
  have HR0_1 := Aside0.mk hr0_1
  have HR0_2 := Aside0.mk hr0_2
  have HC0_1 := Aside0.mk hc0_1
  have HC0_2 := Aside0.mk hc0_2
  have HBk := Aside0.mk hB
  have HBw := Aside0.mk (Below.refl w.heap.size w)
  clear hr0_1 hr0_2 hc0_1 hc0_2 hB
  have eg : ∀ args w, (callFunc 39 args).run Try.prog w = .ok (.enter 39 args) w := enters_of Try.func39 (by kernel_rfl) rfl
  have H : ((date_Valid.f a1).bind fun v => if v = true then calendar_search.l0 k 1 a0_0 l0_1 l0_2 a1 else some (0, 1)) = some (r1, r2) := h
  clear h
  replace H := Option.bind_eq_some_iff.mp H
  obtain ⟨v, A10, H⟩ := H
  have A1 := Aside0.mk A10
  clear A10
  cases v with
  | false =>
    have H1 : some ((0 : Int), (1 : Int)) = some (r1, r2) := by simpa using H
    clear H
    simp only [Option.some.injEq, Prod.mk.injEq] at H1
    obtain ⟨rfl, rfl⟩ := H1
    go_enter Try.func38, Try.ntmps38
    go_wp2_with (go_at_call 41; refine (date_Valid.calls a1 false _ A1.out).mono ?_; rintro e w' ⟨rfl, ⟨nd, rfl⟩⟩)
    go_ret2
    exact ⟨rfl, by apply pw_below_drewN; exact HBw.out⟩
  | true =>
    have H1 : calendar_search.l0 k 1 a0_0 l0_1 l0_2 a1 = some (r1, r2) := by simpa using H
    clear H
    have H' := Aside0.mk H1
    clear H1
    go_enter Try.func38, Try.ntmps38
    go_wp2_with (go_at_call 41; refine (date_Valid.calls a1 true _ A1.out).mono ?_; rintro e w' ⟨rfl, ⟨nd, rfl⟩⟩)
    go_loopg [0] k (fun kq v0 wr => ∃ (d : Int), v0 = .int .i64 d ∧ Aside0 (calendar_search.l0 kq 1 a0_0 l0_1 l0_2 d = some (r1, r2)) ∧ Aside0 (kq ≤ k) ∧ Aside0 (Below w.heap.size w wr))
    case atStart => exact ⟨a1, rfl, H', ⟨Nat.le_refl _⟩, ⟨by apply pw_below_drewN; exact HBw.out⟩⟩
    case round =>
      clear H'
      obtain ⟨d, rfl, HA, HK, HB⟩ := hrel
      cases gk with
      | zero => exact absurd HA.out (by simp [calendar_search.l0])
      | succ k1 =>
        have H := HA.out
        clear HA
        simp only [calendar_search.l0] at H
        replace H := Option.bind_eq_some_iff.mp H
        obtain ⟨v, A20, H⟩ := H
        have A2 := Aside0.mk A20
        clear A20
        cases v with
        | false =>
          have H1 : some ((0 : Int), (11 : Int)) = some (r1, r2) := by simpa using H
          clear H
          simp only [Option.some.injEq, Prod.mk.injEq] at H1
          obtain ⟨rfl, rfl⟩ := H1
          go_wp2_with (go_at_call 41; refine (date_Valid.calls d false _ A2.out).mono ?_; rintro e w' ⟨rfl, ⟨nd2, rfl⟩⟩)
          go_ret2
          exact ⟨rfl, by apply pw_below_drewN; exact HB.out⟩
        | true =>
          have H1 : ((calendar_Open.f k1 a0_0 l0_1 l0_2 d).bind fun t => if t = true then some (d, 0) else calendar_search.l0 k1 1 a0_0 l0_1 l0_2 (wrap64 (d + 1))) = some (r1, r2) := by simpa using H
          clear H
          replace H1 := Option.bind_eq_some_iff.mp H1
          obtain ⟨t, A30, H⟩ := H1
          have A3 := Aside0.mk A30
          clear A30
          cases t with
          | true =>
            have H1 : some (d, (0 : Int)) = some (r1, r2) := by simpa using H
            clear H
            simp only [Option.some.injEq, Prod.mk.injEq] at H1
            obtain ⟨rfl, rfl⟩ := H1
            go_wp2_with (first | (go_at_call 41; refine (date_Valid.calls d true _ A2.out).mono ?_; rintro e w' ⟨rfl, ⟨nd2, rfl⟩⟩) | (go_at_fn 39; refine (calendar_Next.lit k1 B a0_0 A0_1 c0_1 l0_1 A0_2 c0_2 l0_2 d true _ ?s1 HC0_1.out ?s2 HC0_2.out ?s3 A3.out).mono ?_; (case s1 => exact Kd.C_below HR0_1.out (by apply pw_below_drewN; exact HB.out)); (case s2 => exact Kd.C_below HR0_2.out (by apply pw_below_drewN; exact HB.out)); (case s3 => exact blk_below HBk.out (by apply pw_below_drewN; exact HB.out)); rintro e w'' ⟨rfl, hb'⟩))
            go_ret2
            exact ⟨rfl, below_step (by apply pw_below_drewN; exact HB.out) hb'⟩
          | false =>
            have H1 : calendar_search.l0 k1 1 a0_0 l0_1 l0_2 (wrap64 (d + 1)) = some (r1, r2) := by simpa using H
            clear H
            have HN := Aside0.mk H1
            clear H1
            go_wp2_with (first | (go_at_call 41; refine (date_Valid.calls d true _ A2.out).mono ?_; rintro e w' ⟨rfl, ⟨nd2, rfl⟩⟩) | (go_at_fn 39; refine (calendar_Next.lit k1 B a0_0 A0_1 c0_1 l0_1 A0_2 c0_2 l0_2 d false _ ?s1 HC0_1.out ?s2 HC0_2.out ?s3 A3.out).mono ?_; (case s1 => exact Kd.C_below HR0_1.out (by apply pw_below_drewN; exact HB.out)); (case s2 => exact Kd.C_below HR0_2.out (by apply pw_below_drewN; exact HB.out)); (case s3 => exact blk_below HBk.out (by apply pw_below_drewN; exact HB.out)); rintro e w'' ⟨rfl, hb'⟩))
            go_roundg k1
            case measure => have := HK.out; omega
            case rel => exact ⟨wrap64 (d + 1), (by first | rfl | (simp; done) | (simp [*]; done)), HN, ⟨by have := HK.out; omega⟩, ⟨below_step (by apply pw_below_drewN; exact HB.out) hb'⟩⟩
set_option maxHeartbeats 4000000 in
set_option maxRecDepth 100000 in
theorem calendar_Next.calls (k : Nat) (a0_0 : ByteArray) (A0_1 : Option Addr) (c0_1 : Nat) (l0_1 : List Int) (A0_2 : Option Addr) (c0_2 : Nat) (l0_2 : List Int) (a1 : Int) (r1 : Int) (r2 : Int) (w : World) (hr0_1 : Kd.C (Kd.int .i64) w A0_1 l0_1.length l0_1) (hc0_1 : l0_1.length ≤ c0_1) (hr0_2 : Kd.C (Kd.int .i64) w A0_2 l0_2.length l0_2) (hc0_2 : l0_2.length ≤ c0_2) (h : calendar_Next.f k a0_0 l0_1 l0_2 a1 = some (r1, r2)) :
    Calls Try.prog 15 #[.agg #[.string a0_0, .slice A0_1 l0_1.length c0_1, .slice A0_2 l0_2.length c0_2], .int .i64 a1] w fun e w' => e = .returned (.tuple #[.int .i64 r1, .int .i64 r2]) ∧ Below w.heap.size w w' := by
  have hu24 := Try.underlying24
  have HR0_1 := Aside0.mk hr0_1
  have HR0_2 := Aside0.mk hr0_2
  have HC0_1 := Aside0.mk hc0_1
  have HC0_2 := Aside0.mk hc0_2
  have HBw := Aside0.mk (Below.refl w.heap.size w)
  have HF := Aside0.mk h
  clear hr0_1 hr0_2 hc0_1 hc0_2 h
  go_enter Try.func15, Try.ntmps15
  go_wp2_with (first | ((with_reducible refine gate_dst (N := 2) rfl ?_); refine box_event ?hg (N := 2) ?hd (cs := #[.string a0_0, .slice A0_1 l0_1.length c0_1, .slice A0_2 l0_2.length c0_2]) (t := 24) ?hr ?_; (case hd => rfl); (case hg => rfl); (case hr => first | (go_simp; done) | (go_simp; rfl)); intro gb hg w8 hbox hb; have HX := Aside0.mk hbox; have HBe := Aside0.mk (below_step HBw.out hb); clear hbox hb hg) | (go_at_call 38; refine (calendar_Next.search k gb a0_0 A0_1 c0_1 l0_1 A0_2 c0_2 l0_2 a1 r1 r2 _ ?s1 HC0_1.out ?s2 HC0_2.out ?s3 HF.out).mono ?_; (case s1 => exact Kd.C_below HR0_1.out HBe.out); (case s2 => exact Kd.C_below HR0_2.out HBe.out); (case s3 => exact HX.out); rintro e w' ⟨rfl, hb'⟩))
  go_ret2
  exact ⟨rfl, below_step HBe.out hb'⟩

end Go.Proofs.Ytajephmamebcgaa.K
