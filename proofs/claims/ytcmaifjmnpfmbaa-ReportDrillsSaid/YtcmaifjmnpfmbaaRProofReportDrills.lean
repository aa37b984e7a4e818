/- The pure statement of ReportDrills: the amount of a cell is the sum of the amounts of the entries behind it, none of which is 0. -/
import Derived.Test.YtcmaifjmnpfmbaaRMade
import Derived.Test.YtcmaifjmnpfmbaaRLives
import Derived.Test.YtcmaifjmnpfmbaaRStateReportDrills
import Derived.Test.YtcmaifjmnpfmbaaRx34
namespace Go.Proofs.Ytcmaifjmnpfmbaa.R.Proof
open Go.RowKit Go.Proofs.Ytcmaifjmnpfmbaa.R Go.Proofs.YtcmaifjmnpfmbaaW.PrintWords Go.Proofs.YtcmaifjmnpfmbaaW.PrintLast
/-! ### different -/
def diffG (l : List S84) : Nat → Nat → Bool
  | 0, _ => true
  | d + 1, i => if (l.take i).any (fun g => decide ((rd_T84 l (i : Int)).f0 = g.f0)) = true then false else diffG l d (i + 1)
theorem diff_ev (l : List S84) (hn : l.length ≤ 9223372036854775807) : Ev (fun k => corebanklaw49_different.f k l) (diffG l l.length 0) := by
  have h : ∀ d i : Nat, l.length - i = d → i ≤ l.length → Ev (fun k => corebanklaw49_different.l0 k l (i : Int)) (diffG l d i) := by
    intro d
    induction d with
    | zero =>
      intro i hd hi
      exact Ev.step (f := fun _ => some true) (fun k => by simp only [corebanklaw49_different.l0]; rw [if_neg (by omega)]) (Ev.now _)
    | succ d ih =>
      intro i hd hi
      have hlt : i < l.length := by omega
      have hl : (l.take i).length = i := by rw [List.length_take]; omega
      have hin : ∀ d2 j : Nat, (l.take i).length - j = d2 → j ≤ (l.take i).length → Ev (fun k => corebanklaw49_different.l1 k l (i : Int) (j : Int)) (if ((l.take i).drop j).any (fun g => decide ((rd_T84 l (i : Int)).f0 = g.f0)) = true then false else diffG l d (i + 1)) := by
        intro d2
        induction d2 with
        | zero =>
          intro j hd2 hj
          rw [List.drop_of_length_le (by omega)]
          exact Ev.step (f := fun k => corebanklaw49_different.l0 k l ((i + 1 : Nat) : Int)) (fun k => by simp only [corebanklaw49_different.l1]; rw [if_neg (by omega), wrap_inc hlt hn]) (ih (i + 1) (by omega) (by omega))
        | succ d2 ih2 =>
          intro j hd2 hj
          have hlt2 : j < (l.take i).length := by omega
          have hr : rd_T84 l (j : Int) = (l.take i)[j] := by rw [rd84_at (by omega), List.getElem_take]
          rw [drop_at hlt2, List.any_cons, ← hr]
          by_cases c : (rd_T84 l (i : Int)).f0 = (rd_T84 l (j : Int)).f0
          · rw [decide_eq_true c, Bool.true_or, if_pos rfl]
            exact Ev.step (f := fun _ => some false) (fun k => by simp only [corebanklaw49_different.l1]; rw [if_pos (by omega), if_pos (by omega), if_pos (by omega), if_pos (by omega), if_pos (by omega), if_pos c]) (Ev.now _)
          · rw [decide_eq_false c, Bool.false_or]
            exact Ev.step (fun k => by simp only [corebanklaw49_different.l1]; rw [if_pos (by omega), if_pos (by omega), if_pos (by omega), if_pos (by omega), if_pos (by omega), if_neg c, wrap_inc hlt2 (by omega)]) (ih2 (j + 1) (by omega) (by omega))
      have h1 := hin (l.take i).length 0 (by omega) (Nat.zero_le _)
      rw [List.drop_zero] at h1
      exact Ev.step (f := fun k => corebanklaw49_different.l1 k l (i : Int) ((0 : Nat) : Int)) (fun k => by simp only [corebanklaw49_different.l0]; rw [if_pos (by omega)]; rfl) h1
  exact Ev.congr (fun k => by unfold corebanklaw49_different.f; rfl) (h l.length 0 (by omega) (Nat.zero_le _))
/-- The Ids of entries are different, one by one from the front. -/
theorem diff_of (l : List S84) : ∀ d i : Nat, l.length - i = d → i ≤ l.length → diffG l d i = true → ∀ (m j : Nat) (hm : m < l.length) (_ : i ≤ m) (hj : j < m), l[m].f0 ≠ (l[j]'(by omega)).f0 := by
  intro d
  induction d with
  | zero => intro i hd hi _ m j hm him hj; omega
  | succ d ih =>
    intro i hd hi h m j hm him hj
    rw [diffG] at h
    split at h
    · cases h
    · rename_i hno
      by_cases e : m = i
      · subst e
        intro heq
        apply hno
        rw [List.any_eq_true]
        have hjt : j < (l.take m).length := by rw [List.length_take]; omega
        refine ⟨(l.take m)[j], List.getElem_mem hjt, ?_⟩
        rw [List.getElem_take, rd84_at hm]
        exact decide_eq_true heq
      · exact ih (i + 1) (by omega) (by omega) h m j hm (by omega) hj
theorem find_self (l : List S84) : (∀ (m j : Nat) (hm : m < l.length) (hj : j < m), l[m].f0 ≠ (l[j]'(by omega)).f0) → ∀ e ∈ l, l.find? (fun g => g.f0 == e.f0) = some e := by
  induction l with
  | nil => intro _ e he; cases he
  | cons a l ih =>
    intro h e he
    rw [List.find?_cons]
    by_cases c : a.f0 = e.f0
    · rw [beq_iff_eq.mpr c]
      rcases List.mem_cons.mp he with rfl | he
      · rfl
      · obtain ⟨m, hm, rfl⟩ := List.getElem_of_mem he
        exact absurd c.symm (by have := h (m + 1) 0 (by rw [List.length_cons]; omega) (by omega); simpa using this)
    · rw [beq_eq_false_iff_ne.mpr c]
      rcases List.mem_cons.mp he with rfl | he
      · exact absurd rfl c
      · refine ih (fun m j hm hj => ?_) e he
        have := h (m + 1) (j + 1) (by rw [List.length_cons]; omega) (by omega)
        simpa using this
/-- The sum over the entries behind a row is the sum over all. -/
theorem behind_sum (am : List S129 → Int) (bk : Int) : ∀ l, ((behindG am bk l).map (fun e => am e.f8)).sum = sumB am bk l
  | [] => rfl
  | e :: l => by
    have ih := behind_sum am bk l
    rw [sumB_cons, ← ih]
    by_cases c : e.f1 ≤ bk
    · by_cases z : am e.f8 = 0
      · have e2 : behindG am bk (e :: l) = behindG am bk l := by simp only [behindG]; rw [List.filter_cons, if_neg (by simp [z])]
        rw [e2, if_pos c, z, Int.zero_add]
      · have e2 : behindG am bk (e :: l) = e :: behindG am bk l := by simp only [behindG]; rw [List.filter_cons, if_pos (by simp [z, c])]
        rw [e2, if_pos c, List.map_cons, List.sum_cons]
    · have e2 : behindG am bk (e :: l) = behindG am bk l := by simp only [behindG]; rw [List.filter_cons, if_neg (by simp [c])]
      rw [e2, if_neg c, Int.zero_add]
/-! ### the cells, one by one -/
theorem cellsG_ok (f : ByteArray → Int) (nm : ByteArray) : ∀ cs acc a, cellsG f nm cs acc = some a → a = acc ++ cs.map (fun c => (⟨nm, c.f0, f c.f0⟩ : S58))
  | [], acc, a, h => by injection h with h; simp [h]
  | c :: cs, acc, a, h => by
    rw [cellsG] at h
    split at h
    · have := cellsG_ok f nm cs _ a h
      rw [this]; simp
    · cases h
theorem makeG_ok (F : S48 → ByteArray → Int) (cu : List S97) : ∀ l acc x, makeG F cu l acc = (x, 0) → x = acc ++ l.flatMap (fun r => cu.map (fun c => (⟨r.f0, c.f0, F r c.f0⟩ : S58)))
  | [], acc, x, h => by injection h with h; simp [h]
  | r :: rs, acc, x, h => by
    rw [makeG] at h
    cases hc : cellsG (F r) r.f0 cu acc with
    | none => rw [hc] at h; exact absurd (congrArg Prod.snd h) (show ¬ (6 : Int) = 0 by decide)
    | some a =>
      rw [hc] at h
      have h1 := makeG_ok F cu rs a x h
      rw [h1, cellsG_ok _ _ _ _ _ hc, List.flatMap_cons, List.append_assoc]
theorem makeG_none (F : S48 → ByteArray → Int) (cu : List S97) : ∀ l acc, (makeG F cu l acc).2 ≠ 0 → (makeG F cu l acc).1 = []
  | [], acc, h => absurd rfl h
  | r :: rs, acc, h => by
    rw [makeG] at h ⊢
    cases hc : cellsG (F r) r.f0 cu acc with
    | none => rfl
    | some a => rw [hc] at h; exact makeG_none F cu rs a h
theorem flat_at {α β : Type} (g : α → List β) (n : Nat) (hn : 0 < n) (hg : ∀ a, (g a).length = n) : ∀ (l : List α) (i : Nat) (h : i < l.length * n), (l.flatMap g)[i]? = (g (l[i / n]'(Nat.div_lt_of_lt_mul (by rw [Nat.mul_comm]; exact h))))[i % n]?
  | [], i, h => by simp at h
  | a :: l, i, h => by
    rw [List.flatMap_cons]
    by_cases c : i < n
    · rw [List.getElem?_append_left (by rw [hg]; exact c)]
      have e1 : i / n = 0 := Nat.div_eq_of_lt c
      have e2 : i % n = i := Nat.mod_eq_of_lt c
      simp only [e1, e2, List.getElem_cons_zero]
    · rw [List.getElem?_append_right (by rw [hg]; omega), hg]
      have hlt : i - n < l.length * n := by rw [List.length_cons, Nat.succ_mul] at h; omega
      rw [flat_at g n hn hg l (i - n) hlt]
      have e1 : i / n = (i - n) / n + 1 := by rw [Nat.div_eq_sub_div hn (by omega)]
      have e2 : i % n = (i - n) % n := Nat.mod_eq_sub_mod (by omega)
      simp only [e1, e2, List.getElem_cons_succ]
theorem flat_len {α β : Type} (g : α → List β) (n : Nat) (hg : ∀ a, (g a).length = n) : ∀ l : List α, (l.flatMap g).length = l.length * n
  | [] => by simp
  | a :: l => by rw [List.flatMap_cons, List.length_append, hg, flat_len g n hg l, List.length_cons, Nat.succ_mul, Nat.add_comm]
theorem rowsG_all (ch : List S62) : ∀ l : List S48, rowsG ch l = 0 → ∀ r ∈ l, rowG ch r = 0
  | [], _, r, h => by cases h
  | a :: l, h0, r, h => by
    rw [rowsG] at h0
    split at h0
    · rename_i ha
      rcases List.mem_cons.mp h with rfl | h
      · exact ha
      · exact rowsG_all ch l h0 r h
    · rename_i ha; exact absurd h0 ha
theorem check_one (ch : List S62) (l : List S48) (h : checkG ch l = 0) (r : S48) (hr : r ∈ l) : checkG ch [⟨r.f0, r.f1, r.f2⟩] = 0 := by
  unfold checkG at h ⊢
  split at h
  · rw [if_pos (by simp)]
    have := rowsG_all ch l h r hr
    rw [rowsG, rowsG, if_pos this]
  · cases h
theorem rd58_at {l : List S58} {i : Nat} (h : i < l.length) : rd_T58 l (i : Int) = l[i] := by
  show l.getD _ z58 = _
  rw [List.getD_eq_getElem?_getD]
  simp [List.getElem?_eq_getElem h]
section
variable (l0 : List S97) (l1 : List S86) (l2 : List S62) (a3 : Int) (a4 : Int) (a5 : Int) (a6 : Int) (a7 : Int) (a8 : Int) (a9 : Int) (a10 : Int) (a11 : Int) (a12 : Int) (a13 : Int) (a14 : Int) (a15 : Int) (a16 : Int) (l17 : List S79) (l18 : List S90) (l19 : List S84) (l20 : List S119) (l21 : List S180)
theorem drills_l1 (l : List S48) (bk : Int) (xs : List S58) (i : Nat) (ids : List Int) (r : S48) (hc : l2.length ≤ 9223372036854775807) (hj : okJ l19) (hr : okRow r) (hi : i < xs.length) (hxn : xs.length ≤ 9223372036854775807) (hx : xs[i].f1.size ≤ 140737488351232) (hids : ids.length ≤ 9223372036854775807)
    (hne : ∀ id ∈ ids, amountG l2 a4 l18 l19 r.f0 r.f1 r.f2 xs[i].f1 id ≠ 0) {v : Bool} (hv : Ev (fun k => corebanklaw49_ReportDrills.l0 k l bk xs ((i + 1 : Nat) : Int) l0 l1 l2 a3 a4 a5 a6 a7 a8 a9 a10 a11 a12 a13 a14 a15 a16 l17 l18 l19 l20 l21) v) :
    ∀ d j : Nat, ids.length - j = d → j ≤ ids.length → ∀ m : Int, wrap64 (m + ((ids.drop j).map (amountG l2 a4 l18 l19 r.f0 r.f1 r.f2 xs[i].f1)).sum) = xs[i].f2 → Ev (fun k => corebanklaw49_ReportDrills.l1 k l bk xs (i : Int) ids (wrap64 m) (j : Int) l0 l1 l2 a3 a4 a5 a6 a7 a8 a9 a10 a11 a12 a13 a14 a15 a16 l17 l18 l19 l20 l21 r.f0 r.f1 r.f2) v := by
  intro d
  induction d with
  | zero =>
    intro j hd hj m hm
    rw [List.drop_of_length_le (by omega)] at hm
    have hm2 : wrap64 m = xs[i].f2 := by simpa using hm
    refine Ev.step (f := fun k => corebanklaw49_ReportDrills.l0 k l bk xs ((i + 1 : Nat) : Int) l0 l1 l2 a3 a4 a5 a6 a7 a8 a9 a10 a11 a12 a13 a14 a15 a16 l17 l18 l19 l20 l21) (fun k => by simp only [corebanklaw49_ReportDrills.l1]; rw [if_neg (by omega), if_pos (by omega), if_pos (by omega), rd58_at hi, if_pos hm2, wrap_inc hi hxn]) hv
  | succ d ih =>
    intro j hd hj2 m hm
    have hlt : j < ids.length := by omega
    rw [drop_at hlt, List.map_cons, List.sum_cons, ← Int.add_assoc] at hm
    refine Ev.step (f := fun k => (report_Amount.f k l0 l1 l2 a3 a4 a5 a6 a7 a8 a9 a10 a11 a12 a13 a14 a15 a16 l17 l18 l19 l20 l21 r.f0 r.f1 r.f2 xs[i].f1 ids[j]).bind fun t403 => if t403 = 0 then some false else corebanklaw49_ReportDrills.l1 k l bk xs (i : Int) ids (wrap64 (wrap64 m + t403)) ((j + 1 : Nat) : Int) l0 l1 l2 a3 a4 a5 a6 a7 a8 a9 a10 a11 a12 a13 a14 a15 a16 l17 l18 l19 l20 l21 r.f0 r.f1 r.f2) (fun k => by simp only [corebanklaw49_ReportDrills.l1]; rw [if_pos (by omega), if_pos (by omega), if_pos (by omega), if_pos (by omega), rd58_at hi, rd_at hlt, wrap_inc hlt hids]) ?_
    refine Ev.bind (amount_ev l0 l1 l2 a3 a4 a5 a6 a7 a8 a9 a10 a11 a12 a13 a14 a15 a16 l17 l18 l19 l20 l21 _ _ _ _ _ hc hj hr.1 hr.2 hx) (Ev.congr (fun k => if_neg (hne _ (List.getElem_mem hlt))) (Ev.congr (fun k => by rw [wrap_addl]) (ih (j + 1) (by omega) (by omega) _ hm)))
theorem drills_step (l : List S48) (bk : Int) (xs : List S58) (i q : Nat) (hlt : i < xs.length) (hq : q < l.length) (hpos : 0 < l0.length) (hdiv : wrap64 (Int.tdiv (i : Int) (l0.length : Int)) = (q : Int)) (k : Nat) :
    corebanklaw49_ReportDrills.l0 (k + 1) l bk xs (i : Int) l0 l1 l2 a3 a4 a5 a6 a7 a8 a9 a10 a11 a12 a13 a14 a15 a16 l17 l18 l19 l20 l21 = (report_Drill.f k l0 l1 l2 a3 a4 a5 a6 a7 a8 a9 a10 a11 a12 a13 a14 a15 a16 l17 l18 l19 l20 l21 l[q].f0 l[q].f1 l[q].f2 xs[i].f1 bk).bind fun bt396 => if bt396.2 = 0 then corebanklaw49_ReportDrills.j2 k l bk xs (i : Int) bt396.1 (xs[i].f0.toList != l[q].f0.toList) l0 l1 l2 a3 a4 a5 a6 a7 a8 a9 a10 a11 a12 a13 a14 a15 a16 l17 l18 l19 l20 l21 l[q].f0 l[q].f1 l[q].f2 else corebanklaw49_ReportDrills.j2 k l bk xs (i : Int) bt396.1 true l0 l1 l2 a3 a4 a5 a6 a7 a8 a9 a10 a11 a12 a13 a14 a15 a16 l17 l18 l19 l20 l21 l[q].f0 l[q].f1 l[q].f2 := by
  simp only [corebanklaw49_ReportDrills.l0]
  rw [if_pos (show (i : Int) < (xs.length : Int) by omega), if_neg (show ¬ (l0.length : Int) = 0 by omega), hdiv, if_pos (show (0 : Int) ≤ (q : Int) by omega), if_pos (show (q : Int) < (l.length : Int) by omega), if_pos (show (0 : Int) ≤ (i : Int) by omega), rd48_at hq, rd58_at hlt]
theorem drills_l0 (l : List S48) (bk : Int) (xs : List S58) (h0 : (okSl 24 ok97) l0) (h2 : (okSl 40 ok62) l2) (h19 : (okSl 112 ok84) l19) (hl : okSl 48 ok48 l) (hck : checkG l2 l = 0) (hdf : diffG l19 l19.length 0 = true) (hpos : 0 < l0.length) (hxn : xs.length ≤ 9223372036854775807)
    (hxs : xs = l.flatMap (fun r => l0.map (fun c => (⟨r.f0, c.f0, cellG l2 a4 l18 l19 bk r c.f0⟩ : S58)))) :
    ∀ d i : Nat, xs.length - i = d → i ≤ xs.length → Ev (fun k => corebanklaw49_ReportDrills.l0 k l bk xs (i : Int) l0 l1 l2 a3 a4 a5 a6 a7 a8 a9 a10 a11 a12 a13 a14 a15 a16 l17 l18 l19 l20 l21) true := by
  intro d
  induction d with
  | zero =>
    intro i hd hi
    exact Ev.step (f := fun k => (corebanklaw49_Live.f k).bind fun t392 => some t392) (fun k => by simp only [corebanklaw49_ReportDrills.l0]; rw [if_neg (by omega)]) (Ev.bind live_ev (Ev.now _))
  | succ d ih =>
    intro i hd hi
    have hlt : i < xs.length := by omega
    have hxl : xs.length = l.length * l0.length := by rw [hxs]; exact flat_len _ _ (fun r => by rw [List.length_map]) l
    have hq : i / l0.length < l.length := Nat.div_lt_of_lt_mul (by rw [Nat.mul_comm, ← hxl]; exact hlt)
    have hm : i % l0.length < l0.length := Nat.mod_lt _ hpos
    have hx : xs[i] = ⟨l[i / l0.length].f0, l0[i % l0.length].f0, cellG l2 a4 l18 l19 bk l[i / l0.length] l0[i % l0.length].f0⟩ := by
      have h1 := flat_at (fun r : S48 => l0.map (fun c => (⟨r.f0, c.f0, cellG l2 a4 l18 l19 bk r c.f0⟩ : S58))) l0.length hpos (fun r => by rw [List.length_map]) l i (by rw [← hxl]; exact hlt)
      rw [← hxs, List.getElem?_eq_getElem hlt, List.getElem?_map, List.getElem?_eq_getElem hm] at h1
      exact Option.some.inj h1
    have hdiv : wrap64 (Int.tdiv (i : Int) (l0.length : Int)) = ((i / l0.length : Nat) : Int) := by
      have e : Int.tdiv (i : Int) (l0.length : Int) = ((i / l0.length : Nat) : Int) := rfl
      rw [e]
      have : i / l0.length ≤ i := Nat.div_le_self _ _
      generalize i / l0.length = q at this
      unfold wrap64; omega
    have hmem : l[i / l0.length] ∈ l := List.getElem_mem hq
    obtain ⟨k1, _, k2⟩ := hl.2.2 _ hmem
    have hrow : okRow l[i / l0.length] := ⟨Nat.le_trans k1 (by decide), k2.2.1⟩
    have hcs : l0[i % l0.length].f0.size ≤ 140737488351232 := (h0.2.2 _ (List.getElem_mem hm)).1
    have hx1 : xs[i].f1 = l0[i % l0.length].f0 := by rw [hx]
    have hx0 : xs[i].f0 = l[i / l0.length].f0 := by rw [hx]
    have hx2 : xs[i].f2 = cellG l2 a4 l18 l19 bk l[i / l0.length] l0[i % l0.length].f0 := by rw [hx]
    have hcur : curG l0 l0[i % l0.length].f0 = true := List.any_eq_true.mpr ⟨_, List.getElem_mem hm, decide_eq_true rfl⟩
    have hdr : drillG l0 l2 a4 l18 l19 l[i / l0.length].f0 l[i / l0.length].f1 l[i / l0.length].f2 xs[i].f1 bk = ((behindG (amB l2 a4 l18 l[i / l0.length].f1 l[i / l0.length].f2 xs[i].f1) bk l19).map (·.f0), 0) := by
      unfold drillG
      rw [hx1, if_pos (check_one l2 l hck _ hmem), if_pos hcur]
    refine Ev.step (drills_step l0 l1 l2 a3 a4 a5 a6 a7 a8 a9 a10 a11 a12 a13 a14 a15 a16 l17 l18 l19 l20 l21 l bk xs i (i / l0.length) hlt hq hpos hdiv) ?_
    have hD := drill_ev l0 l1 l2 a3 a4 a5 a6 a7 a8 a9 a10 a11 a12 a13 a14 a15 a16 l17 l18 l19 l20 l21 l[i / l0.length].f0 l[i / l0.length].f1 l[i / l0.length].f2 xs[i].f1 bk h0.2.1 h2.2.1 (okJ_of h19) hrow.1 hrow.2 (by rw [hx1]; exact hcs)
    rw [hdr] at hD
    refine Ev.bind hD (Ev.congr (fun k => if_pos rfl) ?_)
    have hf : (xs[i].f0.toList != l[i / l0.length].f0.toList) = false := by rw [hx0]; simp
    rw [hf]
    refine Ev.step (f := fun k => corebanklaw49_ReportDrills.l1 k l bk xs (i : Int) ((behindG (amB l2 a4 l18 l[i / l0.length].f1 l[i / l0.length].f2 xs[i].f1) bk l19).map (·.f0)) (wrap64 0) ((0 : Nat) : Int) l0 l1 l2 a3 a4 a5 a6 a7 a8 a9 a10 a11 a12 a13 a14 a15 a16 l17 l18 l19 l20 l21 l[i / l0.length].f0 l[i / l0.length].f1 l[i / l0.length].f2) (fun k => by simp only [corebanklaw49_ReportDrills.j2]; rw [if_neg (by decide), wrap_zero]; rfl) ?_
    have hself := find_self l19 (fun m j hm hj => diff_of l19 l19.length 0 (by omega) (Nat.zero_le _) hdf m j hm (Nat.zero_le _) hj)
    have ham : ∀ e ∈ l19, amountG l2 a4 l18 l19 l[i / l0.length].f0 l[i / l0.length].f1 l[i / l0.length].f2 xs[i].f1 e.f0 = amB l2 a4 l18 l[i / l0.length].f1 l[i / l0.length].f2 xs[i].f1 e.f8 := by
      intro e he
      unfold amountG
      rw [if_pos (check_one l2 l hck _ hmem), hself e he]
    have hsub : ∀ e ∈ behindG (amB l2 a4 l18 l[i / l0.length].f1 l[i / l0.length].f2 xs[i].f1) bk l19, e ∈ l19 ∧ amB l2 a4 l18 l[i / l0.length].f1 l[i / l0.length].f2 xs[i].f1 e.f8 ≠ 0 := by
      intro e he
      obtain ⟨h3, h4⟩ := List.mem_filter.mp he
      refine ⟨h3, ?_⟩
      rw [Bool.and_eq_true] at h4
      exact of_decide_eq_true h4.2
    refine drills_l1 l0 l1 l2 a3 a4 a5 a6 a7 a8 a9 a10 a11 a12 a13 a14 a15 a16 l17 l18 l19 l20 l21 l bk xs i _ _ h2.2.1 (okJ_of h19) hrow hlt hxn (by rw [hx1]; exact hcs) ?_ ?_ (ih (i + 1) (by omega) (by omega)) _ 0 rfl (Nat.zero_le _) 0 ?_
    · rw [List.length_map]; exact Nat.le_trans (List.length_filter_le _ _) h19.2.1
    · intro id hid
      obtain ⟨e, he, rfl⟩ := List.mem_map.mp hid
      obtain ⟨h5, h6⟩ := hsub e he
      rw [ham e h5]; exact h6
    · rw [List.drop_zero, Int.zero_add, List.map_map, hx2]
      have e1 : (behindG (amB l2 a4 l18 l[i / l0.length].f1 l[i / l0.length].f2 xs[i].f1) bk l19).map ((amountG l2 a4 l18 l19 l[i / l0.length].f0 l[i / l0.length].f1 l[i / l0.length].f2 xs[i].f1) ∘ (·.f0)) = (behindG (amB l2 a4 l18 l[i / l0.length].f1 l[i / l0.length].f2 xs[i].f1) bk l19).map (fun e => amB l2 a4 l18 l[i / l0.length].f1 l[i / l0.length].f2 xs[i].f1 e.f8) := List.map_congr_left (fun e he => ham e (hsub e he).1)
      rw [e1, behind_sum, hx1]
      rfl
theorem drills_ev (l : List S48) (bk : Int) (h0 : (okSl 24 ok97) l0) (h1 : (okSl 64 ok86) l1) (h2 : (okSl 40 ok62) l2) (h17 : (okSl 240 ok79) l17) (h19 : (okSl 112 ok84) l19) (h20 : (okSl 56 ok119) l20) (hl : okSl 48 ok48 l) : Ev (fun k => corebanklaw49_ReportDrills.f k l0 l1 l2 a3 a4 a5 a6 a7 a8 a9 a10 a11 a12 a13 a14 a15 a16 l17 l18 l19 l20 l21 l bk) true := by
  obtain ⟨g, hg⟩ := great25 l0 l1 l2 a3 a4 a5 a6 a7 a8 a9 a10 a11 a12 a13 a14 a15 a16 l17 l18 l19 l20 l21 h1 h17 h19 h20
  obtain ⟨g', hg'⟩ := great49 l hl.2.1
  have hjt : Ev (fun k => corebanklaw49_ReportDrills.j0 k l bk true l0 l1 l2 a3 a4 a5 a6 a7 a8 a9 a10 a11 a12 a13 a14 a15 a16 l17 l18 l19 l20 l21) true := Ev.step (f := fun _ => some true) (fun k => by simp only [corebanklaw49_ReportDrills.j0]; rfl) (Ev.now _)
  refine Ev.congr (fun k => by unfold corebanklaw49_ReportDrills.f; rfl) (Ev.bind hg ?_)
  cases g with
  | true => exact Ev.congr (fun k => if_pos rfl) hjt
  | false =>
    refine Ev.congr (fun k => if_neg (by decide)) (Ev.bind hg' ?_)
    cases g' with
    | true => exact Ev.congr (fun k => if_pos rfl) hjt
    | false =>
      refine Ev.congr (fun k => if_neg (by decide)) ?_
      by_cases c : (l.length : Int) > 10
      · exact Ev.congr (fun k => if_pos c) hjt
      refine Ev.congr (fun k => if_neg c) (Ev.bind (diff_ev l19 h19.2.1) ?_)
      cases hdf : diffG l19 l19.length 0 with
      | false => exact hjt
      | true =>
        obtain ⟨s0, s19⟩ := great_small l0 l1 l2 a3 a4 a5 a6 a7 a8 a9 a10 a11 a12 a13 a14 a15 a16 l17 l18 l19 l20 l21 hg
        have hszn : l.length * l0.length ≤ 10 * 20 := Nat.mul_le_mul (by omega) s0
        have hM := made_ev l0 l1 l2 a3 a4 a5 a6 a7 a8 a9 a10 a11 a12 a13 a14 a15 a16 l17 l18 l19 l20 l21 l bk (fun c hc => (h0.2.2 c hc).1) h2.2.1 (okJ_of h19) (legs_bound h19 s19) hl.2.1 (fun r hr => by obtain ⟨q1, _, q2⟩ := hl.2.2 r hr; exact ⟨Nat.le_trans q1 (by decide), q2.2.1⟩) (by omega)
        refine Ev.step (f := fun k => (report_Make.f k l0 l1 l2 a3 a4 a5 a6 a7 a8 a9 a10 a11 a12 a13 a14 a15 a16 l17 l18 l19 l20 l21 l bk).bind fun bt387 => if bt387.2 = 0 then (if (bt387.1.length : Int) = wrap64 ((l.length : Int) * (l0.length : Int)) then corebanklaw49_ReportDrills.l0 k l bk bt387.1 ((0 : Nat) : Int) l0 l1 l2 a3 a4 a5 a6 a7 a8 a9 a10 a11 a12 a13 a14 a15 a16 l17 l18 l19 l20 l21 else some false) else (if (bt387.1.length : Int) = 0 then ((corebanklaw49_Live.f k).bind fun t391 => some t391) else some false)) (fun k => by simp only [corebanklaw49_ReportDrills.j0]; rfl) ?_
        refine Ev.bind hM ?_
        by_cases hck : checkG l2 l = 0
        · have hmd : madeG l0 l2 a4 l18 l19 l bk = makeG (cellG l2 a4 l18 l19 bk) l0 l [] := if_pos hck
          rw [hmd]
          by_cases z : (makeG (cellG l2 a4 l18 l19 bk) l0 l []).2 = 0
          · have hok := makeG_ok (cellG l2 a4 l18 l19 bk) l0 l [] _ (show makeG (cellG l2 a4 l18 l19 bk) l0 l [] = ((makeG (cellG l2 a4 l18 l19 bk) l0 l []).1, 0) by rw [← z])
            rw [List.nil_append] at hok
            have hlen : (makeG (cellG l2 a4 l18 l19 bk) l0 l []).1.length = l.length * l0.length := by rw [hok]; exact flat_len _ _ (fun r => by rw [List.length_map]) l
            have hw : ((makeG (cellG l2 a4 l18 l19 bk) l0 l []).1.length : Int) = wrap64 ((l.length : Int) * (l0.length : Int)) := by
              rw [hlen, ← Int.natCast_mul]
              generalize l.length * l0.length = q at hszn
              unfold wrap64; omega
            refine Ev.congr (fun k => by rw [if_pos z, if_pos hw]) ?_
            by_cases hp : 0 < l0.length
            · exact drills_l0 l0 l1 l2 a3 a4 a5 a6 a7 a8 a9 a10 a11 a12 a13 a14 a15 a16 l17 l18 l19 l20 l21 l bk _ h0 h2 h19 hl hck hdf hp (by rw [hlen]; omega) hok _ 0 rfl (Nat.zero_le _)
            · have h00 : (makeG (cellG l2 a4 l18 l19 bk) l0 l []).1.length = 0 := by rw [hlen, show l0.length = 0 by omega]; rfl
              exact Ev.step (f := fun k => (corebanklaw49_Live.f k).bind fun t392 => some t392) (fun k => by simp only [corebanklaw49_ReportDrills.l0]; rw [if_neg (by omega)]) (Ev.bind live_ev (Ev.now _))
          · have hnil := makeG_none (cellG l2 a4 l18 l19 bk) l0 l [] z
            exact Ev.congr (fun k => by rw [if_neg z, if_pos (by rw [hnil]; rfl)]) (Ev.bind live_ev (Ev.now _))
        · have hmd : madeG l0 l2 a4 l18 l19 l bk = ([], checkG l2 l) := if_neg hck
          rw [hmd]
          exact Ev.congr (fun k => by rw [if_neg hck]; exact if_pos rfl) (Ev.bind live_ev (Ev.now _))
end
theorem ReportDrills : corebanklaw49_ReportDrills.Pure := by
  intro a l bk ha hl _
  obtain ⟨h0, h1, h2, _, h4, _, h6, h7, _⟩ := ha
  obtain ⟨K, h⟩ := drills_ev _ _ _ a.f3.f0 a.f3.f1 a.f3.f2 a.f3.f3 a.f3.f4 a.f3.f5 a.f3.f6 a.f3.f7 a.f3.f8 a.f3.f9 a.f3.f10 a.f3.f11 a.f3.f12 a.f3.f13 _ _ _ _ _ l bk h0 h1 h2 h4 h6 h7 hl
  exact ⟨K, h K (Nat.le_refl _)⟩
end Go.Proofs.Ytcmaifjmnpfmbaa.R.Proof
