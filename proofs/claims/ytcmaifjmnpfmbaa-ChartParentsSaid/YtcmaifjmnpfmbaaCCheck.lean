/- Check of the program and of the reference: both come to the same number. -/
import Derived.Test.YtcmaifjmnpfmbaaCx14
import Derived.Test.YtcmaifjmnpfmbaaCx6
import Derived.Test.YtcmaifjmnpfmbaaCLeaf
namespace Go.Proofs.Ytcmaifjmnpfmbaa.C.Proof
open Go.RowKit Go.Proofs.Ytcmaifjmnpfmbaa.C Go.Proofs.YtcmaifjmnpfmbaaW.PrintWords Go.Proofs.YtcmaifjmnpfmbaaW.PrintLast

/-! ### Names -/
theorem bytes_loop (bs : ByteArray) (d : Nat) : ∀ (i : Nat) (r : List UInt8), bs.size - i = d → r ≠ [] → ByteArray.toList.loop bs i r ≠ [] := by
  induction d with
  | zero => intro i r hd hr; unfold ByteArray.toList.loop; rw [if_neg (by omega)]; simpa using hr
  | succ d ih => intro i r hd hr; unfold ByteArray.toList.loop; rw [if_pos (by omega)]; exact ih (i + 1) _ (by omega) (by simp)
theorem bytes_nil {bs : ByteArray} : bs.toList = [] ↔ bs.size = 0 := by
  constructor
  · intro h
    by_cases c : 0 < bs.size
    · unfold ByteArray.toList at h
      unfold ByteArray.toList.loop at h
      rw [if_pos c] at h
      exact absurd h (bytes_loop bs _ _ _ rfl (by simp))
    · omega
  · intro h
    unfold ByteArray.toList ByteArray.toList.loop
    rw [if_neg (by omega)]; rfl

def okc (s : ByteArray) (i : Nat) : Bool := decide ((97 ≤ bt s i ∧ bt s i ≤ 122) ∨ (i ≠ 0 ∧ (bt s i = 95 ∨ (48 ≤ bt s i ∧ bt s i ≤ 57))))
/-- The last d bytes are good. -/
def okTail (s : ByteArray) : Nat → Bool
  | 0 => true
  | d + 1 => okc s (s.size - (d + 1)) && okTail s d
def nameG (s : ByteArray) : Bool := okTail s s.size && (decide (1 ≤ s.size) && decide (s.size ≤ 16))

theorem name_l0 (s : ByteArray) (hn : s.size ≤ 140737488351232) (d : Nat) : ∀ i : Nat, i ≤ s.size → s.size - i = d →
    Ev (fun k => chart_name.l0 k s (s.size : Int) i) (okTail s d && (decide (1 ≤ s.size) && decide (s.size ≤ 16))) := by
  induction d with
  | zero =>
    intro i hi hd
    refine Ev.step (f := fun _ => some (decide (1 ≤ s.size) && decide (s.size ≤ 16))) (fun k => ?_) (Ev.some_ (by simp [okTail]))
    simp only [chart_name.l0]; rw [if_neg (by omega)]
    by_cases c : 1 ≤ s.size
    · rw [if_pos (by omega)]; simp [c]; omega
    · rw [if_neg (by omega)]; simp [c]
  | succ d ih =>
    intro i hi hd
    have hlt : i < s.size := by omega
    have e : s.size - (d + 1) = i := by omega
    simp only [okTail, e]
    cases c : okc s i with
    | true =>
      have c' := of_decide_eq_true c
      refine Ev.step (f := fun k => chart_name.l0 k s (s.size : Int) ((i + 1 : Nat) : Int)) (fun k => ?_) ?_
      · simp only [chart_name.l0]; rw [if_pos (by omega), if_pos (by omega), if_pos (by omega), wrap_inc hlt (by omega)]
        repeat' split
        all_goals first | rfl | (exfalso; omega)
      · rw [Bool.true_and]; exact ih (i + 1) (by omega) (by omega)
    | false =>
      have c' := of_decide_eq_false c
      refine Ev.step (f := fun _ => some false) (fun k => ?_) (Ev.some_ (by simp))
      simp only [chart_name.l0]; rw [if_pos (by omega), if_pos (by omega), if_pos (by omega)]
      repeat' split
      all_goals first | rfl | (exfalso; omega)
theorem name_ev (s : ByteArray) (hn : s.size ≤ 140737488351232) : Ev (fun k => chart_name.f k s) (nameG s) :=
  Ev.congr (fun _ => rfl) (name_l0 s hn s.size 0 (Nat.zero_le _) rfl)

theorem rname_l0 (s : ByteArray) (hn : s.size ≤ 140737488351232) (d : Nat) : ∀ i : Nat, 1 ≤ i → i ≤ s.size → s.size - i = d →
    Ev (fun k => corebankref18_name.l0 k s i) (okTail s d) := by
  induction d with
  | zero =>
    intro i h1 hi hd
    refine Ev.step (f := fun _ => some true) (fun k => ?_) (Ev.some_ (by simp [okTail]))
    simp only [corebankref18_name.l0]; rw [if_neg (by omega)]
  | succ d ih =>
    intro i h1 hi hd
    have hlt : i < s.size := by omega
    have e : s.size - (d + 1) = i := by omega
    simp only [okTail, e]
    cases c : okc s i with
    | true =>
      have c' := of_decide_eq_true c
      refine Ev.step (f := fun k => corebankref18_name.l0 k s ((i + 1 : Nat) : Int)) (fun k => ?_) ?_
      · simp only [corebankref18_name.l0]; rw [if_pos (by omega), if_pos (by omega), wrap_inc hlt (by omega)]
        repeat' split
        all_goals first | rfl | (exfalso; omega)
      · rw [Bool.true_and]; exact ih (i + 1) (by omega) (by omega) (by omega)
    | false =>
      have c' := of_decide_eq_false c
      refine Ev.step (f := fun _ => some false) (fun k => ?_) (Ev.some_ (by simp))
      simp only [corebankref18_name.l0]; rw [if_pos (by omega), if_pos (by omega)]
      repeat' split
      all_goals first | rfl | (exfalso; omega)
theorem rname_ev (s : ByteArray) (hn : s.size ≤ 140737488351232) : Ev (fun k => corebankref18_name.f k s) (nameG s) := by
  have hj : Ev (fun k => corebankref18_name.j0 k s true) false := Ev.step (f := fun _ => some false) (fun k => by simp only [corebankref18_name.j0]; rfl) (Ev.now _)
  by_cases c : s.size = 0
  · exact Ev.congr (fun k => by unfold corebankref18_name.f; rw [if_pos (bytes_nil.2 c)]) (by simpa [nameG, c] using hj)
  · by_cases c2 : (s.size : Int) > 16
    · have e : nameG s = false := by unfold nameG; simp; intros; omega
      exact Ev.congr (fun k => by unfold corebankref18_name.f; rw [if_neg (fun h => c (bytes_nil.1 h)), if_pos c2]) (by rw [e]; exact hj)
    · have e : nameG s = (okc s 0 && okTail s (s.size - 1)) := by
        unfold nameG
        obtain ⟨m, hm⟩ : ∃ m, s.size = m + 1 := ⟨s.size - 1, by omega⟩
        have : okTail s s.size = (okc s 0 && okTail s (s.size - 1)) := by rw [hm]; simp [okTail, hm]
        rw [this]
        have h1 : 1 ≤ s.size := by omega
        have h2 : s.size ≤ 16 := by omega
        simp [h1, h2]
      rw [e]
      cases c3 : okc s 0 with
      | true =>
        have c' := of_decide_eq_true c3
        simp only [Int.cast_ofNat_Int] at c'
        refine Ev.congr (f := fun k => corebankref18_name.j0 k s false) (fun k => ?_) ?_
        · unfold corebankref18_name.f; rw [if_neg (fun h => c (bytes_nil.1 h)), if_neg c2, if_pos (by omega), if_neg (by omega)]
          congr 1; simp; omega
        · refine Ev.step (f := fun k => corebankref18_name.l0 k s ((1 : Nat) : Int)) (fun k => ?_) ?_
          · simp only [corebankref18_name.j0]; rfl
          · rw [Bool.true_and]; exact rname_l0 s hn _ 1 (by omega) (by omega) rfl
      | false =>
        have c' := of_decide_eq_false c3
        simp only [Int.cast_ofNat_Int] at c'
        refine Ev.congr (f := fun k => corebankref18_name.j0 k s true) (fun k => ?_) ?_
        · unfold corebankref18_name.f; rw [if_neg (fun h => c (bytes_nil.1 h)), if_neg c2, if_pos (by omega)]
          split
          · rfl
          · congr 1; simp; omega
        · rw [Bool.false_and]; exact hj

/-! ### An element -/
/-- What an element comes to, its number's and kind's range and its order being known. -/
def elemB (l : List S62) (i : Nat) (a : S62) (o : Bool) : Int :=
  if o = true then 10 else if nameG a.f3 = false then 4 else if a.f1 = 0 then 0 else
    match findG (l.take i) a.f1 with
    | none => 11
    | some b => if b.f2 = a.f2 then 0 else 3
def badA (a : S62) : Bool := decide (a.f0 < 1 ∨ a.f0 > 999 ∨ a.f2 < 1 ∨ a.f2 > 5)
def elemG (l : List S62) (i : Nat) (a : S62) : Int :=
  if badA a = true then 1 else elemB l i a (decide (0 < i ∧ a.f0 ≤ (rd_T62 l ((i - 1 : Nat) : Int)).f0))

theorem elem_j1 (l : List S62) (hn : l.length ≤ 1000) (i : Nat) (hi : i < l.length) (a : S62) (hs : a.f3.size ≤ 140737488351232) (o : Bool) :
    Ev (fun k => chart_element.j1 k l i o a.f0 a.f1 a.f2 a.f3) (elemB l i a o) := by
  cases o with
  | true => exact Ev.step (f := fun _ => some 10) (fun k => by simp only [chart_element.j1]; rfl) (Ev.some_ (by simp [elemB]))
  | false =>
    refine Ev.step (f := fun k => (chart_name.f k a.f3).bind fun t => (if t = true then (if a.f1 = 0 then (some 0) else ((chart_Find.f k (l.take i) a.f1).bind fun bt112 => (if bt112.2.2.2.2 = true then (if bt112.2.2.1 = a.f2 then (some 0) else (some 3)) else (some 11)))) else (some 4))) (fun k => ?_) ?_
    · simp only [chart_element.j1]
      rw [if_neg (by decide)]
      congr 1; funext t
      rw [if_pos (by omega : (0:Int) ≤ (i : Int)), if_pos (by omega : (i:Int) ≤ (l.length : Int)), Int.toNat_natCast]
    · refine Ev.bind (name_ev a.f3 hs) ?_
      cases c : nameG a.f3 with
      | false => exact Ev.some_ (by simp [elemB, c])
      | true =>
        simp only [if_true]
        by_cases c1 : a.f1 = 0
        · exact Ev.congr (fun k => by rw [if_pos c1]) (Ev.some_ (by simp [elemB, c, c1]))
        · refine Ev.congr (fun k => by rw [if_neg c1]) (Ev.bind (find_ev (l.take i) a.f1 (by simp; omega)) ?_)
          cases c2 : findG (l.take i) a.f1 with
          | none => exact Ev.some_ (by simp [elemB, c, c1, c2, tup])
          | some b =>
            by_cases c3 : b.f2 = a.f2
            · exact Ev.congr (f := fun _ => some 0) (fun k => by simp [tup, c3]) (Ev.some_ (by simp [elemB, c, c1, c2, c3]))
            · exact Ev.congr (f := fun _ => some 3) (fun k => by simp [tup, c3]) (Ev.some_ (by simp [elemB, c, c1, c2, c3]))
theorem wrap_dec {i n : Nat} (h0 : 0 < i) (h : i < n) (hn : n ≤ 9223372036854775807) : wrap64 ((i : Int) - 1) = ((i - 1 : Nat) : Int) := by
  unfold wrap64
  omega
theorem elem_ev (l : List S62) (hn : l.length ≤ 1000) (hs : ∀ a ∈ l, a.f3.size ≤ 140737488351232) (i : Nat) (hi : i < l.length) :
    Ev (fun k => chart_element.f k l i) (elemG l i l[i]) := by
  have hs' := hs l[i] (List.getElem_mem _)
  refine Ev.congr (f := fun k => chart_element.j0 k l i (badA l[i]) l[i].f0 l[i].f1 l[i].f2 l[i].f3) (fun k => ?_) ?_
  · unfold chart_element.f
    rw [if_pos (by omega), if_pos (by omega), rd62_at hi]
    unfold badA
    repeat' split
    all_goals first | (congr 1; symm; exact decide_eq_true (by omega)) | (congr 1; exact decide_eq_decide.2 (by omega))
  · cases c : badA l[i] with
    | true => exact Ev.step (f := fun _ => some 1) (fun k => by simp only [chart_element.j0]; rfl) (Ev.some_ (by simp [elemG, c]))
    | false =>
      have e : elemG l i l[i] = elemB l i l[i] (decide (0 < i ∧ l[i].f0 ≤ (rd_T62 l ((i - 1 : Nat) : Int)).f0)) := by simp [elemG, c]
      rw [e]
      refine Ev.step (f := fun k => chart_element.j1 k l i (decide (0 < i ∧ l[i].f0 ≤ (rd_T62 l ((i - 1 : Nat) : Int)).f0)) l[i].f0 l[i].f1 l[i].f2 l[i].f3) (fun k => ?_) (elem_j1 l hn i hi l[i] hs' _)
      simp only [chart_element.j0]
      rw [if_neg (by decide)]
      by_cases c0 : 0 < i
      · rw [if_pos (by omega), wrap_dec c0 hi (by omega), if_pos (by omega), if_pos (by omega)]
        simp [c0]
      · rw [if_neg (by omega)]
        simp [c0]

/-! ### The plan -/
def usedG (l : List S62) (id kind : Int) : Int :=
  match findG l id with
  | none => 11
  | some b => if parentG l id = true then 11 else if b.f2 = kind then 0 else 3
def usesG (l : List S62) : List (Int × Int) → Int
  | [] => 0
  | (id, kd) :: t => if usedG l id kd = 0 then usesG l t else usedG l id kd
/-- The first wrong one of the last d elements, or what the plan comes to. -/
def scanG (l : List S62) (u : Int) : Nat → Int
  | 0 => u
  | d + 1 => if elemG l (l.length - (d + 1)) (rd_T62 l ((l.length - (d + 1) : Nat) : Int)) = 0 then scanG l u d else elemG l (l.length - (d + 1)) (rd_T62 l ((l.length - (d + 1) : Nat) : Int))

theorem rd107_at {l : List S107} {i : Nat} (h : i < l.length) : rd_T107 l (i : Int) = l[i] := by
  simp [rd_T107, List.getD_eq_getElem?_getD, List.getElem?_eq_getElem h]
theorem check_l1 (l : List S62) (hn : l.length ≤ 1000) (us : List S107) (hu : us.length ≤ 1000) (d : Nat) : ∀ i : Nat, i ≤ us.length → us.length - i = d →
    Ev (fun k => chart_Check.l1 k l us (us.length : Int) i) (usesG l ((us.drop i).map fun u => (u.f0, u.f1))) := by
  induction d with
  | zero =>
    intro i hi hd
    refine Ev.step (f := fun _ => some 0) (fun k => ?_) (Ev.some_ ?_)
    · simp only [chart_Check.l1]; rw [if_neg (by omega)]
    · rw [List.drop_of_length_le (by omega)]; rfl
  | succ d ih =>
    intro i hi hd
    have hlt : i < us.length := by omega
    rw [drop_at hlt, List.map_cons]
    simp only [usesG]
    have hj : ∀ (t : Bool) (b : Option S62), Ev (fun k => chart_Check.j3 k l us (us.length : Int) i t us[i].f0 us[i].f1 (tup b).1 (tup b).2.1 (tup b).2.2.1 (tup b).2.2.2.1)
        (if t = true then 11 else if (tup b).2.2.1 = us[i].f1 then usesG l ((us.drop (i + 1)).map fun u => (u.f0, u.f1)) else 3) := by
      intro t b
      cases t with
      | true => exact Ev.step (f := fun _ => some 11) (fun k => by simp only [chart_Check.j3]; rfl) (Ev.now _)
      | false =>
        by_cases c : (tup b).2.2.1 = us[i].f1
        · refine Ev.step (f := fun k => chart_Check.l1 k l us (us.length : Int) ((i + 1 : Nat) : Int)) (fun k => ?_) ?_
          · simp only [chart_Check.j3]; rw [if_neg (by decide), if_pos c, wrap_inc hlt (by omega)]
          · rw [if_neg (by decide), if_pos c]; exact ih (i + 1) (by omega) (by omega)
        · refine Ev.step (f := fun k => some 3) (fun k => ?_) (Ev.some_ ?_)
          · simp only [chart_Check.j3]; rw [if_neg (by decide), if_neg c]
          · rw [if_neg (by decide), if_neg c]
    refine Ev.step (f := fun k => (chart_Find.f k l us[i].f0).bind fun b => (if b.2.2.2.2 = true then (chart_Check.j3 k l us (us.length : Int) i (parentG l us[i].f0) us[i].f0 us[i].f1 b.1 b.2.1 b.2.2.1 b.2.2.2.1) else (chart_Check.j3 k l us (us.length : Int) i true us[i].f0 us[i].f1 b.1 b.2.1 b.2.2.1 b.2.2.2.1))) (fun k => ?_) ?_
    · simp only [chart_Check.l1]; rw [if_pos (by omega), if_pos (by omega), if_pos (by omega), rd107_at hlt]
      rfl
    · refine Ev.bind (find_ev l us[i].f0 (by omega)) ?_
      cases c : findG l us[i].f0 with
      | none =>
        have := hj true none
        simp only [usedG, c]
        exact Ev.congr (fun k => by rw [if_neg (by simp [tup])]) (by simpa using this)
      | some b =>
        have := hj (parentG l us[i].f0) (some b)
        refine Ev.congr (fun k => by rw [if_pos (by simp [tup])]) ?_
        have e : (if usedG l us[i].f0 us[i].f1 = 0 then usesG l ((us.drop (i + 1)).map fun u => (u.f0, u.f1)) else usedG l us[i].f0 us[i].f1) = (if parentG l us[i].f0 = true then 11 else if (tup (some b)).2.2.1 = us[i].f1 then usesG l ((us.drop (i + 1)).map fun u => (u.f0, u.f1)) else 3) := by
          simp only [usedG, c, tup]
          by_cases c1 : parentG l us[i].f0 = true
          · simp [c1]
          · by_cases c2 : b.f2 = us[i].f1 <;> simp [c1, c2]
        rw [e]; exact this

section
variable (p0 p1 p2 p3 p4 p5 p6 p7 p8 p9 p10 p11 p12 p13 : Int)
def planG : List (Int × Int) := [(p0, 1), (p1, 2), (p2, 5), (p3, 4), (p4, 4), (p5, 2), (p6, 1), (p7, 1), (p8, 4), (p9, 4), (p10, 2), (p11, 5), (p12, 5), (p13, 4)]
def checkG (l : List S62) (ps : List (Int × Int)) : Int := if l.length < 1 ∨ l.length > 40 then 5 else scanG l (usesG l ps) l.length

theorem check_l0 (l : List S62) (hn : l.length ≤ 1000) (hs : ∀ a ∈ l, a.f3.size ≤ 140737488351232) (d : Nat) : ∀ i : Nat, i ≤ l.length → l.length - i = d →
    Ev (fun k => chart_Check.l0 k l (l.length : Int) i p0 p1 p2 p3 p4 p5 p6 p7 p8 p9 p10 p11 p12 p13) (scanG l (usesG l (planG p0 p1 p2 p3 p4 p5 p6 p7 p8 p9 p10 p11 p12 p13)) d) := by
  induction d with
  | zero =>
    intro i hi hd
    refine Ev.step (f := fun k => chart_Check.l1 k l [(⟨p0, 1⟩ : S107), ⟨p1, 2⟩, ⟨p2, 5⟩, ⟨p3, 4⟩, ⟨p4, 4⟩, ⟨p5, 2⟩, ⟨p6, 1⟩, ⟨p7, 1⟩, ⟨p8, 4⟩, ⟨p9, 4⟩, ⟨p10, 2⟩, ⟨p11, 5⟩, ⟨p12, 5⟩, ⟨p13, 4⟩] ((14 : Nat) : Int) ((0 : Nat) : Int)) (fun k => ?_) ?_
    · simp only [chart_Check.l0]; rw [if_neg (by omega)]; rfl
    · exact check_l1 l hn [(⟨p0, 1⟩ : S107), ⟨p1, 2⟩, ⟨p2, 5⟩, ⟨p3, 4⟩, ⟨p4, 4⟩, ⟨p5, 2⟩, ⟨p6, 1⟩, ⟨p7, 1⟩, ⟨p8, 4⟩, ⟨p9, 4⟩, ⟨p10, 2⟩, ⟨p11, 5⟩, ⟨p12, 5⟩, ⟨p13, 4⟩] (by simp) 14 0 (by simp) rfl
  | succ d ih =>
    intro i hi hd
    have hlt : i < l.length := by omega
    have e : l.length - (d + 1) = i := by omega
    simp only [scanG, e, rd62_at hlt]
    refine Ev.step (f := fun k => (chart_element.f k l i).bind fun t => (if t = 0 then chart_Check.l0 k l (l.length : Int) ((i + 1 : Nat) : Int) p0 p1 p2 p3 p4 p5 p6 p7 p8 p9 p10 p11 p12 p13 else some t)) (fun k => ?_) ?_
    · simp only [chart_Check.l0]; rw [if_pos (by omega), wrap_inc hlt (by omega)]
    · refine Ev.bind (elem_ev l hn hs i hlt) ?_
      by_cases c : elemG l i l[i] = 0
      · exact Ev.congr (fun k => by rw [if_pos c]) (by rw [if_pos c]; exact ih (i + 1) (by omega) (by omega))
      · exact Ev.congr (fun k => by rw [if_neg c]) (by rw [if_neg c]; exact Ev.now _)
theorem check_ev (l : List S62) (hn : l.length ≤ 140737488351232) (hs : ∀ a ∈ l, a.f3.size ≤ 140737488351232) :
    Ev (fun k => chart_Check.f k l p0 p1 p2 p3 p4 p5 p6 p7 p8 p9 p10 p11 p12 p13) (checkG l (planG p0 p1 p2 p3 p4 p5 p6 p7 p8 p9 p10 p11 p12 p13)) := by
  unfold checkG
  by_cases c : l.length < 1 ∨ l.length > 40
  · rw [if_pos c]
    refine Ev.congr (f := fun k => chart_Check.j0 k l true p0 p1 p2 p3 p4 p5 p6 p7 p8 p9 p10 p11 p12 p13) (fun k => ?_) (Ev.step (f := fun _ => some 5) (fun k => by simp only [chart_Check.j0]; rfl) (Ev.now _))
    unfold chart_Check.f
    split
    · rfl
    · congr 1; simp; omega
  · rw [if_neg c]
    refine Ev.congr (f := fun k => chart_Check.j0 k l false p0 p1 p2 p3 p4 p5 p6 p7 p8 p9 p10 p11 p12 p13) (fun k => ?_) (Ev.step (f := fun k => chart_Check.l0 k l (l.length : Int) ((0 : Nat) : Int) p0 p1 p2 p3 p4 p5 p6 p7 p8 p9 p10 p11 p12 p13) (fun k => by simp only [chart_Check.j0]; rfl) ?_)
    · unfold chart_Check.f
      rw [if_neg (by omega)]
      congr 1; simp; omega
    · exact check_l0 p0 p1 p2 p3 p4 p5 p6 p7 p8 p9 p10 p11 p12 p13 l (by omega) hs l.length 0 (Nat.zero_le _) rfl

/-! ### The reference -/
theorem rused_ev (l : List S62) (hn : l.length ≤ 1000) (id kind : Int) : Ev (fun k => corebankref18_used.f k l id kind) (usedG l id kind) := by
  have hj : ∀ (t : Bool) (b : Option S62), Ev (fun k => corebankref18_used.j0 k kind t (tup b).1 (tup b).2.1 (tup b).2.2.1 (tup b).2.2.2.1) (if t = true then 11 else if (tup b).2.2.1 = kind then 0 else 3) := by
    intro t b
    cases t with
    | true => exact Ev.step (f := fun _ => some 11) (fun k => by simp only [corebankref18_used.j0]; rfl) (Ev.now _)
    | false =>
      by_cases c : (tup b).2.2.1 = kind
      · exact Ev.step (f := fun _ => some 0) (fun k => by simp only [corebankref18_used.j0]; rw [if_neg (by decide), if_pos c]) (Ev.some_ (by rw [if_neg (by decide), if_pos c]))
      · exact Ev.step (f := fun _ => some 3) (fun k => by simp only [corebankref18_used.j0]; rw [if_neg (by decide), if_neg c]) (Ev.some_ (by rw [if_neg (by decide), if_neg c]))
  refine Ev.bind (rfind_ev l id (by omega)) ?_
  cases c : findG l id with
  | none =>
    have := hj true none
    exact Ev.congr (fun k => by rw [if_neg (by simp [tup])]) (by simpa [usedG, c] using this)
  | some b =>
    have := hj (parentG l id) (some b)
    refine Ev.congr (fun k => by rw [if_pos (by simp [tup])]) ?_
    refine Ev.bind (rparent_ev l id (by omega)) ?_
    have e : usedG l id kind = (if parentG l id = true then 11 else if (tup (some b)).2.2.1 = kind then 0 else 3) := by simp only [usedG, c]; rfl
    rw [e]; exact this
theorem rcheck_l1 (l : List S62) (hn : l.length ≤ 1000) (ids kds : List Int) (hu : ids.length ≤ 1000) (hk : kds.length = ids.length) (d : Nat) : ∀ i : Nat, i ≤ ids.length → ids.length - i = d →
    Ev (fun k => corebankref18_Check.l1 k l ids kds i) (usesG l ((ids.drop i).zip (kds.drop i))) := by
  induction d with
  | zero =>
    intro i hi hd
    refine Ev.step (f := fun _ => some 0) (fun k => ?_) (Ev.some_ ?_)
    · simp only [corebankref18_Check.l1]; rw [if_neg (by omega)]
    · rw [List.drop_of_length_le (by omega)]; rfl
  | succ d ih =>
    intro i hi hd
    have hlt : i < ids.length := by omega
    have hlt' : i < kds.length := by omega
    rw [drop_at hlt, drop_at hlt', List.zip_cons_cons]
    simp only [usesG]
    refine Ev.step (f := fun k => (corebankref18_used.f k l ids[i] kds[i]).bind fun t => (if t = 0 then corebankref18_Check.l1 k l ids kds ((i + 1 : Nat) : Int) else some t)) (fun k => ?_) ?_
    · simp only [corebankref18_Check.l1]; rw [if_pos (by omega), if_pos (by omega), if_pos (by omega), rd_at hlt, rd_at hlt', wrap_inc hlt (by omega)]
    · refine Ev.bind (rused_ev l hn _ _) ?_
      by_cases c : usedG l ids[i] kds[i] = 0
      · exact Ev.congr (fun k => by rw [if_pos c]) (by rw [if_pos c]; exact ih (i + 1) (by omega) (by omega))
      · exact Ev.congr (fun k => by rw [if_neg c]) (by rw [if_neg c]; exact Ev.now _)
theorem rcheck_j3 (l : List S62) (hn : l.length ≤ 1000) (i : Nat) (hi : i < l.length) (a : S62) (hs : a.f3.size ≤ 140737488351232) (o : Bool) (r : Int)
    (hk : Ev (fun k => corebankref18_Check.l0 k l ((i + 1 : Nat) : Int) p0 p1 p2 p3 p4 p5 p6 p7 p8 p9 p10 p11 p12 p13) r) :
    Ev (fun k => corebankref18_Check.j3 k l i o p0 p1 p2 p3 p4 p5 p6 p7 p8 p9 p10 p11 p12 p13 a.f0 a.f1 a.f2 a.f3) (if elemB l i a o = 0 then r else elemB l i a o) := by
  cases o with
  | true => exact Ev.step (f := fun _ => some 10) (fun k => by simp only [corebankref18_Check.j3]; rfl) (Ev.some_ (by simp [elemB]))
  | false =>
    refine Ev.step (f := fun k => (corebankref18_name.f k a.f3).bind fun t => (if t = true then (if a.f1 = 0 then (corebankref18_Check.l0 k l ((i + 1 : Nat) : Int) p0 p1 p2 p3 p4 p5 p6 p7 p8 p9 p10 p11 p12 p13) else ((corebankref18_Find.f k (l.take i) a.f1).bind fun b => (if b.2.2.2.2 = true then (if b.2.2.1 = a.f2 then (corebankref18_Check.l0 k l ((i + 1 : Nat) : Int) p0 p1 p2 p3 p4 p5 p6 p7 p8 p9 p10 p11 p12 p13) else (some 3)) else (some 11)))) else (some 4))) (fun k => ?_) ?_
    · simp only [corebankref18_Check.j3]
      rw [if_neg (by decide), wrap_inc hi (by omega)]
      congr 1; funext t
      rw [if_pos (by omega : (0:Int) ≤ (i : Int)), if_pos (by omega : (i:Int) ≤ (l.length : Int)), Int.toNat_natCast]
    · refine Ev.bind (rname_ev a.f3 hs) ?_
      cases c : nameG a.f3 with
      | false => exact Ev.some_ (by simp [elemB, c])
      | true =>
        simp only [if_true]
        by_cases c1 : a.f1 = 0
        · exact Ev.congr (fun k => by rw [if_pos c1]) (by simpa [elemB, c, c1] using hk)
        · refine Ev.congr (fun k => by rw [if_neg c1]) (Ev.bind (rfind_ev (l.take i) a.f1 (by simp; omega)) ?_)
          cases c2 : findG (l.take i) a.f1 with
          | none => exact Ev.some_ (by simp [elemB, c, c1, c2, tup])
          | some b =>
            by_cases c3 : b.f2 = a.f2
            · exact Ev.congr (f := fun k => corebankref18_Check.l0 k l ((i + 1 : Nat) : Int) p0 p1 p2 p3 p4 p5 p6 p7 p8 p9 p10 p11 p12 p13) (fun k => by simp [tup, c3]) (by simpa [elemB, c, c1, c2, c3] using hk)
            · exact Ev.congr (f := fun _ => some 3) (fun k => by simp [tup, c3]) (Ev.some_ (by simp [elemB, c, c1, c2, c3]))
theorem rcheck_l0 (l : List S62) (hn : l.length ≤ 1000) (hs : ∀ a ∈ l, a.f3.size ≤ 140737488351232) (d : Nat) : ∀ i : Nat, i ≤ l.length → l.length - i = d →
    Ev (fun k => corebankref18_Check.l0 k l i p0 p1 p2 p3 p4 p5 p6 p7 p8 p9 p10 p11 p12 p13) (scanG l (usesG l (planG p0 p1 p2 p3 p4 p5 p6 p7 p8 p9 p10 p11 p12 p13)) d) := by
  induction d with
  | zero =>
    intro i hi hd
    refine Ev.step (f := fun k => corebankref18_Check.l1 k l [p0, p1, p2, p3, p4, p5, p6, p7, p8, p9, p10, p11, p12, p13] [1, 2, 5, 4, 4, 2, 1, 1, 4, 4, 2, 5, 5, 4] ((0 : Nat) : Int)) (fun k => ?_) ?_
    · simp only [corebankref18_Check.l0]; rw [if_neg (by omega)]; rfl
    · exact rcheck_l1 l hn [p0, p1, p2, p3, p4, p5, p6, p7, p8, p9, p10, p11, p12, p13] [1, 2, 5, 4, 4, 2, 1, 1, 4, 4, 2, 5, 5, 4] (by simp) rfl 14 0 (by simp) rfl
  | succ d ih =>
    intro i hi hd
    have hlt : i < l.length := by omega
    have e : l.length - (d + 1) = i := by omega
    have hs' := hs l[i] (List.getElem_mem _)
    simp only [scanG, e, rd62_at hlt]
    refine Ev.step (f := fun k => corebankref18_Check.j2 k l i (badA l[i]) p0 p1 p2 p3 p4 p5 p6 p7 p8 p9 p10 p11 p12 p13 l[i].f0 l[i].f1 l[i].f2 l[i].f3) (fun k => ?_) ?_
    · simp only [corebankref18_Check.l0]
      rw [if_pos (by omega), if_pos (by omega), rd62_at hlt]
      unfold badA
      repeat' split
      all_goals first | (congr 1; symm; exact decide_eq_true (by omega)) | (congr 1; exact decide_eq_decide.2 (by omega))
    · have hk := ih (i + 1) (by omega) (by omega)
      cases c : badA l[i] with
      | true => exact Ev.step (f := fun _ => some 1) (fun k => by simp only [corebankref18_Check.j2]; rfl) (Ev.some_ (by simp [elemG, c]))
      | false =>
        have e : elemG l i l[i] = elemB l i l[i] (decide (0 < i ∧ l[i].f0 ≤ (rd_T62 l ((i - 1 : Nat) : Int)).f0)) := by simp [elemG, c]
        rw [e]
        refine Ev.step (f := fun k => corebankref18_Check.j3 k l i (decide (0 < i ∧ l[i].f0 ≤ (rd_T62 l ((i - 1 : Nat) : Int)).f0)) p0 p1 p2 p3 p4 p5 p6 p7 p8 p9 p10 p11 p12 p13 l[i].f0 l[i].f1 l[i].f2 l[i].f3) (fun k => ?_) (rcheck_j3 p0 p1 p2 p3 p4 p5 p6 p7 p8 p9 p10 p11 p12 p13 l hn i hlt l[i] hs' _ _ hk)
        simp only [corebankref18_Check.j2]
        rw [if_neg (by decide)]
        by_cases c0 : 0 < i
        · rw [if_pos (by omega), wrap_dec c0 hlt (by omega), if_pos (by omega), if_pos (by omega)]
          simp [c0]
        · rw [if_neg (by omega)]
          simp [c0]
theorem rcheck_ev (l : List S62) (hn : l.length ≤ 140737488351232) (hs : ∀ a ∈ l, a.f3.size ≤ 140737488351232) :
    Ev (fun k => corebankref18_Check.f k l p0 p1 p2 p3 p4 p5 p6 p7 p8 p9 p10 p11 p12 p13) (checkG l (planG p0 p1 p2 p3 p4 p5 p6 p7 p8 p9 p10 p11 p12 p13)) := by
  unfold checkG
  by_cases c : l.length < 1 ∨ l.length > 40
  · rw [if_pos c]
    refine Ev.congr (f := fun k => corebankref18_Check.j0 k l true p0 p1 p2 p3 p4 p5 p6 p7 p8 p9 p10 p11 p12 p13) (fun k => ?_) (Ev.step (f := fun _ => some 5) (fun k => by simp only [corebankref18_Check.j0]; rfl) (Ev.now _))
    unfold corebankref18_Check.f
    split
    · rfl
    · congr 1; simp; omega
  · rw [if_neg c]
    refine Ev.congr (f := fun k => corebankref18_Check.j0 k l false p0 p1 p2 p3 p4 p5 p6 p7 p8 p9 p10 p11 p12 p13) (fun k => ?_) (Ev.step (f := fun k => corebankref18_Check.l0 k l ((0 : Nat) : Int) p0 p1 p2 p3 p4 p5 p6 p7 p8 p9 p10 p11 p12 p13) (fun k => by simp only [corebankref18_Check.j0]; rfl) ?_)
    · unfold corebankref18_Check.f
      rw [if_neg (by omega)]
      congr 1; simp; omega
    · exact rcheck_l0 p0 p1 p2 p3 p4 p5 p6 p7 p8 p9 p10 p11 p12 p13 l (by omega) hs l.length 0 (Nat.zero_le _) rfl
end
end Go.Proofs.Ytcmaifjmnpfmbaa.C.Proof
