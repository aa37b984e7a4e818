/- The bounds' functions of the reference come to something, whatever they are handed. -/
import Derived.Test.YtcmaifjmnpfmbaaRBase
import Derived.Test.YtcmaifjmnpfmbaaROpens
import Derived.Test.YtcmaifjmnpfmbaaRE17
namespace Go.Proofs.Ytcmaifjmnpfmbaa.R.Proof
open Go.RowKit Go.Proofs.Ytcmaifjmnpfmbaa.R Go.Proofs.YtcmaifjmnpfmbaaW.PrintWords Go.Proofs.YtcmaifjmnpfmbaaW.PrintLast
/-- From some round on it comes to something. -/
def Dv {α:Type} (g:Nat→Option α):Prop:=∃ r,Ev g r
theorem Dv.now {α:Type} (r:α):Dv (fun _=>some r):=⟨r,Ev.now r⟩
theorem Dv.bind {α β:Type} {g:Nat→Option α} {f:Nat→α→Option β} (h:Dv g) (k:∀ a,Dv (fun n=>f n a)):Dv (fun n=>(g n).bind fun a=>f n a):=by
  obtain ⟨a,ha⟩:=h
  obtain ⟨r,hr⟩:=k a
  exact ⟨r,Ev.bind ha hr⟩
theorem Dv.ite {α:Type} {c:Prop} [Decidable c] {f g:Nat→Option α} (h:c→Dv f) (h':¬ c→Dv g):Dv (fun n=>if c then f n else g n):=by
  by_cases hc:c
  · obtain ⟨r,hr⟩:=h hc
    exact ⟨r,Ev.congr (fun n=>if_pos hc) hr⟩
  · obtain ⟨r,hr⟩:=h' hc
    exact ⟨r,Ev.congr (fun n=>if_neg hc) hr⟩
theorem Dv.step {α:Type} {g f:Nat→Option α} (h:∀ k,g (k + 1)=f k) (k:Dv f):Dv g:=by
  obtain ⟨r,hr⟩:=k
  exact ⟨r,Ev.step h hr⟩
theorem Dv.congr {α:Type} {g f:Nat→Option α} (h:∀ k,g k=f k) (k:Dv f):Dv g:=by
  obtain ⟨r,hr⟩:=k
  exact ⟨r,Ev.congr h hr⟩
/-- A loop over n places. -/
theorem Dv.loop {α:Type} (L:Nat→Int→Option α) (n:Nat) (hn:n≤9223372036854775807) (hr:∀ i:Nat,i < n→Dv (fun k=>L k (wrap64 ((i:Int) + 1)))→Dv (fun k=>L k (i:Int))) (he:Dv (fun k=>L k (n:Int))):∀ i:Nat,i≤n→Dv (fun k=>L k (i:Int)):=by
  have h:∀ d i:Nat,n - i=d→i≤n→Dv (fun k=>L k (i:Int)):=by
    intro d
    induction d with
    | zero=>
      intro i hd hi
      obtain rfl:i=n:=by omega
      exact he
    | succ d ih=>
      intro i hd hi
      refine hr i (by omega) ?_
      rw [wrap_inc (show i < n by omega) hn]
      exact ih (i + 1) (by omega) (by omega)
  exact fun i hi=>h _ i rfl hi
theorem great22 (l:List S119) (hn:l.length≤9223372036854775807):Dv (fun k=>corebankref22_Great.f k l):=by
  refine Dv.congr (fun k=>by unfold corebankref22_Great.f;rfl) (Dv.ite (fun _=>Dv.now _) (fun _=>?_))
  refine Dv.loop (fun k i=>corebankref22_Great.l0 k l i) l.length hn (fun i hi ih=>?_) ?_ 0 (Nat.zero_le _)
  · refine Dv.step (fun k=>by simp only [corebankref22_Great.l0];rw [if_pos (by omega),if_pos (by omega)]) ?_
    exact Dv.ite (fun _=>Dv.now _) (fun _=>ih)
  · exact Dv.step (fun k=>by simp only [corebankref22_Great.l0];rw [if_neg (by omega)]) (Dv.now _)
theorem great49 (l:List S48) (hn:l.length≤9223372036854775807):Dv (fun k=>corebankref49_Great.f k l):=by
  refine Dv.congr (fun k=>by unfold corebankref49_Great.f;rfl) (Dv.ite (fun _=>Dv.now _) (fun _=>?_))
  refine Dv.loop (fun k i=>corebankref49_Great.l0 k l i) l.length hn (fun i hi ih=>?_) ?_ 0 (Nat.zero_le _)
  · refine Dv.step (fun k=>by simp only [corebankref49_Great.l0];rw [if_pos (by omega),if_pos (by omega)]) ?_
    exact Dv.ite (fun _=>Dv.now _) (fun _=>Dv.ite (fun _=>Dv.now _) (fun _=>ih))
  · exact Dv.step (fun k=>by simp only [corebankref49_Great.l0];rw [if_neg (by omega)]) (Dv.now _)
theorem great19 (x0 x1 x2 x3 x4 x5:Int) (s s':ByteArray) (l:List S129) (x9:Int) (hn:l.length≤9223372036854775807):Dv (fun k=>corebankref19_Great.f k x0 x1 x2 x3 x4 x5 s s' l x9):=by
  have hl:∀ b,Dv (fun k=>corebankref19_Great.j0 k b x0 x1 x2 x3 x4 x5 s s' l x9):=by
    intro b
    refine Dv.step (f:=fun k=>if b=true then some true else corebankref19_Great.l0 k 0 x0 x1 x2 x3 x4 x5 s s' l x9) (fun k=>by simp only [corebankref19_Great.j0]) (Dv.ite (fun _=>Dv.now _) (fun _=>?_))
    refine Dv.loop (fun k i=>corebankref19_Great.l0 k i x0 x1 x2 x3 x4 x5 s s' l x9) l.length hn (fun i hi ih=>?_) ?_ 0 (Nat.zero_le _)
    · refine Dv.step (fun k=>by simp only [corebankref19_Great.l0];rw [if_pos (by omega),if_pos (by omega)]) ?_
      exact Dv.ite (fun _=>Dv.now _) (fun _=>ih)
    · exact Dv.step (fun k=>by simp only [corebankref19_Great.l0];rw [if_neg (by omega)]) (Dv.now _)
  refine Dv.congr (fun k=>by unfold corebankref19_Great.f;rfl) (Dv.ite (fun _=>hl _) (fun _=>Dv.ite (fun _=>hl _) (fun _=>hl _)))
theorem getD_mem {α:Type} {l:List α} {i:Nat} {z:α} (h:i < l.length):l.getD i z ∈ l:=by
  rw [List.getD_eq_getElem?_getD,List.getElem?_eq_getElem h]
  exact List.getElem_mem h
theorem rd_mem122 {l:List S122} {i:Nat} (h:i < l.length):rd_T122 l (i:Int) ∈ l:=by
  show l.getD _ z122 ∈ l
  simpa using getD_mem h
theorem count10 (x:S122) (hx:ok122 x):∀ a1:Int,Dv (fun k=>corebankref10_count.f k x.f0 x.f1 x.f2 x.f3 a1):=by
  induction hx with
  | mk x h0 h1 h2 h3 hn hall ih=>
    intro a1
    refine Dv.step (f:=fun k=>corebankref10_count.l0 k a1 1 0 x.f0 x.f1 x.f2 x.f3) (fun k=>by simp only [corebankref10_count.f]) ?_
    have hl:∀ d i:Nat,x.f3.length - i=d→i≤x.f3.length→∀ n:Int,Dv (fun k=>corebankref10_count.l0 k a1 n (i:Int) x.f0 x.f1 x.f2 x.f3):=by
      intro d
      induction d with
      | zero=>
        intro i hd hi n
        exact Dv.step (f:=fun _=>some n) (fun k=>by simp only [corebankref10_count.l0];rw [if_neg (by omega)]) (Dv.now _)
      | succ d ihd=>
        intro i hd hi n
        have hlt:i < x.f3.length:=by omega
        refine Dv.step (f:=fun k=>if n≤a1 then ((corebankref10_count.f k ((rd_T122 x.f3 (i:Int)).f0) ((rd_T122 x.f3 (i:Int)).f1) ((rd_T122 x.f3 (i:Int)).f2) ((rd_T122 x.f3 (i:Int)).f3) (wrap64 (a1 - n))).bind fun t=>corebankref10_count.l0 k a1 (wrap64 (n + t)) (((i + 1:Nat)):Int) x.f0 x.f1 x.f2 x.f3) else some n) (fun k=>by simp only [corebankref10_count.l0];rw [if_pos (by omega),if_pos (show (0:Int)≤(i:Int) by omega),wrap_inc hlt hn]) ?_
        refine Dv.ite (fun _=>Dv.bind (ih _ (rd_mem122 hlt) _) (fun t=>ihd (i + 1) (by omega) (by omega) _)) (fun _=>Dv.now _)
    exact hl _ 0 rfl (Nat.zero_le _) 1
theorem great10 (x:S122) (hx:ok122 x) (a1:Int):Dv (fun k=>corebankref10_Great.f k x.f0 x.f1 x.f2 x.f3 a1):=
  Dv.congr (fun k=>by unfold corebankref10_Great.f;rfl) (Dv.bind (count10 x hx a1) (fun _=>Dv.now _))
theorem great16 (x:S79) (hx:ok79 x):Dv (fun k=>corebankref16_Great.f k x.f0 x.f1 x.f2 x.f3 x.f4 x.f5 x.f6 x.f7.f0 x.f7.f1 x.f7.f2 x.f7.f3 x.f7.f4 x.f8.f0 x.f8.f1 x.f8.f2 x.f8.f3 x.f8.f4 x.f9 x.f10):=by
  have h9:=hx.2.2.2.2.2.2.2.2.2.1
  have h10:=hx.2.2.2.2.2.2.2.2.2.2
  have hl1:Dv (fun k=>corebankref16_Great.l1 k 0 x.f0 x.f1 x.f2 x.f3 x.f4 x.f5 x.f6 x.f7.f0 x.f7.f1 x.f7.f2 x.f7.f3 x.f7.f4 x.f8.f0 x.f8.f1 x.f8.f2 x.f8.f3 x.f8.f4 x.f9 x.f10):=by
    refine Dv.loop (fun k i=>corebankref16_Great.l1 k i x.f0 x.f1 x.f2 x.f3 x.f4 x.f5 x.f6 x.f7.f0 x.f7.f1 x.f7.f2 x.f7.f3 x.f7.f4 x.f8.f0 x.f8.f1 x.f8.f2 x.f8.f3 x.f8.f4 x.f9 x.f10) x.f10.length h10.2.1 (fun i hi ih=>?_) ?_ 0 (Nat.zero_le _)
    · have hm:ok127 (rd_T127 x.f10 (i:Int)):=h10.2.2 _ (by show x.f10.getD _ z127 ∈ _;simpa using getD_mem hi)
      refine Dv.step (fun k=>by simp only [corebankref16_Great.l1];rw [if_pos (by omega),if_pos (by omega)]) ?_
      refine Dv.ite (fun _=>Dv.now _) (fun _=>Dv.bind (great10 _ hm.2.2 _) (fun t=>Dv.ite (fun _=>Dv.now _) (fun _=>ih)))
    · exact Dv.step (fun k=>by simp only [corebankref16_Great.l1];rw [if_neg (by omega)]) (Dv.now _)
  have hl0:Dv (fun k=>corebankref16_Great.l0 k 0 x.f0 x.f1 x.f2 x.f3 x.f4 x.f5 x.f6 x.f7.f0 x.f7.f1 x.f7.f2 x.f7.f3 x.f7.f4 x.f8.f0 x.f8.f1 x.f8.f2 x.f8.f3 x.f8.f4 x.f9 x.f10):=by
    refine Dv.loop (fun k i=>corebankref16_Great.l0 k i x.f0 x.f1 x.f2 x.f3 x.f4 x.f5 x.f6 x.f7.f0 x.f7.f1 x.f7.f2 x.f7.f3 x.f7.f4 x.f8.f0 x.f8.f1 x.f8.f2 x.f8.f3 x.f8.f4 x.f9 x.f10) x.f9.length h9.2.1 (fun i hi ih=>?_) ?_ 0 (Nat.zero_le _)
    · have hm:ok124 (rd_T124 x.f9 (i:Int)):=h9.2.2 _ (by show x.f9.getD _ z124 ∈ _;simpa using getD_mem hi)
      refine Dv.step (fun k=>by simp only [corebankref16_Great.l0];rw [if_pos (by omega),if_pos (by omega)]) ?_
      refine Dv.ite (fun _=>Dv.now _) (fun _=>Dv.bind (great10 _ hm.2.2.1 _) (fun t=>Dv.ite (fun _=>Dv.now _) (fun _=>Dv.bind (great10 _ hm.2.2.2 _) (fun t=>Dv.ite (fun _=>Dv.now _) (fun _=>ih)))))
    · exact Dv.step (fun k=>by simp only [corebankref16_Great.l0];rw [if_neg (by omega)]) hl1
  have hj:∀ b,Dv (fun k=>corebankref16_Great.j0 k b x.f0 x.f1 x.f2 x.f3 x.f4 x.f5 x.f6 x.f7.f0 x.f7.f1 x.f7.f2 x.f7.f3 x.f7.f4 x.f8.f0 x.f8.f1 x.f8.f2 x.f8.f3 x.f8.f4 x.f9 x.f10):=by
    intro b
    exact Dv.step (f:=fun k=>if b=true then some true else corebankref16_Great.l0 k 0 x.f0 x.f1 x.f2 x.f3 x.f4 x.f5 x.f6 x.f7.f0 x.f7.f1 x.f7.f2 x.f7.f3 x.f7.f4 x.f8.f0 x.f8.f1 x.f8.f2 x.f8.f3 x.f8.f4 x.f9 x.f10) (fun k=>by simp only [corebankref16_Great.j0]) (Dv.ite (fun _=>Dv.now _) (fun _=>hl0))
  refine Dv.congr (fun k=>by unfold corebankref16_Great.f;rfl) ?_
  repeat' (first | exact hj _ | refine Dv.ite (fun _=>?_) (fun _=>?_))
theorem great25 (l0:List S97) (l1:List S86) (l2:List S62) (a3:Int) (a4:Int) (a5:Int) (a6:Int) (a7:Int) (a8:Int) (a9:Int) (a10:Int) (a11:Int) (a12:Int) (a13:Int) (a14:Int) (a15:Int) (a16:Int) (l17:List S79) (l18:List S90) (l19:List S84) (l20:List S119) (l21:List S180) (h1:(okSl 64 ok86) l1) (h17:(okSl 240 ok79) l17) (h19:(okSl 112 ok84) l19) (h20:(okSl 56 ok119) l20):Dv (fun k=>corebankref25_Great.f k l0 l1 l2 a3 a4 a5 a6 a7 a8 a9 a10 a11 a12 a13 a14 a15 a16 l17 l18 l19 l20 l21):=by
  have hl2:Dv (fun k=>corebankref25_Great.l2 k 0 l0 l1 l2 a3 a4 a5 a6 a7 a8 a9 a10 a11 a12 a13 a14 a15 a16 l17 l18 l19 l20 l21):=by
    refine Dv.loop (fun k i=>corebankref25_Great.l2 k i l0 l1 l2 a3 a4 a5 a6 a7 a8 a9 a10 a11 a12 a13 a14 a15 a16 l17 l18 l19 l20 l21) l1.length h1.2.1 (fun i hi ih=>?_) ?_ 0 (Nat.zero_le _)
    · refine Dv.step (fun k=>by simp only [corebankref25_Great.l2];rw [if_pos (by omega),if_pos (by omega)]) ?_
      exact Dv.ite (fun _=>Dv.now _) (fun _=>Dv.ite (fun _=>Dv.now _) (fun _=>ih))
    · exact Dv.step (fun k=>by simp only [corebankref25_Great.l2];rw [if_neg (by omega)]) (Dv.now _)
  have hl1:Dv (fun k=>corebankref25_Great.l1 k 0 l0 l1 l2 a3 a4 a5 a6 a7 a8 a9 a10 a11 a12 a13 a14 a15 a16 l17 l18 l19 l20 l21):=by
    refine Dv.loop (fun k i=>corebankref25_Great.l1 k i l0 l1 l2 a3 a4 a5 a6 a7 a8 a9 a10 a11 a12 a13 a14 a15 a16 l17 l18 l19 l20 l21) l19.length h19.2.1 (fun i hi ih=>?_) ?_ 0 (Nat.zero_le _)
    · have hm:ok84 (rd_T84 l19 (i:Int)):=h19.2.2 _ (by show l19.getD _ z84 ∈ _;simpa using getD_mem hi)
      refine Dv.step (fun k=>by simp only [corebankref25_Great.l1];rw [if_pos (by omega),if_pos (by omega)]) ?_
      exact Dv.bind (great19 _ _ _ _ _ _ _ _ _ _ hm.2.2.2.2.2.2.2.2.1.2.1) (fun t=>Dv.ite (fun _=>Dv.now _) (fun _=>ih))
    · exact Dv.step (fun k=>by simp only [corebankref25_Great.l1];rw [if_neg (by omega)]) hl2
  have hl0:Dv (fun k=>corebankref25_Great.l0 k 0 l0 l1 l2 a3 a4 a5 a6 a7 a8 a9 a10 a11 a12 a13 a14 a15 a16 l17 l18 l19 l20 l21):=by
    refine Dv.loop (fun k i=>corebankref25_Great.l0 k i l0 l1 l2 a3 a4 a5 a6 a7 a8 a9 a10 a11 a12 a13 a14 a15 a16 l17 l18 l19 l20 l21) l17.length h17.2.1 (fun i hi ih=>?_) ?_ 0 (Nat.zero_le _)
    · have hm:ok79 (rd_T79 l17 (i:Int)):=h17.2.2 _ (by show l17.getD _ z79 ∈ _;simpa using getD_mem hi)
      refine Dv.step (fun k=>by simp only [corebankref25_Great.l0];rw [if_pos (by omega),if_pos (by omega)]) ?_
      exact Dv.bind (great16 _ hm) (fun t=>Dv.ite (fun _=>Dv.now _) (fun _=>ih))
    · exact Dv.step (fun k=>by simp only [corebankref25_Great.l0];rw [if_neg (by omega)]) hl1
  have hj:∀ b,Dv (fun k=>corebankref25_Great.j0 k b l0 l1 l2 a3 a4 a5 a6 a7 a8 a9 a10 a11 a12 a13 a14 a15 a16 l17 l18 l19 l20 l21):=by
    intro b
    exact Dv.step (f:=fun k=>if b=true then some true else corebankref25_Great.l0 k 0 l0 l1 l2 a3 a4 a5 a6 a7 a8 a9 a10 a11 a12 a13 a14 a15 a16 l17 l18 l19 l20 l21) (fun k=>by simp only [corebankref25_Great.j0]) (Dv.ite (fun _=>Dv.now _) (fun _=>hl0))
  refine Dv.congr (fun k=>by unfold corebankref25_Great.f;rfl) ?_
  repeat' (first | exact hj _ | exact great22 _ h20.2.1 | refine Dv.ite (fun _=>?_) (fun _=>?_) | refine Dv.bind ?_ (fun _=>?_))
end Go.Proofs.Ytcmaifjmnpfmbaa.R.Proof
