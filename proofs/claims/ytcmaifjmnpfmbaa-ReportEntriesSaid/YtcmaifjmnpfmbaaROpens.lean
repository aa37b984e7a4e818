import Derived.Test.YtcmaifjmnpfmbaaRx0
import Derived.ChangeArms
import Derived.SizedLaws
import Derived.OpenShut
-- This project's own (wip/tools/rows.py): how the laws' arguments are opened; each law's one pure statement.
namespace Go.Proofs.Ytcmaifjmnpfmbaa.R
open Go.RowKit Go.ChangeShapes Go.WideShapes Go.Proofs.YtcmaifjmnpfmbaaW.PrintWords Go.Proofs.YtcmaifjmnpfmbaaW.PrintLast
set_option linter.unusedVariables false
/-! ### Opening: what is read as data is read by a kind -/
section
variable {H:Type} {enc:TypeId × Value→H} {P:Program} {W:World} {sp:Nat→Bool}
/-- At this fuel: whatever is trod as data of type t is an x of kind d with ok x. -/
def OpensN {α:Type} (enc:TypeId × Value→H) (P:Program) (W:World) (sp:Nat→Bool) (n:Nat) (d:Kd α) (t:TypeId) (ok:α→Prop):Prop:=
  ∀ cs x,DataW.trod enc P W 0 sp true n t cs=some x→(∀ m ∈ DataW.weights P t x.1,m≤reachBytes)→∃ a,ok a∧d.K W a cs
theorem OpensN.imp {α:Type} {n:Nat} {d:Kd α} {t:TypeId} {ok ok':α→Prop} (h:OpensN enc P W sp n d t ok) (hi:∀ a,ok a→ok' a):OpensN enc P W sp n d t ok':=fun cs x hx hw=>by
  obtain ⟨a,ha,hk⟩:=h cs x hx hw
  exact ⟨a,hi a ha,hk⟩
/-- A number of its kind; a string that is not too long. -/
def okI (k:IntKind) (a:Int):Prop:=(Lit.int k a).wf=true
def okStr (s:ByteArray):Prop:=s.size≤140737488351232
def okB (_:Bool):Prop:=True
theorem opens_int {n:Nat} {t:TypeId} {k:IntKind} (ht:P.underlying t=some (.int k)):OpensN enc P W sp n (Kd.int k) t (okI k):=fun cs x hx _=>by
  obtain ⟨m,rfl,_,hw⟩:=DataW.trod_int ht hx
  exact ⟨m,hw,rfl⟩
theorem opens_bool {n:Nat} {t:TypeId} (ht:P.underlying t=some .bool):OpensN enc P W sp n Kd.bool t okB:=fun cs x hx _=>by
  obtain ⟨m,rfl,_⟩:=DataW.trod_bool ht hx
  exact ⟨m,trivial,rfl⟩
theorem opens_string {n:Nat} {t:TypeId} (ht:P.underlying t=some .string):OpensN enc P W sp n Kd.string t okStr:=fun cs x hx hw=>by
  obtain ⟨s,rfl,rfl,_⟩:=DataW.trod_string ht hx
  refine ⟨s,?_,rfl⟩
  have:=hw s.data.toList.length (by simp [DataW.weights])
  rw [Array.length_toList] at this
  exact this
theorem list_of {α:Type} {p:Nat→α→Prop}:∀ n:Nat,(∀ i,i < n→∃ a,p i a)→∃ l:List α,l.length=n∧∀ i a,l[i]?=some a→p i a
  | 0,_=>⟨[],rfl,fun i a h=>by simp at h⟩
  | n + 1,h=>by
    obtain ⟨l,hl,hp⟩:=list_of n (fun i hi=>h i (by omega))
    obtain ⟨a,ha⟩:=h n (by omega)
    refine ⟨l ++ [a],by simp [hl],fun i b hb=>?_⟩
    by_cases hi:i < l.length
    · rw [List.getElem?_append_left hi] at hb
      exact hp i b hb
    · have hlt:=(List.getElem?_eq_some_iff.1 hb).1
      simp at hlt
      have:i=n:=by omega
      subst this
      rw [List.getElem?_append_right (by omega),hl] at hb
      simp at hb
      exact hb ▸ ha
theorem weights_all_mem {e:TypeId}:∀ {l:List (DataW H)} {d:DataW H} {m:Nat},d ∈ l→m ∈ DataW.weights P e d→m ∈ DataW.weightsAll P e l
  | [],d,m,h,_=>by simp at h
  | x :: l,d,m,h,hm=>by
    simp only [DataW.weightsAll,List.mem_append]
    rcases List.mem_cons.1 h with rfl | h
    · exact .inl hm
    · exact .inr (weights_all_mem h hm)
theorem opens_slice {α:Type} {n:Nat} {t e:TypeId} {d:Kd α} {ok:α→Prop} (ht:P.underlying t=some (.slice e)) (hc:P.cellsOf e=d.sz) {B:Nat} (hB:P.bytesOf e=B)
    (h:OpensN enc P W sp n d e ok):OpensN enc P W sp (n + 1) (Kd.slice e d) t (fun l=>l.length * B≤140737488351232∧l.length≤9223372036854775807∧∀ a ∈ l,ok a):=fun cs x hx hw=>by
  rcases DataW.trod_slice ht hx with ⟨rfl,_⟩ | ⟨a,len,cap,elems,rest,m,hn,rfl,rfl,_,hl,hm,hlen,hel,_,_⟩
  · exact ⟨[],⟨by simp,by simp,fun a ha=>by simp at ha⟩,none,0,rfl,Nat.le_refl _,rfl,by simp,fun h=>absurd h (Nat.lt_irrefl 0)⟩
  · obtain rfl:n=m:=by omega
    have hmax:len≤9223372036854775807:=by unfold maxLen at hm;omega
    have each:∀ i,i < len→∃ b,ok b∧∃ c,c.length=d.sz∧d.K W b c∧∀ j u,c[j]?=some u→W.cell? (a.add (i * d.sz + j))=some u:=by
      intro i hi
      have h1:=hel i hi
      have h2:elems[i]?=some (elems[i]'(by omega)):=List.getElem?_eq_getElem (by omega)
      rw [h2,Option.bind_eq_some_iff] at h1
      obtain ⟨c,hc1,hc2⟩:=h1
      have hmem:elems[i]'(by omega) ∈ elems:=List.getElem_mem _
      obtain ⟨b,hb,hk⟩:=h c _ hc2 (fun q hq=>hw q (by
        simp only [DataW.weights,ht]
        exact List.mem_cons_of_mem _ (List.mem_append_left _ (weights_all_mem (List.mem_map_of_mem hmem) hq))))
      obtain ⟨h3,h4,h5⟩:=World.cells?_some hc1
      refine ⟨b,hb,c,d.K_len hk,hk,fun j u hu=>?_⟩
      have hj:j < c.length:=(List.getElem?_eq_some_iff.1 hu).1
      have h6:=h5 j (by rw [d.K_len hk,← hc] at hj;exact hj)
      rw [hc] at h6
      have h7:((a.add (i * d.sz)).add j)=a.add (i * d.sz + j):=by
        simp only [Addr.add]
        by_cases h1:i * d.sz=0
        · simp [h1]
        · simp [h1,Nat.add_assoc]
      rw [h7] at h6
      rw [h6,hu]
    obtain ⟨l,hll,hlp⟩:=list_of len each
    refine ⟨l,⟨?_,by omega,fun b hb=>?_⟩,some a,cap,by rw [hll],by omega,rfl,by omega,fun _=>⟨a,rfl,fun j b hb=>(hlp j b hb).2⟩⟩
    · have h1:=hw ((elems.length + rest.length) * B) (by simp [DataW.weights,ht,hB])
      have h2:reachBytes=140737488351232:=rfl
      have h3:l.length * B≤(elems.length + rest.length) * B:=Nat.mul_le_mul_right _ (by omega)
      omega
    · obtain ⟨i,hi⟩:=List.getElem?_of_mem hb
      exact (hlp i b hi).1
/-- The fields from one place on, one behind the other. -/
def Fields {α:Type} (enc:TypeId × Value→H) (P:Program) (W:World) (sp:Nat→Bool) (n:Nat) (d:Kd α) (fs:List Field) (off:Nat) (ok:α→Prop):Prop:=
  ∀ (cs:List Value) (xs:List (DataW H × List MemPlace)),xs.length=fs.length→cs.length=off + d.sz →
    (∀ (i:Nat) (f:Field),fs[i]?=some f→DataW.trod enc P W 0 sp true n f.type ((cs.drop f.offset).take (P.cellsOf f.type))=xs[i]?) →
    (∀ m ∈ DataW.weightsEach P (fs.map (·.type)) (xs.map (·.1)),m≤reachBytes)→∃ a,ok a∧d.K W a (cs.drop off)
theorem fields_last {α:Type} {n:Nat} {d:Kd α} {f:Field} {t off:Nat} {ok:α→Prop} (h:OpensN enc P W sp n d t ok) (ht:f.type=t) (ho:f.offset=off) (hc:P.cellsOf t=d.sz):Fields enc P W sp n d [f] off ok:=by
  subst ht ho
  intro cs xs hx hl hf hw
  match xs,hx with
  | [x],_=>
    have h1:=hf 0 f rfl
    rw [hc,List.take_of_length_le (by rw [List.length_drop];omega)] at h1
    exact h _ x h1 (fun m hm=>hw m (by simp [DataW.weightsEach,hm]))
theorem fields_cons {α β:Type} {n:Nat} {d:Kd α} {d':Kd β} {f:Field} {fs:List Field} {t off off':Nat} {ok:α→Prop} {ok':β→Prop} (h:OpensN enc P W sp n d t ok) (ht:f.type=t) (ho:f.offset=off)
    (hc:P.cellsOf t=d.sz) (h':Fields enc P W sp n d' fs off' ok') (hoff:off'=off + d.sz):Fields enc P W sp n (Kd.pair d d') (f :: fs) off (fun a=>ok a.1∧ok' a.2):=by
  subst ht ho hoff
  intro cs xs hx hl hf hw
  match xs,hx with
  | x :: xs,hx=>
    have h1:=hf 0 f rfl
    rw [hc] at h1
    obtain ⟨a,ha,hk⟩:=h _ x h1 (fun m hm=>hw m (by simp [DataW.weightsEach,hm]))
    have hsz:(Kd.pair d d').sz=d.sz + d'.sz:=rfl
    obtain ⟨b,hb,hk'⟩:=h' cs xs (by simpa using hx) (by rw [hl,hsz];omega) (fun i g hg=>hf (i + 1) g hg) (fun m hm=>hw m (by simp [DataW.weightsEach,hm]))
    refine ⟨(a,b),⟨ha,hb⟩,(cs.drop f.offset).take d.sz,cs.drop (f.offset + d.sz),?_,hk,hk'⟩
    rw [← List.drop_drop,List.take_append_drop]
theorem opens_struct {α β:Type} {n:Nat} {d:Kd α} {t:TypeId} {fs:Array Field} {f:β→α} {g:α→β} {ok:α→Prop} (ht:P.underlying t=some (.struct fs)) (hc:P.cellsOf t=d.sz) (hg:∀ a,f (g a)=a)
    (h:Fields enc P W sp n d fs.toList 0 ok):OpensN enc P W sp (n + 1) (Kd.iso d f) t (fun b=>ok (f b)):=fun cs x hx hw=>by
  obtain ⟨xs,m,hm,rfl,hl,hxl,hf⟩:=DataW.trod_struct ht hx
  obtain rfl:n=m:=by omega
  obtain ⟨a,ha,hk⟩:=h cs xs (by simpa using hxl) (by omega) (fun i fl hfl=>hf i fl (by simpa using hfl)) (fun m hm=>hw m (by simpa [DataW.weights,ht] using hm))
  exact ⟨g a,by show ok (f (g a));rw [hg];exact ha,by rw [List.drop_zero] at hk;show d.K W (f (g a)) cs;rw [hg];exact hk⟩
/-- What is asked of a slice. -/
def okSl {α:Type} (B:Nat) (ok:α→Prop) (l:List α):Prop:=l.length * B≤140737488351232∧l.length≤9223372036854775807∧∀ a ∈ l,ok a
theorem opens_slice' {α:Type} {t e:TypeId} {d:Kd α} {ok:α→Prop} (ht:P.underlying t=some (.slice e)) (hc:P.cellsOf e=d.sz) {B:Nat} (hB:P.bytesOf e=B)
    (h:∀ n,OpensN enc P W sp n d e ok):∀ n,OpensN enc P W sp n (Kd.slice e d) t (okSl B ok)
  | 0=>fun cs x hx _=>by simp [DataW.trod] at hx
  | n + 1=>opens_slice ht hc hB (h n)
theorem opens_struct' {α β:Type} {d:Kd α} {t:TypeId} {fs:Array Field} {f:β→α} {g:α→β} {ok:α→Prop} (ht:P.underlying t=some (.struct fs)) (hc:P.cellsOf t=d.sz) (hg:∀ a,f (g a)=a)
    (h:∀ n,Fields enc P W sp n d fs.toList 0 ok):∀ n,OpensN enc P W sp n (Kd.iso d f) t (fun b=>ok (f b))
  | 0=>fun cs x hx _=>by simp [DataW.trod] at hx
  | n + 1=>opens_struct ht hc hg (h n)
/-- An argument, opened. -/
theorem opens_trod {α:Type} {d:Kd α} {t:TypeId} {ok:α→Prop} {v:Value} {x:DataW H} {ps:List MemPlace} {ts:List TypeId} {ds:List (DataW H)} {j:Nat}
    (hsz:(DataW.weightsEach P ts ds).all (·≤reachBytes)=true) (ht:ts[j]?=some t) (hd:ds[j]?=some x) (h:∀ n,OpensN enc P W sp n d t ok) (hx:DataW.Trod enc P W 0 sp true t v x ps) :
    ∃ a,ok a∧d.K W a v.cells.toList:=by
  obtain ⟨n,hn⟩:=hx
  exact h n _ _ hn (fun m hm=>by simpa using List.all_eq_true.1 hsz m (DataW.weights_mem_each ht hd m hm))
end
section
variable {H:Type} {enc:TypeId × Value→H} {W:World} {sp:Nat→Bool}
def ok97 (x:S97):Prop:=okStr x.f0∧(okI .i64) x.f1
theorem opens_97 (n:Nat):OpensN enc Try.prog W sp n k97 97 ok97:=by
  refine (opens_struct' (g:=(fun a=>⟨a.1,a.2⟩)) Try.underlying97 (by kernel_rfl) (fun _=>rfl) (fun n=>(fields_cons ((fun _=>opens_string Try.underlying9) n) rfl rfl (by kernel_rfl) (fields_last ((fun _=>opens_int Try.underlying3) n) rfl rfl (by kernel_rfl)) rfl)) n).imp (fun _ h=>h)
def ok86 (x:S86):Prop:=okStr x.f0∧(okSl 8 (okI .i64)) x.f1∧(okSl 8 (okI .i64)) x.f2
theorem opens_86 (n:Nat):OpensN enc Try.prog W sp n k86 86 ok86:=by
  refine (opens_struct' (g:=(fun a=>⟨a.1,a.2.1,a.2.2⟩)) Try.underlying86 (by kernel_rfl) (fun _=>rfl) (fun n=>(fields_cons ((fun _=>opens_string Try.underlying9) n) rfl rfl (by kernel_rfl) (fields_cons ((opens_slice' Try.underlying46 (by kernel_rfl) (by kernel_rfl) (fun _=>opens_int Try.underlying3)) n) rfl rfl (by kernel_rfl) (fields_last ((opens_slice' Try.underlying46 (by kernel_rfl) (by kernel_rfl) (fun _=>opens_int Try.underlying3)) n) rfl rfl (by kernel_rfl)) rfl) rfl)) n).imp (fun _ h=>h)
def ok62 (x:S62):Prop:=(okI .i64) x.f0∧(okI .i64) x.f1∧(okI .i64) x.f2∧okStr x.f3
theorem opens_62 (n:Nat):OpensN enc Try.prog W sp n k62 62 ok62:=by
  refine (opens_struct' (g:=(fun a=>⟨a.1,a.2.1,a.2.2.1,a.2.2.2⟩)) Try.underlying62 (by kernel_rfl) (fun _=>rfl) (fun n=>(fields_cons ((fun _=>opens_int Try.underlying3) n) rfl rfl (by kernel_rfl) (fields_cons ((fun _=>opens_int Try.underlying3) n) rfl rfl (by kernel_rfl) (fields_cons ((fun _=>opens_int Try.underlying3) n) rfl rfl (by kernel_rfl) (fields_last ((fun _=>opens_string Try.underlying9) n) rfl rfl (by kernel_rfl)) rfl) rfl) rfl)) n).imp (fun _ h=>h)
def ok26 (x:S26):Prop:=(okI .i64) x.f0∧(okI .i64) x.f1∧(okI .i64) x.f2∧(okI .i64) x.f3∧(okI .i64) x.f4∧(okI .i64) x.f5∧(okI .i64) x.f6∧(okI .i64) x.f7∧(okI .i64) x.f8∧(okI .i64) x.f9∧(okI .i64) x.f10∧(okI .i64) x.f11∧(okI .i64) x.f12∧(okI .i64) x.f13
theorem opens_26 (n:Nat):OpensN enc Try.prog W sp n k26 26 ok26:=by
  refine (opens_struct' (g:=(fun a=>⟨a.1,a.2.1,a.2.2.1,a.2.2.2.1,a.2.2.2.2.1,a.2.2.2.2.2.1,a.2.2.2.2.2.2.1,a.2.2.2.2.2.2.2.1,a.2.2.2.2.2.2.2.2.1,a.2.2.2.2.2.2.2.2.2.1,a.2.2.2.2.2.2.2.2.2.2.1,a.2.2.2.2.2.2.2.2.2.2.2.1,a.2.2.2.2.2.2.2.2.2.2.2.2.1,a.2.2.2.2.2.2.2.2.2.2.2.2.2⟩)) Try.underlying26 (by kernel_rfl) (fun _=>rfl) (fun n=>(fields_cons ((fun _=>opens_int Try.underlying3) n) rfl rfl (by kernel_rfl) (fields_cons ((fun _=>opens_int Try.underlying3) n) rfl rfl (by kernel_rfl) (fields_cons ((fun _=>opens_int Try.underlying3) n) rfl rfl (by kernel_rfl) (fields_cons ((fun _=>opens_int Try.underlying3) n) rfl rfl (by kernel_rfl) (fields_cons ((fun _=>opens_int Try.underlying3) n) rfl rfl (by kernel_rfl) (fields_cons ((fun _=>opens_int Try.underlying3) n) rfl rfl (by kernel_rfl) (fields_cons ((fun _=>opens_int Try.underlying3) n) rfl rfl (by kernel_rfl) (fields_cons ((fun _=>opens_int Try.underlying3) n) rfl rfl (by kernel_rfl) (fields_cons ((fun _=>opens_int Try.underlying3) n) rfl rfl (by kernel_rfl) (fields_cons ((fun _=>opens_int Try.underlying3) n) rfl rfl (by kernel_rfl) (fields_cons ((fun _=>opens_int Try.underlying3) n) rfl rfl (by kernel_rfl) (fields_cons ((fun _=>opens_int Try.underlying3) n) rfl rfl (by kernel_rfl) (fields_cons ((fun _=>opens_int Try.underlying3) n) rfl rfl (by kernel_rfl) (fields_last ((fun _=>opens_int Try.underlying3) n) rfl rfl (by kernel_rfl)) rfl) rfl) rfl) rfl) rfl) rfl) rfl) rfl) rfl) rfl) rfl) rfl) rfl)) n).imp (fun _ h=>h)
def ok182 (x:S182):Prop:=(okI .i64) x.f0∧(okI .i64) x.f1
theorem opens_182 (n:Nat):OpensN enc Try.prog W sp n k182 182 ok182:=by
  refine (opens_struct' (g:=(fun a=>⟨a.1,a.2⟩)) Try.underlying182 (by kernel_rfl) (fun _=>rfl) (fun n=>(fields_cons ((fun _=>opens_int Try.underlying3) n) rfl rfl (by kernel_rfl) (fields_last ((fun _=>opens_int Try.underlying3) n) rfl rfl (by kernel_rfl)) rfl)) n).imp (fun _ h=>h)
def ok75 (x:S75):Prop:=(okSl 16 ok182) x.f0∧okB x.f1∧(okI .i64) x.f2∧(okI .i64) x.f3∧okB x.f4
theorem opens_75 (n:Nat):OpensN enc Try.prog W sp n k75 75 ok75:=by
  refine (opens_struct' (g:=(fun a=>⟨a.1,a.2.1,a.2.2.1,a.2.2.2.1,a.2.2.2.2⟩)) Try.underlying75 (by kernel_rfl) (fun _=>rfl) (fun n=>(fields_cons ((opens_slice' Try.underlying73 (by kernel_rfl) (by kernel_rfl) opens_182) n) rfl rfl (by kernel_rfl) (fields_cons ((fun _=>opens_bool Try.underlying4) n) rfl rfl (by kernel_rfl) (fields_cons ((fun _=>opens_int Try.underlying3) n) rfl rfl (by kernel_rfl) (fields_cons ((fun _=>opens_int Try.underlying3) n) rfl rfl (by kernel_rfl) (fields_last ((fun _=>opens_bool Try.underlying4) n) rfl rfl (by kernel_rfl)) rfl) rfl) rfl) rfl)) n).imp (fun _ h=>h)
inductive ok122:S122→Prop
  | mk (x:S122):(okI .i64) x.f0→(okI .i64) x.f1→okStr x.f2→(x.f3.length * 56≤140737488351232)→(x.f3.length≤9223372036854775807)→(∀ a ∈ x.f3,ok122 a)→ok122 x
theorem opens_122:∀ n:Nat,OpensN enc Try.prog W sp n k122 122 ok122
  | 0=>fun cs x hx _=>by simp [DataW.trod] at hx
  | n + 1=>by
    have hsl3:OpensN enc Try.prog W sp n (Kd.slice 122 k122) 120 (okSl 56 ok122):=by
      cases n with
      | zero=>exact fun cs x hx _=>by simp [DataW.trod] at hx
      | succ n=>exact opens_slice Try.underlying120 (by kernel_rfl) (by kernel_rfl) (opens_122 n)
    intro cs x hx hw
    obtain ⟨b,ha,hk⟩:=opens_struct (f:=fun x:S122=>(x.f0,x.f1,x.f2,x.f3)) (g:=(fun a=>⟨a.1,a.2.1,a.2.2.1,a.2.2.2⟩)) Try.underlying122 (by kernel_rfl) (fun _=>rfl) (fields_cons ((fun _=>opens_int Try.underlying3) n) rfl rfl (by kernel_rfl) (fields_cons ((fun _=>opens_int Try.underlying3) n) rfl rfl (by kernel_rfl) (fields_cons ((fun _=>opens_string Try.underlying9) n) rfl rfl (by kernel_rfl) (fields_last hsl3 rfl rfl (by kernel_rfl)) rfl) rfl) rfl) cs x hx hw
    refine ⟨b,.mk b (ha.1) (ha.2.1) (ha.2.2.1) ha.2.2.2.1 ha.2.2.2.2.1 ha.2.2.2.2.2,?_⟩
    obtain ⟨_,_,rfl,rfl,⟨_,_,rfl,rfl,⟨_,_,rfl,rfl,⟨A3,c3,rfl,l3,g3⟩⟩⟩⟩:=hk
    exact k122_mk W b l3 g3
def ok124 (x:S124):Prop:=okStr x.f0∧(okI .i64) x.f1∧ok122 x.f2∧ok122 x.f3
theorem opens_124 (n:Nat):OpensN enc Try.prog W sp n k124 124 ok124:=by
  refine (opens_struct' (g:=(fun a=>⟨a.1,a.2.1,a.2.2.1,a.2.2.2⟩)) Try.underlying124 (by kernel_rfl) (fun _=>rfl) (fun n=>(fields_cons ((fun _=>opens_string Try.underlying9) n) rfl rfl (by kernel_rfl) (fields_cons ((fun _=>opens_int Try.underlying3) n) rfl rfl (by kernel_rfl) (fields_cons (opens_122 n) rfl rfl (by kernel_rfl) (fields_last (opens_122 n) rfl rfl (by kernel_rfl)) rfl) rfl) rfl)) n).imp (fun _ h=>h)
def ok127 (x:S127):Prop:=okStr x.f0∧(okI .i64) x.f1∧ok122 x.f2
theorem opens_127 (n:Nat):OpensN enc Try.prog W sp n k127 127 ok127:=by
  refine (opens_struct' (g:=(fun a=>⟨a.1,a.2.1,a.2.2⟩)) Try.underlying127 (by kernel_rfl) (fun _=>rfl) (fun n=>(fields_cons ((fun _=>opens_string Try.underlying9) n) rfl rfl (by kernel_rfl) (fields_cons ((fun _=>opens_int Try.underlying3) n) rfl rfl (by kernel_rfl) (fields_last (opens_122 n) rfl rfl (by kernel_rfl)) rfl) rfl)) n).imp (fun _ h=>h)
def ok79 (x:S79):Prop:=okStr x.f0∧okStr x.f1∧okStr x.f2∧(okI .i64) x.f3∧(okI .i64) x.f4∧(okI .i64) x.f5∧(okI .i64) x.f6∧ok75 x.f7∧ok75 x.f8∧(okSl 136 ok124) x.f9∧(okSl 80 ok127) x.f10
theorem opens_79 (n:Nat):OpensN enc Try.prog W sp n k79 79 ok79:=by
  refine (opens_struct' (g:=(fun a=>⟨a.1,a.2.1,a.2.2.1,a.2.2.2.1,a.2.2.2.2.1,a.2.2.2.2.2.1,a.2.2.2.2.2.2.1,a.2.2.2.2.2.2.2.1,a.2.2.2.2.2.2.2.2.1,a.2.2.2.2.2.2.2.2.2.1,a.2.2.2.2.2.2.2.2.2.2⟩)) Try.underlying79 (by kernel_rfl) (fun _=>rfl) (fun n=>(fields_cons ((fun _=>opens_string Try.underlying9) n) rfl rfl (by kernel_rfl) (fields_cons ((fun _=>opens_string Try.underlying9) n) rfl rfl (by kernel_rfl) (fields_cons ((fun _=>opens_string Try.underlying9) n) rfl rfl (by kernel_rfl) (fields_cons ((fun _=>opens_int Try.underlying3) n) rfl rfl (by kernel_rfl) (fields_cons ((fun _=>opens_int Try.underlying3) n) rfl rfl (by kernel_rfl) (fields_cons ((fun _=>opens_int Try.underlying3) n) rfl rfl (by kernel_rfl) (fields_cons ((fun _=>opens_int Try.underlying3) n) rfl rfl (by kernel_rfl) (fields_cons (opens_75 n) rfl rfl (by kernel_rfl) (fields_cons (opens_75 n) rfl rfl (by kernel_rfl) (fields_cons ((opens_slice' Try.underlying76 (by kernel_rfl) (by kernel_rfl) opens_124) n) rfl rfl (by kernel_rfl) (fields_last ((opens_slice' Try.underlying77 (by kernel_rfl) (by kernel_rfl) opens_127) n) rfl rfl (by kernel_rfl)) rfl) rfl) rfl) rfl) rfl) rfl) rfl) rfl) rfl) rfl)) n).imp (fun _ h=>h)
def ok90 (x:S90):Prop:=(okI .i64) x.f0∧(okI .i64) x.f1∧(okI .i64) x.f2∧(okI .i64) x.f3∧okStr x.f4∧okStr x.f5∧okStr x.f6
theorem opens_90 (n:Nat):OpensN enc Try.prog W sp n k90 90 ok90:=by
  refine (opens_struct' (g:=(fun a=>⟨a.1,a.2.1,a.2.2.1,a.2.2.2.1,a.2.2.2.2.1,a.2.2.2.2.2.1,a.2.2.2.2.2.2⟩)) Try.underlying90 (by kernel_rfl) (fun _=>rfl) (fun n=>(fields_cons ((fun _=>opens_int Try.underlying3) n) rfl rfl (by kernel_rfl) (fields_cons ((fun _=>opens_int Try.underlying3) n) rfl rfl (by kernel_rfl) (fields_cons ((fun _=>opens_int Try.underlying3) n) rfl rfl (by kernel_rfl) (fields_cons ((fun _=>opens_int Try.underlying3) n) rfl rfl (by kernel_rfl) (fields_cons ((fun _=>opens_string Try.underlying9) n) rfl rfl (by kernel_rfl) (fields_cons ((fun _=>opens_string Try.underlying9) n) rfl rfl (by kernel_rfl) (fields_last ((fun _=>opens_string Try.underlying9) n) rfl rfl (by kernel_rfl)) rfl) rfl) rfl) rfl) rfl) rfl)) n).imp (fun _ h=>h)
def ok129 (x:S129):Prop:=(okI .i64) x.f0∧(okI .i64) x.f1∧okStr x.f2
theorem opens_129 (n:Nat):OpensN enc Try.prog W sp n k129 129 ok129:=by
  refine (opens_struct' (g:=(fun a=>⟨a.1,a.2.1,a.2.2⟩)) Try.underlying129 (by kernel_rfl) (fun _=>rfl) (fun n=>(fields_cons ((fun _=>opens_int Try.underlying3) n) rfl rfl (by kernel_rfl) (fields_cons ((fun _=>opens_int Try.underlying3) n) rfl rfl (by kernel_rfl) (fields_last ((fun _=>opens_string Try.underlying9) n) rfl rfl (by kernel_rfl)) rfl) rfl)) n).imp (fun _ h=>h)
def ok84 (x:S84):Prop:=(okI .i64) x.f0∧(okI .i64) x.f1∧(okI .i64) x.f2∧(okI .i64) x.f3∧(okI .i64) x.f4∧(okI .i64) x.f5∧okStr x.f6∧okStr x.f7∧(okSl 32 ok129) x.f8∧(okI .u64) x.f9
theorem opens_84 (n:Nat):OpensN enc Try.prog W sp n k84 84 ok84:=by
  refine (opens_struct' (g:=(fun a=>⟨a.1,a.2.1,a.2.2.1,a.2.2.2.1,a.2.2.2.2.1,a.2.2.2.2.2.1,a.2.2.2.2.2.2.1,a.2.2.2.2.2.2.2.1,a.2.2.2.2.2.2.2.2.1,a.2.2.2.2.2.2.2.2.2⟩)) Try.underlying84 (by kernel_rfl) (fun _=>rfl) (fun n=>(fields_cons ((fun _=>opens_int Try.underlying3) n) rfl rfl (by kernel_rfl) (fields_cons ((fun _=>opens_int Try.underlying3) n) rfl rfl (by kernel_rfl) (fields_cons ((fun _=>opens_int Try.underlying3) n) rfl rfl (by kernel_rfl) (fields_cons ((fun _=>opens_int Try.underlying3) n) rfl rfl (by kernel_rfl) (fields_cons ((fun _=>opens_int Try.underlying3) n) rfl rfl (by kernel_rfl) (fields_cons ((fun _=>opens_int Try.underlying3) n) rfl rfl (by kernel_rfl) (fields_cons ((fun _=>opens_string Try.underlying9) n) rfl rfl (by kernel_rfl) (fields_cons ((fun _=>opens_string Try.underlying9) n) rfl rfl (by kernel_rfl) (fields_cons ((opens_slice' Try.underlying81 (by kernel_rfl) (by kernel_rfl) opens_129) n) rfl rfl (by kernel_rfl) (fields_last ((fun _=>opens_int Try.underlying82) n) rfl rfl (by kernel_rfl)) rfl) rfl) rfl) rfl) rfl) rfl) rfl) rfl) rfl)) n).imp (fun _ h=>h)
def ok119 (x:S119):Prop:=(okI .i64) x.f0∧(okI .i64) x.f1∧(okI .i64) x.f2∧(okI .i64) x.f3∧(okI .i64) x.f4∧okStr x.f5
theorem opens_119 (n:Nat):OpensN enc Try.prog W sp n k119 119 ok119:=by
  refine (opens_struct' (g:=(fun a=>⟨a.1,a.2.1,a.2.2.1,a.2.2.2.1,a.2.2.2.2.1,a.2.2.2.2.2⟩)) Try.underlying119 (by kernel_rfl) (fun _=>rfl) (fun n=>(fields_cons ((fun _=>opens_int Try.underlying3) n) rfl rfl (by kernel_rfl) (fields_cons ((fun _=>opens_int Try.underlying3) n) rfl rfl (by kernel_rfl) (fields_cons ((fun _=>opens_int Try.underlying3) n) rfl rfl (by kernel_rfl) (fields_cons ((fun _=>opens_int Try.underlying3) n) rfl rfl (by kernel_rfl) (fields_cons ((fun _=>opens_int Try.underlying3) n) rfl rfl (by kernel_rfl) (fields_last ((fun _=>opens_string Try.underlying9) n) rfl rfl (by kernel_rfl)) rfl) rfl) rfl) rfl) rfl)) n).imp (fun _ h=>h)
def ok180 (x:S180):Prop:=(okI .i64) x.f0∧(okI .i64) x.f1∧(okI .i64) x.f2∧(okI .i64) x.f3∧(okI .i64) x.f4∧(okI .i64) x.f5∧okStr x.f6
theorem opens_180 (n:Nat):OpensN enc Try.prog W sp n k180 180 ok180:=by
  refine (opens_struct' (g:=(fun a=>⟨a.1,a.2.1,a.2.2.1,a.2.2.2.1,a.2.2.2.2.1,a.2.2.2.2.2.1,a.2.2.2.2.2.2⟩)) Try.underlying180 (by kernel_rfl) (fun _=>rfl) (fun n=>(fields_cons ((fun _=>opens_int Try.underlying3) n) rfl rfl (by kernel_rfl) (fields_cons ((fun _=>opens_int Try.underlying3) n) rfl rfl (by kernel_rfl) (fields_cons ((fun _=>opens_int Try.underlying3) n) rfl rfl (by kernel_rfl) (fields_cons ((fun _=>opens_int Try.underlying3) n) rfl rfl (by kernel_rfl) (fields_cons ((fun _=>opens_int Try.underlying3) n) rfl rfl (by kernel_rfl) (fields_cons ((fun _=>opens_int Try.underlying3) n) rfl rfl (by kernel_rfl) (fields_last ((fun _=>opens_string Try.underlying9) n) rfl rfl (by kernel_rfl)) rfl) rfl) rfl) rfl) rfl) rfl)) n).imp (fun _ h=>h)
def ok33 (x:S33):Prop:=(okSl 24 ok97) x.f0∧(okSl 64 ok86) x.f1∧(okSl 40 ok62) x.f2∧ok26 x.f3∧(okSl 240 ok79) x.f4∧(okSl 80 ok90) x.f5∧(okSl 112 ok84) x.f6∧(okSl 56 ok119) x.f7∧(okSl 64 ok180) x.f8
theorem opens_33 (n:Nat):OpensN enc Try.prog W sp n k33 33 ok33:=by
  refine (opens_struct' (g:=(fun a=>⟨a.1,a.2.1,a.2.2.1,a.2.2.2.1,a.2.2.2.2.1,a.2.2.2.2.2.1,a.2.2.2.2.2.2.1,a.2.2.2.2.2.2.2.1,a.2.2.2.2.2.2.2.2⟩)) Try.underlying33 (by kernel_rfl) (fun _=>rfl) (fun n=>(fields_cons ((opens_slice' Try.underlying22 (by kernel_rfl) (by kernel_rfl) opens_97) n) rfl rfl (by kernel_rfl) (fields_cons ((opens_slice' Try.underlying23 (by kernel_rfl) (by kernel_rfl) opens_86) n) rfl rfl (by kernel_rfl) (fields_cons ((opens_slice' Try.underlying24 (by kernel_rfl) (by kernel_rfl) opens_62) n) rfl rfl (by kernel_rfl) (fields_cons (opens_26 n) rfl rfl (by kernel_rfl) (fields_cons ((opens_slice' Try.underlying27 (by kernel_rfl) (by kernel_rfl) opens_79) n) rfl rfl (by kernel_rfl) (fields_cons ((opens_slice' Try.underlying28 (by kernel_rfl) (by kernel_rfl) opens_90) n) rfl rfl (by kernel_rfl) (fields_cons ((opens_slice' Try.underlying29 (by kernel_rfl) (by kernel_rfl) opens_84) n) rfl rfl (by kernel_rfl) (fields_cons ((opens_slice' Try.underlying30 (by kernel_rfl) (by kernel_rfl) opens_119) n) rfl rfl (by kernel_rfl) (fields_last ((opens_slice' Try.underlying31 (by kernel_rfl) (by kernel_rfl) opens_180) n) rfl rfl (by kernel_rfl)) rfl) rfl) rfl) rfl) rfl) rfl) rfl) rfl)) n).imp (fun _ h=>h)
def ok48 (x:S48):Prop:=okStr x.f0∧(okI .i64) x.f1∧(okSl 8 (okI .i64)) x.f2
theorem opens_48 (n:Nat):OpensN enc Try.prog W sp n k48 48 ok48:=by
  refine (opens_struct' (g:=(fun a=>⟨a.1,a.2.1,a.2.2⟩)) Try.underlying48 (by kernel_rfl) (fun _=>rfl) (fun n=>(fields_cons ((fun _=>opens_string Try.underlying9) n) rfl rfl (by kernel_rfl) (fields_cons ((fun _=>opens_int Try.underlying3) n) rfl rfl (by kernel_rfl) (fields_last ((opens_slice' Try.underlying46 (by kernel_rfl) (by kernel_rfl) (fun _=>opens_int Try.underlying3)) n) rfl rfl (by kernel_rfl)) rfl) rfl)) n).imp (fun _ h=>h)
def ok50 (x:S50):Prop:=okStr x.f0∧(okI .i64) x.f1∧(okI .i64) x.f2
theorem opens_50 (n:Nat):OpensN enc Try.prog W sp n k50 50 ok50:=by
  refine (opens_struct' (g:=(fun a=>⟨a.1,a.2.1,a.2.2⟩)) Try.underlying50 (by kernel_rfl) (fun _=>rfl) (fun n=>(fields_cons ((fun _=>opens_string Try.underlying9) n) rfl rfl (by kernel_rfl) (fields_cons ((fun _=>opens_int Try.underlying3) n) rfl rfl (by kernel_rfl) (fields_last ((fun _=>opens_int Try.underlying3) n) rfl rfl (by kernel_rfl)) rfl) rfl)) n).imp (fun _ h=>h)
end
end Go.Proofs.Ytcmaifjmnpfmbaa.R
